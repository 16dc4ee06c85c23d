import PyProof.Rows.All
import Wide.All
import OpenK.AllK
import Wide.FinOn
import KE.KStateDown
import KE.GoesMore
import KE.GoesEnum
import HandS.ForMost
import HandS.ForExc
import HandS.Deep
import HandS.Walk
import HandS.Wide
import HandS.SortInts
import HandS.TupAny
import HandS.TupMul
import HandS.Conv
import HandS.Zip
import HandS.IsInst
import HandS.ExcIs
import HandS.ExcField
import HandS.ExcInit
import HandS.Defaults
import HandS.MakeKwOnly
import HandS.Style
import HandS.Lambda
import HandS.Nested
import HandS.CallLocal
import HandS.Head0
import HandS.Head1
import HandS.Head2
import HandS.HeadEnd
import HandS.HeadHook1
import HandS.HeadHook2
import HandS.HeadHook3
import HandS.HeadHook4
import HandS.HeadWalk
import HandS.EndTab
import PySem.Challenge.RW_swapshelves_k14_whole_swaps
import KE.KExcIs
import KE.KIndexOf
set_option Elab.async false
set_option linter.all false
set_option maxRecDepth 100000
set_option maxHeartbeats 4000000
/-! ## K14M -/
namespace K14
/-! ### orbits of an injective function -/
def it (f : Nat → Nat) : Nat → Nat → Nat
  | 0, x => x
  | k + 1, x => it f k (f x)
theorem it_add (f : Nat → Nat) : ∀ (a b x : Nat), it f (a + b) x = it f b (it f a x)
  | 0, b, x => by rw [Nat.zero_add]; rfl
  | a + 1, b, x => by
    rw [show a + 1 + b = (a + b) + 1 by omega]
    exact it_add f a b (f x)
theorem it_succ (f : Nat → Nat) (k x : Nat) : it f (k + 1) x = f (it f k x) := it_add f k 1 x
def Inj (f : Nat → Nat) : Prop := ∀ x y, f x = f y → x = y
theorem it_inj {f : Nat → Nat} (h : Inj f) : ∀ (k : Nat) {x y : Nat}, it f k x = it f k y → x = y
  | 0, _, _, e => e
  | k + 1, x, y, e => h _ _ (it_inj h k (x := f x) (y := f y) e)
def Rch (f : Nat → Nat) (x y : Nat) : Prop := ∃ k, it f k x = y
def Rel (f : Nat → Nat) (x y : Nat) : Prop := Rch f x y ∨ Rch f y x
theorem Rch.refl (f : Nat → Nat) (x : Nat) : Rch f x x := ⟨0, rfl⟩
theorem Rch.step {f : Nat → Nat} {x y : Nat} (h : Rch f (f x) y) : Rch f x y := by
  obtain ⟨k, e⟩ := h
  exact ⟨k + 1, e⟩
theorem Rch.trans {f : Nat → Nat} {x y z : Nat} (a : Rch f x y) (b : Rch f y z) : Rch f x z := by
  obtain ⟨k, rfl⟩ := a
  obtain ⟨j, rfl⟩ := b
  exact ⟨k + j, it_add f k j x⟩
theorem it_cancel {f : Nat → Nat} (h : Inj f) {a b x z : Nat} (le : a ≤ b) (e : it f a x = it f b z) : it f (b - a) z = x := by
  have e2 : it f b z = it f a (it f (b - a) z) := by
    rw [← it_add]
    congr 1
    omega
  rw [e2] at e
  exact (it_inj h a e).symm
theorem Rel.refl (f : Nat → Nat) (x : Nat) : Rel f x x := .inl (.refl f x)
theorem Rel.symm {f : Nat → Nat} {x y : Nat} (h : Rel f x y) : Rel f y x := Or.symm h
theorem Rel.trans {f : Nat → Nat} (h : Inj f) {x y z : Nat} (a : Rel f x y) (b : Rel f y z) : Rel f x z := by
  rcases a with a | a
  · rcases b with b | b
    · exact .inl (a.trans b)
    · obtain ⟨k, rfl⟩ := a
      obtain ⟨j, e⟩ := b
      rcases Nat.le_total k j with le | le
      · exact .inr ⟨_, it_cancel h le e.symm⟩
      · exact .inl ⟨_, it_cancel h le e⟩
  · rcases b with b | b
    · obtain ⟨k, rfl⟩ := a
      obtain ⟨j, rfl⟩ := b
      rcases Nat.le_total k j with le | le
      · refine .inl ⟨j - k, ?_⟩
        rw [← it_add]
        congr 1
        omega
      · refine .inr ⟨k - j, ?_⟩
        rw [← it_add]
        congr 1
        omega
    · exact .inr (b.trans a)

/-! ### the number of classes along a list -/
open Classical in
noncomputable def cnt (r : Nat → Nat → Prop) : List Nat → Nat
  | [] => 0
  | x :: xs => (if ∃ y ∈ xs, r x y then 0 else 1) + cnt r xs
open Classical in
theorem cnt_cons (r : Nat → Nat → Prop) (x : Nat) (xs : List Nat) : cnt r (x :: xs) = (if ∃ y ∈ xs, r x y then 0 else 1) + cnt r xs := rfl
open Classical in
theorem cnt_perm {r : Nat → Nat → Prop} (hs : ∀ x y, r x y → r y x) (ht : ∀ x y z, r x y → r y z → r x z) {l l' : List Nat} (p : l.Perm l') : cnt r l = cnt r l' := by
  induction p with
  | nil => rfl
  | @cons x l1 l2 p ih =>
    rw [cnt_cons, cnt_cons, ih]
    congr 1
    have q : (∃ y ∈ l1, r x y) ↔ (∃ y ∈ l2, r x y) := ⟨fun ⟨y, m, h⟩ => ⟨y, p.mem_iff.mp m, h⟩, fun ⟨y, m, h⟩ => ⟨y, p.mem_iff.mpr m, h⟩⟩
    by_cases c : ∃ y ∈ l1, r x y
    · rw [if_pos c, if_pos (q.mp c)]
    · rw [if_neg c, if_neg fun z => c (q.mpr z)]
  | swap x y l =>
    rw [cnt_cons, cnt_cons, cnt_cons, cnt_cons]
    by_cases c : r x y
    · have c' := hs _ _ c
      have q : (∃ z ∈ l, r x z) ↔ (∃ z ∈ l, r y z) := ⟨fun ⟨z, m, h⟩ => ⟨z, m, ht _ _ _ c' h⟩, fun ⟨z, m, h⟩ => ⟨z, m, ht _ _ _ c h⟩⟩
      rw [if_pos (show ∃ z ∈ x :: l, r y z from ⟨x, List.mem_cons_self, c'⟩), if_pos (show ∃ z ∈ y :: l, r x z from ⟨y, List.mem_cons_self, c⟩)]
      by_cases d : ∃ z ∈ l, r x z
      · rw [if_pos d, if_pos (q.mp d)]
      · rw [if_neg d, if_neg fun z => d (q.mpr z)]
    · have c' : ¬ r y x := fun z => c (hs _ _ z)
      have q1 : (∃ z ∈ x :: l, r y z) ↔ (∃ z ∈ l, r y z) := ⟨fun ⟨z, m, h⟩ => by
        rcases List.mem_cons.mp m with e | m
        · subst e; exact absurd h c'
        · exact ⟨z, m, h⟩, fun ⟨z, m, h⟩ => ⟨z, List.mem_cons_of_mem _ m, h⟩⟩
      have q2 : (∃ z ∈ y :: l, r x z) ↔ (∃ z ∈ l, r x z) := ⟨fun ⟨z, m, h⟩ => by
        rcases List.mem_cons.mp m with e | m
        · subst e; exact absurd h c
        · exact ⟨z, m, h⟩, fun ⟨z, m, h⟩ => ⟨z, List.mem_cons_of_mem _ m, h⟩⟩
      by_cases d1 : ∃ z ∈ l, r x z <;> by_cases d2 : ∃ z ∈ l, r y z
      · rw [if_pos (q1.mpr d2), if_pos d1, if_pos (q2.mpr d1), if_pos d2]
      · rw [if_neg (fun z => d2 (q1.mp z)), if_pos d1, if_pos (q2.mpr d1), if_neg d2]
        omega
      · rw [if_pos (q1.mpr d2), if_neg d1, if_neg (fun z => d1 (q2.mp z)), if_pos d2]
        omega
      · rw [if_neg (fun z => d2 (q1.mp z)), if_neg d1, if_neg (fun z => d1 (q2.mp z)), if_neg d2]
  | trans _ _ a b => exact a.trans b
open Classical in
theorem cnt_map {r r' : Nat → Nat → Prop} {f : Nat → Nat} : ∀ {l : List Nat}, (∀ x ∈ l, ∀ y ∈ l, r (f x) (f y) ↔ r' x y) → cnt r (l.map f) = cnt r' l
  | [], _ => rfl
  | x :: l, h => by
    rw [List.map_cons, cnt_cons, cnt_cons, cnt_map (l := l) fun x hx y hy => h x (List.mem_cons_of_mem _ hx) y (List.mem_cons_of_mem _ hy)]
    congr 1
    have q : (∃ y ∈ l.map f, r (f x) y) ↔ (∃ y ∈ l, r' x y) := ⟨fun ⟨y, m, z⟩ => by
      obtain ⟨u, hu, rfl⟩ := List.mem_map.mp m
      exact ⟨u, hu, (h x List.mem_cons_self u (List.mem_cons_of_mem _ hu)).mp z⟩, fun ⟨y, m, z⟩ => ⟨f y, List.mem_map.mpr ⟨y, m, rfl⟩, (h x List.mem_cons_self y (List.mem_cons_of_mem _ m)).mpr z⟩⟩
    by_cases c : ∃ y ∈ l, r' x y
    · rw [if_pos c, if_pos (q.mpr c)]
    · rw [if_neg c, if_neg fun z => c (q.mp z)]
open Classical in
theorem cnt_range_succ {f : Nat → Nat} (h : Inj f) (i : Nat) : cnt (Rel f) (List.range (i + 1)) = (if ∃ y, y < i ∧ Rel f i y then 0 else 1) + cnt (Rel f) (List.range i) := by
  have p : (List.range (i + 1)).Perm (i :: List.range i) := by
    rw [List.range_succ]
    exact List.perm_append_singleton _ _
  rw [cnt_perm (r := Rel f) (fun _ _ z => z.symm) (fun _ _ _ a b => a.trans h b) p, cnt_cons]
  congr 1
  have q : (∃ y ∈ List.range i, Rel f i y) ↔ (∃ y, y < i ∧ Rel f i y) := ⟨fun ⟨y, m, z⟩ => ⟨y, List.mem_range.mp m, z⟩, fun ⟨y, m, z⟩ => ⟨y, List.mem_range.mpr m, z⟩⟩
  by_cases c : ∃ y, y < i ∧ Rel f i y
  · rw [if_pos c, if_pos (q.mpr c)]
  · rw [if_neg c, if_neg fun z => c (q.mp z)]

/-! ### fixing a point -/
def fixAt (t : Nat → Nat) (q : Nat) : Nat → Nat := fun x => if x = q then q else if t x = q then t q else t x
theorem fixAt_ne {t : Nat → Nat} (ht : Inj t) {q x : Nat} (hq : t q ≠ q) (hx : x ≠ q) : fixAt t q x ≠ q := by
  unfold fixAt
  rw [if_neg hx]
  by_cases c : t x = q
  · rw [if_pos c]; exact hq
  · rw [if_neg c]; exact c
theorem fixAt_inj {t : Nat → Nat} (ht : Inj t) {q : Nat} (hq : t q ≠ q) : Inj (fixAt t q) := by
  intro x y e
  by_cases hx : x = q
  · by_cases hy : y = q
    · rw [hx, hy]
    · exfalso
      refine fixAt_ne ht hq hy ?_
      rw [← e, hx]
      unfold fixAt
      rw [if_pos rfl]
  · by_cases hy : y = q
    · exfalso
      refine fixAt_ne ht hq hx ?_
      rw [e, hy]
      unfold fixAt
      rw [if_pos rfl]
    · unfold fixAt at e
      rw [if_neg hx, if_neg hy] at e
      by_cases c : t x = q <;> by_cases d : t y = q
      · exact ht _ _ (c.trans d.symm)
      · rw [if_pos c, if_neg d] at e
        exact absurd (ht _ _ e).symm hy
      · rw [if_neg c, if_pos d] at e
        exact absurd (ht _ _ e) hx
      · rw [if_neg c, if_neg d] at e
        exact ht _ _ e
theorem fixAt_up {t : Nat → Nat} (ht : Inj t) {q : Nat} (hq : t q ≠ q) : ∀ (k : Nat) {x : Nat}, x ≠ q → Rch t x (it (fixAt t q) k x)
  | 0, x, _ => .refl t x
  | k + 1, x, hx => by
    have r := fixAt_up ht hq k (x := fixAt t q x) (fixAt_ne ht hq hx)
    show Rch t x (it (fixAt t q) k (fixAt t q x))
    refine Rch.trans ?_ r
    unfold fixAt
    rw [if_neg hx]
    by_cases c : t x = q
    · rw [if_pos c]
      exact ⟨2, by show t (t x) = t q; rw [c]⟩
    · rw [if_neg c]
      exact ⟨1, rfl⟩
theorem fixAt_down {t : Nat → Nat} (ht : Inj t) {q : Nat} (hq : t q ≠ q) : ∀ (m k : Nat) {x y : Nat}, k ≤ m → x ≠ q → y ≠ q → it t k x = y → Rch (fixAt t q) x y := by
  intro m
  induction m with
  | zero =>
    intro k x y hk hx hy e
    obtain rfl : k = 0 := by omega
    exact ⟨0, e⟩
  | succ m ih =>
    intro k x y hk hx hy e
    match k, e with
    | 0, e => exact ⟨0, e⟩
    | k + 1, e =>
      have e : it t k (t x) = y := e
      by_cases c : t x = q
      · match k, e with
        | 0, e =>
          have e : t x = y := e
          exact absurd (e.symm.trans c) hy
        | k + 1, e =>
          have e : it t k (t (t x)) = y := e
          rw [c] at e
          refine Rch.step ?_
          have ef : fixAt t q x = t q := by
            unfold fixAt
            rw [if_neg hx, if_pos c]
          rw [ef]
          exact ih k (by omega) hq hy e
      · refine Rch.step ?_
        have ef : fixAt t q x = t x := by
          unfold fixAt
          rw [if_neg hx, if_neg c]
        rw [ef]
        exact ih k (by omega) c hy e
theorem fixAt_iff {t : Nat → Nat} (ht : Inj t) {q x y : Nat} (hq : t q ≠ q) (hx : x ≠ q) (hy : y ≠ q) : Rch (fixAt t q) x y ↔ Rch t x y :=
  ⟨fun ⟨k, e⟩ => e ▸ fixAt_up ht hq k hx, fun ⟨k, e⟩ => fixAt_down ht hq k k (Nat.le_refl _) hx hy e⟩

/-! ### the planned swaps -/
def swapAt (xs : List Int) (a b : Nat) : List Int := (xs.set a (xs.getD b 0)).set b (xs.getD a 0)
def stepS (tg : List Int) (st : List (Nat × Nat) × List Int) (p : Nat) : List (Nat × Nat) × List Int :=
  if st.2.getD p 0 = tg.getD p 0 then st else (st.1 ++ [(p, st.2.idxOf (tg.getD p 0))], swapAt st.2 p (st.2.idxOf (tg.getD p 0)))
def runS (tg c0 : List Int) (i : Nat) : List (Nat × Nat) × List Int := (List.range i).foldl (stepS tg) ([], c0)
theorem runS_zero (tg c0 : List Int) : runS tg c0 0 = ([], c0) := rfl
theorem runS_succ (tg c0 : List Int) (i : Nat) : runS tg c0 (i + 1) = stepS tg (runS tg c0 i) i := by
  unfold runS
  rw [List.range_succ, List.foldl_append]
  rfl
theorem getD_of {α : Type} {xs : List α} {i : Nat} {d x : α} (h : xs[i]? = some x) : xs.getD i d = x := by
  rw [List.getD_eq_getElem?_getD, h]
  rfl
theorem some_of_lt {α : Type} {xs : List α} {i : Nat} (d : α) (h : i < xs.length) : xs[i]? = some (xs.getD i d) := by
  rw [List.getD_eq_getElem?_getD, List.getElem?_eq_getElem h]
  rfl
theorem getD_elem {α : Type} {xs : List α} {i : Nat} (d : α) (h : i < xs.length) : xs.getD i d = xs[i] := by
  rw [List.getD_eq_getElem?_getD, List.getElem?_eq_getElem h]
  rfl
theorem getD_mem {α : Type} {xs : List α} {i : Nat} (d : α) (h : i < xs.length) : xs.getD i d ∈ xs := by
  rw [getD_elem d h]
  exact List.getElem_mem h
theorem getD_inj {α : Type} {xs : List α} (nd : xs.Nodup) {d : α} {i j : Nat} (hi : i < xs.length) (hj : j < xs.length) (e : xs.getD i d = xs.getD j d) : i = j := by
  rw [getD_elem d hi, getD_elem d hj] at e
  exact (List.getElem_inj nd).mp e
theorem ext_getD {α : Type} {xs ys : List α} (d : α) (hl : xs.length = ys.length) (h : ∀ i, i < xs.length → xs.getD i d = ys.getD i d) : xs = ys := by
  refine List.ext_getElem hl fun i h1 h2 => ?_
  rw [← getD_elem d h1, ← getD_elem d h2]
  exact h i h1
theorem swapAt_length (xs : List Int) (a b : Nat) : (swapAt xs a b).length = xs.length := by
  unfold swapAt
  rw [List.length_set, List.length_set]
theorem swapAt_get {xs : List Int} {a b : Nat} (ha : a < xs.length) (hb : b < xs.length) (i : Nat) (hi : i < xs.length) :
    (swapAt xs a b).getD i 0 = if i = b then xs.getD a 0 else if i = a then xs.getD b 0 else xs.getD i 0 := by
  rw [List.getD_eq_getElem?_getD]
  unfold swapAt
  rw [List.getElem?_set, List.getElem?_set, List.length_set]
  by_cases h1 : b = i
  · subst h1
    rw [if_pos rfl, if_pos hb, if_pos rfl]
    rfl
  · rw [if_neg h1, if_neg (show ¬ i = b from fun z => h1 z.symm)]
    by_cases h2 : a = i
    · subst h2
      rw [if_pos rfl, if_pos ha, if_pos rfl]
      rfl
    · rw [if_neg h2, if_neg (show ¬ i = a from fun z => h2 z.symm), List.getD_eq_getElem?_getD]
theorem perm_of_nodup_get {xs ys : List Int} (hl : xs.length = ys.length) (nd : xs.Nodup) (ny : ys.Nodup) (h : ∀ i, i < xs.length → xs.getD i 0 ∈ ys) : xs.Perm ys := by
  have sub : xs ⊆ ys := fun x hx => by
    obtain ⟨i, hi, e⟩ := List.mem_iff_getElem.mp hx
    rw [← e, ← getD_elem 0 hi]
    exact h i hi
  refine (List.perm_ext_iff_of_nodup nd ny).mpr fun a => ⟨fun z => sub z, fun z => ?_⟩
  apply Classical.byContradiction
  intro hn
  have n2 : (a :: xs).Nodup := List.nodup_cons.mpr ⟨hn, nd⟩
  have s2 : (a :: xs) ⊆ ys := fun b hb => by
    rcases List.mem_cons.mp hb with e | e
    · rw [e]; exact z
    · exact sub e
  have := n2.length_le_of_subset s2
  rw [List.length_cons] at this
  omega
theorem swapAt_nodup {xs : List Int} {a b : Nat} (nd : xs.Nodup) (ha : a < xs.length) (hb : b < xs.length) : (swapAt xs a b).Nodup := by
  rw [List.nodup_iff_pairwise_ne, List.pairwise_iff_getElem]
  intro i j hi hj lt e
  have hi' : i < xs.length := by rw [swapAt_length] at hi; exact hi
  have hj' : j < xs.length := by rw [swapAt_length] at hj; exact hj
  rw [← getD_elem 0 hi, ← getD_elem 0 hj, swapAt_get ha hb i hi', swapAt_get ha hb j hj'] at e
  have sw : ∀ k, (if k = b then xs.getD a 0 else if k = a then xs.getD b 0 else xs.getD k 0) = xs.getD (if k = b then a else if k = a then b else k) 0 := by
    intro k
    split
    · rfl
    · split <;> rfl
  have bd : ∀ k, k < xs.length → (if k = b then a else if k = a then b else k) < xs.length := by
    intro k hk
    split
    · exact ha
    · split <;> assumption
  rw [sw, sw] at e
  have z := getD_inj nd (bd i hi') (bd j hj') e
  by_cases h1 : i = b <;> by_cases h2 : i = a <;> by_cases h3 : j = b <;> by_cases h4 : j = a <;> (try rw [if_pos h1] at z) <;> (try rw [if_neg h1] at z) <;> (try rw [if_pos h2] at z) <;> (try rw [if_neg h2] at z) <;> (try rw [if_pos h3] at z) <;> (try rw [if_neg h3] at z) <;> (try rw [if_pos h4] at z) <;> (try rw [if_neg h4] at z) <;> omega
theorem swapAt_perm {xs : List Int} {a b : Nat} (nd : xs.Nodup) (ha : a < xs.length) (hb : b < xs.length) : (swapAt xs a b).Perm xs := by
  refine perm_of_nodup_get (swapAt_length xs a b) (swapAt_nodup nd ha hb) nd fun i hi => ?_
  rw [swapAt_length] at hi
  rw [swapAt_get ha hb i hi]
  by_cases h1 : i = b
  · rw [if_pos h1]; exact getD_mem 0 ha
  · rw [if_neg h1]
    by_cases h2 : i = a
    · rw [if_pos h2]; exact getD_mem 0 hb
    · rw [if_neg h2]; exact getD_mem 0 hi

/-- where the goal's thing for place x stands -/
def tau (n : Nat) (tg cur : List Int) : Nat → Nat := fun x => if x < n then cur.idxOf (tg.getD x 0) else x
structure Mate (n : Nat) (tg cur : List Int) : Prop where
  lt : tg.length = n
  lc : cur.length = n
  nt : tg.Nodup
  nc : cur.Nodup
  pm : cur.Perm tg
section
variable {n : Nat} {tg cur : List Int}
theorem Mate.mem (M : Mate n tg cur) {x : Nat} (h : x < n) : tg.getD x 0 ∈ cur := M.pm.mem_iff.mpr (getD_mem 0 (by rw [M.lt]; exact h))
theorem Mate.tau_lt (M : Mate n tg cur) {x : Nat} (h : x < n) : tau n tg cur x < n := by
  unfold tau
  rw [if_pos h]
  have := List.idxOf_lt_length_of_mem (M.mem h)
  rw [M.lc] at this
  exact this
theorem Mate.tau_get (M : Mate n tg cur) {x : Nat} (h : x < n) : cur.getD (tau n tg cur x) 0 = tg.getD x 0 := by
  have hl := List.idxOf_lt_length_of_mem (M.mem h)
  unfold tau
  rw [if_pos h, getD_elem 0 hl, List.getElem_idxOf hl]
theorem Mate.tau_of (M : Mate n tg cur) {x y : Nat} (h : x < n) (hy : y < n) (e : cur.getD y 0 = tg.getD x 0) : tau n tg cur x = y :=
  getD_inj M.nc (by rw [M.lc]; exact M.tau_lt h) (by rw [M.lc]; exact hy) ((M.tau_get h).trans e.symm)
theorem Mate.tau_inj (M : Mate n tg cur) : Inj (tau n tg cur) := by
  intro x y e
  by_cases hx : x < n <;> by_cases hy : y < n
  · have ex := M.tau_get hx
    rw [e, M.tau_get hy] at ex
    exact getD_inj M.nt (by rw [M.lt]; exact hx) (by rw [M.lt]; exact hy) ex.symm
  · have := M.tau_lt hx
    rw [e] at this
    unfold tau at this
    rw [if_neg hy] at this
    exact absurd this hy
  · have := M.tau_lt hy
    rw [← e] at this
    unfold tau at this
    rw [if_neg hx] at this
    exact absurd this hx
  · unfold tau at e
    rw [if_neg hx, if_neg hy] at e
    exact e
theorem Mate.tau_fix (M : Mate n tg cur) {x : Nat} (h : x < n) : tau n tg cur x = x ↔ cur.getD x 0 = tg.getD x 0 :=
  ⟨fun e => by rw [← M.tau_get h, e], fun e => M.tau_of h h e⟩
theorem Mate.swap (M : Mate n tg cur) {a b : Nat} (ha : a < n) (hb : b < n) : Mate n tg (swapAt cur a b) :=
  ⟨M.lt, by rw [swapAt_length, M.lc], M.nt, swapAt_nodup M.nc (by rw [M.lc]; exact ha) (by rw [M.lc]; exact hb), (swapAt_perm M.nc (by rw [M.lc]; exact ha) (by rw [M.lc]; exact hb)).trans M.pm⟩
theorem Mate.tau_swap (M : Mate n tg cur) {p : Nat} (hp : p < n) (hne : tau n tg cur p ≠ p) : tau n tg (swapAt cur p (tau n tg cur p)) = fixAt (tau n tg cur) p := by
  funext x
  have ho := M.tau_lt hp
  have M2 := M.swap hp ho
  have lp : p < cur.length := by rw [M.lc]; exact hp
  have lo : tau n tg cur p < cur.length := by rw [M.lc]; exact ho
  unfold fixAt
  by_cases hx : x < n
  · by_cases e1 : x = p
    · subst e1
      rw [if_pos rfl]
      refine M2.tau_of hx hx ?_
      rw [swapAt_get lp lo x lp, if_neg (fun z => hne z.symm), if_pos rfl]
      exact M.tau_get hx
    · rw [if_neg e1]
      have hy := M.tau_lt hx
      have ly : tau n tg cur x < cur.length := by rw [M.lc]; exact hy
      by_cases e2 : tau n tg cur x = p
      · rw [if_pos e2]
        refine M2.tau_of hx ho ?_
        rw [swapAt_get lp lo _ lo, if_pos rfl]
        have := M.tau_get hx
        rw [e2] at this
        exact this
      · rw [if_neg e2]
        refine M2.tau_of hx hy ?_
        rw [swapAt_get lp lo _ ly, if_neg (fun z => e1 (M.tau_inj _ _ z)), if_neg e2]
        exact M.tau_get hx
  · have hxp : x ≠ p := fun z => hx (by rw [z]; exact hp)
    have e : tau n tg cur x = x := by
      unfold tau
      rw [if_neg hx]
    rw [if_neg hxp, e, if_neg hxp]
    unfold tau
    rw [if_neg hx]
end
/-- what holds behind i places -/
structure SInv (n : Nat) (tg c0 : List Int) (i : Nat) (S : List (Nat × Nat)) (cur : List Int) : Prop where
  mate : Mate n tg cur
  done : ∀ p, p < i → cur.getD p 0 = tg.getD p 0
  rch : ∀ x y, i ≤ x → i ≤ y → (Rch (tau n tg cur) x y ↔ Rch (tau n tg c0) x y)
  num : S.length + cnt (Rel (tau n tg c0)) (List.range n) = i + cnt (Rel (tau n tg c0)) (List.range' i (n - i))
  fold : S.foldl (fun xs q => swapAt xs q.1 q.2) c0 = cur
  ok : ∀ q ∈ S, q.1 < n ∧ q.2 < n ∧ q.1 ≠ q.2
theorem sinv_start {n : Nat} {tg c0 : List Int} (M : Mate n tg c0) : SInv n tg c0 0 [] c0 :=
  ⟨M, fun _ h => absurd h (Nat.not_lt_zero _), fun _ _ _ _ => Iff.rfl, by rw [Nat.sub_zero, List.range_eq_range']; simp, rfl, fun _ h => nomatch h⟩
theorem idx_ge {n : Nat} {tg cur : List Int} (M : Mate n tg cur) {i : Nat} (done : ∀ p, p < i → cur.getD p 0 = tg.getD p 0) {x : Nat} (hx : i ≤ x) (hn : x < n) : i ≤ tau n tg cur x := by
  apply Classical.byContradiction
  intro hlt
  have lt : tau n tg cur x < i := by omega
  have e := done _ lt
  rw [M.tau_get hn] at e
  have := getD_inj M.nt (by rw [M.lt]; exact hn) (by rw [M.lt]; exact M.tau_lt hn) e
  omega
open Classical in
theorem sinv_turn {n : Nat} {tg c0 : List Int} (M0 : Mate n tg c0) {i : Nat} {S : List (Nat × Nat)} {cur : List Int} (h : SInv n tg c0 i S cur) (hi : i < n) :
    SInv n tg c0 (i + 1) (stepS tg (S, cur) i).1 (stepS tg (S, cur) i).2 := by
  have M := h.mate
  have er : List.range' i (n - i) = i :: List.range' (i + 1) (n - (i + 1)) := by
    rw [show n - i = (n - (i + 1)) + 1 by omega, List.range'_succ]
  have num := h.num
  rw [er, cnt_cons] at num
  have mem : ∀ y, y ∈ List.range' (i + 1) (n - (i + 1)) ↔ i + 1 ≤ y ∧ y < n := fun y => by
    rw [List.mem_range'_1]
    omega
  unfold stepS
  by_cases c : cur.getD i 0 = tg.getD i 0
  · rw [if_pos c]
    have ft := (M.tau_fix hi).mpr c
    have itf : ∀ k, it (tau n tg cur) k i = i := by
      intro k
      induction k with
      | zero => rfl
      | succ k ih => rw [it_succ, ih, ft]
    have no : ¬ ∃ y ∈ List.range' (i + 1) (n - (i + 1)), Rel (tau n tg c0) i y := by
      rintro ⟨y, hy, r⟩
      obtain ⟨h1, h2⟩ := (mem y).mp hy
      rcases r with r | r
      · obtain ⟨k, e⟩ := (h.rch i y (Nat.le_refl _) (by omega)).mpr r
        rw [itf] at e
        omega
      · obtain ⟨k, e⟩ := (h.rch y i (by omega) (Nat.le_refl _)).mpr r
        have := it_inj M.tau_inj k (e.trans (itf k).symm)
        omega
    rw [if_neg no] at num
    refine ⟨M, fun p hp => ?_, fun x y hx hy => h.rch x y (by omega) (by omega), by show S.length + _ = _; omega, h.fold, h.ok⟩
    by_cases e : p = i
    · rw [e]; exact c
    · exact h.done p (by omega)
  · rw [if_neg c]
    have hne : tau n tg cur i ≠ i := fun z => c ((M.tau_fix hi).mp z)
    have eo : cur.idxOf (tg.getD i 0) = tau n tg cur i := by
      unfold tau
      rw [if_pos hi]
    show SInv n tg c0 (i + 1) (S ++ [(i, cur.idxOf (tg.getD i 0))]) (swapAt cur i (cur.idxOf (tg.getD i 0)))
    rw [eo]
    have ho := M.tau_lt hi
    have hge := idx_ge M h.done (Nat.le_refl i) hi
    have yes : ∃ y ∈ List.range' (i + 1) (n - (i + 1)), Rel (tau n tg c0) i y :=
      ⟨tau n tg cur i, (mem _).mpr ⟨by omega, ho⟩, .inl ((h.rch i _ (Nat.le_refl _) hge).mp ⟨1, rfl⟩)⟩
    rw [if_pos yes] at num
    have lp : i < cur.length := by rw [M.lc]; exact hi
    have lo : tau n tg cur i < cur.length := by rw [M.lc]; exact ho
    refine ⟨M.swap hi ho, fun p hp => ?_, fun x y hx hy => ?_, ?_, ?_, fun q hq => ?_⟩
    · have hpn : p < cur.length := by rw [M.lc]; omega
      rw [swapAt_get lp lo p hpn]
      by_cases e : p = i
      · rw [if_neg (by omega), if_pos e, e]
        exact M.tau_get hi
      · rw [if_neg (by omega), if_neg e]
        exact h.done p (by omega)
    · rw [M.tau_swap hi hne, fixAt_iff M.tau_inj hne (by omega) (by omega)]
      exact h.rch x y (by omega) (by omega)
    · rw [List.length_append, List.length_singleton]
      omega
    · rw [List.foldl_append, h.fold]
      rfl
    · rcases List.mem_append.mp hq with z | z
      · exact h.ok q z
      · obtain rfl := List.mem_singleton.mp z
        exact ⟨hi, ho, fun z => hne z.symm⟩
theorem sinv_all {n : Nat} {tg c0 : List Int} (M : Mate n tg c0) : ∀ i, i ≤ n → SInv n tg c0 i (runS tg c0 i).1 (runS tg c0 i).2
  | 0, _ => sinv_start M
  | i + 1, h => by
    rw [runS_succ]
    exact sinv_turn M (sinv_all M i (by omega)) (by omega)
/-- the end: the swaps lead to the target, their number -/
theorem swaps_end {n : Nat} {tg c0 : List Int} (M : Mate n tg c0) : (runS tg c0 n).2 = tg ∧ (runS tg c0 n).1.foldl (fun xs q => swapAt xs q.1 q.2) c0 = tg ∧ (runS tg c0 n).1.length + cnt (Rel (tau n tg c0)) (List.range n) = n ∧
    ∀ q ∈ (runS tg c0 n).1, q.1 < n ∧ q.2 < n ∧ q.1 ≠ q.2 := by
  have h := sinv_all M n (Nat.le_refl _)
  have e : (runS tg c0 n).2 = tg := ext_getD 0 (by rw [h.mate.lc, h.mate.lt]) fun i hi => h.done i (by rw [h.mate.lc] at hi; exact hi)
  have num := h.num
  rw [Nat.sub_self] at num
  refine ⟨e, by rw [h.fold, e], ?_, h.ok⟩
  simpa [cnt] using num

/-! ### the law's own count: cycles of the positions -/
theorem perm_range_lt {n : Nat} {e : List Nat} (h : e.Perm (List.range n)) {x : Nat} (hx : x ∈ e) : x < n := List.mem_range.mp (h.mem_iff.mp hx)
theorem perm_range_len {n : Nat} {e : List Nat} (h : e.Perm (List.range n)) : e.length = n := by
  rw [h.length_eq, List.length_range]
theorem map_range_getD {α : Type} (d : α) {n : Nat} {e : List α} (h : e.length = n) : (List.range n).map (fun i => e.getD i d) = e := by
  refine List.ext_getElem (by simp [h]) fun i h1 h2 => ?_
  simp only [List.getElem_map, List.getElem_range]
  exact getD_elem d h2
theorem it_lt {f : Nat → Nat} {n : Nat} (h : ∀ x, x < n → f x < n) : ∀ (k : Nat) {x : Nat}, x < n → it f k x < n
  | 0, _, hx => hx
  | k + 1, x, hx => it_lt h k (h x hx)
theorem it_ge {n : Nat} {tg cur : List Int} : ∀ (k : Nat) {x : Nat}, n ≤ x → it (tau n tg cur) k x = x
  | 0, _, _ => rfl
  | k + 1, x, hx => by
    have e : tau n tg cur x = x := by
      unfold tau
      rw [if_neg (by omega)]
    show it _ k (tau n tg cur x) = x
    rw [e]
    exact it_ge k hx
theorem rel_lt {n : Nat} {tg cur : List Int} (M : Mate n tg cur) {x y : Nat} (hx : x < n) (r : Rel (tau n tg cur) x y) : y < n := by
  rcases r with ⟨k, rfl⟩ | ⟨k, e⟩
  · exact it_lt (fun x hx => M.tau_lt hx) k hx
  · apply Classical.byContradiction
    intro hn
    rw [it_ge k (by omega)] at e
    omega
theorem conj_it {n : Nat} {e : List Nat} {tg c0 goal later : List Int} (he : e.Perm (List.range n)) (M : Mate n tg c0) (G : Mate n goal later)
    (h1 : ∀ p, p < n → later.getD (e.getD p 0) 0 = c0.getD p 0) (h2 : ∀ p, p < n → tg.getD p 0 = goal.getD (e.getD p 0) 0) :
    ∀ (k : Nat) {p : Nat}, p < n → it (tau n goal later) k (e.getD p 0) = e.getD (it (tau n tg c0) k p) 0
  | 0, _, _ => rfl
  | k + 1, p, hp => by
    have hl := perm_range_len he
    have lt : ∀ {q}, q < n → e.getD q 0 < n := fun {q} hq => perm_range_lt he (getD_mem 0 (by rw [hl]; exact hq))
    have s : tau n goal later (e.getD p 0) = e.getD (tau n tg c0 p) 0 := by
      refine G.tau_of (lt hp) (lt (M.tau_lt hp)) ?_
      rw [h1 _ (M.tau_lt hp), M.tau_get hp, h2 _ hp]
    show it _ k (tau n goal later (e.getD p 0)) = e.getD (it _ k (tau n tg c0 p)) 0
    rw [s]
    exact conj_it he M G h1 h2 k (M.tau_lt hp)
theorem cnt_conj {n : Nat} {e : List Nat} {tg c0 goal later : List Int} (he : e.Perm (List.range n)) (M : Mate n tg c0) (G : Mate n goal later)
    (h1 : ∀ p, p < n → later.getD (e.getD p 0) 0 = c0.getD p 0) (h2 : ∀ p, p < n → tg.getD p 0 = goal.getD (e.getD p 0) 0) :
    cnt (Rel (tau n goal later)) (List.range n) = cnt (Rel (tau n tg c0)) (List.range n) := by
  have hl := perm_range_len he
  have nd : e.Nodup := he.nodup_iff.mpr List.nodup_range
  rw [← cnt_perm (r := Rel (tau n goal later)) (fun _ _ z => z.symm) (fun _ _ _ a b => a.trans G.tau_inj b) he]
  conv => lhs; rw [← map_range_getD 0 hl]
  refine cnt_map fun x hx y hy => ?_
  have hx := List.mem_range.mp hx
  have hy := List.mem_range.mp hy
  have one : ∀ {x y : Nat}, x < n → y < n → (Rch (tau n goal later) (e.getD x 0) (e.getD y 0) ↔ Rch (tau n tg c0) x y) := fun {x y} hx hy => by
    refine ⟨fun ⟨k, q⟩ => ⟨k, ?_⟩, fun ⟨k, q⟩ => ⟨k, ?_⟩⟩
    · rw [conj_it he M G h1 h2 k hx] at q
      exact getD_inj nd (by rw [hl]; exact it_lt (fun x hx => M.tau_lt hx) k hx) (by rw [hl]; exact hy) q
    · rw [conj_it he M G h1 h2 k hx, q]
  unfold Rel
  rw [one hx hy, one hy hx]

/-- the inner loop of the count: k turns behind the start s -/
structure WSt (f : Nat → Nat) (n : Nat) (S0 : List Nat) (s k : Nat) (seen : List Nat) (spot : Nat) : Prop where
  seen_ : seen = S0 ++ (List.range k).map fun j => it f j s
  spot_ : spot = it f k s
  nd : seen.Nodup
  lt : ∀ x ∈ seen, x < n
  sp : spot < n
theorem wst_start {f : Nat → Nat} {n s : Nat} {S0 : List Nat} (nd : S0.Nodup) (lt : ∀ x ∈ S0, x < n) (hs : s < n) : WSt f n S0 s 0 S0 s := ⟨by simp, rfl, nd, lt, hs⟩
theorem wst_turn {f : Nat → Nat} {n s k spot : Nat} {S0 seen : List Nat} (hf : ∀ x, x < n → f x < n) (h : WSt f n S0 s k seen spot) (hn : spot ∉ seen) : WSt f n S0 s (k + 1) (seen ++ [spot]) (f spot) ∧ seen.length < n := by
  have nd : (seen ++ [spot]).Nodup := by
    rw [List.nodup_append]
    refine ⟨h.nd, by simp, fun a ha b hb e => ?_⟩
    obtain rfl := List.mem_singleton.mp hb
    exact hn (e ▸ ha)
  have lt : ∀ x ∈ seen ++ [spot], x < n := fun x hx => by
    rcases List.mem_append.mp hx with z | z
    · exact h.lt x z
    · obtain rfl := List.mem_singleton.mp z
      exact h.sp
  refine ⟨⟨?_, by rw [h.spot_, it_succ], nd, lt, hf _ h.sp⟩, ?_⟩
  · rw [List.range_succ, List.map_append, ← List.append_assoc, ← h.seen_, h.spot_]
    rfl
  · have := nd.length_le_of_subset (l₂ := List.range n) fun x hx => List.mem_range.mpr (lt x hx)
    rw [List.length_append, List.length_singleton, List.length_range] at this
    omega
theorem wst_end {f : Nat → Nat} {n s k spot : Nat} {S0 seen : List Nat} (inj : Inj f) (h : WSt f n S0 s k seen spot) (hs : s ∉ S0) (cl : ∀ x y, x ∈ S0 → Rel f x y → y ∈ S0) (hin : spot ∈ seen) :
    ∀ x, x ∈ seen ↔ x ∈ S0 ∨ Rel f s x := by
  have mem : ∀ x, x ∈ seen ↔ x ∈ S0 ∨ ∃ j, j < k ∧ it f j s = x := fun x => by
    rw [h.seen_, List.mem_append, List.mem_map]
    refine or_congr Iff.rfl ⟨fun ⟨j, hj, e⟩ => ⟨j, List.mem_range.mp hj, e⟩, fun ⟨j, hj, e⟩ => ⟨j, List.mem_range.mpr hj, e⟩⟩
  have n0 : spot ∉ S0 := fun z => hs (cl spot s z (by rw [h.spot_]; exact .inr ⟨k, rfl⟩))
  have hin' := (mem spot).mp hin
  obtain ⟨j, hj, ej⟩ : ∃ j, j < k ∧ it f j s = spot := by
    rcases hin' with z | z
    · exact absurd z n0
    · exact z
  rw [h.spot_] at ej
  have back : it f (k - j) s = s := it_cancel inj (Nat.le_of_lt hj) ej
  have ndm : ((List.range k).map fun j => it f j s).Nodup := by
    have := h.nd
    rw [h.seen_] at this
    exact (List.nodup_append.mp this).2.1
  have inj2 : ∀ a b, a < k → b < k → it f a s = it f b s → a = b := fun a b ha hb e => by
    have la : a < ((List.range k).map fun j => it f j s).length := by simpa using ha
    have lb : b < ((List.range k).map fun j => it f j s).length := by simpa using hb
    refine (List.getElem_inj (h₀ := la) (h₁ := lb) ndm).mp ?_
    simp only [List.getElem_map, List.getElem_range]
    exact e
  have j0 : j = 0 := by
    apply Classical.byContradiction
    intro hj0
    have := inj2 (k - j) 0 (by omega) (by omega) back
    omega
  subst j0
  rw [Nat.sub_zero] at back
  have fwd : ∀ m, ∃ j, j < k ∧ it f j s = it f m s := by
    intro m
    induction m with
    | zero => exact ⟨0, hj, rfl⟩
    | succ m ih =>
      obtain ⟨a, ha, e⟩ := ih
      by_cases c : a + 1 < k
      · exact ⟨a + 1, c, by rw [it_succ, it_succ, e]⟩
      · refine ⟨0, hj, ?_⟩
        have ea : a + 1 = k := by omega
        rw [it_succ, ← e, ← it_succ f, ea, back]
        rfl
  have bwd : ∀ m x, it f m x = s → ∃ j, j < k ∧ it f j s = x := by
    intro m
    induction m with
    | zero => intro x e; exact ⟨0, hj, e.symm⟩
    | succ m ih =>
      intro x e
      have e : it f m (f x) = s := e
      obtain ⟨a, ha, q⟩ := ih (f x) e
      by_cases c : a = 0
      · subst c
        have q : s = f x := q
        refine ⟨k - 1, by omega, ?_⟩
        apply inj
        rw [← it_succ f, show k - 1 + 1 = k by omega, back]
        exact q
      · refine ⟨a - 1, by omega, ?_⟩
        apply inj
        rw [← it_succ f, show a - 1 + 1 = a by omega]
        exact q
  intro x
  rw [mem]
  refine or_congr Iff.rfl ⟨fun ⟨j, _, e⟩ => .inl ⟨j, e⟩, fun r => ?_⟩
  rcases r with ⟨m, rfl⟩ | ⟨m, e⟩
  · exact fwd m
  · exact bwd m x e
/-- the outer loop -/
structure WOut (n : Nat) (goal later : List Int) (i : Nat) (found : Int) (seen : List Nat) : Prop where
  num : found = (cnt (Rel (tau n goal later)) (List.range i) : Nat)
  nd : seen.Nodup
  mem : ∀ x, x ∈ seen ↔ ∃ y, y < i ∧ Rel (tau n goal later) y x
theorem wout_start {n : Nat} {goal later : List Int} : WOut n goal later 0 0 [] := ⟨rfl, List.nodup_nil, fun x => ⟨fun h => (nomatch h), fun ⟨y, h, _⟩ => absurd h (Nat.not_lt_zero _)⟩⟩
theorem WOut.lt {n i : Nat} {goal later : List Int} {found : Int} {seen : List Nat} (M : Mate n goal later) (h : WOut n goal later i found seen) (hi : i ≤ n) : ∀ x ∈ seen, x < n := fun x hx => by
  obtain ⟨y, hy, r⟩ := (h.mem x).mp hx
  exact rel_lt M (by omega) r
open Classical in
theorem wout_skip {n i : Nat} {goal later : List Int} {found : Int} {seen : List Nat} (M : Mate n goal later) (h : WOut n goal later i found seen) (hin : i ∈ seen) : WOut n goal later (i + 1) found seen := by
  obtain ⟨y, hy, r⟩ := (h.mem i).mp hin
  refine ⟨?_, h.nd, fun x => ⟨fun hx => ?_, fun ⟨z, hz, q⟩ => ?_⟩⟩
  · rw [h.num, cnt_range_succ M.tau_inj, if_pos ⟨y, hy, r.symm⟩, Nat.zero_add]
  · obtain ⟨z, hz, q⟩ := (h.mem x).mp hx
    exact ⟨z, by omega, q⟩
  · by_cases c : z = i
    · subst c
      exact (h.mem x).mpr ⟨y, hy, r.trans M.tau_inj q⟩
    · exact (h.mem x).mpr ⟨z, by omega, q⟩
open Classical in
theorem wout_turn {n i k spot : Nat} {goal later : List Int} {found : Int} {seen seen' : List Nat} (M : Mate n goal later) (h : WOut n goal later i found seen) (hin : i ∉ seen) (w : WSt (tau n goal later) n seen i k seen' spot) (hsp : spot ∈ seen') :
    WOut n goal later (i + 1) (found + 1) seen' := by
  have cl : ∀ x y, x ∈ seen → Rel (tau n goal later) x y → y ∈ seen := fun x y hx r => by
    obtain ⟨z, hz, q⟩ := (h.mem x).mp hx
    exact (h.mem y).mpr ⟨z, hz, q.trans M.tau_inj r⟩
  have e := wst_end M.tau_inj w hin cl hsp
  refine ⟨?_, w.nd, fun x => ?_⟩
  · rw [h.num, cnt_range_succ M.tau_inj, if_neg fun ⟨y, hy, r⟩ => hin ((h.mem i).mpr ⟨y, hy, r.symm⟩)]
    omega
  · rw [e x, h.mem x]
    refine ⟨fun z => ?_, fun ⟨y, hy, r⟩ => ?_⟩
    · rcases z with ⟨y, hy, r⟩ | r
      · exact ⟨y, by omega, r⟩
      · exact ⟨i, by omega, r⟩
    · by_cases c : y = i
      · subst c
        exact .inr r
      · exact .inl ⟨y, by omega, r⟩

/-! ### lists stored place by place -/
theorem take_more {α : Type} {l : List α} {i : Nat} {x : α} (h : l[i]? = some x) : l.take (i + 1) = l.take i ++ [x] := by
  rw [List.take_succ, h]
  rfl
def scatP {α : Type} (r : List α) (ps : List (Nat × α)) : List α := ps.foldl (fun r p => r.set p.1 p.2) r
theorem scatP_length {α : Type} : ∀ (ps : List (Nat × α)) (r : List α), (scatP r ps).length = r.length
  | [], _ => rfl
  | p :: ps, r => by
    show (scatP (r.set p.1 p.2) ps).length = r.length
    rw [scatP_length ps, List.length_set]
theorem scatP_other {α : Type} : ∀ {ps : List (Nat × α)} {r : List α} {k : Nat}, k ∉ ps.map (·.1) → (scatP r ps)[k]? = r[k]?
  | [], _, _, _ => rfl
  | p :: ps, r, k, h => by
    rw [List.map_cons, List.mem_cons] at h
    show (scatP (r.set p.1 p.2) ps)[k]? = r[k]?
    rw [scatP_other fun z => h (.inr z), List.getElem?_set, if_neg fun z => h (.inl z.symm)]
theorem scatP_at {α : Type} : ∀ {ps : List (Nat × α)} {r : List α} {k : Nat} {v : α}, (ps.map (·.1)).Nodup → (k, v) ∈ ps → k < r.length → (scatP r ps)[k]? = some v
  | [], _, _, _, _, h, _ => nomatch h
  | p :: ps, r, k, v, nd, h, hk => by
    rw [List.map_cons, List.nodup_cons] at nd
    show (scatP (r.set p.1 p.2) ps)[k]? = some v
    rcases List.mem_cons.mp h with e | e
    · subst e
      rw [scatP_other nd.1, List.getElem?_set, if_pos rfl, if_pos hk]
    · exact scatP_at nd.2 e (by rw [List.length_set]; exact hk)
theorem scatP_perm {α : Type} {n : Nat} {ps : List (Nat × α)} {r : List α} (h : (ps.map (·.1)).Perm (List.range n)) (hr : r.length = n) : (scatP r ps).Perm (ps.map (·.2)) := by
  have nd : (ps.map (·.1)).Nodup := h.nodup_iff.mpr List.nodup_range
  by_cases hn : n = 0
  · subst hn
    have e1 : scatP r ps = [] := List.length_eq_zero_iff.mp (by rw [scatP_length, hr])
    have e2 : ps = [] := by
      have := h.length_eq
      rw [List.length_map, List.length_range] at this
      exact List.length_eq_zero_iff.mp this
    rw [e1, e2]
    exact .nil
  · have hl : (scatP r ps).length = n := by rw [scatP_length, hr]
    have hne : 0 < (scatP r ps).length := by omega
    have d : α := (scatP r ps)[0]
    have e1 : scatP r ps = (List.range n).map fun i => (scatP r ps).getD i d := (map_range_getD d hl).symm
    have e2 : ps.map (·.2) = (ps.map (·.1)).map fun i => (scatP r ps).getD i d := by
      rw [List.map_map]
      refine List.map_congr_left fun p hp => ?_
      have hk : p.1 < r.length := by
        rw [hr]
        exact List.mem_range.mp (h.mem_iff.mp (List.mem_map.mpr ⟨p, hp, rfl⟩))
      exact (getD_of (scatP_at nd (show (p.1, p.2) ∈ ps from hp) hk)).symm
    rw [e1, e2]
    exact h.symm.map _
/-- for place, goal in enumerate(e): r[goal] = v(place), i places done -/
def scatF {α : Type} (e : List Nat) (v : Nat → α) (r : List α) (i : Nat) : List α := scatP r ((List.range i).map fun k => (e.getD k 0, v k))
theorem scatF_zero {α : Type} (e : List Nat) (v : Nat → α) (r : List α) : scatF e v r 0 = r := rfl
theorem scatF_succ {α : Type} (e : List Nat) (v : Nat → α) (r : List α) (i : Nat) : scatF e v r (i + 1) = (scatF e v r i).set (e.getD i 0) (v i) := by
  unfold scatF scatP
  rw [List.range_succ, List.map_append, List.foldl_append]
  rfl
theorem scatF_length {α : Type} (e : List Nat) (v : Nat → α) (r : List α) (i : Nat) : (scatF e v r i).length = r.length := scatP_length _ _
theorem scatF_perm {α : Type} {n : Nat} {e : List Nat} {v : Nat → α} {r : List α} (h : e.Perm (List.range n)) (hr : r.length = n) : (scatF e v r n).Perm ((List.range n).map v) := by
  have hl := perm_range_len h
  have p := scatP_perm (ps := (List.range n).map fun k => (e.getD k 0, v k)) (r := r) (n := n) (by rw [List.map_map]; show ((List.range n).map fun k => e.getD k 0).Perm _; rw [map_range_getD 0 hl]; exact h) hr
  rw [List.map_map] at p
  exact p
theorem scatF_at {α : Type} {n : Nat} {e : List Nat} {v : Nat → α} {r : List α} (h : e.Perm (List.range n)) (hr : r.length = n) {k : Nat} (hk : k < n) : (scatF e v r n)[e.getD k 0]? = some (v k) := by
  have hl := perm_range_len h
  have nd : e.Nodup := h.nodup_iff.mpr List.nodup_range
  refine scatP_at ?_ (List.mem_map.mpr ⟨k, List.mem_range.mpr hk, rfl⟩) ?_
  · rw [List.map_map]
    show ((List.range n).map fun k => e.getD k 0).Nodup
    rw [map_range_getD 0 hl]
    exact nd
  · rw [hr]
    exact perm_range_lt h (getD_mem 0 (by rw [hl]; exact hk))
/-! ### inverse, one behind another -/
def invM (e : List Nat) : List Nat := scatF e (fun k => k) (List.replicate e.length 0) e.length
theorem invM_perm {n : Nat} {e : List Nat} (h : e.Perm (List.range n)) : (invM e).Perm (List.range n) := by
  have hl := perm_range_len h
  unfold invM
  rw [hl]
  have := scatF_perm (v := fun k => k) (r := List.replicate n 0) h (by simp)
  simpa using this
def combM (a b : List Nat) : List Nat := a.map fun p => b.getD p 0
theorem combM_perm {n : Nat} {a b : List Nat} (ha : a.Perm (List.range n)) (hb : b.Perm (List.range n)) : (combM a b).Perm (List.range n) := by
  have hl := perm_range_len hb
  have p := ha.map fun p => b.getD p 0
  rw [map_range_getD 0 hl] at p
  exact p.trans hb
/-! ### cycles -/
def walkC (e : List Nat) : Nat → List Nat → Nat → List Nat
  | 0, _, _ => []
  | f + 1, seen, p => if p ∈ seen then [] else p :: walkC e f (seen ++ [p]) (e.getD p 0)
theorem walkC_in (e : List Nat) {f : Nat} {seen : List Nat} {p : Nat} (h : p ∈ seen) : walkC e f seen p = [] := by
  cases f with
  | zero => rfl
  | succ f =>
    show (if p ∈ seen then [] else _) = []
    rw [if_pos h]
theorem walkC_out (e : List Nat) {f : Nat} {seen : List Nat} {p : Nat} (h : p ∉ seen) : walkC e (f + 1) seen p = p :: walkC e f (seen ++ [p]) (e.getD p 0) := by
  show (if p ∈ seen then [] else _) = _
  rw [if_neg h]
structure Sn (n : Nat) (seen : List Nat) : Prop where
  nd : seen.Nodup
  lt : ∀ x ∈ seen, x < n
theorem Sn.len {n : Nat} {seen : List Nat} (h : Sn n seen) : seen.length ≤ n := by
  have := h.nd.length_le_of_subset (l₂ := List.range n) fun x hx => List.mem_range.mpr (h.lt x hx)
  rwa [List.length_range] at this
theorem Sn.more {n : Nat} {seen : List Nat} (h : Sn n seen) {p : Nat} (hp : p < n) (hn : p ∉ seen) : Sn n (seen ++ [p]) := by
  refine ⟨?_, fun x hx => ?_⟩
  · rw [List.nodup_append]
    refine ⟨h.nd, by simp, fun a ha b hb q => ?_⟩
    obtain rfl := List.mem_singleton.mp hb
    exact hn (q ▸ ha)
  · rcases List.mem_append.mp hx with z | z
    · exact h.lt x z
    · obtain rfl := List.mem_singleton.mp z
      exact hp
theorem walkC_sn {n : Nat} {e : List Nat} (he : ∀ p, p < n → e.getD p 0 < n) : ∀ (f : Nat) {seen : List Nat} {p : Nat}, Sn n seen → p < n → Sn n (seen ++ walkC e f seen p)
  | 0, seen, p, h, _ => by
    show Sn n (seen ++ [])
    rw [List.append_nil]
    exact h
  | f + 1, seen, p, h, hp => by
    by_cases c : p ∈ seen
    · rw [walkC_in e c, List.append_nil]
      exact h
    · rw [walkC_out e c]
      have := walkC_sn he f (h.more hp c) (he p hp)
      rwa [List.append_assoc] at this
def stepC (e : List Nat) (n : Nat) (st : List (List Nat) × List Nat) (i : Nat) : List (List Nat) × List Nat :=
  if i ∈ st.2 then st else (st.1 ++ [walkC e n st.2 i], st.2 ++ walkC e n st.2 i)
def cycP (e : List Nat) (n i : Nat) : List (List Nat) × List Nat := (List.range i).foldl (stepC e n) ([], [])
theorem cycP_zero (e : List Nat) (n : Nat) : cycP e n 0 = ([], []) := rfl
theorem cycP_succ (e : List Nat) (n i : Nat) : cycP e n (i + 1) = stepC e n (cycP e n i) i := by
  unfold cycP
  rw [List.range_succ, List.foldl_append]
  rfl
structure CInv (n i : Nat) (st : List (List Nat) × List Nat) : Prop where
  flat : st.1.flatten = st.2
  sn : Sn n st.2
  has : ∀ j, j < i → j ∈ st.2
theorem cinv {n : Nat} {e : List Nat} (he : ∀ p, p < n → e.getD p 0 < n) : ∀ i, i ≤ n → CInv n i (cycP e n i)
  | 0, _ => ⟨rfl, ⟨List.nodup_nil, fun _ h => nomatch h⟩, fun _ h => absurd h (Nat.not_lt_zero _)⟩
  | i + 1, hi => by
    have ih := cinv he i (by omega)
    rw [cycP_succ]
    unfold stepC
    by_cases c : i ∈ (cycP e n i).2
    · rw [if_pos c]
      refine ⟨ih.flat, ih.sn, fun j hj => ?_⟩
      by_cases q : j = i
      · rw [q]; exact c
      · exact ih.has j (by omega)
    · rw [if_neg c]
      refine ⟨?_, walkC_sn he n ih.sn (by omega), fun j hj => ?_⟩
      · show ((cycP e n i).1 ++ [walkC e n (cycP e n i).2 i]).flatten = (cycP e n i).2 ++ walkC e n (cycP e n i).2 i
        rw [List.flatten_append, ih.flat]
        simp
      · show j ∈ (cycP e n i).2 ++ walkC e n (cycP e n i).2 i
        by_cases q : j = i
        · subst q
          have : n = (n - 1) + 1 := by omega
          rw [this, walkC_out e (by rw [← this]; exact c)]
          exact List.mem_append_right _ List.mem_cons_self
        · exact List.mem_append_left _ (ih.has j (by omega))
def cycs (e : List Nat) : List (List Nat) := (cycP e e.length e.length).1
theorem cycs_perm {n : Nat} {e : List Nat} (h : e.Perm (List.range n)) : (cycs e).flatten.Perm (List.range n) := by
  have hl := perm_range_len h
  have c := cinv (n := n) (e := e) (fun p hp => perm_range_lt h (getD_mem 0 (by rw [hl]; exact hp))) n (Nat.le_refl _)
  unfold cycs
  rw [hl, c.flat]
  refine (List.perm_ext_iff_of_nodup c.sn.nd List.nodup_range).mpr fun a => ⟨fun z => List.mem_range.mpr (c.sn.lt a z), fun z => c.has a (List.mem_range.mp z)⟩
/-- a cycle turned by c -/
def rotM (cyc : List Nat) (c : Int) (i : Nat) : Nat := cyc.getD (((i : Int) + c) % (cyc.length : Int)).toNat 0
theorem rot_perm (cyc : List Nat) (c : Int) : ((List.range cyc.length).map (rotM cyc c)).Perm cyc := by
  by_cases h0 : cyc.length = 0
  · have : cyc = [] := List.length_eq_zero_iff.mp h0
    subst this
    exact .nil
  · have hp : (0 : Int) < cyc.length := by omega
    have s0 : 0 ≤ c % (cyc.length : Int) := Int.emod_nonneg _ (by omega)
    have s1 : c % (cyc.length : Int) < cyc.length := Int.emod_lt_of_pos _ hp
    have e : (List.range cyc.length).map (rotM cyc c) = cyc.drop (c % (cyc.length : Int)).toNat ++ cyc.take (c % (cyc.length : Int)).toNat := by
      refine List.ext_getElem (by simp only [List.length_map, List.length_range, List.length_append, List.length_drop, List.length_take]; omega) fun i h1 h2 => ?_
      have hi : i < cyc.length := by simpa using h1
      rw [List.getElem_map, List.getElem_range, List.getElem_append]
      have em : ((i : Int) + c) % (cyc.length : Int) = ((i : Int) + c % (cyc.length : Int)) % (cyc.length : Int) := by rw [Int.add_emod_emod]
      unfold rotM
      rw [em]
      by_cases q : (i : Int) + c % (cyc.length : Int) < cyc.length
      · rw [Int.emod_eq_of_lt (by omega) q, dif_pos (by rw [List.length_drop]; omega), List.getElem_drop, getD_elem 0 (by omega)]
        congr 1
        omega
      · have e2 : ((i : Int) + c % (cyc.length : Int)) % (cyc.length : Int) = (i : Int) + c % (cyc.length : Int) - cyc.length := by
          rw [← Int.sub_emod_right, Int.emod_eq_of_lt (by omega) (by omega)]
        rw [e2, dif_neg (by rw [List.length_drop]; omega), List.getElem_take, getD_elem 0 (by omega)]
        congr 1
        rw [List.length_drop]
        omega
    rw [e]
    exact List.perm_append_comm.trans (by rw [List.take_append_drop])
def repStep (c : Int) (r : List Nat) (cyc : List Nat) : List Nat := scatF cyc (rotM cyc c) r cyc.length
def repM (e : List Nat) (c : Int) : List Nat := (cycs e).foldl (repStep c) (List.replicate e.length 0)
theorem scatP_app {α : Type} (r : List α) (a b : List (Nat × α)) : scatP r (a ++ b) = scatP (scatP r a) b := by
  unfold scatP
  rw [List.foldl_append]
theorem rep_scat (c : Int) : ∀ (cs : List (List Nat)) (r : List Nat), cs.foldl (repStep c) r = scatP r (cs.flatMap fun cyc => (List.range cyc.length).map fun k => (cyc.getD k 0, rotM cyc c k))
  | [], _ => rfl
  | cyc :: cs, r => by
    show cs.foldl (repStep c) (repStep c r cyc) = _
    rw [rep_scat c cs, List.flatMap_cons, scatP_app]
    rfl
theorem rep_keys (c : Int) : ∀ (cs : List (List Nat)), ((cs.flatMap fun cyc => (List.range cyc.length).map fun k => (cyc.getD k 0, rotM cyc c k)).map (·.1)) = cs.flatten
  | [] => rfl
  | cyc :: cs => by
    rw [List.flatMap_cons, List.map_append, rep_keys c cs, List.map_map, List.flatten_cons]
    congr 1
    exact map_range_getD 0 rfl
theorem rep_vals (c : Int) : ∀ (cs : List (List Nat)), ((cs.flatMap fun cyc => (List.range cyc.length).map fun k => (cyc.getD k 0, rotM cyc c k)).map (·.2)).Perm cs.flatten
  | [] => .nil
  | cyc :: cs => by
    rw [List.flatMap_cons, List.map_append, List.map_map, List.flatten_cons]
    exact (rot_perm cyc c).append (rep_vals c cs)
theorem repM_perm {n : Nat} {e : List Nat} (h : e.Perm (List.range n)) (c : Int) : (repM e c).Perm (List.range n) := by
  have hl := perm_range_len h
  have hc := cycs_perm h
  unfold repM
  rw [rep_scat, hl]
  refine (scatP_perm (n := n) ?_ (by simp)).trans ((rep_vals c _).trans hc)
  rw [rep_keys]
  exact hc
/-! ### ticks -/
section
variable {α β : Type}
def exch (sz : List Nat) (m : Nat) (xs : List α) (c s : Nat) : List α :=
  if sz.getD s 0 = 0 then xs else match xs[m + (sz.take s).sum]?, xs[c]? with
    | some t, some u => (xs.take (m + (sz.take s).sum) ++ ((xs.drop (m + (sz.take s).sum + 1)).take (sz.getD s 0 - 1) ++ [u]) ++ xs.drop (m + (sz.take s).sum + sz.getD s 0)).set c t
    | _, _ => xs
theorem exch_map (f : α → β) (sz : List Nat) (m : Nat) (xs : List α) (c s : Nat) : exch sz m (xs.map f) c s = (exch sz m xs c s).map f := by
  unfold exch
  by_cases h : sz.getD s 0 = 0
  · rw [if_pos h, if_pos h]
  · rw [if_neg h, if_neg h, List.getElem?_map, List.getElem?_map]
    cases xs[m + (sz.take s).sum]? with
    | none => rfl
    | some t =>
      cases xs[c]? with
      | none => rfl
      | some u =>
        simp only [Option.map_some, List.map_set, List.map_append, List.map_take, List.map_drop, List.map_cons, List.map_nil]
theorem exch_perm {sz : List Nat} {m : Nat} {xs : List α} {c s : Nat} (hc : c < m) (hl : m + (sz.take s).sum + sz.getD s 0 ≤ xs.length) : (exch sz m xs c s).Perm xs := by
  unfold exch
  by_cases h : sz.getD s 0 = 0
  · rw [if_pos h]
  · rw [if_neg h]
    generalize hf : m + (sz.take s).sum = f at *
    generalize hz : sz.getD s 0 = z at *
    have h1 : f < xs.length := by omega
    have h2 : c < xs.length := by omega
    rw [List.getElem?_eq_getElem h1, List.getElem?_eq_getElem h2]
    show ((xs.take f ++ ((xs.drop (f + 1)).take (z - 1) ++ [xs[c]]) ++ xs.drop (f + z)).set c xs[f]).Perm xs
    have hA : c < (xs.take f).length := by rw [List.length_take]; omega
    rw [List.append_assoc, List.set_append_left _ _ hA]
    have e1 : xs.take f = xs.take c ++ xs[c] :: (xs.take f).drop (c + 1) := by
      have q := List.take_append_drop c (xs.take f)
      rw [List.take_take, Nat.min_eq_left (by omega : c ≤ f), List.drop_eq_getElem_cons hA, List.getElem_take] at q
      exact q.symm
    have e2 : (xs.take f).set c xs[f] = xs.take c ++ xs[f] :: (xs.take f).drop (c + 1) := by
      rw [List.set_eq_take_append_cons_drop, if_pos hA, List.take_take, Nat.min_eq_left (by omega : c ≤ f)]
    have e3 : xs = xs.take f ++ xs[f] :: ((xs.drop (f + 1)).take (z - 1) ++ xs.drop (f + z)) := by
      have q := List.take_append_drop f xs
      rw [List.drop_eq_getElem_cons h1] at q
      have q2 := List.take_append_drop (z - 1) (xs.drop (f + 1))
      rw [List.drop_drop, show f + 1 + (z - 1) = f + z by omega] at q2
      rw [q2]
      exact q.symm
    have e4 : xs = xs.take c ++ xs[c] :: ((xs.take f).drop (c + 1) ++ xs[f] :: ((xs.drop (f + 1)).take (z - 1) ++ xs.drop (f + z))) := by
      have q := e3
      rw [e1, List.append_assoc, List.cons_append] at q
      exact q
    have goal : (xs.take c ++ xs[f] :: (xs.take f).drop (c + 1) ++ (((xs.drop (f + 1)).take (z - 1) ++ [xs[c]]) ++ xs.drop (f + z))).Perm
        (xs.take c ++ xs[c] :: ((xs.take f).drop (c + 1) ++ xs[f] :: ((xs.drop (f + 1)).take (z - 1) ++ xs.drop (f + z)))) := by
      generalize xs.take c = A1
      generalize (xs.take f).drop (c + 1) = A2
      generalize (xs.drop (f + 1)).take (z - 1) = Mm
      generalize xs.drop (f + z) = Rr
      generalize xs[f] = t
      generalize xs[c] = u
      rw [List.append_assoc, List.cons_append, List.append_assoc Mm]
      refine List.Perm.append_left A1 ?_
      have p1 : (A2 ++ (Mm ++ ([u] ++ Rr))).Perm (u :: (A2 ++ (Mm ++ Rr))) := by
        have q : A2 ++ (Mm ++ ([u] ++ Rr)) = (A2 ++ Mm) ++ u :: Rr := by simp
        rw [q, ← List.append_assoc]
        exact List.perm_middle
      have p2 : (A2 ++ t :: (Mm ++ Rr)).Perm (t :: (A2 ++ (Mm ++ Rr))) := List.perm_middle
      exact ((p1.cons t).trans (List.Perm.swap u t _)).trans (p2.symm.cons u)
    rw [e2]
    exact goal.trans (by rw [← e4])
theorem exch_length {sz : List Nat} {m : Nat} {xs : List α} {c s : Nat} (hc : c < m) (hl : m + (sz.take s).sum + sz.getD s 0 ≤ xs.length) : (exch sz m xs c s).length = xs.length := (exch_perm hc hl).length_eq
end
theorem take_sum_le {sz : List Nat} {s : Nat} (h : s < sz.length) : (sz.take s).sum + sz.getD s 0 ≤ sz.sum := by
  have e := List.take_append_drop s sz
  rw [List.drop_eq_getElem_cons h] at e
  have e2 : sz.sum = (sz.take s).sum + (sz[s] + (sz.drop (s + 1)).sum) := by
    conv => lhs; rw [← e]
    rw [List.sum_append, List.sum_cons]
  rw [getD_elem 0 h, e2]
  omega
/-- where a carrier is in a tick -/
def entryAt (ro : List (Option Nat)) (number : Int) : Option Nat := ro.getD ((number - 1) % (ro.length : Int)).toNat none
def visOne (rt : List (List (Option Nat))) (number : Int) (c : Nat) : List (Nat × Nat) := match entryAt (rt.getD c []) number with
  | none => []
  | some s => [(c, s)]
def visP (rt : List (List (Option Nat))) (number : Int) (i : Nat) : List (Nat × Nat) := (List.range i).flatMap (visOne rt number)
theorem visP_succ (rt : List (List (Option Nat))) (number : Int) (i : Nat) : visP rt number (i + 1) = visP rt number i ++ visOne rt number i := by
  unfold visP
  rw [List.range_succ, List.flatMap_append]
  simp
def vis (rt : List (List (Option Nat))) (number : Int) : List (Nat × Nat) := visP rt number rt.length
structure PlanOk (sz : List Nat) (rt : List (List (Option Nat))) : Prop where
  s1 : 1 ≤ sz.length
  s2 : sz.length ≤ 12
  s9 : ∀ z ∈ sz, z ≤ 9
  r1 : 1 ≤ rt.length
  r2 : rt.length ≤ 6
  e1 : ∀ ro ∈ rt, 1 ≤ ro.length ∧ ro.length ≤ 6
  e2 : ∀ ro ∈ rt, ∀ s, some s ∈ ro → s < sz.length
theorem sum_le9 : ∀ {sz : List Nat}, (∀ z ∈ sz, z ≤ 9) → sz.sum ≤ 9 * sz.length
  | [], _ => by simp
  | z :: sz, h => by
    have := sum_le9 (sz := sz) fun z hz => h z (List.mem_cons_of_mem _ hz)
    have := h z List.mem_cons_self
    rw [List.sum_cons, List.length_cons]
    omega
abbrev nn (sz : List Nat) (rt : List (List (Option Nat))) : Nat := rt.length + sz.sum
theorem PlanOk.n_le {sz : List Nat} {rt : List (List (Option Nat))} (h : PlanOk sz rt) : nn sz rt ≤ 114 := by
  have := sum_le9 h.s9
  have := h.s2
  have := h.r2
  show rt.length + sz.sum ≤ 114
  omega
theorem PlanOk.n_pos {sz : List Nat} {rt : List (List (Option Nat))} (h : PlanOk sz rt) : 1 ≤ nn sz rt := by
  have := h.r1
  show 1 ≤ rt.length + sz.sum
  omega
theorem entry_ok {sz : List Nat} {rt : List (List (Option Nat))} (h : PlanOk sz rt) {c : Nat} (hc : c < rt.length) {number : Int} {s : Nat} (e : entryAt (rt.getD c []) number = some s) : s < sz.length := by
  have hm := getD_mem ([] : List (Option Nat)) hc
  have hl := h.e1 _ hm
  refine h.e2 _ hm s ?_
  unfold entryAt at e
  rw [← e]
  have h0 : 0 ≤ (number - 1) % ((rt.getD c []).length : Int) := Int.emod_nonneg _ (by omega)
  have h1 : (number - 1) % ((rt.getD c []).length : Int) < (rt.getD c []).length := Int.emod_lt_of_pos _ (by omega)
  exact getD_mem none (by omega)
theorem vis_ok {sz : List Nat} {rt : List (List (Option Nat))} (h : PlanOk sz rt) {number : Int} : ∀ p ∈ vis rt number, p.1 < rt.length ∧ p.2 < sz.length := fun p hp => by
  unfold vis visP at hp
  obtain ⟨c, hc, hp⟩ := List.mem_flatMap.mp hp
  have hc := List.mem_range.mp hc
  unfold visOne at hp
  cases e : entryAt (rt.getD c []) number with
  | none => rw [e] at hp; cases hp
  | some s =>
    rw [e] at hp
    obtain rfl := List.mem_singleton.mp hp
    exact ⟨hc, entry_ok h hc e⟩
theorem visP_len (rt : List (List (Option Nat))) (number : Int) : ∀ i, (visP rt number i).length ≤ i
  | 0 => Nat.le_refl _
  | i + 1 => by
    rw [visP_succ, List.length_append]
    have := visP_len rt number i
    have : (visOne rt number i).length ≤ 1 := by
      unfold visOne
      cases entryAt (rt.getD i []) number <;> simp
    omega
def runT {α : Type} (sz : List Nat) (m : Nat) (ps : List (Nat × Nat)) (xs : List α) : List α := ps.foldl (fun ys p => exch sz m ys p.1 p.2) xs
theorem runT_map {α β : Type} (f : α → β) (sz : List Nat) (m : Nat) : ∀ (ps : List (Nat × Nat)) (xs : List α), runT sz m ps (xs.map f) = (runT sz m ps xs).map f
  | [], _ => rfl
  | p :: ps, xs => by
    show runT sz m ps (exch sz m (xs.map f) p.1 p.2) = (runT sz m ps (exch sz m xs p.1 p.2)).map f
    rw [exch_map, runT_map f sz m ps]
theorem runT_perm {α : Type} {sz : List Nat} {m : Nat} : ∀ {ps : List (Nat × Nat)} {xs : List α}, (∀ p ∈ ps, p.1 < m ∧ p.2 < sz.length) → xs.length = m + sz.sum → (runT sz m ps xs).Perm xs
  | [], _, _, _ => .refl _
  | p :: ps, xs, h, hl => by
    obtain ⟨h1, h2⟩ := h p List.mem_cons_self
    have le : m + (sz.take p.2).sum + sz.getD p.2 0 ≤ xs.length := by
      have := take_sum_le h2
      omega
    have q := exch_perm (xs := xs) h1 le
    exact (runT_perm (ps := ps) (xs := exch sz m xs p.1 p.2) (fun q hq => h q (List.mem_cons_of_mem _ hq)) (by rw [q.length_eq, hl])).trans q
def tickN (sz : List Nat) (rt : List (List (Option Nat))) (t : Int) (k : Nat) : List Nat := (List.range k).foldl (fun ys (i : Nat) => runT sz rt.length (vis rt (t + 1 + ((i : Nat) : Int))) ys) (List.range (nn sz rt))
theorem tickN_zero (sz : List Nat) (rt : List (List (Option Nat))) (t : Int) : tickN sz rt t 0 = List.range (nn sz rt) := rfl
theorem tickN_succ (sz : List Nat) (rt : List (List (Option Nat))) (t : Int) (k : Nat) : tickN sz rt t (k + 1) = runT sz rt.length (vis rt (t + 1 + (k : Int))) (tickN sz rt t k) := by
  unfold tickN
  rw [List.range_succ, List.foldl_append]
  rfl
theorem tickN_perm {sz : List Nat} {rt : List (List (Option Nat))} (h : PlanOk sz rt) (t : Int) : ∀ k, (tickN sz rt t k).Perm (List.range (nn sz rt))
  | 0 => .refl _
  | k + 1 => by
    rw [tickN_succ]
    have ih := tickN_perm h t k
    exact (runT_perm (vis_ok h) (perm_range_len ih)).trans ih
def ticksM (sz : List Nat) (rt : List (List (Option Nat))) (t c : Int) : List Nat := invM (tickN sz rt t c.toNat)
theorem ticksM_perm {sz : List Nat} {rt : List (List (Option Nat))} (h : PlanOk sz rt) (t c : Int) : (ticksM sz rt t c).Perm (List.range (nn sz rt)) := invM_perm (tickN_perm h t _)
/-! ### the pattern's length -/
def lcmM (a b : Nat) : Nat := a / Nat.gcd a b * b
theorem lcmM_pos {a b : Nat} (ha : 0 < a) (hb : 0 < b) : 0 < lcmM a b := by
  unfold lcmM
  exact Nat.mul_pos (Nat.div_pos (Nat.le_of_dvd ha (Nat.gcd_dvd_left a b)) (Nat.gcd_pos_of_pos_left b ha)) hb
theorem lcmM_le {a b : Nat} : lcmM a b ≤ a * b := Nat.mul_le_mul_right b (Nat.div_le_self a _)

theorem lcmM_div {a b : Nat} : Nat.gcd a b ∣ a := Nat.gcd_dvd_left a b
/-- is the route its first l entries again and again? (eqs: how Python's == answers) -/
def perOk (eqs : List (Option Nat) → List (Option Nat) → Bool) (ro : List (Option Nat)) (l : Nat) : Bool :=
  decide (ro.length / l * l = ro.length) && eqs ro (List.replicate (ro.length / l) (ro.take l)).flatten
/-- the smallest l from i on that is a period, else the length -/
def perFrom (eqs : List (Option Nat) → List (Option Nat) → Bool) (ro : List (Option Nat)) : Nat → Nat → Nat
  | 0, _ => ro.length
  | k + 1, l => if perOk eqs ro l = true then l else perFrom eqs ro k (l + 1)
def perM (eqs : List (Option Nat) → List (Option Nat) → Bool) (ro : List (Option Nat)) : Nat := perFrom eqs ro (ro.length - 1) 1
theorem perFrom_pos {eqs : List (Option Nat) → List (Option Nat) → Bool} {ro : List (Option Nat)} (h : 1 ≤ ro.length) : ∀ (k l : Nat), 1 ≤ l → 1 ≤ perFrom eqs ro k l
  | 0, _, _ => h
  | k + 1, l, hl => by
    show 1 ≤ if perOk eqs ro l = true then l else perFrom eqs ro k (l + 1)
    split
    · exact hl
    · exact perFrom_pos h k (l + 1) (by omega)
theorem perFrom_le {eqs : List (Option Nat) → List (Option Nat) → Bool} {ro : List (Option Nat)} : ∀ (k l : Nat), l + k ≤ ro.length → perFrom eqs ro k l ≤ ro.length
  | 0, _, _ => Nat.le_refl _
  | k + 1, l, hl => by
    show (if perOk eqs ro l = true then l else perFrom eqs ro k (l + 1)) ≤ ro.length
    split
    · omega
    · exact perFrom_le k (l + 1) (by omega)
def patP (eqs : List (Option Nat) → List (Option Nat) → Bool) (rt : List (List (Option Nat))) (i : Nat) : Nat := (rt.take i).foldl (fun l ro => lcmM l (perM eqs ro)) 1
theorem patP_succ {eqs : List (Option Nat) → List (Option Nat) → Bool} {rt : List (List (Option Nat))} {i : Nat} {ro : List (Option Nat)} (h : rt[i]? = some ro) : patP eqs rt (i + 1) = lcmM (patP eqs rt i) (perM eqs ro) := by
  unfold patP
  rw [take_more h, List.foldl_append]
  rfl
theorem patP_bound {eqs : List (Option Nat) → List (Option Nat) → Bool} {rt : List (List (Option Nat))} (h : ∀ ro ∈ rt, 1 ≤ ro.length ∧ ro.length ≤ 6) : ∀ i, i ≤ rt.length → 1 ≤ patP eqs rt i ∧ patP eqs rt i ≤ 6 ^ i
  | 0, _ => ⟨Nat.le_refl _, Nat.le_refl _⟩
  | i + 1, hi => by
    have lt : i < rt.length := by omega
    obtain ⟨i1, i2⟩ := patP_bound h i (by omega)
    obtain ⟨r1, r2⟩ := h _ (List.getElem_mem lt)
    have p1 : 1 ≤ perM eqs rt[i] := perFrom_pos r1 _ _ (Nat.le_refl _)
    have p2 : perM eqs rt[i] ≤ 6 := Nat.le_trans (perFrom_le _ _ (by omega)) r2
    rw [patP_succ (List.getElem?_eq_getElem lt)]
    refine ⟨lcmM_pos i1 p1, Nat.le_trans lcmM_le ?_⟩
    rw [Nat.pow_succ]
    exact Nat.mul_le_mul i2 p2
def patM (eqs : List (Option Nat) → List (Option Nat) → Bool) (rt : List (List (Option Nat))) : Nat := patP eqs rt rt.length
theorem patM_bound {eqs : List (Option Nat) → List (Option Nat) → Bool} {sz : List Nat} {rt : List (List (Option Nat))} (h : PlanOk sz rt) : 1 ≤ patM eqs rt ∧ patM eqs rt ≤ 46656 := by
  obtain ⟨h1, h2⟩ := patP_bound (eqs := eqs) h.e1 rt.length (Nat.le_refl _)
  exact ⟨h1, Nat.le_trans h2 (Nat.pow_le_pow_right (by decide) h.r2)⟩
/-! ### the effect of any number of ticks -/
section
variable (eqs : List (Option Nat) → List (Option Nat) → Bool)
def effP (sz : List Nat) (rt : List (List (Option Nat))) (t c : Int) : List Nat :=
  combM (repM (ticksM sz rt t (patM eqs rt : Nat)) (c / (patM eqs rt : Nat))) (ticksM sz rt t (c - c / (patM eqs rt : Nat) * (patM eqs rt : Nat)))
def effM (sz : List Nat) (rt : List (List (Option Nat))) (t c : Int) : List Nat := if c < 0 then invM (effP eqs sz rt (t + c) (0 - c)) else effP eqs sz rt t c
theorem effP_perm {sz : List Nat} {rt : List (List (Option Nat))} (h : PlanOk sz rt) (t c : Int) : (effP eqs sz rt t c).Perm (List.range (nn sz rt)) := combM_perm (repM_perm (ticksM_perm h _ _) _) (ticksM_perm h _ _)
theorem effM_perm {sz : List Nat} {rt : List (List (Option Nat))} (h : PlanOk sz rt) (t c : Int) : (effM eqs sz rt t c).Perm (List.range (nn sz rt)) := by
  unfold effM
  split
  · exact invM_perm (effP_perm eqs h _ _)
  · exact effP_perm eqs h _ _
end
/-! ### moved contents, the goal and the target -/
def movM (e : List Nat) (xs : List Int) : List Int := scatF e (fun k => xs.getD k 0) (List.replicate xs.length 0) xs.length
theorem movM_perm {n : Nat} {e : List Nat} {xs : List Int} (h : e.Perm (List.range n)) (hl : xs.length = n) : (movM e xs).Perm xs := by
  unfold movM
  rw [hl]
  have p := scatF_perm (v := fun k => xs.getD k 0) (r := List.replicate n 0) h (by simp)
  rw [map_range_getD 0 hl] at p
  exact p
theorem movM_at {n : Nat} {e : List Nat} {xs : List Int} (h : e.Perm (List.range n)) (hl : xs.length = n) {k : Nat} (hk : k < n) : (movM e xs).getD (e.getD k 0) 0 = xs.getD k 0 := by
  unfold movM
  rw [hl]
  exact getD_of (scatF_at (v := fun k => xs.getD k 0) (r := List.replicate n 0) h (by simp) hk)
/-- what each place must hold now -/
def tgtM (e : List Nat) (goal : List Int) : List Int := e.map fun q => goal.getD q 0
theorem tgtM_perm {n : Nat} {e : List Nat} {goal : List Int} (h : e.Perm (List.range n)) (hl : goal.length = n) : (tgtM e goal).Perm goal := by
  have p := h.map fun q => goal.getD q 0
  rw [map_range_getD 0 hl] at p
  exact p
theorem tgtM_length (e : List Nat) (goal : List Int) : (tgtM e goal).length = e.length := List.length_map _
theorem tgtM_at {n : Nat} {e : List Nat} {goal : List Int} (hl : e.length = n) {k : Nat} (hk : k < n) : (tgtM e goal).getD k 0 = goal.getD (e.getD k 0) 0 := by
  refine getD_of ?_
  unfold tgtM
  rw [List.getElem?_map, some_of_lt (0 : Nat) (by rw [hl]; exact hk)]
  rfl
/-- moving the target gives the goal -/
theorem mov_tgt {n : Nat} {e : List Nat} {goal : List Int} (h : e.Perm (List.range n)) (hl : goal.length = n) : movM e (tgtM e goal) = goal := by
  have he := perm_range_len h
  have ht : (tgtM e goal).length = n := by rw [tgtM_length, he]
  have hm : (movM e (tgtM e goal)).length = n := by rw [(movM_perm h ht).length_eq, ht]
  refine ext_getD 0 (by rw [hm, hl]) fun i hi => ?_
  rw [hm] at hi
  have mem : i ∈ e := h.mem_iff.mpr (List.mem_range.mpr hi)
  obtain ⟨k, hk, ek⟩ := List.mem_iff_getElem.mp mem
  rw [he] at hk
  have ek' : e.getD k 0 = i := by rw [getD_elem 0 (by rw [he]; exact hk)]; exact ek
  have a := movM_at (xs := tgtM e goal) h ht hk
  rw [ek', tgtM_at he hk, ek'] at a
  exact a
theorem mate_tgt {n : Nat} {e : List Nat} {goal xs : List Int} (h : e.Perm (List.range n)) (hx : xs.length = n) (nd : xs.Nodup) (hg : goal.Perm xs) : Mate n (tgtM e goal) xs := by
  have hl : goal.length = n := by rw [hg.length_eq, hx]
  have p := (tgtM_perm h hl).trans hg
  exact ⟨by rw [tgtM_length, perm_range_len h], hx, p.nodup_iff.mpr nd, nd, p.symm⟩
theorem mate_goal {n : Nat} {e : List Nat} {goal xs : List Int} (h : e.Perm (List.range n)) (hx : xs.length = n) (nd : xs.Nodup) (hg : goal.Perm xs) : Mate n goal (movM e xs) := by
  have q := movM_perm h hx
  exact ⟨by rw [hg.length_eq, hx], by rw [q.length_eq, hx], hg.nodup_iff.mpr nd, q.nodup_iff.mpr nd, q.trans hg.symm⟩
/-- the law's numbers agree -/
theorem law_num {n : Nat} {e : List Nat} {goal xs : List Int} (h : e.Perm (List.range n)) (hx : xs.length = n) (nd : xs.Nodup) (hg : goal.Perm xs) :
    (runS (tgtM e goal) xs n).1.length + cnt (Rel (tau n goal (movM e xs))) (List.range n) = n := by
  have hl : goal.length = n := by rw [hg.length_eq, hx]
  rw [cnt_conj h (mate_tgt h hx nd hg) (mate_goal h hx nd hg) (fun p hp => movM_at h hx hp) fun p hp => tgtM_at (perm_range_len h) hp]
  exact (swaps_end (mate_tgt h hx nd hg)).2.2.1
/-! ### parcels: steps by less than 997 -/
theorem gcd997 : ∀ s : Nat, s < 997 → s ≠ 0 → Nat.gcd s 997 = 1 := by decide +kernel
theorem par_inj {s : Nat} (h0 : s ≠ 0) (h1 : s < 997) {a : Nat} {i j : Nat} (hi : i < 997) (hj : j < 997) (e : (a + s * i) % 997 = (a + s * j) % 997) : i = j := by
  have key : ∀ {i j : Nat}, i ≤ j → j < 997 → (a + s * i) % 997 = (a + s * j) % 997 → i = j := by
    intro i j hij hj e
    have d : 997 ∣ s * (j - i) := by
      have q := Nat.sub_mod_eq_zero_of_mod_eq e.symm
      rw [Nat.add_sub_add_left, ← Nat.mul_sub] at q
      exact Nat.dvd_of_mod_eq_zero q
    have c : Nat.Coprime 997 s := by
      show Nat.gcd 997 s = 1
      rw [Nat.gcd_comm]
      exact gcd997 s h1 h0
    have d2 := c.dvd_of_dvd_mul_left d
    have := Nat.eq_zero_of_dvd_of_lt d2 (by omega)
    omega
  rcases Nat.le_total i j with le | le
  · exact key le hj e
  · exact (key le hi e.symm).symm
end K14
/-! ## K14B -/
namespace K14
open PySem PySem.Spec PyProof.Rows L2
def top (i : Nat) : Stmt := PySem.Challenge.pw_swapshelves_k14_whole_swaps.main.body.getD i (.Pass ⟨0, 0, 0, 0⟩)
abbrev t_is_route : Stmt := top 25
abbrev t_first_invalid : Stmt := top 26
abbrev t_validate_plan : Stmt := top 27
abbrev t_validate_count : Stmt := top 28
abbrev t_all_places : Stmt := top 29
abbrev t_first_on : Stmt := top 30
abbrev t_greatest_common_divisor : Stmt := top 31
abbrev t_least_common_multiple : Stmt := top 32
abbrev t_route_period : Stmt := top 33
abbrev t_pattern_of : Stmt := top 34
abbrev t_visits_of : Stmt := top 35
abbrev t_places : Stmt := top 36
abbrev t_exchange : Stmt := top 38
abbrev t_run_tick : Stmt := top 39
abbrev t_inverse_of : Stmt := top 40
abbrev t_combined : Stmt := top 41
abbrev t_cycles_of : Stmt := top 42
abbrev t_repeated : Stmt := top 43
abbrev t_ticks_effect : Stmt := top 44
abbrev t_pattern_effect : Stmt := top 45
abbrev t_effect_between : Stmt := top 46
abbrev t_contents_of : Stmt := top 50
abbrev t_state_of : Stmt := top 51
abbrev t_fits : Stmt := top 52
abbrev t_validate_state : Stmt := top 53
abbrev t_moved : Stmt := top 54
abbrev t_arrangement : Stmt := top 56
abbrev t_needed_swaps : Stmt := top 57
abbrev t_plan_swaps : Stmt := top 58
abbrev t_fewest_swaps : Stmt := top 59
abbrev t_is_swap : Stmt := top 60
abbrev t_swap_all : Stmt := top 61
abbrev t_advance : Stmt := top 63
abbrev t_law_mix : Stmt := top 65
abbrev t_law_next : Stmt := top 66
abbrev t_law_alike : Stmt := top 67
abbrev t_law_error : Stmt := top 68
abbrev t_law_plan : Stmt := top 69
abbrev t_law_state : Stmt := top 70
abbrev t_law_mixed : Stmt := top 75
abbrev t_law_wheels : Stmt := top 76
abbrev t_law_errors_right : Stmt := top 77
abbrev t_law : Stmt := top 78
/-- a def of the top: its object, its name's value -/
structure Dn (K : PySem.W.Frag) (mg : Str → Option Value) (x : Str) (st : Stmt) : Prop where
  ex : ∃ (f : Addr) (fd : FuncData), FunD K x x (defArgs st) (defBody st) (defScope st) [] [] f fd ∧ mg x = some (.ref f)
/-- what the top has written -/
structure Txt (K : PySem.W.Frag) (mg : Str → Option Value) : Prop where
  d_is_route : Dn K mg "is_route" t_is_route
  d_first_invalid : Dn K mg "first_invalid" t_first_invalid
  d_validate_plan : Dn K mg "validate_plan" t_validate_plan
  d_validate_count : Dn K mg "validate_count" t_validate_count
  d_all_places : Dn K mg "all_places" t_all_places
  d_first_on : Dn K mg "first_on" t_first_on
  d_greatest_common_divisor : Dn K mg "greatest_common_divisor" t_greatest_common_divisor
  d_least_common_multiple : Dn K mg "least_common_multiple" t_least_common_multiple
  d_route_period : Dn K mg "route_period" t_route_period
  d_pattern_of : Dn K mg "pattern_of" t_pattern_of
  d_visits_of : Dn K mg "visits_of" t_visits_of
  d_places : Dn K mg "places" t_places
  d_exchange : Dn K mg "exchange" t_exchange
  d_run_tick : Dn K mg "run_tick" t_run_tick
  d_inverse_of : Dn K mg "inverse_of" t_inverse_of
  d_combined : Dn K mg "combined" t_combined
  d_cycles_of : Dn K mg "cycles_of" t_cycles_of
  d_repeated : Dn K mg "repeated" t_repeated
  d_ticks_effect : Dn K mg "ticks_effect" t_ticks_effect
  d_pattern_effect : Dn K mg "pattern_effect" t_pattern_effect
  d_effect_between : Dn K mg "effect_between" t_effect_between
  d_contents_of : Dn K mg "contents_of" t_contents_of
  d_state_of : Dn K mg "state_of" t_state_of
  d_fits : Dn K mg "fits" t_fits
  d_validate_state : Dn K mg "validate_state" t_validate_state
  d_moved : Dn K mg "moved" t_moved
  d_arrangement : Dn K mg "arrangement" t_arrangement
  d_needed_swaps : Dn K mg "needed_swaps" t_needed_swaps
  d_plan_swaps : Dn K mg "plan_swaps" t_plan_swaps
  d_fewest_swaps : Dn K mg "fewest_swaps" t_fewest_swaps
  d_is_swap : Dn K mg "is_swap" t_is_swap
  d_swap_all : Dn K mg "swap_all" t_swap_all
  d_advance : Dn K mg "advance" t_advance
  d_law_mix : Dn K mg "_law_mix" t_law_mix
  d_law_next : Dn K mg "_law_next" t_law_next
  d_law_alike : Dn K mg "_law_alike" t_law_alike
  d_law_error : Dn K mg "_law_error" t_law_error
  d_law_plan : Dn K mg "_law_plan" t_law_plan
  d_law_state : Dn K mg "_law_state" t_law_state
  d_law_mixed : Dn K mg "_law_mixed" t_law_mixed
  d_law_wheels : Dn K mg "_law_wheels" t_law_wheels
  d_law_errors_right : Dn K mg "_law_errors_right" t_law_errors_right
  d_law : Dn K mg "law" t_law
  f_all : mg "all" = none
  f_len : mg "len" = none
  f_range : mg "range" = none
  f_enumerate : mg "enumerate" = none
  f_sum : mg "sum" = none
  f_int : mg "int" = none
  f_list : mg "list" = none
  f_tuple : mg "tuple" = none
  f_sorted : mg "sorted" = none
  f_set : mg "set" = none
  f_isinstance : mg "isinstance" = none
  f_max : mg "max" = none
  f_dict : mg "dict" = none
  f_str : mg "str" = none
  f_bool : mg "bool" = none
  f_ValueError : mg "ValueError" = none
  i_MAX_SHELVES : ∃ t, mg "MAX_SHELVES" = some (.int 12 t)
  i_MAX_SIZE : ∃ t, mg "MAX_SIZE" = some (.int 9 t)
  i_MAX_CARRIERS : ∃ t, mg "MAX_CARRIERS" = some (.int 6 t)
  i_MAX_ENTRIES : ∃ t, mg "MAX_ENTRIES" = some (.int 6 t)
  i_MAX_TICKS : ∃ t, mg "MAX_TICKS" = some (.int 1000000000000000000 t)
  i_MAX_PARCEL : ∃ t, mg "MAX_PARCEL" = some (.int 999 t)
  i_MAX_TIME : ∃ t, mg "MAX_TIME" = some (.int 1000000000000000000000000000000 t)
  s_CARRIER : ∃ t, mg "CARRIER" = some (.str "carrier" t)
  s_SHELF : ∃ t, mg "SHELF" = some (.str "shelf" t)
/-- a def that keeps a promise, ready to be called by its name -/
structure Cal (P : Program) (w : World) (K : PySem.W.Frag) (mg : Str → Option Value) (base : Heap) (CX : CXT) (k : Nat) (x : Str) (ps : List Str) (sp : Sp) : Prop where
  ex : ∃ (f : Addr) (fd : FuncData), FnOk P w K mg base CX k f fd ps sp ∧ mg x = some (.ref f) ∧ PySem.W.keepIn K (.ref f) = true ∧ Binds K fd ps []
section
variable {P : Program} {w : World} {K : PySem.W.Frag} {mg : Str → Option Value} {base : Heap}
theorem Dn.mk0 {x : Str} {st : Stmt} {N ps : List Str} {k : Nat} {sp : Sp} (D : Dn K mg x st) (S : FnScope N ps (defScope st))
    (hb : ∀ (kV doc pm : Value) (an : Option Addr) (cdv ct : Value) (us : List Value), us.length = ps.length → bindArgs (PySem.W.fnOf x x (defArgs st) (defBody st) (defScope st) .none kV doc pm an cdv ct) ⟨us, []⟩ = pure (ps.zip us))
    (len : ∀ vs H Q E, sp vs H Q E → vs.length = ps.length)
    (hbody : ∀ (f : Addr) (cdv : Value) (A : Around) (outer : List Env) (s : Shared) (H : Hp) (vs : List V) (Q : VK) (E : XK), Room k (A.deeper (envOfC x (defScope st) s.heap.objs.size f cdv)) → sp vs H Q E →
      ∃ t, PSs (cxOf CX0 P w K mg base N x (defScope st) f cdv A outer s H E).nox (defBody st) t ∧ t { nx := fun _ H' => Q .non H', rt := Q } (start N vs) H) : Cal P w K mg base CX0 (k + 1) x ps sp := by
  obtain ⟨f, fd, F, hm⟩ := D.ex
  refine ⟨f, fd, F.ok S len (fun cdv A outer s H vs Q E hr h => ?_), hm, F.kp, F.bindsN hb⟩
  obtain ⟨t, ht, q⟩ := hbody f cdv A outer s H vs Q E hr h
  exact ⟨t, ht.nox, q⟩
/-- the same of a def that may raise -/
theorem Dn.mkX {x : Str} {st : Stmt} {N ps : List Str} {k : Nat} {sp : Sp} (D : Dn K mg x st) (S : FnScope N ps (defScope st))
    (hb : ∀ (kV doc pm : Value) (an : Option Addr) (cdv ct : Value) (us : List Value), us.length = ps.length → bindArgs (PySem.W.fnOf x x (defArgs st) (defBody st) (defScope st) .none kV doc pm an cdv ct) ⟨us, []⟩ = pure (ps.zip us))
    (len : ∀ vs H Q E, sp vs H Q E → vs.length = ps.length)
    (hbody : ∀ (f : Addr) (cdv : Value) (A : Around) (outer : List Env) (s : Shared) (H : Hp) (vs : List V) (Q : VK) (E : XK), Room k (A.deeper (envOfC x (defScope st) s.heap.objs.size f cdv)) → sp vs H Q E →
      ∃ t, PSs (cxOf (L2.CX P w) P w K mg base N x (defScope st) f cdv A outer s H E) (defBody st) t ∧ t { nx := fun _ H' => Q .non H', rt := Q } (start N vs) H) : Cal P w K mg base (L2.CX P w) (k + 1) x ps sp := by
  obtain ⟨f, fd, F, hm⟩ := D.ex
  exact ⟨f, fd, F.ok S len (fun cdv A outer s H vs Q E hr h => hbody f cdv A outer s H vs Q E hr h), hm, F.kp, F.bindsN hb⟩
end
section
variable {X : Cx} {CX : CXT} {k : Nat} {x : Str} {ps : List Str} {sp : Sp} {E : XK} {p pos : Pos} {e : Expr} {es : List Expr} {t : TA}
theorem pe_cal (C : Cal X.prog X.w X.K X.mg X.base CX k x ps sp) (hr : Room k X.A) (hg : Gl X x) (hx : Passes CX X E) (ha : PA X (e :: es) t) (hdb : (x == ("__debug__" : Str)) = false := by decide)
    (he : starEach (e :: es) X.env = (false, eval e X.env) :: starEach es X.env := by rfl) (hpl : (backTo pos (starEach es X.env)).any (·.1) = false := by rfl) :
    PE X (.Call (.Name x p) (e :: es) [] pos) (tCall sp [] E t) := by
  obtain ⟨f, fd, F, hm, hk, hb⟩ := C.ex
  exact pe_call F hr hg hm hk hb .nil hx ha hdb he hpl
/-- an expression that is never reached -/
theorem pe_never : PE X e (fun _ _ _ => False) := ⟨fun _ _ _ _ _ _ h => h.elim⟩
end
/-! ### heaps -/
theorem sNew {H0 H : Hp} (s : Same H0 H) {p : Addr} (hp : H p = none) (o : HO) : Same H0 (upd H p o) := fun b u e => by
  rw [upd_ne (ne_of_none (s b u e) hp)]
  exact s b u e
theorem sWr {H0 H : Hp} (s : Same H0 H) {p : Addr} (hp : H0 p = none) (o : HO) : Same H0 (upd H p o) := fun b u e => by
  rw [upd_ne (ne_of_none e hp)]
  exact s b u e
theorem upd_keep {H : Hp} {a p : Addr} {o u : HO} (h : H a = some o) (hp : H p = none) : upd H p u a = some o := by
  rw [upd_ne (ne_of_none h hp)]
  exact h
/-- tuples (and what is locked) stand as they stood -/
structure Tm (H H' : Hp) : Prop where
  tup : ∀ b xs, H b = some (.tup xs) → H' b = some (.tup xs)
  frz : ∀ b o u, H b = some (.frz o u) → H' b = some (.frz o u)
theorem Tm.refl (H : Hp) : Tm H H := ⟨fun _ _ h => h, fun _ _ _ h => h⟩
theorem Tm.trans {H H1 H2 : Hp} (a : Tm H H1) (b : Tm H1 H2) : Tm H H2 := ⟨fun c xs h => b.tup c xs (a.tup c xs h), fun c o u h => b.frz c o u (a.frz c o u h)⟩
theorem sTm {H H' : Hp} (s : Same H H') : Tm H H' := ⟨fun b _ h => s b _ h, fun b _ _ h => s b _ h⟩
theorem tmNew {H : Hp} {p : Addr} (hp : H p = none) (o : HO) : Tm H (upd H p o) := sTm (sNew (Same.refl H) hp o)
theorem tmLst {H : Hp} {p : Addr} {xs : List V} (hp : H p = some (.lst xs)) (o : HO) : Tm H (upd H p o) :=
  ⟨fun b ys h => by rw [upd_ne (ne_of h hp (by intro z; cases z))]; exact h, fun b ob u h => by rw [upd_ne (ne_of h hp (by intro z; cases z))]; exact h⟩
theorem tmDic {H : Hp} {p : Addr} {xs : List (Key × V)} (hp : H p = some (.dK xs)) (o : HO) : Tm H (upd H p o) :=
  ⟨fun b ys h => by rw [upd_ne (ne_of h hp (by intro z; cases z))]; exact h, fun b ob u h => by rw [upd_ne (ne_of h hp (by intro z; cases z))]; exact h⟩
theorem sqTm {K : PySem.W.Frag} {H H' : Hp} {a : Addr} {xs : List V} (e : Tm H H') (h : SqT K H a xs) : SqT K H' a xs := by
  rcases h with (h | ⟨o, h⟩) | h
  · exact .inl (.inl (e.tup _ _ h))
  · exact .inl (.inr ⟨o, e.frz _ _ _ h⟩)
  · exact .inr h
mutual
/-- a value that is data of scalars and tuples alone -/
inductive Tp (K : PySem.W.Frag) (H : Hp) : V → PyData → Prop
  | non : Tp K H .non .none
  | bl (b : Bool) : Tp K H (.bl b) (.bool b)
  | int (i : Int) : Tp K H (.int i) (.int i)
  | str (x : Str) : Tp K H (.str x) (.str x)
  | tup {a : Addr} {xs : List V} {ds : List PyData} : SqT K H a xs → TpAll K H xs ds → Tp K H (.ref a) (.tuple ds)
inductive TpAll (K : PySem.W.Frag) (H : Hp) : List V → List PyData → Prop
  | nil : TpAll K H [] []
  | cons {v : V} {vs : List V} {d : PyData} {ds : List PyData} : Tp K H v d → TpAll K H vs ds → TpAll K H (v :: vs) (d :: ds)
end
mutual
theorem tpKeep {K : PySem.W.Frag} {H H' : Hp} (s : Tm H H') : ∀ {d : PyData} {v : V}, Tp K H v d → Tp K H' v d
  | .none, _, h => by
    cases h
    exact .non
  | .bool b, _, h => by
    cases h
    exact .bl b
  | .int i, _, h => by
    cases h
    exact .int i
  | .str x, _, h => by
    cases h
    exact .str x
  | .list ds, _, h => by cases h
  | .tuple ds, _, h => by
    cases h with
    | tup a b => exact .tup (sqTm s a) (tpKeepAll s b)
  | .dict _, _, h => by cases h
theorem tpKeepAll {K : PySem.W.Frag} {H H' : Hp} (s : Tm H H') : ∀ {ds : List PyData} {vs : List V}, TpAll K H vs ds → TpAll K H' vs ds
  | [], _, h => by
    cases h
    exact .nil
  | d :: ds, _, h => by
    cases h with
    | cons a b => exact .cons (tpKeep s a) (tpKeepAll s b)
end
section
variable {K : PySem.W.Frag} {H : Hp}
mutual
theorem tpDp : ∀ {d : PyData} {v : V}, Tp K H v d → Dp K H v d
  | .none, _, h => by
    cases h
    exact .non
  | .bool b, _, h => by
    cases h
    exact .bl b
  | .int i, _, h => by
    cases h
    exact .int i
  | .str x, _, h => by
    cases h
    exact .str x
  | .list ds, _, h => by cases h
  | .tuple ds, _, h => by
    cases h with
    | tup a b => exact .tup a (tpDpAll b)
  | .dict _, _, h => by cases h
theorem tpDpAll : ∀ {ds : List PyData} {vs : List V}, TpAll K H vs ds → DpAll K H vs ds
  | [], _, h => by
    cases h
    exact .nil
  | d :: ds, _, h => by
    cases h with
    | cons a b => exact .cons (tpDp a) (tpDpAll b)
end
theorem tpTup {v : V} {ds : List PyData} (h : Tp K H v (.tuple ds)) : ∃ (a : Addr) (xs : List V), v = .ref a ∧ SqT K H a xs ∧ TpAll K H xs ds := by
  cases h with
  | tup a b => exact ⟨_, _, rfl, a, b⟩
theorem tpInt {v : V} {i : Int} (h : Tp K H v (.int i)) : v = .int i := by
  cases h
  rfl
theorem tpNon {v : V} (h : Tp K H v .none) : v = .non := by
  cases h
  rfl
theorem tpLen : ∀ {ds : List PyData} {vs : List V}, TpAll K H vs ds → vs.length = ds.length
  | [], _, h => by
    cases h
    rfl
  | d :: ds, _, h => by
    cases h with
    | cons a b => rw [List.length_cons, List.length_cons, tpLen b]
theorem tpGet : ∀ {ds : List PyData} {vs : List V} {i : Nat} {d : PyData}, TpAll K H vs ds → ds[i]? = some d → ∃ v, vs[i]? = some v ∧ Tp K H v d
  | [], _, _, _, _, e => by simp at e
  | d' :: ds, _, 0, d, h, e => by
    cases h with
    | cons a b =>
      have e : d' = d := Option.some.inj e
      subst e
      exact ⟨_, rfl, a⟩
  | d' :: ds, _, i + 1, d, h, e => by
    cases h with
    | cons a b => exact tpGet b (i := i) e
theorem tpGetV {ds : List PyData} {vs : List V} {i : Nat} {v : V} (h : TpAll K H vs ds) (e : vs[i]? = some v) : ∃ d, ds[i]? = some d ∧ Tp K H v d := by
  obtain ⟨lt, _⟩ := List.getElem?_eq_some_iff.mp e
  have lt' : i < ds.length := by rw [← tpLen h]; exact lt
  obtain ⟨v', e', hd⟩ := tpGet h (List.getElem?_eq_getElem lt')
  rw [e] at e'
  cases e'
  exact ⟨_, List.getElem?_eq_getElem lt', hd⟩
theorem tpApp : ∀ {ds es : List PyData} {vs us : List V}, TpAll K H vs ds → TpAll K H us es → TpAll K H (vs ++ us) (ds ++ es)
  | [], _, _, _, h, g => by
    cases h
    exact g
  | d :: ds, _, _, _, h, g => by
    cases h with
    | cons a b => exact .cons a (tpApp b g)
theorem tpInts : ∀ {ns : List Int} {vs : List V}, TpAll K H vs (ns.map .int) → vs = ns.map V.int
  | [], _, h => by
    cases h
    rfl
  | n :: ns, _, h => by
    cases h with
    | cons a b => rw [tpInt a, tpInts b]; rfl
theorem tpIntsMk : ∀ (ns : List Int), TpAll K H (ns.map V.int) (ns.map .int)
  | [] => .nil
  | n :: ns => .cons (.int n) (tpIntsMk ns)
end
/-! ### shapes -/
def Sh (k : Nat) (d : PyData) : Prop := d.canLay0 = true ∧ d.depth ≤ k
theorem shInt (k : Nat) (i : Int) : Sh k (.int i) := ⟨by simp [PyData.canLay0], by simp [PyData.depth]⟩
theorem shNon (k : Nat) : Sh k .none := ⟨by simp [PyData.canLay0], by simp [PyData.depth]⟩
theorem shStr (k : Nat) {x : Str} (h : PyData.strOk x = true) : Sh k (.str x) := ⟨by simp [PyData.canLay0, h], by simp [PyData.depth]⟩
theorem shAll {k : Nat} : ∀ {ds : List PyData}, (∀ d ∈ ds, Sh k d) → PyData.canLayAll0 ds = true ∧ PyData.depthAll ds ≤ k
  | [], _ => ⟨by simp [PyData.canLayAll0], by simp [PyData.depthAll]⟩
  | d :: ds, h => by
    obtain ⟨a, b⟩ := h d List.mem_cons_self
    obtain ⟨c, e⟩ := shAll (ds := ds) fun x hx => h x (List.mem_cons_of_mem _ hx)
    refine ⟨by simp [PyData.canLayAll0, a, c], ?_⟩
    simp only [PyData.depthAll]
    omega
theorem shTup {k : Nat} {ds : List PyData} (h : ∀ d ∈ ds, Sh k d) : Sh (k + 1) (.tuple ds) := by
  obtain ⟨a, b⟩ := shAll h
  refine ⟨by simp [PyData.canLay0, a], ?_⟩
  simp only [PyData.depth]
  omega
theorem shLst {k : Nat} {ds : List PyData} (h : ∀ d ∈ ds, Sh k d) : Sh (k + 1) (.list ds) := by
  obtain ⟨a, b⟩ := shAll h
  refine ⟨by simp [PyData.canLay0, a], ?_⟩
  simp only [PyData.depth]
  omega
theorem shaped_of {k : Nat} {d : PyData} (h : Sh k d) (hk : k ≤ 64) : SeqAt.shaped d = true := by
  unfold SeqAt.shaped
  rw [h.1, decide_eq_true (Nat.le_trans h.2 hk)]
  rfl
theorem shInts (k : Nat) (ns : List Int) : ∀ d ∈ ns.map PyData.int, Sh k d := fun d hd => by
  obtain ⟨i, _, rfl⟩ := List.mem_map.mp hd
  exact shInt k i
theorem eqvInts : ∀ (xs ys : List Int), PyData.eqvAll (xs.map .int) (ys.map .int) = decide (xs = ys)
  | [], [] => by simp [PyData.eqvAll]
  | [], y :: ys => by simp [PyData.eqvAll]
  | x :: xs, [] => by simp [PyData.eqvAll]
  | x :: xs, y :: ys => by
    rw [List.map_cons, List.map_cons]
    simp only [PyData.eqvAll, PyData.eqv]
    rw [eqvInts xs ys]
    by_cases h : x = y <;> by_cases g : xs = ys <;> simp [h, g]
theorem eqvTupInts (xs ys : List Int) : PyData.eqv (.tuple (xs.map .int)) (.tuple (ys.map .int)) = decide (xs = ys) := by
  simp only [PyData.eqv]
  exact eqvInts xs ys
theorem eqvLstInts (xs ys : List Int) : PyData.eqv (.list (xs.map .int)) (.list (ys.map .int)) = decide (xs = ys) := by
  simp only [PyData.eqv]
  exact eqvInts xs ys
/-! ### the plan, the state, the places as data -/
abbrev Rt := List (List (Option Nat))
def natsI (l : List Nat) : List Int := l.map fun (k : Nat) => (k : Int)
theorem natsI_inj {a b : List Nat} (h : natsI a = natsI b) : a = b := by
  unfold natsI at h
  exact List.map_inj_right (fun x y e => Int.ofNat.inj e) |>.mp h
def entV : Option Nat → V
  | none => .non
  | some k => .int k
def entD : Option Nat → PyData
  | none => .none
  | some k => .int k
def szD (sz : List Nat) : PyData := .tuple ((natsI sz).map .int)
def roD (ro : List (Option Nat)) : PyData := .tuple (ro.map entD)
def planD (sz : List Nat) (rt : Rt) : PyData := .tuple [szD sz, .tuple (rt.map roD)]
def effD (e : List Nat) : PyData := .tuple ((natsI e).map .int)
def intsD (xs : List Int) : PyData := .tuple (xs.map .int)
/-- the parcels on a shelf -/
def chunk (sz : List Nat) (m : Nat) (xs : List Int) (s : Nat) : List Int := (xs.drop (m + (sz.take s).sum)).take (sz.getD s 0)
def stD (sz : List Nat) (m : Nat) (t : Int) (xs : List Int) : PyData := .tuple [.int t, intsD (xs.take m), .tuple ((List.range sz.length).map fun s => intsD (chunk sz m xs s))]
inductive Pl where
  | car (c : Nat)
  | shf (s p : Nat)
  deriving DecidableEq
def plD : Pl → PyData
  | .car c => .tuple [.str "carrier", .int c]
  | .shf s p => .tuple [.str "shelf", .int s, .int p]
def shelfP (sz : List Nat) (s : Nat) : List Pl := (List.range (sz.getD s 0)).map fun p => .shf s p
def placesP (sz : List Nat) (m i : Nat) : List Pl := (List.range m).map .car ++ (List.range i).flatMap (shelfP sz)
def placesL (sz : List Nat) (m : Nat) : List Pl := placesP sz m sz.length
theorem placesP_succ (sz : List Nat) (m i : Nat) : placesP sz m (i + 1) = placesP sz m i ++ shelfP sz i := by
  unfold placesP
  rw [List.range_succ, List.flatMap_append, ← List.append_assoc]
  simp
theorem placesP_len (sz : List Nat) (m : Nat) : ∀ i, i ≤ sz.length → (placesP sz m i).length = m + (sz.take i).sum
  | 0, _ => by simp [placesP]
  | i + 1, h => by
    rw [placesP_succ, List.length_append, placesP_len sz m i (by omega), take_more (some_of_lt 0 (by omega : i < sz.length)), List.sum_append]
    simp [shelfP]
    omega
theorem placesL_len (sz : List Nat) (m : Nat) : (placesL sz m).length = m + sz.sum := by
  unfold placesL
  rw [placesP_len sz m _ (Nat.le_refl _), List.take_length]
theorem placesL_nodup (sz : List Nat) (m : Nat) : (placesL sz m).Nodup := by
  unfold placesL placesP
  rw [List.nodup_append]
  refine ⟨?_, ?_, ?_⟩
  · rw [List.nodup_iff_pairwise_ne, List.pairwise_map]
    exact List.nodup_range.imp fun h e => h (by cases e; rfl)
  · rw [List.nodup_iff_pairwise_ne, List.pairwise_flatMap]
    refine ⟨fun s _ => ?_, ?_⟩
    · unfold shelfP
      rw [List.pairwise_map]
      exact List.nodup_range.imp fun h e => h (by cases e; rfl)
    · refine List.nodup_range.imp fun h x hx y hy e => ?_
      unfold shelfP at hx hy
      obtain ⟨p, _, rfl⟩ := List.mem_map.mp hx
      obtain ⟨q, _, rfl⟩ := List.mem_map.mp hy
      cases e
      exact h rfl
  · intro a ha b hb e
    obtain ⟨c, _, rfl⟩ := List.mem_map.mp ha
    obtain ⟨s, _, hb⟩ := List.mem_flatMap.mp hb
    unfold shelfP at hb
    obtain ⟨p, _, rfl⟩ := List.mem_map.mp hb
    cases e
theorem plSh (p : Pl) : Sh 1 (plD p) := by
  cases p with
  | car c =>
    refine shTup fun d hd => ?_
    rcases List.mem_cons.mp hd with e | hd
    · rw [e]; exact shStr 0 (by decide +kernel)
    · obtain rfl := List.mem_singleton.mp hd
      exact shInt 0 _
  | shf s p =>
    refine shTup fun d hd => ?_
    rcases List.mem_cons.mp hd with e | hd
    · rw [e]; exact shStr 0 (by decide +kernel)
    · rcases List.mem_cons.mp hd with e | hd
      · rw [e]; exact shInt 0 _
      · obtain rfl := List.mem_singleton.mp hd
        exact shInt 0 _
theorem carShelf : (("carrier" : Str) == ("shelf" : Str)) = false := by decide +kernel
theorem plEqv (p q : Pl) : PyData.eqv (plD p) (plD q) = decide (p = q) := by
  have e0 : (("carrier" : Str) == ("shelf" : Str)) = false := carShelf
  have e1 : (("shelf" : Str) == ("carrier" : Str)) = false := by decide +kernel
  cases p with
  | car c =>
    cases q with
    | car c' =>
      simp only [plD, PyData.eqv, PyData.eqvAll, beq_self_eq_true, Bool.true_and, Bool.and_true]
      by_cases h : c = c'
      · subst h; simp
      · have : ((c : Int) == (c' : Int)) = false := by simp; omega
        rw [this]
        simp [h]
    | shf s r => simp [plD, PyData.eqv, PyData.eqvAll, e0]
  | shf s r =>
    cases q with
    | car c' => simp [plD, PyData.eqv, PyData.eqvAll, e1]
    | shf s' r' =>
      simp only [plD, PyData.eqv, PyData.eqvAll, beq_self_eq_true, Bool.true_and, Bool.and_true]
      by_cases h : s = s'
      · subst h
        by_cases g : r = r'
        · subst g; simp
        · have : ((r : Int) == (r' : Int)) = false := by simp; omega
          rw [this]
          simp [g]
      · have : ((s : Int) == (s' : Int)) = false := by simp; omega
        rw [this]
        simp [h]
end K14
/-! ## K14R -/
namespace K14
open PySem PySem.Spec PyProof.Rows L2
/-! ### enumerate(v) of one argument, v told by how its iterator begins -/
section
variable {prog : Program} {w : World} {A : Around} {E : Value → Shared → Prop} {s : Shared}
/-- the enumerate object over the iterator at it, at the count 0 -/
abbrev enumObj (it : Addr) : Obj := { cls := .type "enumerate", data := .fields #[.none, .bool false, .ref it, rawInt 0, .none, .none] }
set_option maxHeartbeats 1000000 in
theorem enumNew {v : Value} {o : Obj} {G : Heap → Prop} (B : Begins v o G) :
    Meets (Builtin.«enumerate.__new__» ⟨[.type "enumerate", v], []⟩) (fun _ R s => G s.heap ∧ R (.ok (.ret (.ref (s.heap.push o).objs.size))) { s with heap := (s.heap.push o).push (enumObj s.heap.objs.size) }) := by
  refine .of_wp fun prog w A R s h => ?_
  obtain ⟨hp, g, d, tk, os⟩ := s
  obtain ⟨hg, hR⟩ := h
  have isSub := sub_enumerate
  have begin_ : ∀ {A' : Around} {E' : Value → Shared → Prop} {Q' : Value → Shared → Prop}, Q' (.ref hp.objs.size) ⟨hp.push o, g, d, tk, os⟩ → wpAny (model prog w) A' (pyIter v) Q' E' ⟨hp, g, d, tk, os⟩ :=
    fun q => B.iter prog w _ _ _ _ hg q
  wp_walk using begin_
  refine wpAny_stack_any fun st => wpAny_pure ?_
  split
  · rename_i c _ _ _ _ _
    cases (c == Value.type "enumerate") <;> (wp_walk using begin_; exact ⟨_, rfl, hR⟩)
  · wp_walk using begin_
    exact ⟨_, rfl, hR⟩
theorem enumCall {v : Value} {o : Obj} {G : Heap → Prop} {Q : Value → Shared → Prop} (B : Begins v o G) (hg : G s.heap)
    (h : ∀ h', IsEnum h' (s.heap.objs.size + 1) s.heap.objs.size 0 .none → h'.get? s.heap.objs.size = some o → (∀ b u, s.heap.get? b = some u → h'.get? b = some u) → Q (.ref (s.heap.objs.size + 1)) { s with heap := h' }) :
    wpAny (model prog w) A (call (.type "enumerate") [v]) Q E s := by
  have sz : (s.heap.push o).objs.size = s.heap.objs.size + 1 := Heap.size_push ..
  have top_ := Heap.get?_push_size (s.heap.push o) (o := enumObj s.heap.objs.size) rfl
  rw [sz] at top_
  refine callType_new F.called_enumerate (by decide) (F.typeCall_enumerate_1 _) (F.newCall_enumerate_1 _) (fun obj => F.args_object_init_2 obj _) F.entry_enumerate_new (enumNew B) ⟨hg, ?_⟩
  show _ ∧ _
  rw [sz]
  exact ⟨⟨_, top_, rfl⟩, h _ top_ (Heap.get?_push_of_some _ (Heap.get?_push_size _ B.free)) fun b u x => Heap.get?_push_of_some _ (Heap.get?_push_of_some _ x)⟩
end
/-- the tuple at a, each item in a new pair with its place -/
def IteT (K : PySem.W.Frag) (a : Addr) : It :=
  ⟨fun i H => ∃ (xs : List V) (x : V), SqT K H a xs ∧ xs[i]? = some x,
    fun i H v H' => ∃ (T : Addr) (x : V), v = .ref T ∧ H T = none ∧ H' = upd H T (.tup [.int (i : Nat), x]) ∧ ∀ xs, SqT K H a xs → xs[i]? = some x,
    fun i H => ∃ xs : List V, SqT K H a xs ∧ xs.length ≤ i⟩
theorem two_mem {b e t : Addr} (h : b ∈ [e, t]) : b = e ∨ b = t := by simpa using h
theorem turnT {P : Program} {w : World} {K : PySem.W.Frag} {elts : List Expr} {kk : Nat} {tpos : Pos} (a e t : Addr) :
    Turn P w K (.Tuple elts kk tpos) (IteT K a) [e, t] e (fun i h => (∃ old, IsEnum h e t ((i : Nat) : Int) old) ∧ h.IsTupleIter t a i ∧ e ≠ t) where
  mem := by simp
  obj := by
    rintro i h ⟨⟨old, he⟩, ⟨o, ho, _, hd⟩, _⟩ b hb
    rcases two_mem hb with q | q
    · subst q
      exact ⟨_, he, fun v z => nomatch z⟩
    · subst q
      exact ⟨o, ho, fun v z => by rw [hd] at z; cases z⟩
  keep := by
    rintro i h h' ⟨⟨old, he⟩, ht, hne⟩ k
    exact ⟨⟨old, k e (by simp) _ he⟩, ht.at fun o q => k t (by simp) o q, hne⟩
  item := by
    intro X hP hw hK hc i pins s σ H E I hf st hg
    subst hP hw hK
    obtain ⟨⟨old, he⟩, ht, hne⟩ := st
    obtain ⟨xs, x, hq, hx⟩ := hg
    obtain ⟨its, rv, p, _⟩ := I.tuple hq
    obtain ⟨u, hu, ru⟩ := rv.get hx
    have le : e < s.heap.objs.size := Heap.lt_size he
    have lt : t < s.heap.objs.size := by obtain ⟨_, q, _⟩ := ht; exact Heap.lt_size q
    have nat : a ≠ t := by
      rintro rfl
      obtain ⟨o, ho, _, hd⟩ := ht
      obtain ⟨o', ho', _, n, hd'⟩ := p
      rw [ho] at ho'
      cases ho'
      rw [hd] at hd'
      cases hd'
    have nae : a ≠ e := by
      rintro rfl
      obtain ⟨o', ho', _, n, hd'⟩ := p
      rw [he] at ho'
      cases ho'
      cases hd'
    have D := Draws.tuple (prog := X.prog) (w := X.w) (A := X.A.in1) (I.ok.hd hc) t a nat its.toArray
    have lu : i < its.toArray.size := by
      have := (List.getElem?_eq_some_iff.mp hu).1
      simpa using this
    have nef : e ∉ [t, a] := fun z => by
      rcases two_mem z with q | q
      · exact hne q
      · exact nae q.symm
    refine wpAny_pyNext_enum_itemD D he ⟨ht, (show s.heap.IsTuple a its.toArray from p)⟩ lu hne nef fun y h' tk hy ho st' hT hsz hk => ?_
    have ey : y = u := by
      have z : its.toArray[i]? = some u := by simpa using hu
      rw [z] at hy
      exact (Option.some.inj hy).symm
    subst ey
    refine ⟨_, rfl, wpAny_letOwnedTupleGo_enum (s := { s with heap := h', toks := tk + 1 }) ho fun h2 he2 sb => ?_⟩
    have hT2 : h2.get? s.heap.objs.size = some { cls := .type "tuple", data := .seq #[.int i tk, y] } := (sb.2 _ (Nat.ne_of_gt le)).trans hT
    have fresh : H s.heap.objs.size = none := I.hok.fresh (Nat.le_refl _)
    have new : ObjOk X.prog X.w (upd H s.heap.objs.size (.tup [.int (i : Nat), x])) h2 s.heap.objs.size (.tup [.int (i : Nat), x]) :=
      ⟨by show 2 ≤ sizeLine; decide, [.int i tk, y], .cons ⟨_, rfl⟩ (.cons ru .nil), ⟨_, hT2, rfl, _, rfl⟩⟩
    have I1 : Inv X pins σ (upd H s.heap.objs.size (.tup [.int (i : Nat), x])) { s with heap := h2, toks := tk + 1 } :=
      I.turnedNew (ch := [e, t]) (fun b ob hb q => (sb.2 b fun z => hb (by simp [z])).trans (hk b ob (fun z => hb (by simp [z])) (fun z => hb (by simp [z])) q)) hf (Nat.le_refl _) new
    refine ⟨.ref s.heap.objs.size, _, I1, rfl, ⟨_, x, rfl, fresh, rfl, fun ys hy' => by rw [I.tuple_inj hy' hq]; exact hx⟩, ⟨⟨y, ?_⟩, st'.1.at fun o q => (sb.2 t (Ne.symm hne)).trans q, hne⟩, fun b hb => ?_⟩
    · rw [show ((i + 1 : Nat) : Int) = (i : Int) + 1 by omega]
      exact he2
    · have hb' : b < s.heap.objs.size := by
        rcases two_mem hb with q | q
        · rw [q]; exact le
        · rw [q]; exact lt
      rw [upd_ne (Nat.ne_of_lt hb')]
      exact (hf b hb).1
  done := by
    intro X hP hw hK hc i pins s σ H E I hf st hg
    subst hP hw hK
    obtain ⟨⟨old, he⟩, ht, hne⟩ := st
    obtain ⟨xs, hq, hx⟩ := hg
    obtain ⟨its, rv, p, _⟩ := I.tuple hq
    obtain ⟨f0, f1, f2, f3, f4, f5⟩ := hf t (by simp)
    unfold pyNext
    have hT : s.TypeIs (.ref e) "enumerate" := ⟨_, he, rfl⟩
    have len := rv.length
    refine wpAny_bind (wpAny_attempt (wpAny_callSpecial?_slot (name := Str.ofString "__next__") hT F.slot_enumerate_next
      (wpAny_call_entry F.slot_enumerate_next hT F.entry_enumerate_next ?_ (F.args_enumerate_next_1 _))))
    show wpAny _ _ (field (.ref e) 2 >>= _) _ _ _
    refine wpAny_bind (wpAny_field he rfl (x := .ref t) rfl ?_)
    refine wpAny_bind (wpAny_nextOf_tuple_end (I.ok.hd hc) ht (show s.heap.IsTuple a its.toArray from p) (by simp; omega) fun h' x eb hx' => ?_)
    obtain ⟨o, ho, hc'⟩ := hx'
    refine wpAny_bind (wpAny_isInstance (T := "StopIteration") (b := true) ⟨o, ho, hc'⟩ isSubtype_stop ?_)
    exact wpAny_pure ⟨rfl, I.turned (t' := s.toks) (fun b o hb q => eb b o hb q) f0 f1 f3 f4 f5⟩
  self := fun A i s Q E st h => let ⟨⟨_, he⟩, _⟩ := st; wpAny_pyIter_enum he h
def iEnumT (K : PySem.W.Frag) (ta : TA) : TI := fun σ H R => ta σ H fun vs H1 => ∃ a xs, vs = [.ref a] ∧ SqT K H1 a xs ∧ R (IteT K a) H1
theorem pi_enumT {X : Cx} {e : Expr} {ta : TA} {p pos tpos : Pos} {elts : List Expr} {kk : Nat} (hg : Gl X "enumerate") (hm : X.mg "enumerate" = none) (ha : PA X [e] ta) (hs : starEach [e] X.env = [(false, eval e X.env)] := by rfl) :
    PI X (.Tuple elts kk tpos) (.Call (.Name "enumerate" p) [e] [] pos) (iEnumT X.K ta) := by
  refine ⟨fun pins s σ H R I h => ?_⟩
  refine Call_ (ld_blt I hg hm boot_enumerate (PyProof.Rows.callWith_type1 (thn (ha.run pos pins s σ H _ I h) fun us s1 hh => ?_) hs rfl))
  obtain ⟨vs, H1, I1, r1, a, xs, ex, hq, q⟩ := hh
  subst ex
  cases r1 with
  | cons r rr =>
    cases rr
    cases r
    obtain ⟨its, rv, p', hz⟩ := I1.tuple hq
    refine enumCall (begins_tuple a its.toArray) (show s1.heap.IsTuple a its.toArray from p') fun h' he ho hk => wpAny_pyIter_enum he ?_
    have I2 : Inv X pins σ H1 { s1 with heap := h' } := I1.kept (t' := s1.toks) hk
    refine ⟨s1.heap.objs.size + 1, [s1.heap.objs.size + 1, s1.heap.objs.size], _, _, H1, rfl, I2, turnT a (s1.heap.objs.size + 1) s1.heap.objs.size, ⟨⟨.none, he⟩, ⟨_, ho, rfl, rfl⟩, Nat.succ_ne_self _⟩, fun b hb => ?_, q⟩
    have hle : s1.heap.objs.size ≤ b := by
      rcases two_mem hb with z | z
      · rw [z]; exact Nat.le_succ _
      · rw [z]; exact Nat.le_refl _
    exact I1.fpOk hle (I1.hok.fresh hle)
theorem walkT {K : PySem.W.Frag} {a : Addr} {xs : List V} : Walk (IteT K a) xs.length (fun H => SqT K H a xs) (YPair (fun i => some (.int (i : Nat))) (fun i => xs[i]?)) where
  goes := fun i H hi h => ⟨xs, xs[i], h, List.getElem?_eq_getElem hi⟩
  stops := fun H h => ⟨xs, h, Nat.le_refl _⟩
  yields := fun i H x H' hi h y => by
    obtain ⟨T, z, e1, e2, e3, e4⟩ := y
    exact ⟨T, .int (i : Nat), z, e1, e2, e3, rfl, e4 xs h⟩
/-- a for over places and items, two plain names as target -/
theorem for_pairs {J : It} {n : Nat} {G : Hp → Prop} {K : PySem.W.Frag} {f : Nat → Option V} {j1 j2 : Nat} {tb : TS} {D : Ends} {σ : L2.St} {H : Hp} (w : Walk J n G (YPair (fun i => some (.int (i : Nat))) f))
    (Pv : Nat → L2.St → Hp → Prop) (h0 : Pv 0 σ H) (hG : ∀ i σ H, i ≤ n → Pv i σ H → G H)
    (hs : ∀ i x σ H T, i < n → f i = some x → Pv i σ H → H T = none → tb { D with nx := Pv (i + 1), ct := Pv (i + 1), bk := D.nx } ((σ.set j1 (some (.int (i : Nat)))).set j2 (some x)) (upd H T (.tup [.int (i : Nat), x])))
    (hd : ∀ σ H, Pv n σ H → D.nx σ H) :
    ∃ W : Nat → Nat → L2.St → Hp → Prop, (∃ m, W 0 m σ H) ∧ ∀ i m σ H, W i m σ H →
      (J.stop i H ∧ D.nx σ H) ∨ (J.go i H ∧ ∃ N : L2.St → Hp → Prop, (∀ σ' H', N σ' H' → ∃ m', m' < m ∧ W (i + 1) m' σ' H') ∧ ∀ x H', J.yld i H x H' → gTup K 2 (gCons (gName j1) (gCons (gName j2) gNil)) x σ H' fun σ2 H2 => tb { D with nx := N, ct := N, bk := D.nx } σ2 H2) := by
  refine for_it w Pv h0 hG (fun i x σ H H' hi p y => ?_) hd
  obtain ⟨T, a, b, rfl, hT, rfl, ea, eb⟩ := y
  cases ea
  exact ⟨T, _, rfl, SqT.of upd_same, rfl, _, _, rfl, _, _, rfl, rfl, hs i b σ H T hi eb p hT⟩
/-! ### sum of a tuple of ints -/
theorem iterIntTup {prog : Program} {w : World} {A : Around} {E : Value → Shared → Prop} {s : Shared} {l : Addr} {items : Array Value} {Q : Value → Shared → Prop} (hl : s.heap.IsTuple l items)
    (h : ∀ s2 : Shared, s2 = { s with heap := s.heap.push { cls := .type "tuple_iterator", data := .fields #[.ref l, .int 0 0] } } → s2.heap.IsTupleIter s.heap.objs.size l 0 → s2.heap.IsTuple l items → l ≠ s.heap.objs.size → Q (.ref s.heap.objs.size) s2) :
    wpAny (model prog w) A (pyIter (.ref l)) Q E s := by
  have lt : l < s.heap.objs.size := by
    obtain ⟨o, ho, _⟩ := hl
    exact Heap.lt_size ho
  exact wpAny_pyIter_tuple hl (h _ rfl ⟨_, Heap.get?_push_size _ rfl, rfl, rfl⟩ (hl.at fun o e => Heap.get?_push_of_some _ e) (Nat.ne_of_lt lt))
theorem sumTupRaw {prog : Program} {w : World} {A : Around} {E : Value → Shared → Prop} {s : Shared} {l : Addr} {its : List Value} {ns : List Int} {Q : Value → Shared → Prop} (hh : A.handled = none) (hl : s.heap.IsTuple l its.toArray) (hi : IntsAre its ns)
    (h : ∀ h' tk t', (∀ b o, s.heap.get? b = some o → h'.get? b = some o) → Q (.int ns.sum t') { s with heap := h', toks := tk }) : wpAny (model prog w) A (call (.builtin "sum") [.ref l]) Q E s := by
  obtain ⟨xs, e⟩ := hi.allInts.items
  have hn : numsOf (intItems xs).toList = ns := by rw [← e]; exact hi.numsOf
  rw [nums_intItems] at hn
  rw [e] at hl
  refine call_sum_walkG (iterIntTup hl fun s2 es st htp hne => ?_)
  subst es
  have lt : l < s.heap.objs.size := by
    obtain ⟨o, ho, _⟩ := hl
    exact Heap.lt_size ho
  refine ⟨_, _, _, _, _, _, numAt xs, rfl, Walks.tuple (A := A.in1) hh _ l hne (intItems xs), ⟨st, htp⟩, fun b hb => ?_, (fun _ _ => intItems_at), fun h' tk t' hk => ?_⟩
  · rw [Heap.size_push]
    rcases two_mem hb with q | q
    · rw [q]; exact Nat.lt_succ_self _
    · rw [q]; exact Nat.lt_succ_of_lt lt
  · have := h h' tk t' fun b o q => hk b o (by simpa using Nat.ne_of_lt (Heap.lt_size q)) (Heap.get?_push_of_some _ q)
    rw [← hn] at this
    have sz : (intItems xs).size = xs.size := by simp [intItems]
    rw [sz, preSum_eq, List.take_of_length_le (by simp)]
    exact this
def rSumT (K : PySem.W.Frag) : List V → Hp → VK → Prop := fun vs H Q => ∃ (a : Addr) (ns : List Int), vs = [V.ref a] ∧ SqT K H a (ns.map V.int) ∧ Q (.int ns.sum) H
theorem cr_sumT {X : Cx} (hc : X.calm = true) : CallR X (.builtin "sum") (rSumT X.K) := by
  intro pins s σ H xs us Q I r h
  obtain ⟨a, ns, rfl, hq, q⟩ := h
  obtain ⟨u, rfl, ru⟩ := vals1 r
  cases ru
  obtain ⟨its, rv, p, _⟩ := I.tuple hq
  exact sumTupRaw (I.ok.hd hc) (show s.heap.IsTuple a its.toArray from p) rv.ints fun h' tk t' hk => ⟨.int _, H, I.kept hk, ⟨_, rfl⟩, q⟩

/-! ### xs[lo:hi] = ys, ys another list -/
def gSlice (to : TE) (tl th : TO) : TG := fun v σ H Q => to σ H fun o H1 => tl σ H1 fun l H2 => th σ H2 fun u H3 =>
  ∃ (p b : Addr) (xs ys : List V) (a c : Int), v = .ref b ∧ o = .ref p ∧ l = some a ∧ u = some c ∧ H3 p = some (.lst xs) ∧ H3 b = some (.lst ys) ∧ p ≠ b ∧ 0 ≤ a ∧ a ≤ c ∧ c ≤ xs.length ∧ xs.length + ys.length ≤ sizeLine ∧
    Q σ (upd H3 p (.lst (xs.take a.toNat ++ ys ++ xs.drop c.toNat)))
theorem part_int {v : Value} {a : Int} (h : IsPart v (some a)) : RelV (.int a) v := by
  cases h
  exact ⟨_, rfl⟩
theorem pg_slice {X : Cx} {o : Expr} {lo hi : Option Expr} {to : TE} {tl th : TO} {p2 pos : Pos} (ho : PE X o to) (hl : PO X lo tl) (hh : PO X hi th)
    (ha : ∀ v, assign (.Subscript o (.Slice lo hi none p2) pos) X.env v = (do
      let ov ← holding [v] (eval o X.env)
      let iv ← holding [v, ov] (eval (.Slice lo hi none p2) X.env)
      standAt pos
      holding [v, ov, iv] (setItem ov iv v)
      release [iv, v, ov] []) := by intro _; rfl) : PG X (.Subscript o (.Slice lo hi none p2) pos) (gSlice to tl th) := by
  refine ⟨fun pins s σ H v u Q I r h => ?_⟩
  rw [ha]
  refine wpAny_bind (wpAny_holding (thn (ho.run pins s σ H _ I h) fun ov s1 ⟨x, H1, I1, r1, q1⟩ => ?_))
  refine wpAny_bind (wpAny_holding (wpAny_Slice (thn (hl.run pins s1 σ H1 _ I1 q1) fun vl s2 ⟨l, H2, I2, pl, q2⟩ => thn (hh.run pins s2 σ H2 _ I2 q2) fun vu s3 ⟨c', H3, I3, pu, q3⟩ => ?_)))
  rw [evalPart_none]
  obtain ⟨pa, b, xs, ys, a, c, ev, ex, el, eu, hp, hb, ne, h0, hac, hc, hz, q⟩ := q3
  subst ev ex el eu
  cases r
  cases r1
  have I4 : Inv X pins σ H3 { s3 with heap := s3.heap.push { cls := .type "slice", data := .fields #[vl, vu, .none] } } := I3.kept (t' := s3.toks) fun b ob q => Heap.get?_push_of_some _ q
  refine wpAny_pure (wpAny_bind (wpAny_standAt (wpAny_bind (wpAny_holding ?_))))
  refine set_slice I4 hp hb ne (Heap.IsSliceOf.new ..) (part_int pl) (part_int pu) h0 hac hc hz fun s5 I5 => ?_
  exact wpAny_release ⟨σ, _, I5, q⟩
end K14
/-! ## K14K -/
namespace K14
open PySem PySem.Spec PyProof.Rows L2
/-! ### the rules with the written part K told (a reading then never names the context) -/
theorem b_int : bootBuiltins "int" = some (.type "int") := by decide +kernel
theorem b_tuple : bootBuiltins "tuple" = some (.type "tuple") := by decide +kernel
theorem b_list : bootBuiltins "list" = some (.type "list") := by decide +kernel
theorem b_dict : bootBuiltins "dict" = some (.type "dict") := by decide +kernel
theorem b_str : bootBuiltins "str" = some (.type "str") := by decide +kernel
theorem b_bool : bootBuiltins "bool" = some (.type "bool") := by decide +kernel
theorem b_ValueError : bootBuiltins "ValueError" = some (.type "ValueError") := by decide +kernel
theorem b_all : bootBuiltins "all" = some (.builtin "all") := by decide +kernel
theorem b_len : bootBuiltins "len" = some (.builtin "len") := by decide +kernel
theorem b_sum : bootBuiltins "sum" = some (.builtin "sum") := by decide +kernel
theorem b_sorted : bootBuiltins "sorted" = some (.builtin "sorted") := by decide +kernel
theorem b_max : bootBuiltins "max" = some (.builtin "max") := by decide +kernel
theorem b_isinstance : bootBuiltins "isinstance" = some (.builtin "isinstance") := by decide +kernel
section
variable {X : Cx} {K : PySem.W.Frag}
theorem gInt {x : Str} {i : Int} {pos : Pos} (hm : ∃ t, X.mg x = some (.int i t)) (hg : Gl X x) (hd : (x == ("__debug__" : Str)) = false := by decide) : PE X (.Name x pos) (tC (.int i)) := by
  obtain ⟨t, ht⟩ := hm
  exact pe_glob hg ht ⟨t, rfl⟩ hd
theorem gStr {x z : Str} {pos : Pos} (hm : ∃ t, X.mg x = some (.str z t)) (hg : Gl X x) (hd : (x == ("__debug__" : Str)) = false := by decide) : PE X (.Name x pos) (tC (.str z)) := by
  obtain ⟨t, ht⟩ := hm
  exact pe_glob hg ht ⟨t, rfl⟩ hd
def rLenK (K : PySem.W.Frag) : List V → Hp → VK → Prop := fun xs H Q => ∃ p ys, xs = [V.ref p] ∧ (SqL K H p ys ∨ SqT K H p ys) ∧ Q (.int ys.length) H
theorem k_len (hK : X.K = K := by rfl) : CallR X (.builtin "len") (rLenK K) := by subst hK; exact call_len_seq
theorem k_all (hc : X.calm = true) (hK : X.K = K := by rfl) : CallR X (.builtin "all") (rAll K) := by subst hK; exact cr_all hc
theorem k_sum (hc : X.calm = true) (hK : X.K = K := by rfl) : CallR X (.builtin "sum") (rSum K) := by subst hK; exact cr_sum hc
theorem k_sumT (hc : X.calm = true) (hK : X.K = K := by rfl) : CallR X (.builtin "sum") (rSumT K) := by subst hK; exact cr_sumT hc
theorem k_sorted (hK : X.K = K := by rfl) : CallR X (.builtin "sorted") (rSortedI K) := by subst hK; exact cr_sortedI
def rSortT (K : PySem.W.Frag) : List V → Hp → VK → Prop := fun vs H Q => ∃ (a : Addr) (ns : List Int), vs = [V.ref a] ∧ SqT K H a (ns.map V.int) ∧
  ∀ (ns' : List Int) (p : Addr), ns'.Perm ns → ns'.Pairwise (· ≤ ·) → H p = none → Q (.ref p) (upd H p (.lst (ns'.map V.int)))
def rListK (K : PySem.W.Frag) : List V → Hp → VK → Prop := fun xs H Q => ∃ p ys, xs = [.ref p] ∧ (SqL K H p ys ∨ SqT K H p ys) ∧ ∀ l, H l = none → Q (.ref l) (upd H l (.lst ys))
theorem k_list (hK : X.K = K := by rfl) : CallR X (.type "list") (rListK K) := by subst hK; exact call_list_of
def rTupK (K : PySem.W.Frag) : List V → Hp → VK → Prop := fun xs H Q => ∃ p ys, xs = [.ref p] ∧ ((SqL K H p ys ∧ ∀ l, H l = none → Q (.ref l) (upd H l (.tup ys))) ∨ (SqT K H p ys ∧ Q (.ref p) H))
theorem k_tuple (hK : X.K = K := by rfl) : CallR X (.type "tuple") (rTupK K) := by subst hK; exact call_tuple_of
theorem k_ixT (hK : X.K = K := by rfl) : IxR X (rIxT K) := by subst hK; exact ix_tup
theorem k_ixL (hK : X.K = K := by rfl) : IxR X (rIxL K) := by subst hK; exact ix_list
theorem k_slL (hK : X.K = K := by rfl) : SlR X (rSlL K) := by subst hK; exact sl_list
theorem k_slT (hK : X.K = K := by rfl) : SlR X (rSlA K) := by subst hK; exact sl_tupA
theorem k_in (hK : X.K = K := by rfl) : OpR X (compareOp .In) (rIn K false) := by subst hK; exact op_in_seq
theorem k_notin (hK : X.K = K := by rfl) : OpR X (compareOp .NotIn) (rIn K true) := by subst hK; exact op_notIn_seq
theorem k_inD (hu : X.A.units + 65 < cLine) (hK : X.K = K := by rfl) : OpR X (compareOp .In) (rInD K) := by subst hK; exact op_inD hu
theorem k_eqD (hu : X.A.units + 64 < cLine) (hK : X.K = K := by rfl) : OpR X (compareOp .Eq) (rEqD K) := by subst hK; exact op_eqD hu
theorem k_neD (hu : X.A.units + 64 < cLine) (hK : X.K = K := by rfl) : OpR X (compareOp .NotEq) (rNeD K) := by subst hK; exact op_neD hu
theorem k_catT (hK : X.K = K := by rfl) : OpR X (binaryOp .Add) (rCatA K) := by subst hK; exact op_catA
theorem k_repT (hK : X.K = K := by rfl) : OpR X (binaryOp .Mult) (rRepT K) := by subst hK; exact op_repT
theorem k_index (hK : X.K = K := by rfl) : MtR X "list.index" (rIndex K) := by subst hK; exact mt_index
theorem k_indexD (hu : X.A.units + 65 < cLine) (hK : X.K = K := by rfl) : MtR X "list.index" (rIndexD K) := by subst hK; exact mt_indexD hu
variable {e o l tg : Expr} {es elts : List Expr} {te to tl : TE} {t : TA} {ts : TGs} {p pos tpos apos cpos : Pos} {kk k n : Nat} {name : Str} {Ty id : String} {r : V → List V → Hp → VK → Prop}
theorem ki_tup (hl : PE X l tl) (hK : X.K = K := by rfl) : PI X tg l (iTup K tl) := by subst hK; exact pi_tup hl
theorem ki_list (hl : PE X l tl) (hK : X.K = K := by rfl) : PI X tg l (iList K tl) := by subst hK; exact pi_list hl
theorem ki_enum (hg : Gl X "enumerate") (hm : X.mg "enumerate" = none) (ha : PA X [e] t) (hs : starEach [e] X.env = [(false, eval e X.env)] := by rfl) (hK : X.K = K := by rfl) :
    PI X (.Tuple elts kk tpos) (.Call (.Name "enumerate" p) [e] [] pos) (iEnum K t) := by subst hK; exact pi_enum hg hm ha hs
theorem ki_enumT (hg : Gl X "enumerate") (hm : X.mg "enumerate" = none) (ha : PA X [e] t) (hs : starEach [e] X.env = [(false, eval e X.env)] := by rfl) (hK : X.K = K := by rfl) :
    PI X (.Tuple elts kk tpos) (.Call (.Name "enumerate" p) [e] [] pos) (iEnumT K t) := by subst hK; exact pi_enumT hg hm ha hs
theorem kg_tup (hc : X.calm = true) (h : PGs X es ts) (hn : (assignEach es X.env).length = n := by rfl) (hst : (assignEach es X.env).findIdx? (·.1) = none := by rfl) (hK : X.K = K := by rfl) : PG X (.Tuple es k pos) (gTup K n ts) := by
  subst hK
  exact pg_tup hc h hn hst
theorem k_bm (pa : PlainAttrs Ty) (slot : Slot Ty name id) (hty : typeOf (.builtin id) = pure (.type "method_descriptor")) (hm : MtR X id r) (ho : PE X o to) (ha : PA X (e :: es) t)
    (hbase : attributeBase o name X.env (eval o X.env) = eval o X.env := by rfl)
    (hfew : ((backTo cpos (starEach (e :: es) X.env)).all (fun x => !x.1) && (backToKw cpos (keywordEach [] X.env)).all (fun x => x.1.isSome)
      && decide ((e :: es).length + ([] : List Keyword).length + (if ([] : List Keyword).isEmpty then 0 else 1) < 30)) = true := by rfl)
    (hline : (apos.endLine == cpos.line) = true := by rfl) (hs : starEach (e :: es) X.env = (false, eval e X.env) :: starEach es X.env := by rfl) (hplain : (backTo cpos (starEach es X.env)).any (·.1) = false := by rfl) (hK : X.K = K := by rfl) :
    PE X (.Call (.Attribute o name apos) (e :: es) [] cpos) (tBM K Ty r to t) := by
  subst hK
  exact pe_bm pa slot hty hm ho ha hbase hfew hline hs hplain
theorem k_append (ho : PE X o to) (ha : PA X (e :: es) t)
    (hbase : attributeBase o "append" X.env (eval o X.env) = eval o X.env := by rfl)
    (hfew : ((backTo cpos (starEach (e :: es) X.env)).all (fun x => !x.1) && (backToKw cpos (keywordEach [] X.env)).all (fun x => x.1.isSome)
      && decide ((e :: es).length + ([] : List Keyword).length + (if ([] : List Keyword).isEmpty then 0 else 1) < 30)) = true := by rfl)
    (hline : (apos.endLine == cpos.line) = true := by rfl) (hs : starEach (e :: es) X.env = (false, eval e X.env) :: starEach es X.env := by rfl) (hplain : (backTo cpos (starEach es X.env)).any (·.1) = false := by rfl) (hK : X.K = K := by rfl) :
    PE X (.Call (.Attribute o "append" apos) (e :: es) [] cpos) (tBM K "list" rAppend to t) :=
  k_bm PySem.F.plainAttrs_list PySem.F.slot_list_append PySem.F.type_list_append mt_append ho ha hbase hfew hline hs hplain hK
theorem k_extend (ho : PE X o to) (ha : PA X (e :: es) t)
    (hbase : attributeBase o "extend" X.env (eval o X.env) = eval o X.env := by rfl)
    (hfew : ((backTo cpos (starEach (e :: es) X.env)).all (fun x => !x.1) && (backToKw cpos (keywordEach [] X.env)).all (fun x => x.1.isSome)
      && decide ((e :: es).length + ([] : List Keyword).length + (if ([] : List Keyword).isEmpty then 0 else 1) < 30)) = true := by rfl)
    (hline : (apos.endLine == cpos.line) = true := by rfl) (hs : starEach (e :: es) X.env = (false, eval e X.env) :: starEach es X.env := by rfl) (hplain : (backTo cpos (starEach es X.env)).any (·.1) = false := by rfl) (hK : X.K = K := by rfl) :
    PE X (.Call (.Attribute o "extend" apos) (e :: es) [] cpos) (tBM K "list" rExtend to t) :=
  k_bm PySem.F.plainAttrs_list PySem.F.slot_list_extend PySem.F.type_list_extend mt_extend ho ha hbase hfew hline hs hplain hK
theorem k_lenSet {a : Expr} {ta : TE} {p2 q : Pos} (hg : Gl X "len") (hm : X.mg "len" = none) (hg2 : Gl X "set") (hm2 : X.mg "set" = none) (ha : PE X a ta) (hc : X.calm = true := by rfl)
    (na : starEach [a] X.env = (false, eval a X.env) :: starEach [] X.env := by rfl) (hK : X.K = K := by rfl) : PE X (.Call (.Name "len" p) [.Call (.Name "set" p2) [a] [] q] [] pos) (RZ.tLenSetI K ta) := by
  subst hK
  exact RZ.pe_lenSetI hg hm hg2 hm2 ha hc na
end
end K14
/-! ## K14P -/
namespace K14
open PySem PySem.Spec PyProof.Rows L2
theorem ifT {c : Bool} {A B : Prop} (hc : c = true) (h : A) : if c = true then A else B := by
  rw [if_pos hc]
  exact h
theorem ifF {c : Bool} {A B : Prop} (hc : c = false) (h : B) : if c = true then A else B := by
  rw [hc, if_neg Bool.false_ne_true]
  exact h
theorem yesT {σ : L2.St} {H : Hp} {A B : Hp → Prop} (h : A H) : tYes σ H fun b H3 => if b = true then A H3 else B H3 := by
  show if true = true then A H else B H
  exact iteT h
theorem ltLine {n : Nat} (h : n ≤ 100000) : n < sizeLine := by
  rw [sizeLine_eq]
  omega
theorem leLine {n : Nat} (h : n ≤ 100000) : n ≤ sizeLine := Nat.le_of_lt (ltLine h)
theorem hu65 {A : Around} {k : Nat} (hr : Room k A) : A.units + 65 < cLine := by
  have := hr.un
  omega
/-- a plan laid out -/
structure PlanAt (K : PySem.W.Frag) (H : Hp) (v : V) (sz : List Nat) (rt : Rt) (a s r : Addr) (rr : List V) : Prop where
  ev : v = .ref a
  top : SqT K H a [.ref s, .ref r]
  szs : SqT K H s ((natsI sz).map V.int)
  rts : SqT K H r rr
  all : TpAll K H rr (rt.map roD)
theorem planInv {K : PySem.W.Frag} {H : Hp} {v : V} {sz : List Nat} {rt : Rt} (h : Tp K H v (planD sz rt)) : ∃ a s r rr, PlanAt K H v sz rt a s r rr := by
  obtain ⟨a, xs, rfl, hq, hall⟩ := tpTup h
  cases hall with
  | cons h1 h2 =>
    cases h2 with
    | cons h2 h3 =>
      cases h3
      obtain ⟨s, ss, rfl, hs, hss⟩ := tpTup h1
      obtain ⟨r, rr, rfl, hr, hrr⟩ := tpTup h2
      rw [tpInts hss] at hs
      exact ⟨a, s, r, rr, rfl, hq, hs, hr, hrr⟩
theorem PlanAt.keep {K : PySem.W.Frag} {H H' : Hp} {v : V} {sz : List Nat} {rt : Rt} {a s r : Addr} {rr : List V} (P : PlanAt K H v sz rt a s r rr) (S : Tm H H') : PlanAt K H' v sz rt a s r rr :=
  ⟨P.ev, sqTm S P.top, sqTm S P.szs, sqTm S P.rts, tpKeepAll S P.all⟩
theorem PlanAt.dp {K : PySem.W.Frag} {H : Hp} {v : V} {sz : List Nat} {rt : Rt} {a s r : Addr} {rr : List V} (P : PlanAt K H v sz rt a s r rr) : Tp K H v (planD sz rt) := by
  rw [P.ev]
  exact .tup P.top (.cons (.tup P.szs (tpIntsMk _)) (.cons (.tup P.rts P.all) .nil))
/-- a route's items -/
theorem roItems {K : PySem.W.Frag} {H : Hp} : ∀ {ro : List (Option Nat)} {vs : List V}, TpAll K H vs (ro.map entD) → vs = ro.map entV
  | [], _, h => by
    cases h
    rfl
  | none :: ro, _, h => by
    cases h with
    | cons a b => rw [tpNon a, roItems b]; rfl
  | some k :: ro, _, h => by
    cases h with
    | cons a b => rw [tpInt a, roItems b]; rfl
theorem PlanAt.route {K : PySem.W.Frag} {H : Hp} {v : V} {sz : List Nat} {rt : Rt} {a s r : Addr} {rr : List V} (P : PlanAt K H v sz rt a s r rr) {i : Nat} {x : V} (h : rr[i]? = some x) : ∃ ro q, rt[i]? = some ro ∧ x = .ref q ∧ SqT K H q (ro.map entV) := by
  obtain ⟨d, hd, hx⟩ := tpGetV P.all h
  rw [List.getElem?_map] at hd
  cases e : rt[i]? with
  | none => rw [e] at hd; cases hd
  | some ro =>
    rw [e] at hd
    cases hd
    obtain ⟨q, vs, rfl, hq, hvs⟩ := tpTup hx
    rw [roItems hvs] at hq
    exact ⟨ro, q, rfl, rfl, hq⟩
theorem PlanAt.rlen {K : PySem.W.Frag} {H : Hp} {v : V} {sz : List Nat} {rt : Rt} {a s r : Addr} {rr : List V} (P : PlanAt K H v sz rt a s r rr) : rr.length = rt.length := by
  have := tpLen P.all
  rwa [List.length_map] at this
theorem natsI_len (l : List Nat) : ((natsI l).map V.int).length = l.length := by
  unfold natsI
  rw [List.length_map, List.length_map]
theorem natsI_at {l : List Nat} {i : Nat} (h : i < l.length) : ((natsI l).map V.int)[i]? = some (.int (l.getD i 0)) := by
  unfold natsI
  rw [List.getElem?_map, List.getElem?_map, some_of_lt 0 h]
  rfl
theorem natsI_get {l : List Nat} {i : Nat} {x : V} (h : ((natsI l).map V.int)[i]? = some x) : i < l.length ∧ x = .int (l.getD i 0) := by
  have lt : i < l.length := by
    have := (List.getElem?_eq_some_iff.mp h).1
    rwa [natsI_len] at this
  rw [natsI_at lt] at h
  exact ⟨lt, (Option.some.inj h).symm⟩
section
variable {P : Program} {w : World} {K : PySem.W.Frag} {mg : Str → Option Value} {base : Heap}
/-! ### is_route -/
def spIsRoute (K : PySem.W.Frag) : Sp := fun vs H Q _ => ∃ (s r : Addr) (sz : List Nat) (ro : List (Option Nat)), vs = [.ref s, .ref r] ∧ SqT K H s ((natsI sz).map V.int) ∧ SqT K H r (ro.map entV) ∧
  (1 ≤ ro.length ∧ ro.length ≤ 6 ∧ ∀ k, some k ∈ ro → k < sz.length) ∧ ∀ H', Same H H' → Q (.bl true) H'
abbrev N_is_route : List Str := ["sizes", "route", "entry"]
theorem sc_is_route : FnScope N_is_route ["sizes", "route"] (defScope t_is_route) := ⟨rfl, rfl, rfl, by decide +kernel, rfl, by decide +kernel, by decide +kernel⟩
theorem ok_is_route (T : Txt K mg) : Cal P w K mg base CX0 1 "is_route" ["sizes", "route"] (spIsRoute K) := by
  refine T.d_is_route.mk0 sc_is_route (fun _ _ _ _ _ _ us hl => match us, hl with | [_, _], _ => rfl) (fun vs H Q E h => ?_) (fun f cdv A outer s H vs Q E hr h => ?_)
  · obtain ⟨_, _, _, _, rfl, _⟩ := h
    rfl
  · obtain ⟨s, r, sz, ro, rfl, hs, hr', ⟨h1, h6, hk⟩, k⟩ := h
    refine ⟨_, ((pss_cons (ps_if (pt_not (pt_chain op_le op_le pe_int (pe_callB (k_len (K := K)) (by rfl) T.f_len b_len (pa_cons (pv 1) pa_nil)) (gInt T.i_MAX_ENTRIES rfl)))
    (pss_one (ps_ret pe_bl))
    pss_nil)
    (pss_one (ps_ret (pe_callB (k_all (K := K) rfl) (by rfl) T.f_all b_all (pa_cons (pe_lc (own := [("entry", 2)]) (g := gName 2) (tt := tYes) rfl sc_is_route.nd (ki_tup (K := K) (pv 1)) (blkOk_by (N := N_is_route) (sc := defScope t_is_route) (by decide +kernel)) (fun _ _ _ _ _ => pg_name (i := 2) sc_is_route.nd rfl (Or.inl rfl)) (fun _ _ _ _ _ => pts_nil) (fun _ _ _ _ _ => (pe_or (pe_cmpR op_isN (pv 2) pe_non (nomark _)) (pe_one (pe_chain op_le op_lt pe_int (pv 2) (pe_callB (k_len (K := K)) (by rfl) T.f_len b_len (pa_cons (pv 0) pa_nil))))))) pa_nil)))))), ?_⟩
    refine ⟨_, rfl, r, _, rfl, .inr hr', _, _, rfl, rfl, _, rfl, ifT (decide_eq_true (by rw [List.length_map]; omega)) ⟨_, _, rfl, rfl, _, rfl, ifF (by rw [decide_eq_true (by rw [List.length_map]; omega)]; rfl) ?_⟩⟩
    refine ⟨_, rfl, r, rfl, ⟨_, hr'⟩, fun D hD => lc_tup (K := K) (a := r) (xs := ro.map entV) (fun i H' => Same H H' ∧ H' D = some (.lst ((List.replicate i true).map V.bl))) ⟨sNew (Same.refl H) hD _, upd_same⟩ (fun i H' _ hp => sqTm (sTm hp.1) hr') ?_ ?_⟩
    · rintro i x H' hx ⟨s5, hl⟩
      have li : i < ro.length := by
        have := (List.getElem?_eq_some_iff.mp hx).1
        rwa [List.length_map] at this
      have next : Same H (upd H' D (.lst ((List.replicate i true).map V.bl ++ [V.bl true]))) ∧ upd H' D (.lst ((List.replicate i true).map V.bl ++ [V.bl true])) D = some (.lst ((List.replicate (i + 1) true).map V.bl)) := by
        refine ⟨sWr s5 hD _, ?_⟩
        rw [upd_same, List.replicate_succ', List.map_append]
        rfl
      refine ⟨rfl, yesT ⟨_, rfl, rfl, _, rfl, ?_⟩⟩
      rw [List.getElem?_map] at hx
      cases e : ro[i]? with
      | none => rw [e] at hx; cases hx
      | some en =>
        rw [e] at hx
        obtain rfl := Option.some.inj hx
        cases en with
        | none => exact ifT rfl ⟨_, hl, ltLine (by simp; omega), next⟩
        | some k' =>
          have hk' := hk k' (List.mem_of_getElem? e)
          refine ifF rfl ⟨_, rfl, _, _, rfl, rfl, _, rfl, ifT (decide_eq_true (Int.natCast_nonneg k')) ⟨_, rfl, s, _, rfl, .inr (sqTm (sTm s5) hs), _, _, rfl, rfl, _, hl, ltLine (by simp; omega), ?_⟩⟩
          dsimp only
          rw [decide_eq_true (show (k' : Int) < (((natsI sz).map V.int).length : Nat) by rw [natsI_len]; omega)]
          exact next
    · rintro H' ⟨s5, hl⟩
      refine ⟨D, _, rfl, SqL.of hl, ?_⟩
      have e : (List.replicate (ro.map entV).length true).all id = true := by simp
      rw [e]
      exact k H' s5
end
end K14
/-! ## K14P2 -/
namespace K14
open PySem PySem.Spec PyProof.Rows L2
theorem all_flat_bl (n : Nat) : ((List.replicate n true).map V.bl).all flatV = true := by
  rw [List.all_eq_true]
  intro x hx
  obtain ⟨b, _, rfl⟩ := List.mem_map.mp hx
  rfl
theorem no_false (n : Nat) : inV (.bl false) ((List.replicate n true).map V.bl) = false := by
  unfold inV
  rw [List.any_eq_false]
  intro x hx
  obtain ⟨b, hb, rfl⟩ := List.mem_map.mp hx
  have := (List.mem_replicate.mp hb).2
  subst this
  decide
theorem bl_more (n : Nat) : (List.replicate n true).map V.bl ++ [V.bl true] = (List.replicate (n + 1) true).map V.bl := by
  rw [List.replicate_succ', List.map_append]
  rfl
section
variable {P : Program} {w : World} {K : PySem.W.Frag} {mg : Str → Option Value} {base : Heap}
/-! ### first_invalid, where all is well -/
def spFirst (K : PySem.W.Frag) : Sp := fun vs H Q _ => ∃ (a fl : Addr) (m : Int) (xs : List V) (n : Nat), vs = [.ref a, .int m, .ref fl] ∧ SqT K H a xs ∧ SqL K H fl ((List.replicate n true).map V.bl) ∧ 1 ≤ (xs.length : Int) ∧ (xs.length : Int) ≤ m ∧ Q .non H
abbrev N_first_invalid : List Str := ["items", "most", "flags"]
theorem sc_first_invalid : FnScope N_first_invalid ["items", "most", "flags"] (defScope t_first_invalid) := ⟨rfl, rfl, rfl, by decide +kernel, rfl, by decide +kernel, by decide +kernel⟩
theorem ok_first_invalid (T : Txt K mg) : Cal P w K mg base CX0 1 "first_invalid" ["items", "most", "flags"] (spFirst K) := by
  refine T.d_first_invalid.mk0 sc_first_invalid (fun _ _ _ _ _ _ us hl => match us, hl with | [_, _, _], _ => rfl) (fun vs H Q E h => ?_) (fun f cdv A outer s H vs Q E hr h => ?_)
  · obtain ⟨_, _, _, _, _, rfl, _⟩ := h
    rfl
  · obtain ⟨a, fl, m, xs, n, rfl, ha, hfl, h1, h2, hQ⟩ := h
    refine ⟨_, ((pss_cons (ps_if (pt_not (pt_chain op_le op_le pe_int (pe_callB (k_len (K := K)) (by rfl) T.f_len b_len (pa_cons (pv 0) pa_nil)) (pv 1)))
    (pss_one (ps_ret (pe_un un_neg pe_int)))
    pss_nil)
    (pss_one (ps_ret (pe_ifExp (pt_cmpR (k_in (K := K)) pe_bl (pv 2) (by rfl)) (k_bm (K := K) PySem.F.plainAttrs_list PySem.F.slot_list_index PySem.F.type_list_index (k_index (K := K)) (pv 2) (pa_cons pe_bl pa_nil)) pe_non))))), ?_⟩
    refine ⟨_, rfl, a, _, rfl, .inr ha, _, _, rfl, rfl, _, rfl, ifT (decide_eq_true h1) ⟨_, rfl, _, _, rfl, rfl, _, rfl, ifF (by rw [decide_eq_true h2]; rfl) ?_⟩⟩
    exact ⟨_, rfl, fl, _, rfl, .inl hfl, rfl, all_flat_bl n, _, rfl, ifF (no_false n) hQ⟩
/-! ### validate_plan, where all is well -/
def spVPlan (K : PySem.W.Frag) : Sp := fun vs H Q _ => ∃ (v : V) (sz : List Nat) (rt : Rt), vs = [v] ∧ Tp K H v (planD sz rt) ∧ PlanOk sz rt ∧ ∀ H', Same H H' → Q .non H'
abbrev N_validate_plan : List Str := ["plan", "sizes", "routes", "index", "size", "route"]
theorem sc_validate_plan : FnScope N_validate_plan ["plan"] (defScope t_validate_plan) := ⟨rfl, rfl, rfl, by decide +kernel, rfl, by decide +kernel, by decide +kernel⟩
theorem ok_validate_plan (T : Txt K mg) : Cal P w K mg base CX0 2 "validate_plan" ["plan"] (spVPlan K) := by
  have C_is_route : Cal P w K mg base CX0 1 _ _ _ := ok_is_route T
  have C_first_invalid : Cal P w K mg base CX0 1 _ _ _ := ok_first_invalid T
  refine T.d_validate_plan.mk0 sc_validate_plan (fun _ _ _ _ _ _ us hl => match us, hl with | [_], _ => rfl) (fun vs H Q E h => ?_) (fun f cdv A outer s H vs Q E hr h => ?_)
  · obtain ⟨_, _, _, rfl, _⟩ := h
    rfl
  · obtain ⟨v, sz, rt, rfl, hv, ok, k⟩ := h
    obtain ⟨a, sa, ra, rr, PA⟩ := planInv hv
    obtain rfl := PA.ev
    refine ⟨_, ((pss_cons (ps_asg (pv 0) (kg_tup (K := K) rfl (pgs_cons (pg_name (i := 1) sc_validate_plan.nd rfl (Or.inr rfl)) (pgs_cons (pg_name (i := 2) sc_validate_plan.nd rfl (Or.inl rfl)) pgs_nil))))
    (pss_cons (ps_set (i := 3) sc_validate_plan.nd rfl (Or.inl rfl) (pe_cal C_first_invalid (hr.mono (by decide)) rfl pass0 (pa_cons (pv 1) (pa_cons (gInt T.i_MAX_SHELVES rfl) (pa_cons (pe_lc (own := [("size", 4)]) (g := gName 4) (tt := tYes) rfl sc_validate_plan.nd (ki_tup (K := K) (pv 1)) (blkOk_by (N := N_validate_plan) (sc := defScope t_validate_plan) (by decide +kernel)) (fun _ _ _ _ _ => pg_name (i := 4) sc_validate_plan.nd rfl (Or.inl rfl)) (fun _ _ _ _ _ => pts_nil) (fun _ _ _ _ _ => (pe_chain op_le op_le pe_int (pv 4) (gInt T.i_MAX_SIZE rfl)))) pa_nil)))))
    (pss_cons (ps_if (pt_cmpR op_notN (pv 3) pe_non (nomark _))
    (pss_one ps_never)
    pss_nil)
    (pss_cons (ps_set (i := 3) sc_validate_plan.nd rfl (Or.inl rfl) (pe_cal C_first_invalid (hr.mono (by decide)) rfl pass0 (pa_cons (pv 2) (pa_cons (gInt T.i_MAX_CARRIERS rfl) (pa_cons (pe_lc (own := [("route", 5)]) (g := gName 5) (tt := tYes) rfl sc_validate_plan.nd (ki_tup (K := K) (pv 2)) (blkOk_by (N := N_validate_plan) (sc := defScope t_validate_plan) (by decide +kernel)) (fun _ _ _ _ _ => pg_name (i := 5) sc_validate_plan.nd rfl (Or.inl rfl)) (fun _ _ _ _ _ => pts_nil) (fun _ _ _ _ _ => (pe_cal C_is_route (hr.mono (by decide)) rfl pass0 (pa_cons (pv 1) (pa_cons (pv 5) pa_nil))))) pa_nil)))))
    (pss_one (ps_if (pt_cmpR op_notN (pv 3) pe_non (nomark _))
    (pss_one ps_never)
    pss_nil))))))), ?_⟩
    have lsz := natsI_len sz
    have lrt := PA.rlen
    have s1 := ok.s1
    have s2 := ok.s2
    have r1 := ok.r1
    have r2 := ok.r2
    -- sizes, routes = plan
    refine ⟨_, rfl, a, _, rfl, PA.top, rfl, _, _, rfl, _, _, rfl, rfl, ?_⟩
    -- index = first_invalid(sizes, ..)
    refine ⟨_, rfl, _, rfl, sa, rfl, ⟨_, PA.szs⟩, fun D hD => lc_tup (K := K) (a := sa) (xs := (natsI sz).map V.int) (fun i H' => Same H H' ∧ H' D = some (.lst ((List.replicate i true).map V.bl))) ⟨sNew (Same.refl H) hD _, upd_same⟩ (fun i H' _ hp => sqTm (sTm hp.1) PA.szs) ?_ ?_⟩
    · rintro i x H' hx ⟨s5, hl⟩
      obtain ⟨li, rfl⟩ := natsI_get hx
      have z9 := ok.s9 _ (getD_mem 0 li)
      refine ⟨rfl, yesT ⟨_, rfl, _, _, rfl, rfl, _, rfl, ifT (decide_eq_true (Int.natCast_nonneg _)) ⟨_, _, rfl, rfl, _, hl, ltLine (by simp; omega), ?_⟩⟩⟩
      dsimp only
      rw [decide_eq_true (show ((sz.getD i 0 : Nat) : Int) ≤ 9 by omega), bl_more]
      exact ⟨sWr s5 hD _, upd_same⟩
    · rintro H1 ⟨S1, hl1⟩
      have PA1 := PA.keep (sTm S1)
      refine ⟨sa, D, 12, _, _, rfl, PA1.szs, SqL.of hl1, by rw [lsz]; omega, by rw [lsz]; omega, ?_⟩
      refine ⟨_, rfl, rfl, _, rfl, ifF rfl ?_⟩
      -- index = first_invalid(routes, ..)
      refine ⟨_, rfl, _, rfl, ra, rfl, ⟨_, PA1.rts⟩, fun D2 hD2 => lc_tup (K := K) (a := ra) (xs := rr) (fun i H' => Same H1 H' ∧ H' D2 = some (.lst ((List.replicate i true).map V.bl))) ⟨sNew (Same.refl H1) hD2 _, upd_same⟩ (fun i H' _ hp => sqTm (sTm hp.1) PA1.rts) ?_ ?_⟩
      · rintro i x H' hx ⟨s5, hl⟩
        have PA5 := PA1.keep (sTm s5)
        obtain ⟨ro, q, hro, rfl, hq⟩ := PA5.route hx
        have li := (List.getElem?_eq_some_iff.mp hro).1
        have mem := List.mem_of_getElem? hro
        refine ⟨rfl, yesT ⟨_, rfl, _, rfl, sa, q, sz, ro, rfl, PA5.szs, hq, ⟨(ok.e1 ro mem).1, (ok.e1 ro mem).2, ok.e2 ro mem⟩, fun H6 s6 => ?_⟩⟩
        have hl6 := s6 _ _ hl
        refine ⟨_, hl6, ltLine (by simp; omega), ?_⟩
        rw [bl_more]
        exact ⟨sWr (s5.trans s6) hD2 _, upd_same⟩
      · rintro H2 ⟨S2, hl2⟩
        have PA2 := PA1.keep (sTm S2)
        refine ⟨ra, D2, 6, _, _, rfl, PA2.rts, SqL.of hl2, by omega, by omega, ?_⟩
        exact ⟨_, rfl, rfl, _, rfl, ifF rfl (k H2 (S1.trans S2))⟩
/-! ### all_places, places -/
def PlcAt (K : PySem.W.Frag) (H : Hp) (p : Addr) (sz : List Nat) (m i : Nat) : Prop := ∃ xs, H p = some (.lst xs) ∧ TpAll K H xs ((placesP sz m i).map plD)
theorem PlcAt.len {H : Hp} {p : Addr} {sz : List Nat} {m i : Nat} {xs : List V} (h : H p = some (.lst xs)) (a : TpAll K H xs ((placesP sz m i).map plD)) (hi : i ≤ sz.length) : xs.length = m + (sz.take i).sum := by
  rw [tpLen a, List.length_map, placesP_len sz m i hi]
def spPlaces (K : PySem.W.Frag) : Sp := fun vs H Q _ => ∃ (v : V) (sz : List Nat) (rt : Rt), vs = [v] ∧ Tp K H v (planD sz rt) ∧ PlanOk sz rt ∧ ∀ (H' : Hp) (p : Addr) (xs : List V), Same H H' → H p = none → H' p = some (.lst xs) → TpAll K H' xs ((placesL sz rt.length).map plD) → Q (.ref p) H'
theorem take_sum_le' (sz : List Nat) (i : Nat) : (sz.take i).sum ≤ sz.sum := by
  have := congrArg List.sum (List.take_append_drop i sz)
  rw [List.sum_append] at this
  omega
abbrev N_all_places : List Str := ["plan", "found", "shelf", "size", "carrier", "position"]
theorem sc_all_places : FnScope N_all_places ["plan"] (defScope t_all_places) := ⟨rfl, rfl, rfl, by decide +kernel, rfl, by decide +kernel, by decide +kernel⟩
theorem ok_all_places (T : Txt K mg) : Cal P w K mg base CX0 1 "all_places" ["plan"] (spPlaces K) := by
  refine T.d_all_places.mk0 sc_all_places (fun _ _ _ _ _ _ us hl => match us, hl with | [_], _ => rfl) (fun vs H Q E h => ?_) (fun f cdv A outer s H vs Q E hr h => ?_)
  · obtain ⟨_, _, _, rfl, _⟩ := h
    rfl
  · obtain ⟨v, sz, rt, rfl, hv, ok, k⟩ := h
    obtain ⟨a, sa, ra, rr, PA⟩ := planInv hv
    obtain rfl := PA.ev
    refine ⟨_, ((pss_cons (ps_setLc (i := 1) (own := [("carrier", 4)]) (g := gName 4) (tt := tYes) rfl sc_all_places.nd rfl rfl (sw_true rfl rfl rfl (by decide +kernel)) (pi_range1 (by rfl) T.f_range (pa_cons (pe_callB (k_len (K := K)) (by rfl) T.f_len b_len (pa_cons (pe_ix (k_ixT (K := K)) (pv 0) pe_int (fun _ _ => rfl)) pa_nil)) pa_nil)) (blkOk_by (N := N_all_places) (sc := defScope t_all_places) (by decide +kernel)) (fun _ _ _ _ _ => pg_name (i := 4) sc_all_places.nd rfl (Or.inl rfl)) (fun _ _ _ _ _ => pts_nil) (fun _ _ _ _ _ => (pe_tup (pa_cons (gStr T.s_CARRIER rfl) (pa_cons (pv 4) pa_nil)))))
    (pss_cons (ps_for PassesOwn.never rfl (ki_enumT (K := K) (by rfl) T.f_enumerate (pa_cons (pe_ix (k_ixT (K := K)) (pv 0) pe_int (fun _ _ => rfl)) pa_nil)) (kg_tup (K := K) rfl (pgs_cons (pg_name (i := 2) sc_all_places.nd rfl (Or.inr rfl)) (pgs_cons (pg_name (i := 3) sc_all_places.nd rfl (Or.inl rfl)) pgs_nil)))
    (pss_one (ps_expr (k_extend (K := K) (pv 1) (pa_cons (pe_lc (own := [("position", 5)]) (g := gName 5) (tt := tYes) rfl sc_all_places.nd (pi_range1 (by rfl) T.f_range (pa_cons (pv 3) pa_nil)) (blkOk_by (N := N_all_places) (sc := defScope t_all_places) (by decide +kernel)) (fun _ _ _ _ _ => pg_name (i := 5) sc_all_places.nd rfl (Or.inl rfl)) (fun _ _ _ _ _ => pts_nil) (fun _ _ _ _ _ => (pe_tup (pa_cons (gStr T.s_SHELF rfl) (pa_cons (pv 2) (pa_cons (pv 5) pa_nil)))))) pa_nil)))))
    (pss_one (ps_ret (pv 1)))))), ?_⟩
    have lrt := PA.rlen
    have r2 := ok.r2
    have nle : rt.length + sz.sum ≤ 114 := ok.n_le
    -- found = [(CARRIER, carrier) for carrier in range(len(plan[1]))]
    refine ⟨_, rfl, a, _, _, _, rfl, rfl, PA.top, rfl, ra, rr, rfl, .inr PA.rts, _, rfl, by omega, by omega, fun D hD => lc_range (lo := 0) (n := ((rr.length : Nat) : Int).toNat) (fun i H' => Same H H' ∧ PlcAt K H' D [] i 0) ?_ ?_ ?_⟩
    · exact ⟨sNew (Same.refl H) hD _, [], upd_same, .nil⟩
    · rintro i H' hi ⟨s5, xs, hl, hx⟩
      rw [Int.toNat_natCast] at hi
      refine ⟨rfl, yesT ⟨_, rfl, leLine (show 2 ≤ 100000 by decide), fun p hp => ?_⟩⟩
      have lx := PlcAt.len hl hx (Nat.zero_le _)
      have hl' : upd H' p (.tup [.str "carrier", .int (0 + (i : Nat))]) D = some (.lst xs) := upd_keep hl hp
      refine ⟨xs, hl', ltLine (by simp at lx; omega), sWr (sNew s5 hp _) hD _, xs ++ [.ref p], upd_same, ?_⟩
      have pne : p ≠ D := fun z => by
        rw [z, hl] at hp
        cases hp
      have e : (placesP [] (i + 1) 0).map plD = (placesP [] i 0).map plD ++ [plD (.car i)] := by
        simp [placesP, List.range_succ]
      rw [e]
      refine tpApp (tpKeepAll ((tmNew hp _).trans (tmLst hl' _)) hx) (.cons (.tup (xs := [.str "carrier", .int i]) (SqT.of ?_) (.cons (.str _) (.cons (.int _) .nil))) .nil)
      rw [upd_ne pne, upd_same, Int.zero_add]
    · rintro H1 ⟨S1, xs, hl, hx⟩
      rw [Int.toNat_natCast, lrt] at hx
      have hx : TpAll K H1 xs ((placesP sz rt.length 0).map plD) := hx
      have PA1 := PA.keep (sTm S1)
      -- the shelves
      refine ⟨_, rfl, a, _, _, _, rfl, rfl, PA1.top, rfl, sa, _, rfl, PA1.szs, for_pairs (K := K) walkT (fun i σ H' => ∃ u2 u3, σ = [some (.ref a), some (.ref D), u2, u3, none, none] ∧ Same H H' ∧ PlcAt K H' D sz rt.length i)
        ⟨_, _, rfl, S1, xs, hl, hx⟩ (fun i σ H' _ hp => sqTm (sTm hp.choose_spec.choose_spec.2.1) PA.szs) ?_ ?_⟩
      · rintro i x σ H' T' hi hx' ⟨u2, u3, rfl, s5, xs, hl, hx⟩ hT'
        obtain ⟨li, rfl⟩ := natsI_get hx'
        have z9 := ok.s9 _ (getD_mem 0 li)
        have s6 := sNew s5 hT' (.tup [.int (i : Nat), .int ((sz.getD i 0 : Nat))])
        have hl6 : upd H' T' (.tup [.int (i : Nat), .int ((sz.getD i 0 : Nat))]) D = some (.lst xs) := upd_keep hl hT'
        have lx := PlcAt.len hl hx (Nat.le_of_lt li)
        have tle := take_sum_le' sz i
        refine ⟨_, rfl, .inl ⟨rfl, _, SqL.of hl6⟩, _, rfl, _, rfl, by omega, by omega, fun D2 hD2 => lc_range (lo := 0) (n := ((sz.getD i 0 : Nat) : Int).toNat)
          (fun j H'' => Same H H'' ∧ H'' D = some (.lst xs) ∧ TpAll K H'' xs ((placesP sz rt.length i).map plD) ∧ ∃ ys, H'' D2 = some (.lst ys) ∧ TpAll K H'' ys (((List.range j).map (Pl.shf i)).map plD)) ?_ ?_ ?_⟩
        · exact ⟨sNew s6 hD2 _, upd_keep hl6 hD2, tpKeepAll ((tmNew hT' _).trans (tmNew hD2 _)) hx, [], upd_same, .nil⟩
        · rintro j H'' hj ⟨s7, hl7, hx7, ys, hy, hys⟩
          rw [Int.toNat_natCast] at hj
          refine ⟨rfl, yesT ⟨_, rfl, _, rfl, leLine (show 3 ≤ 100000 by decide), fun p hp => ?_⟩⟩
          have ly := tpLen hys
          rw [List.length_map, List.length_map, List.length_range] at ly
          have neD : D2 ≠ D := fun z => by
            rw [z, hl6] at hD2
            cases hD2
          have pne : p ≠ D2 := fun z => by
            rw [z, hy] at hp
            cases hp
          have hy' : upd H'' p (.tup [.str "shelf", .int (i : Nat), .int (0 + (j : Nat))]) D2 = some (.lst ys) := upd_keep hy hp
          have t7 := (tmNew hp (.tup [.str "shelf", .int (i : Nat), .int (0 + (j : Nat))])).trans (tmLst hy' (.lst (ys ++ [.ref p])))
          have nD2 : H D2 = none := s6.free hD2
          refine ⟨ys, hy', ltLine (by omega), sWr (sNew s7 hp _) nD2 _, ?_, tpKeepAll t7 hx7, ys ++ [.ref p], upd_same, ?_⟩
          · rw [upd_ne (Ne.symm neD)]
            exact upd_keep hl7 hp
          · rw [List.range_succ, List.map_append, List.map_append]
            refine tpApp (tpKeepAll t7 hys) (.cons (.tup (xs := [.str "shelf", .int (i : Nat), .int (j : Nat)]) (SqT.of ?_) (.cons (.str _) (.cons (.int _) (.cons (.int _) .nil)))) .nil)
            rw [upd_ne pne, upd_same, Int.zero_add]
        · rintro H2 ⟨s7, hl7, hx7, ys, hy, hys⟩
          rw [Int.toNat_natCast] at hys
          have ly := tpLen hys
          rw [List.length_map, List.length_map, List.length_range] at ly
          have nD : H D = none := hD
          refine ⟨D, D2, xs, ys, rfl, rfl, hl7, hy, leLine (by omega), _, _, rfl, sWr s7 nD _, xs ++ ys, upd_same, ?_⟩
          rw [placesP_succ, List.map_append]
          exact tpApp (tpKeepAll (tmLst hl7 _) hx7) (tpKeepAll (tmLst hl7 _) hys)
      · rintro σ H' ⟨u2, u3, rfl, s5, xs, hl, hx⟩
        rw [natsI_len] at hx
        exact ⟨_, rfl, k H' D xs s5 hD hl hx⟩
abbrev N_places : List Str := ["plan"]
theorem sc_places : FnScope N_places ["plan"] (defScope t_places) := ⟨rfl, rfl, rfl, by decide +kernel, rfl, by decide +kernel, by decide +kernel⟩
theorem ok_places (T : Txt K mg) : Cal P w K mg base CX0 3 "places" ["plan"] (spPlaces K) := by
  have C_validate_plan : Cal P w K mg base CX0 2 _ _ _ := ok_validate_plan T
  have C_all_places : Cal P w K mg base CX0 1 _ _ _ := ok_all_places T
  refine T.d_places.mk0 sc_places (fun _ _ _ _ _ _ us hl => match us, hl with | [_], _ => rfl) (fun vs H Q E h => ?_) (fun f cdv A outer s H vs Q E hr h => ?_)
  · obtain ⟨_, _, _, rfl, _⟩ := h
    rfl
  · obtain ⟨v, sz, rt, rfl, hv, ok, k⟩ := h
    refine ⟨_, ((pss_cons (ps_expr (pe_cal C_validate_plan (hr.mono (by decide)) rfl pass0 (pa_cons (pv 0) pa_nil)))
    (pss_one (ps_ret (pe_cal C_all_places (hr.mono (by decide)) rfl pass0 (pa_cons (pv 0) pa_nil)))))), ?_⟩
    refine ⟨_, rfl, v, sz, rt, rfl, hv, ok, fun H1 S1 => ?_⟩
    exact ⟨_, rfl, v, sz, rt, rfl, tpKeep (sTm S1) hv, ok, fun H2 p xs S2 hp hl hx => k H2 p xs (S1.trans S2) (S1.free hp) hl hx⟩
end
end K14
/-! ## K14P3 -/
namespace K14
open PySem PySem.Spec PyProof.Rows L2
theorem cut_take (xs : List V) (k : Nat) (h : k ≤ xs.length) : cutV xs none (some (k : Int)) = xs.take k := by
  unfold cutV
  rw [HT.sIx_none, HT.sIx_nat, Nat.min_eq_left h]
  simp
theorem natsI_sum : ∀ l : List Nat, (natsI l).sum = (l.sum : Nat)
  | [] => rfl
  | a :: l => by
    have := natsI_sum l
    unfold natsI at this ⊢
    rw [List.map_cons, List.sum_cons, List.sum_cons, this]
    omega
theorem natsI_take (l : List Nat) (k : Nat) : (natsI l).take k = natsI (l.take k) := by
  unfold natsI
  rw [List.map_take]
section
variable {P : Program} {w : World} {K : PySem.W.Frag} {mg : Str → Option Value} {base : Heap}
/-! ### first_on -/
def spFirstOn (K : PySem.W.Frag) : Sp := fun vs H Q _ => ∃ (v : V) (sz : List Nat) (rt : Rt) (s : Nat), vs = [v, .int s] ∧ Tp K H v (planD sz rt) ∧ s < sz.length ∧ ∀ H', Same H H' → Q (.int ((rt.length + (sz.take s).sum : Nat))) H'
abbrev N_first_on : List Str := ["plan", "shelf"]
theorem sc_first_on : FnScope N_first_on ["plan", "shelf"] (defScope t_first_on) := ⟨rfl, rfl, rfl, by decide +kernel, rfl, by decide +kernel, by decide +kernel⟩
theorem ok_first_on (T : Txt K mg) : Cal P w K mg base CX0 1 "first_on" ["plan", "shelf"] (spFirstOn K) := by
  refine T.d_first_on.mk0 sc_first_on (fun _ _ _ _ _ _ us hl => match us, hl with | [_, _], _ => rfl) (fun vs H Q E h => ?_) (fun f cdv A outer st H vs Q E hr h => ?_)
  · obtain ⟨_, _, _, _, rfl, _⟩ := h
    rfl
  · obtain ⟨v, sz, rt, s, rfl, hv, hs, k⟩ := h
    obtain ⟨a, sa, ra, rr, PA⟩ := planInv hv
    obtain rfl := PA.ev
    refine ⟨_, ((pss_one (ps_ret (pe_op op_add (pe_callB (k_len (K := K)) (by rfl) T.f_len b_len (pa_cons (pe_ix (k_ixT (K := K)) (pv 0) pe_int (fun _ _ => rfl)) pa_nil)) (pe_callB (k_sumT (K := K) rfl) (by rfl) T.f_sum b_sum (pa_cons (pe_slice (k_slT (K := K)) (pe_ix (k_ixT (K := K)) (pv 0) pe_int (fun _ _ => rfl)) po_none (po_some (pv 1))) pa_nil)))))), ?_⟩
    have lrt := PA.rlen
    have lsz := natsI_len sz
    have e : ∀ (H' : Hp) (p : Addr), Same H H' → SqT K H' p ((natsI (sz.take s)).map V.int) → rSumT K [.ref p] H' fun y H2 => ∃ i j, V.int (rr.length : Nat) = .int i ∧ y = .int j ∧ Q (.int (i + j)) H2 := fun H' p S hp => by
      refine ⟨p, _, rfl, hp, _, _, rfl, rfl, ?_⟩
      rw [natsI_sum, lrt]
      exact k H' S
    refine ⟨_, rfl, a, _, _, _, rfl, rfl, PA.top, rfl, ra, rr, rfl, .inr PA.rts, _, rfl, a, _, _, _, rfl, rfl, PA.top, rfl, _, rfl, _, rfl, sa, _, rfl, PA.szs, fun hw => ?_, fun hw p hp => ?_⟩
    · rw [HT.sIx_nat, lsz] at hw
      exact absurd hw.2 (by omega)
    · refine e _ p (sNew (Same.refl H) hp _) ?_
      rw [cut_take _ _ (by rw [lsz]; omega), ← List.map_take, natsI_take]
      exact SqT.of upd_same
/-! ### greatest_common_divisor, least_common_multiple -/
def spGcd : Sp := fun vs H Q _ => ∃ (a b : Nat), vs = [.int a, .int b] ∧ Q (.int (Nat.gcd a b : Nat)) H
abbrev N_greatest_common_divisor : List Str := ["one", "other"]
theorem sc_greatest_common_divisor : FnScope N_greatest_common_divisor ["one", "other"] (defScope t_greatest_common_divisor) := ⟨rfl, rfl, rfl, by decide +kernel, rfl, by decide +kernel, by decide +kernel⟩
theorem ok_gcd (T : Txt K mg) : Cal P w K mg base CX0 1 "greatest_common_divisor" ["one", "other"] spGcd := by
  refine T.d_greatest_common_divisor.mk0 sc_greatest_common_divisor (fun _ _ _ _ _ _ us hl => match us, hl with | [_, _], _ => rfl) (fun vs H Q E h => ?_) (fun f cdv A outer st H vs Q E hr h => ?_)
  · obtain ⟨_, _, rfl, _⟩ := h
    rfl
  · obtain ⟨a, b, rfl, hQ⟩ := h
    refine ⟨_, ((pss_cons (ps_while PassesOwn.never (pt_cmpR op_ne (pv 1) pe_int (nomark _))
    (pss_one (ps_par (i := 0) (j := 1) (by rfl) sc_greatest_common_divisor.nd rfl rfl (by decide) rfl rfl (pa_cons (pv 1) (pa_cons (pe_op op_mod (pe_callTy call_int1 (by rfl) T.f_int b_int (pa_cons (pv 0) pa_nil)) (pe_callTy call_int1 (by rfl) T.f_int b_int (pa_cons (pv 1) pa_nil))) pa_nil)) (by rfl))))
    (pss_one (ps_ret (pv 0))))), ?_⟩
    refine ⟨fun m σ H' => H' = H ∧ ∃ x y : Nat, m = y ∧ Nat.gcd x y = Nat.gcd a b ∧ σ = [some (.int x), some (.int y)], ⟨b, rfl, a, b, rfl, rfl, rfl⟩, ?_⟩
    rintro m σ H' ⟨rfl, x, y, em, hg, rfl⟩

    refine ⟨_, rfl, rfl, _, rfl, ?_⟩
    by_cases h0 : y = 0
    · subst h0
      refine ifF (by simp) ⟨_, rfl, ?_⟩
      rw [Nat.gcd_zero_right] at hg
      rw [hg]
      exact hQ
    · refine ifT (by simp; omega) ⟨fun σ' H'' => H'' = H' ∧ ∃ x' y' : Nat, y' < y ∧ Nat.gcd x' y' = Nat.gcd a b ∧ σ' = [some (.int x'), some (.int y')], fun σ' H'' ⟨e, x', y', lt, g, es⟩ => ⟨y', by rw [em]; exact lt, e, x', y', rfl, g, es⟩, ?_⟩
      refine ⟨_, rfl, _, rfl, .inl ⟨_, rfl, _, rfl, .inl ⟨_, rfl, _, _, rfl, rfl, by show (0 : Int) < (y : Int); omega, _, _, rfl, rfl, y, x % y, Nat.mod_lt _ (by omega), ?_, ?_⟩⟩⟩
      · rw [Nat.gcd_comm, ← Nat.gcd_rec, Nat.gcd_comm]
        exact hg
      · show _ = [some (V.int y), some (V.int ((x % y : Nat) : Int))]
        rw [Int.natCast_emod]
        rfl
def spLcm : Sp := fun vs H Q _ => ∃ (a b : Nat), vs = [.int a, .int b] ∧ 0 < a ∧ a ≤ 1000000 ∧ b ≤ 6 ∧ Q (.int (lcmM a b : Nat)) H
abbrev N_least_common_multiple : List Str := ["one", "other"]
theorem sc_least_common_multiple : FnScope N_least_common_multiple ["one", "other"] (defScope t_least_common_multiple) := ⟨rfl, rfl, rfl, by decide +kernel, rfl, by decide +kernel, by decide +kernel⟩
theorem ok_lcm (T : Txt K mg) : Cal P w K mg base CX0 2 "least_common_multiple" ["one", "other"] spLcm := by
  have C_greatest_common_divisor : Cal P w K mg base CX0 1 _ _ _ := ok_gcd T
  refine T.d_least_common_multiple.mk0 sc_least_common_multiple (fun _ _ _ _ _ _ us hl => match us, hl with | [_, _], _ => rfl) (fun vs H Q E h => ?_) (fun f cdv A outer st H vs Q E hr h => ?_)
  · obtain ⟨_, _, rfl, _⟩ := h
    rfl
  · obtain ⟨a, b, rfl, ha, hb, hb6, hQ⟩ := h
    refine ⟨_, ((pss_one (ps_ret (pe_op op_mul (pe_op op_fdiv (pv 0) (pe_cal C_greatest_common_divisor (hr.mono (by decide)) rfl pass0 (pa_cons (pv 0) (pa_cons (pv 1) pa_nil)))) (pv 1))))), ?_⟩
    have g0 := Nat.gcd_pos_of_pos_left b ha
    have g1 := Nat.le_of_dvd ha (Nat.gcd_dvd_left a b)
    refine ⟨_, rfl, _, rfl, _, rfl, a, b, rfl, _, _, rfl, rfl, ⟨by omega, by omega⟩, _, rfl, _, _, rfl, rfl, .inr ⟨by omega, by omega⟩, ?_⟩
    have e : ((a : Int) / (Nat.gcd a b : Nat)) * (b : Int) = (lcmM a b : Nat) := by
      unfold lcmM
      rw [Int.natCast_mul, Int.natCast_ediv]
    show Q (.int ((a : Int) / (Nat.gcd a b : Nat) * (b : Int))) H
    rw [e]
    exact hQ
/-! ### route_period, pattern_of -/
/-- how Python compares two routes -/
def eqsR (a b : List (Option Nat)) : Bool := PyData.eqv (roD a) (roD b)
theorem shRo (ro : List (Option Nat)) : Sh 1 (roD ro) := shTup fun d hd => by
  obtain ⟨o, _, rfl⟩ := List.mem_map.mp hd
  cases o with
  | none => exact shNon 0
  | some k => exact shInt 0 _
theorem roTp {H : Hp} : ∀ (ro : List (Option Nat)), TpAll K H (ro.map entV) (ro.map entD)
  | [] => .nil
  | none :: ro => .cons .non (roTp ro)
  | some k :: ro => .cons (.int _) (roTp ro)
def spPer (K : PySem.W.Frag) : Sp := fun vs H Q _ => ∃ (r : Addr) (ro : List (Option Nat)), vs = [.ref r] ∧ SqT K H r (ro.map entV) ∧ 1 ≤ ro.length ∧ ro.length ≤ 6 ∧ ∀ H', Same H H' → Q (.int (perM eqsR ro : Nat)) H'
abbrev N_route_period : List Str := ["route", "length"]
theorem sc_route_period : FnScope N_route_period ["route"] (defScope t_route_period) := ⟨rfl, rfl, rfl, by decide +kernel, rfl, by decide +kernel, by decide +kernel⟩
theorem rep_flat {α β : Type} (f : α → β) (n : Nat) (l : List α) : (List.replicate n (l.map f)).flatten = (List.replicate n l).flatten.map f := by
  induction n with
  | zero => rfl
  | succ n ih => rw [List.replicate_succ, List.replicate_succ, List.flatten_cons, List.flatten_cons, List.map_append, ih]
theorem ok_route_period (T : Txt K mg) : Cal P w K mg base CX0 1 "route_period" ["route"] (spPer K) := by
  refine T.d_route_period.mk0 sc_route_period (fun _ _ _ _ _ _ us hl => match us, hl with | [_], _ => rfl) (fun vs H Q E h => ?_) (fun f cdv A outer st H vs Q E hr h => ?_)
  · obtain ⟨_, _, rfl, _⟩ := h
    rfl
  · obtain ⟨r, ro, rfl, hq, h1, h6, k⟩ := h
    refine ⟨_, ((pss_cons (ps_for PassesOwn.never rfl (pi_range2 (by rfl) T.f_range (pa_cons pe_int (pa_cons (pe_callB (k_len (K := K)) (by rfl) T.f_len b_len (pa_cons (pv 0) pa_nil)) pa_nil))) (pg_name (i := 1) sc_route_period.nd rfl (Or.inl rfl))
    (pss_one (ps_if (PW.pt (pw_and (pt_cmpR op_eq (pe_op op_mul (pe_op op_fdiv (pe_callB (k_len (K := K)) (by rfl) T.f_len b_len (pa_cons (pv 0) pa_nil)) (pv 1)) (pv 1)) (pe_callB (k_len (K := K)) (by rfl) T.f_len b_len (pa_cons (pv 0) pa_nil)) (nomark _)) (pw_and1 (pt_cmpR (k_eqD (K := K) hr.units) (pv 0) (pe_op (k_repT (K := K)) (pe_slice (k_slT (K := K)) (pv 0) po_none (po_some (pv 1))) (pe_op op_fdiv (pe_callB (k_len (K := K)) (by rfl) T.f_len b_len (pa_cons (pv 0) pa_nil)) (pv 1))) (nomark _)))))
      (pss_one (ps_ret (pv 1)))
      pss_nil)))
    (pss_one (ps_ret (pe_callB (k_len (K := K)) (by rfl) T.f_len b_len (pa_cons (pv 0) pa_nil)))))), ?_⟩
    have len : (ro.map entV).length = ro.length := List.length_map _
    have fdiv : ∀ i : Nat, (ro.length : Int) / ((i : Nat) : Int) = ((ro.length / i : Nat) : Int) := fun i => (Int.natCast_ediv _ _).symm
    refine ⟨_, rfl, r, _, rfl, .inr hq, _, _, rfl, ⟨by omega, by omega, by omega, by omega⟩, for_range (lo := 1) (n := (((ro.map entV).length : Nat) - 1 : Int).toNat) (fun i σ H' => ∃ u, σ = [some (.ref r), u] ∧ Same H H' ∧ perFrom eqsR ro (ro.length - 1 - i) (1 + i) = perM eqsR ro) ⟨_, rfl, Same.refl H, rfl⟩ ?_ ?_⟩
    · rintro i σ H' hi ⟨u, rfl, s5, hp⟩
      rw [len] at hi
      have li : i < ro.length - 1 := by omega
      have hq5 := sqTm (sTm s5) hq
      have ei : (1 : Int) + (i : Nat) = ((1 + i : Nat) : Int) := by omega
      rw [ei]
      have hp2 : (if perOk eqsR ro (1 + i) = true then 1 + i else perFrom eqsR ro (ro.length - 1 - (i + 1)) (1 + (i + 1))) = perM eqsR ro := by
        rw [← hp, show ro.length - 1 - i = (ro.length - 1 - (i + 1)) + 1 by omega]
        rfl
      refine ⟨_, rfl, r, _, rfl, .inr hq5, _, rfl, _, _, rfl, rfl, ⟨by omega, by omega⟩, _, rfl, _, _, rfl, rfl, .inr ⟨by omega, by omega⟩, _, rfl, r, _, rfl, .inr hq5, rfl, _, rfl, ?_⟩
      have cond : decide (V.int (((ro.map entV).length : Nat) / ((1 + i : Nat) : Int) * ((1 + i : Nat) : Int)) = V.int ((ro.map entV).length : Nat)) = decide (ro.length / (1 + i) * (1 + i) = ro.length) := by
        rw [len, fdiv, ← Int.natCast_mul]
        by_cases c : ro.length / (1 + i) * (1 + i) = ro.length
        · rw [decide_eq_true c, c, decide_eq_true rfl]
        · rw [decide_eq_false c, decide_eq_false fun z => c (by injection z with z; exact Int.ofNat.inj z)]
      rw [cond]
      by_cases c : ro.length / (1 + i) * (1 + i) = ro.length
      · rw [decide_eq_true c]
        have k2 : 2 ≤ ro.length / (1 + i) := by
          have key : ∀ z : Nat, z * (1 + i) = ro.length → 2 ≤ z := by
            intro z hz
            match z, hz with
            | 0, hz => omega
            | 1, hz => omega
            | z + 2, _ => omega
          exact key _ c
        have k6 : ro.length / (1 + i) ≤ 6 := Nat.le_trans (Nat.div_le_self _ _) h6
        have test : ∀ (H2 : Hp) (p : Addr), Same H H2 → SqT K H2 p (((List.replicate (ro.length / (1 + i)) (ro.take (1 + i))).flatten).map entV) → ∀ (A B : Hp → Prop), (perOk eqsR ro (1 + i) = true → A H2) → (perOk eqsR ro (1 + i) = false → B H2) →
            rEqD K (.ref r) (.ref p) H2 fun x H3 => ∃ c, x = .bl c ∧ (if c = true then A H3 else B H3) := fun H2 p S hp2' A B ha hb => by
          refine ⟨_, _, tpDp (.tup (sqTm (sTm S) hq) (roTp ro)), tpDp (.tup hp2' (roTp _)), shaped_of (shRo ro) (by decide), shaped_of (shRo _) (by decide), _, rfl, ?_⟩
          have e : perOk eqsR ro (1 + i) = PyData.eqv (roD ro) (roD (List.replicate (ro.length / (1 + i)) (ro.take (1 + i))).flatten) := by
            unfold perOk
            rw [decide_eq_true c, Bool.true_and]
            rfl
          by_cases q : perOk eqsR ro (1 + i) = true
          · exact ifT (by rw [← q, e]; rfl) (ha q)
          · have q' : perOk eqsR ro (1 + i) = false := by simpa using q
            exact ifF (by rw [← q', e]; rfl) (hb q')
        have fin : ∀ (H2 : Hp), Same H H2 → (perOk eqsR ro (1 + i) = true → Q (.int ((1 + i : Nat) : Int)) H2) ∧ (perOk eqsR ro (1 + i) = false → ∃ u', ([some (V.ref r), some (V.int ((1 + i : Nat) : Int))] : L2.St) = [some (V.ref r), u'] ∧ Same H H2 ∧ perFrom eqsR ro (ro.length - 1 - (i + 1)) (1 + (i + 1)) = perM eqsR ro) := fun H2 S => by
          refine ⟨fun q => ?_, fun q => ⟨_, rfl, S, ?_⟩⟩
          · rw [if_pos q] at hp2
            rw [hp2]
            exact k H2 S
          · rw [q, if_neg Bool.false_ne_true] at hp2
            exact hp2
        refine ifT rfl ⟨_, rfl, _, rfl, _, rfl, _, rfl, r, _, rfl, hq5, fun hw => ?_, fun hw p hp' => ?_⟩
        · rw [HT.sIx_nat, len] at hw
          exact absurd hw.2 (by omega)
        · have s6 := sNew s5 hp' (.tup (cutV (ro.map entV) none (some ((1 + i : Nat) : Int))))
          have hq6 := sqTm (sTm s6) hq
          have cut := cut_take (ro.map entV) (1 + i) (by rw [len]; omega)
          refine ⟨_, rfl, r, _, rfl, .inr hq6, _, rfl, _, _, rfl, rfl, ⟨by omega, by omega⟩, p, _, _, rfl, rfl, SqT.of upd_same, ?_, ?_, ?_, ?_, fun p2 hp2' => ?_⟩
          · rw [cut, ← List.map_take]
            intro z
            have := congrArg List.length z
            rw [List.length_map, List.length_take, List.length_nil] at this
            omega
          · rw [len, fdiv]; omega
          · rw [len, fdiv]; omega
          · rw [cut, List.length_take, len]; omega
          · have s7 := sNew s6 hp2' (.tup (List.replicate (((ro.map entV).length : Nat) / ((1 + i : Nat) : Int)).toNat (cutV (ro.map entV) none (some ((1 + i : Nat) : Int)))).flatten)
            refine test _ p2 s7 ?_ _ _ (fun q => ⟨_, rfl, (fin _ s7).1 q⟩) (fun q => (fin _ s7).2 q)
            have e : (List.replicate (((ro.map entV).length : Nat) / ((1 + i : Nat) : Int)).toNat (cutV (ro.map entV) none (some ((1 + i : Nat) : Int)))).flatten = ((List.replicate (ro.length / (1 + i)) (ro.take (1 + i))).flatten).map entV := by
              rw [len, fdiv, Int.toNat_natCast, cut, ← List.map_take, rep_flat]
            rw [← e]
            exact SqT.of upd_same
      · rw [decide_eq_false c]
        refine ifF rfl (ifF rfl ⟨_, rfl, s5, ?_⟩)
        have q : perOk eqsR ro (1 + i) = false := by
          unfold perOk
          rw [decide_eq_false c]
          rfl
        rw [q, if_neg Bool.false_ne_true] at hp2
        exact hp2
    · rintro σ H' ⟨u, rfl, s5, hp⟩
      refine ⟨_, rfl, r, _, rfl, .inr (sqTm (sTm s5) hq), ?_⟩
      rw [len] at hp ⊢
      have e : ro.length - 1 - ((ro.length : Nat) - 1 : Int).toNat = 0 := by omega
      rw [e] at hp
      have hp : ro.length = perM eqsR ro := hp
      rw [hp]
      exact k H' s5
def spPat (K : PySem.W.Frag) : Sp := fun vs H Q _ => ∃ (v : V) (sz : List Nat) (rt : Rt), vs = [v] ∧ Tp K H v (planD sz rt) ∧ PlanOk sz rt ∧ ∀ H', Same H H' → Q (.int (patM eqsR rt : Nat)) H'
abbrev N_pattern_of : List Str := ["plan", "length", "route"]
theorem sc_pattern_of : FnScope N_pattern_of ["plan"] (defScope t_pattern_of) := ⟨rfl, rfl, rfl, by decide +kernel, rfl, by decide +kernel, by decide +kernel⟩
theorem ok_pattern_of (T : Txt K mg) : Cal P w K mg base CX0 3 "pattern_of" ["plan"] (spPat K) := by
  have C_least_common_multiple : Cal P w K mg base CX0 2 _ _ _ := ok_lcm T
  have C_route_period : Cal P w K mg base CX0 1 _ _ _ := ok_route_period T
  refine T.d_pattern_of.mk0 sc_pattern_of (fun _ _ _ _ _ _ us hl => match us, hl with | [_], _ => rfl) (fun vs H Q E h => ?_) (fun f cdv A outer st H vs Q E hr h => ?_)
  · obtain ⟨_, _, _, rfl, _⟩ := h
    rfl
  · obtain ⟨v, sz, rt, rfl, hv, ok, k⟩ := h
    obtain ⟨a, sa, ra, rr, PA⟩ := planInv hv
    obtain rfl := PA.ev
    refine ⟨_, ((pss_cons (ps_set (i := 1) sc_pattern_of.nd rfl (Or.inl rfl) pe_int)
    (pss_cons (ps_for PassesOwn.never rfl (ki_tup (K := K) (pe_ix (k_ixT (K := K)) (pv 0) pe_int (fun _ _ => rfl))) (pg_name (i := 2) sc_pattern_of.nd rfl (Or.inl rfl))
    (pss_one (ps_set (i := 1) sc_pattern_of.nd rfl (Or.inl rfl) (pe_cal C_least_common_multiple (hr.mono (by decide)) rfl pass0 (pa_cons (pv 1) (pa_cons (pe_cal C_route_period (hr.mono (by decide)) rfl pass0 (pa_cons (pv 2) pa_nil)) pa_nil))))))
    (pss_one (ps_ret (pv 1)))))), ?_⟩
    have lrt := PA.rlen
    refine ⟨_, rfl, a, _, _, _, rfl, rfl, PA.top, rfl, ra, rfl, ⟨_, PA.rts⟩, for_tup (K := K) (a := ra) (xs := rr) (fun i σ H' => ∃ u, σ = [some (.ref a), some (.int (patP eqsR rt i : Nat)), u] ∧ Same H H') ⟨_, rfl, Same.refl H⟩ (fun i σ H' _ hp => sqTm (sTm hp.choose_spec.2) PA.rts) ?_ ?_⟩
    · rintro i x σ H' hx ⟨u, rfl, s5⟩
      have PA5 := PA.keep (sTm s5)
      obtain ⟨ro, q, hro, rfl, hq⟩ := PA5.route hx
      have mem := List.mem_of_getElem? hro
      have li := (List.getElem?_eq_some_iff.mp hro).1
      obtain ⟨e1, e6⟩ := ok.e1 ro mem
      obtain ⟨b1, b2⟩ := patP_bound (eqs := eqsR) ok.e1 i (Nat.le_of_lt li)
      have b3 : 6 ^ i ≤ 6 ^ 6 := Nat.pow_le_pow_right (by decide) (by have := ok.r2; omega)
      have p6 : perM eqsR ro ≤ 6 := Nat.le_trans (perFrom_le _ _ (by omega)) e6
      refine ⟨_, rfl, _, rfl, q, ro, rfl, hq, e1, e6, fun H6 s6 => ?_⟩
      refine ⟨_, _, rfl, b1, by omega, p6, some (.ref q), ?_, s5.trans s6⟩
      rw [patP_succ hro]
      rfl
    · rintro σ H' ⟨u, rfl, s5⟩
      refine ⟨_, rfl, ?_⟩
      rw [lrt]
      exact k H' s5
/-! ### visits_of -/
def spVis (K : PySem.W.Frag) : Sp := fun vs H Q _ => ∃ (v : V) (sz : List Nat) (rt : Rt) (t : Int), vs = [v, .int t] ∧ Tp K H v (planD sz rt) ∧ PlanOk sz rt ∧
  ∀ (H' : Hp) (p : Addr) (xs : List V), Same H H' → H p = none → H' p = some (.lst xs) → TpAll K H' xs ((vis rt t).map fun q => .tuple [.int q.1, .int q.2]) → Q (.ref p) H'
abbrev N_visits_of : List Str := ["plan", "number", "found", "carrier", "route", "shelf"]
theorem sc_visits_of : FnScope N_visits_of ["plan", "number"] (defScope t_visits_of) := ⟨rfl, rfl, rfl, by decide +kernel, rfl, by decide +kernel, by decide +kernel⟩
theorem ok_visits_of (T : Txt K mg) : Cal P w K mg base CX0 1 "visits_of" ["plan", "number"] (spVis K) := by
  refine T.d_visits_of.mk0 sc_visits_of (fun _ _ _ _ _ _ us hl => match us, hl with | [_, _], _ => rfl) (fun vs H Q E h => ?_) (fun f cdv A outer st H vs Q E hr h => ?_)
  · obtain ⟨_, _, _, _, rfl, _⟩ := h
    rfl
  · obtain ⟨v, sz, rt, t, rfl, hv, ok, k⟩ := h
    obtain ⟨a, sa, ra, rr, PA⟩ := planInv hv
    obtain rfl := PA.ev
    refine ⟨_, ((pss_cons (ps_set (i := 2) sc_visits_of.nd rfl (Or.inl rfl) (pe_lst pa_nil))
    (pss_cons (ps_for PassesOwn.never rfl (ki_enumT (K := K) (by rfl) T.f_enumerate (pa_cons (pe_ix (k_ixT (K := K)) (pv 0) pe_int (fun _ _ => rfl)) pa_nil)) (kg_tup (K := K) rfl (pgs_cons (pg_name (i := 3) sc_visits_of.nd rfl (Or.inl rfl)) (pgs_cons (pg_name (i := 4) sc_visits_of.nd rfl (Or.inl rfl)) pgs_nil)))
    (pss_cons (ps_set (i := 5) sc_visits_of.nd rfl (Or.inl rfl) (pe_ix (k_ixT (K := K)) (pv 4) (pe_op op_mod (pe_callTy call_int1 (by rfl) T.f_int b_int (pa_cons (pe_op op_sub (pv 1) pe_int) pa_nil)) (pe_callB (k_len (K := K)) (by rfl) T.f_len b_len (pa_cons (pv 4) pa_nil))) (fun _ _ => rfl)))
      (pss_one (ps_if (pt_cmpR op_notN (pv 5) pe_non (nomark _))
      (pss_one (ps_expr (k_append (K := K) (pv 2) (pa_cons (pe_tup (pa_cons (pv 3) (pa_cons (pv 5) pa_nil))) pa_nil))))
      pss_nil))))
    (pss_one (ps_ret (pv 2)))))), ?_⟩
    have lrt := PA.rlen
    have r2 := ok.r2
    refine ⟨Nat.zero_le _, fun D hD => ?_⟩
    have s1 := sNew (Same.refl H) hD (.lst [])
    have PA1 := PA.keep (sTm s1)
    refine ⟨_, rfl, a, _, _, _, rfl, rfl, PA1.top, rfl, ra, rr, rfl, PA1.rts, for_pairs (K := K) walkT (fun i σ H' => ∃ u3 u4 u5, σ = [some (.ref a), some (.int t), some (.ref D), u3, u4, u5] ∧ Same H H' ∧ ∃ xs, H' D = some (.lst xs) ∧ TpAll K H' xs ((visP rt t i).map fun q => .tuple [.int q.1, .int q.2]))
      ⟨_, _, _, rfl, s1, [], upd_same, .nil⟩ (fun i σ H' _ hp => sqTm (sTm hp.choose_spec.choose_spec.choose_spec.2.1) PA.rts) ?_ ?_⟩
    · rintro i x σ H' T' hi hx ⟨u3, u4, u5, rfl, s5, xs, hl, hxs⟩ hT'
      have s6 := sNew s5 hT' (.tup [.int (i : Nat), x])
      have PA6 := PA.keep (sTm s6)
      obtain ⟨ro, q, hro, rfl, hq⟩ := PA6.route hx
      have mem := List.mem_of_getElem? hro
      have li := (List.getElem?_eq_some_iff.mp hro).1
      obtain ⟨e1, e6⟩ := ok.e1 ro mem
      have gd : rt.getD i [] = ro := getD_of hro
      have len : (ro.map entV).length = ro.length := List.length_map _
      have m0 : 0 ≤ (t - 1) % (ro.length : Int) := Int.emod_nonneg _ (by omega)
      have m1 : (t - 1) % (ro.length : Int) < ro.length := Int.emod_lt_of_pos _ (by omega)
      have hl6 : upd H' T' (.tup [.int (i : Nat), .ref q]) D = some (.lst xs) := upd_keep hl hT'
      have lx := tpLen hxs
      rw [List.length_map] at lx
      have lv := visP_len rt t i
      have at_ : atI (ro.map entV) ((t - 1) % ((ro.map entV).length : Int)) = some (entV (entryAt ro t)) := by
        rw [len]
        have e : (t - 1) % (ro.length : Int) = (((t - 1) % (ro.length : Int)).toNat : Int) := (Int.toNat_of_nonneg m0).symm
        rw [e]
        refine atI_nat ?_
        rw [List.getElem?_map, some_of_lt none (by omega)]
        rfl
      refine ⟨_, rfl, _, rfl, _, _, rfl, rfl, .inl ⟨_, rfl, _, rfl, q, _, rfl, .inr hq, _, _, rfl, rfl, by show (0 : Int) < ((ro.map entV).length : Nat); rw [len]; omega, q, _, _, _, rfl, rfl, hq, at_, ?_⟩⟩
      have vs := visP_succ rt t i
      cases e : entryAt ro t with
      | none =>
        refine ⟨_, rfl, rfl, _, rfl, ifF rfl ⟨_, _, _, rfl, s6, xs, hl6, ?_⟩⟩
        rw [vs]
        have : visOne rt t i = [] := by unfold visOne; rw [gd, e]
        rw [this, List.append_nil]
        exact tpKeepAll (tmNew hT' _) hxs
      | some s =>
        refine ⟨_, rfl, rfl, _, rfl, ifT rfl ⟨_, rfl, .inl ⟨rfl, _, SqL.of hl6⟩, _, rfl, _, rfl, leLine (show 2 ≤ 100000 by decide), fun p hp => ?_⟩⟩
        have s7 := sNew s6 hp (.tup [.int (i : Nat), .int (s : Nat)])
        have hl7 := upd_keep (u := .tup [.int (i : Nat), .int (s : Nat)]) hl6 hp
        have pne : p ≠ D := fun z => by
          rw [z, hl6] at hp
          cases hp
        refine ⟨D, xs, _, rfl, rfl, hl7, ltLine (by omega), _, _, _, rfl, sWr s7 hD _, _, upd_same, ?_⟩
        rw [vs]
        have : visOne rt t i = [(i, s)] := by unfold visOne; rw [gd, e]
        rw [this, List.map_append]
        refine tpApp (tpKeepAll ((tmNew hT' _).trans ((tmNew hp _).trans (tmLst hl7 _))) hxs) (.cons (.tup (xs := [.int (i : Nat), .int (s : Nat)]) (SqT.of ?_) (.cons (.int _) (.cons (.int _) .nil))) .nil)
        rw [upd_ne pne, upd_same]
        rfl
    · rintro σ H' ⟨u3, u4, u5, rfl, s5, xs, hl, hxs⟩
      refine ⟨_, rfl, k H' D xs s5 hD hl ?_⟩
      rw [lrt] at hxs
      exact hxs
end
end K14
/-! ## K14E -/
namespace K14
open PySem PySem.Spec PyProof.Rows L2
/-- all stands but the list at p -/
structure Sx (p : Addr) (H H' : Hp) : Prop where
  keep : ∀ b u, b ≠ p → H b = some u → H' b = some u
theorem Sx.of {p : Addr} {H H' : Hp} (s : Same H H') : Sx p H H' := ⟨fun b u _ e => s b u e⟩
theorem Sx.wr {p : Addr} {H H' : Hp} (s : Sx p H H') (o : HO) : Sx p H (upd H' p o) := ⟨fun b u hb e => by rw [upd_ne hb]; exact s.keep b u hb e⟩
theorem Sx.new {p q : Addr} {H H' : Hp} (s : Sx p H H') (hq : H' q = none) (o : HO) : Sx p H (upd H' q o) := ⟨fun b u hb e => upd_keep (s.keep b u hb e) hq⟩
theorem Sx.trans {p : Addr} {H H1 H2 : Hp} (s : Sx p H H1) (t : Sx p H1 H2) : Sx p H H2 := ⟨fun b u hb e => t.keep b u hb (s.keep b u hb e)⟩
theorem Sx.same {p : Addr} {H0 H H' : Hp} (t : Sx p H H') (s : Same H0 H) (hp : H0 p = none) : Same H0 H' := fun b u e => t.keep b u (ne_of_none e hp) (s b u e)
theorem Sx.tm {p : Addr} {H H' : Hp} {xs : List V} (t : Sx p H H') (hp : H p = some (.lst xs)) : Tm H H' :=
  ⟨fun b ys e => t.keep b _ (ne_of e hp (by intro z; cases z)) e, fun b o u e => t.keep b _ (ne_of e hp (by intro z; cases z)) e⟩
theorem cut_two (xs : List V) (a b : Nat) (ha : a ≤ xs.length) (hb : b ≤ xs.length) : cutV xs (some (a : Int)) (some (b : Int)) = (xs.drop a).take (b - a) := by
  unfold cutV
  rw [HT.sIx_nat, HT.sIx_nat, Nat.min_eq_left ha, Nat.min_eq_left hb]
theorem ixNat {n j : Nat} (hj : j < n) : ixN n (j : Int) = some j := by
  unfold ixN
  rw [if_pos (Int.natCast_nonneg j), if_pos (Int.ofNat_lt.mpr hj), Int.toNat_natCast]
section
variable {P : Program} {w : World} {K : PySem.W.Frag} {mg : Str → Option Value} {base : Heap}
/-! ### exchange -/
def spExch (K : PySem.W.Frag) : Sp := fun vs H Q _ => ∃ (v : V) (sz : List Nat) (rt : Rt) (p : Addr) (xs : List V) (c s : Nat), vs = [v, .ref p, .int c, .int s] ∧ Tp K H v (planD sz rt) ∧ PlanOk sz rt ∧ H p = some (.lst xs) ∧ xs.length = nn sz rt ∧ c < rt.length ∧ s < sz.length ∧
  ∀ H', Sx p H H' → H' p = some (.lst (exch sz rt.length xs c s)) → Q .non H'
abbrev N_exchange : List Str := ["plan", "contents", "carrier", "shelf", "size", "first", "taken"]
theorem sc_exchange : FnScope N_exchange ["plan", "contents", "carrier", "shelf"] (defScope t_exchange) := ⟨rfl, rfl, rfl, by decide +kernel, rfl, by decide +kernel, by decide +kernel⟩
theorem ok_exchange (T : Txt K mg) : Cal P w K mg base CX0 2 "exchange" ["plan", "contents", "carrier", "shelf"] (spExch K) := by
  have C_first_on : Cal P w K mg base CX0 1 _ _ _ := ok_first_on T
  refine T.d_exchange.mk0 sc_exchange (fun _ _ _ _ _ _ us hl => match us, hl with | [_, _, _, _], _ => rfl) (fun vs H Q E h => ?_) (fun f cdv A outer st H vs Q E hr h => ?_)
  · obtain ⟨_, _, _, _, _, _, _, rfl, _⟩ := h
    rfl
  · obtain ⟨v, sz, rt, p, xs, c, s, rfl, hv, ok, hp, hx, hc, hs, k⟩ := h
    obtain ⟨a, sa, ra, rr, PA⟩ := planInv hv
    obtain rfl := PA.ev
    refine ⟨_, ((pss_cons (ps_par (i := 4) (j := 5) (by rfl) sc_exchange.nd rfl rfl (by decide) rfl rfl (pa_cons (pe_ix (k_ixT (K := K)) (pe_ix (k_ixT (K := K)) (pv 0) pe_int (fun _ _ => rfl)) (pv 3) (fun _ _ => rfl)) (pa_cons (pe_cal C_first_on (hr.mono (by decide)) rfl pass0 (pa_cons (pv 0) (pa_cons (pv 3) pa_nil))) pa_nil)) (by rfl))
    (pss_one (ps_if (pt_cmpR op_gt (pv 4) pe_int (nomark _))
    (pss_cons (ps_set (i := 6) sc_exchange.nd rfl (Or.inl rfl) (pe_ix (k_ixL (K := K)) (pv 1) (pv 5) (fun _ _ => rfl)))
      (pss_cons (ps_asg (pe_op op_cat (pe_slice (k_slL (K := K)) (pv 1) (po_some (pe_op op_add (pv 5) pe_int)) (po_some (pe_op op_add (pv 5) (pv 4)))) (pe_lst (pa_cons (pe_ix (k_ixL (K := K)) (pv 1) (pv 2) (fun _ _ => rfl)) pa_nil))) (pg_slice (pv 1) (po_some (pv 5)) (po_some (pe_op op_add (pv 5) (pv 4)))))
      (pss_one (ps_asg (pv 6) (pg_sub (pv 1) (pv 2) set_list)))))
    pss_nil)))), ?_⟩
    have nle := ok.n_le
    have le := take_sum_le hs
    have m0 : rt.length + sz.sum ≤ 114 := nle
    have hx' : xs.length = rt.length + sz.sum := hx
    refine ⟨_, rfl, a, _, _, _, rfl, rfl, PA.top, rfl, _, rfl, sa, _, _, _, rfl, rfl, PA.szs, atI_nat (natsI_at hs), _, rfl, _, rfl, _, sz, rt, s, rfl, hv, hs, fun H1 S1 => ⟨_, _, rfl, ?_⟩⟩
    have hp1 := S1 _ _ hp
    refine ⟨_, rfl, _, _, rfl, rfl, _, rfl, ?_⟩
    by_cases z0 : sz.getD s 0 = 0
    · refine ifF (decide_eq_false (by omega)) (k H1 (.of S1) ?_)
      rw [hp1]
      unfold exch
      rw [if_pos z0]
    · have f1 : rt.length + (sz.take s).sum < xs.length := by omega
      have c1 : c < xs.length := by omega
      have ht := List.getElem?_eq_getElem f1
      have hu := List.getElem?_eq_getElem c1
      refine ifT (decide_eq_true (by omega)) ⟨_, rfl, _, rfl, p, xs, _, _, rfl, rfl, SqL.of hp1, atI_nat ht, ?_⟩
      refine ⟨_, rfl, _, rfl, _, _, rfl, rfl, _, rfl, _, rfl, _, rfl, _, _, rfl, rfl, _, rfl, p, xs, rfl, SqL.of hp1, fun q hq => ?_⟩
      have hpq := upd_keep (u := .lst (cutV xs (some (((rt.length + (sz.take s).sum : Nat) : Int) + 1)) (some (((rt.length + (sz.take s).sum : Nat) : Int) + (sz.getD s 0 : Nat))))) hp1 hq
      refine ⟨_, rfl, _, rfl, p, xs, _, _, rfl, rfl, SqL.of hpq, atI_nat hu, leLine (show 1 ≤ 100000 by decide), fun q2 hq2 => ?_⟩
      have cut : cutV xs (some (((rt.length + (sz.take s).sum : Nat) : Int) + 1)) (some (((rt.length + (sz.take s).sum : Nat) : Int) + (sz.getD s 0 : Nat))) = (xs.drop (rt.length + (sz.take s).sum + 1)).take (sz.getD s 0 - 1) := by
        have := cut_two xs (rt.length + (sz.take s).sum + 1) (rt.length + (sz.take s).sum + sz.getD s 0) (by omega) (by omega)
        rw [show rt.length + (sz.take s).sum + sz.getD s 0 - (rt.length + (sz.take s).sum + 1) = sz.getD s 0 - 1 by omega] at this
        rw [← this]
        rfl
      rw [cut] at hpq hq2 ⊢
      have hpq2 := upd_keep (u := .lst [xs[c]]) hpq hq2
      have hqq2 : upd (upd H1 q (.lst ((xs.drop (rt.length + (sz.take s).sum + 1)).take (sz.getD s 0 - 1)))) q2 (.lst [xs[c]]) q = some (.lst ((xs.drop (rt.length + (sz.take s).sum + 1)).take (sz.getD s 0 - 1))) := upd_keep upd_same hq2
      refine ⟨q, q2, _, _, rfl, rfl, hqq2, upd_same, leLine (by rw [List.length_take, List.length_singleton]; omega), fun q3 hq3 => ?_⟩
      have hpq3 := upd_keep (u := .lst ((xs.drop (rt.length + (sz.take s).sum + 1)).take (sz.getD s 0 - 1) ++ [xs[c]])) hpq2 hq3
      have pne : p ≠ q3 := fun z => by rw [← z, hpq2] at hq3; cases hq3
      refine ⟨_, rfl, _, rfl, _, rfl, _, rfl, _, rfl, _, _, rfl, rfl, _, rfl, p, q3, xs, _, _, _, rfl, rfl, rfl, rfl, hpq3, upd_same, pne, by omega, by omega, by omega, leLine (by rw [List.length_append, List.length_take, List.length_singleton]; omega), ?_⟩
      rw [show ((rt.length + (sz.take s).sum : Nat) : Int).toNat = rt.length + (sz.take s).sum from Int.toNat_natCast _, show (((rt.length + (sz.take s).sum : Nat) : Int) + (sz.getD s 0 : Nat)).toNat = rt.length + (sz.take s).sum + sz.getD s 0 by omega]
      refine ⟨_, rfl, _, rfl, _, rfl, p, _, _, c, rfl, rfl, upd_same, ixNat ?_, ?_⟩
      · rw [List.length_append, List.length_append, List.length_take]
        omega
      · refine k _ (((((Sx.of S1).new hq _).new hq2 _).new hq3 _ |>.wr _).wr _) ?_
        rw [upd_same]
        unfold exch
        rw [if_neg z0, ht, hu]
/-! ### run_tick -/
def spTick (K : PySem.W.Frag) : Sp := fun vs H Q _ => ∃ (v : V) (sz : List Nat) (rt : Rt) (p : Addr) (xs : List V) (t : Int), vs = [v, .ref p, .int t] ∧ Tp K H v (planD sz rt) ∧ PlanOk sz rt ∧ H p = some (.lst xs) ∧ xs.length = nn sz rt ∧
  ∀ H', Sx p H H' → H' p = some (.lst (runT sz rt.length (vis rt t) xs)) → Q .non H'
abbrev N_run_tick : List Str := ["plan", "contents", "number", "carrier", "shelf"]
theorem sc_run_tick : FnScope N_run_tick ["plan", "contents", "number"] (defScope t_run_tick) := ⟨rfl, rfl, rfl, by decide +kernel, rfl, by decide +kernel, by decide +kernel⟩
theorem ok_run_tick (T : Txt K mg) : Cal P w K mg base CX0 3 "run_tick" ["plan", "contents", "number"] (spTick K) := by
  have C_visits_of : Cal P w K mg base CX0 1 _ _ _ := ok_visits_of T
  have C_exchange : Cal P w K mg base CX0 2 _ _ _ := ok_exchange T
  refine T.d_run_tick.mk0 sc_run_tick (fun _ _ _ _ _ _ us hl => match us, hl with | [_, _, _], _ => rfl) (fun vs H Q E h => ?_) (fun f cdv A outer st H vs Q E hr h => ?_)
  · obtain ⟨_, _, _, _, _, _, rfl, _⟩ := h
    rfl
  · obtain ⟨v, sz, rt, p, xs, t, rfl, hv, ok, hp, hx, k⟩ := h
    refine ⟨_, ((pss_one (ps_for PassesOwn.never rfl (ki_list (K := K) (pe_cal C_visits_of (hr.mono (by decide)) rfl pass0 (pa_cons (pv 0) (pa_cons (pv 2) pa_nil)))) (kg_tup (K := K) rfl (pgs_cons (pg_name (i := 3) sc_run_tick.nd rfl (Or.inl rfl)) (pgs_cons (pg_name (i := 4) sc_run_tick.nd rfl (Or.inl rfl)) pgs_nil)))
    (pss_one (ps_expr (pe_cal C_exchange (hr.mono (by decide)) rfl pass0 (pa_cons (pv 0) (pa_cons (pv 1) (pa_cons (pv 3) (pa_cons (pv 4) pa_nil)))))))))), ?_⟩
    refine ⟨_, rfl, _, rfl, v, sz, rt, t, rfl, hv, ok, fun H1 q ys S1 hq hl hys => ?_⟩
    have hp1 := S1 _ _ hp
    have pq : p ≠ q := ne_of_none hp hq
    have ly := tpLen hys
    rw [List.length_map] at ly
    refine ⟨q, rfl, ⟨_, SqL.of hl⟩, for_list (K := K) (a := q) (xs := ys) (fun i σ H' => ∃ u3 u4, σ = [some v, some (.ref p), some (.int t), u3, u4] ∧ Sx p H1 H' ∧ H' p = some (.lst (runT sz rt.length ((vis rt t).take i) xs)))
      ⟨_, _, rfl, .of (Same.refl H1), hp1⟩ (fun i σ H' _ hp' => SqL.of (hp'.choose_spec.choose_spec.2.1.keep _ _ pq.symm hl)) ?_ ?_⟩
    · rintro i x σ H' hx' ⟨u3, u4, rfl, s5, hl5⟩
      obtain ⟨d, hd, hxd⟩ := tpGetV hys hx'
      rw [List.getElem?_map] at hd
      cases e : (vis rt t)[i]? with
      | none => rw [e] at hd; cases hd
      | some cs =>
        rw [e] at hd
        cases hd
        obtain ⟨ta, ts, rfl, hts, hall⟩ := tpTup hxd
        have ets : ts = [.int cs.1, .int cs.2] := by
          have : TpAll K H1 ts (([(cs.1 : Int), (cs.2 : Int)] : List Int).map .int) := hall
          rw [tpInts this]
          rfl
        subst ets
        obtain ⟨b1, b2⟩ := vis_ok ok cs (List.mem_of_getElem? e)
        have tm5 := s5.tm hp1
        have ok5 : ∀ ps : List (Nat × Nat), (∀ p ∈ ps, p.1 < rt.length ∧ p.2 < sz.length) → (runT sz rt.length ps xs).length = nn sz rt := fun ps h => by
          rw [(runT_perm h hx).length_eq, hx]
        refine ⟨ta, _, rfl, sqTm tm5 hts, rfl, _, _, rfl, _, _, rfl, rfl, _, rfl, _, rfl, _, rfl, _, rfl, v, sz, rt, p, _, cs.1, cs.2, rfl, tpKeep ((sTm S1).trans tm5) hv, ok, hl5, ok5 _ fun z hz => vis_ok ok z (List.mem_of_mem_take hz), b1, b2, fun H6 s6 hl6 => ?_⟩
        refine ⟨_, _, rfl, s5.trans s6, ?_⟩
        rw [hl6, take_more e]
        unfold runT
        rw [List.foldl_append]
        rfl
    · rintro σ H' ⟨u3, u4, rfl, s5, hl5⟩
      refine k H' ((Sx.of S1).trans s5) ?_
      rw [hl5, ly, List.take_length]
/-! ### inverse_of, combined -/
/-- a list or a tuple of whole numbers -/
def IntsAt (K : PySem.W.Frag) (H : Hp) (p : Addr) (e : List Nat) : Prop := SqT K H p ((natsI e).map V.int)
end
end K14
/-! ## K14E2 -/
namespace K14
open PySem PySem.Spec PyProof.Rows L2
theorem pi_or {X : Cx} {tg it : Expr} {w1 w2 : TI} (h1 : PI X tg it w1) (h2 : PI X tg it w2) : PI X tg it (fun σ H R => w1 σ H R ∨ w2 σ H R) :=
  ⟨fun pins s σ H R I h => h.elim (fun h => h1.run pins s σ H R I h) (fun h => h2.run pins s σ H R I h)⟩
def nv (k : Nat) : V := .int k
theorem natsV (l : List Nat) : (natsI l).map V.int = l.map nv := by
  unfold natsI
  rw [List.map_map]
  rfl
theorem nv_at {l : List Nat} {i : Nat} (h : i < l.length) : (l.map nv)[i]? = some (nv (l.getD i 0)) := by
  rw [List.getElem?_map, some_of_lt 0 h]
  rfl
theorem nv_get {l : List Nat} {i : Nat} {x : V} (h : (l.map nv)[i]? = some x) : i < l.length ∧ x = nv (l.getD i 0) := by
  have lt : i < l.length := by
    have := (List.getElem?_eq_some_iff.mp h).1
    rwa [List.length_map] at this
  rw [nv_at lt] at h
  exact ⟨lt, (Option.some.inj h).symm⟩
theorem rep_one {α : Type} (n : Nat) (x : α) : (List.replicate n [x]).flatten = List.replicate n x := by
  induction n with
  | zero => rfl
  | succ n ih => rw [List.replicate_succ, List.flatten_cons, ih]; rfl
section
variable {P : Program} {w : World} {K : PySem.W.Frag} {mg : Str → Option Value} {base : Heap}
/-! ### inverse_of -/
def spInv (K : PySem.W.Frag) : Sp := fun vs H Q _ => ∃ (p : Addr) (e : List Nat) (n : Nat), vs = [.ref p] ∧ (SqT K H p (e.map nv) ∨ H p = some (.lst (e.map nv))) ∧ e.Perm (List.range n) ∧ n ≤ 114 ∧
  ∀ (H' : Hp) (q : Addr), Same H H' → H q = none → H' q = some (.tup ((invM e).map nv)) → Q (.ref q) H'
abbrev N_inverse_of : List Str := ["effect", "result", "place", "goal"]
theorem sc_inverse_of : FnScope N_inverse_of ["effect"] (defScope t_inverse_of) := ⟨rfl, rfl, rfl, by decide +kernel, rfl, by decide +kernel, by decide +kernel⟩
theorem ok_inverse_of (T : Txt K mg) : Cal P w K mg base CX0 1 "inverse_of" ["effect"] (spInv K) := by
  refine T.d_inverse_of.mk0 sc_inverse_of (fun _ _ _ _ _ _ us hl => match us, hl with | [_], _ => rfl) (fun vs H Q E h => ?_) (fun f cdv A outer st H vs Q E hr h => ?_)
  · obtain ⟨_, _, _, rfl, _⟩ := h
    rfl
  · obtain ⟨p, e, n, rfl, hp, pm, hn, k⟩ := h
    have el := perm_range_len pm
    have eml : (e.map nv).length = n := by rw [List.length_map, el]
    refine ⟨_, ((pss_cons (ps_set (i := 1) sc_inverse_of.nd rfl (Or.inl rfl) (pe_op op_rep (pe_lst (pa_cons pe_int pa_nil)) (pe_callB (k_len (K := K)) (by rfl) T.f_len b_len (pa_cons (pv 0) pa_nil))))
    (pss_cons (ps_for PassesOwn.never rfl (pi_or (ki_enum (K := K) (by rfl) T.f_enumerate (pa_cons (pv 0) pa_nil)) (ki_enumT (K := K) (by rfl) T.f_enumerate (pa_cons (pv 0) pa_nil))) (kg_tup (K := K) rfl (pgs_cons (pg_name (i := 2) sc_inverse_of.nd rfl (Or.inl rfl)) (pgs_cons (pg_name (i := 3) sc_inverse_of.nd rfl (Or.inl rfl)) pgs_nil)))
    (pss_one (ps_asg (pv 2) (pg_sub (pv 1) (pv 3) set_list))))
    (pss_one (ps_ret (pe_callTy (k_tuple (K := K)) (by rfl) T.f_tuple b_tuple (pa_cons (pv 1) pa_nil))))))), ?_⟩
    refine ⟨leLine (show 1 ≤ 100000 by decide), fun q hq => ?_⟩
    have s1 := sNew (Same.refl H) hq (.lst [.int 0])
    have len1 : SqL K (upd H q (.lst [.int 0])) p (e.map nv) ∨ SqT K (upd H q (.lst [.int 0])) p (e.map nv) := by
      rcases hp with hp | hp
      · exact .inr (sqTm (sTm s1) hp)
      · exact .inl (SqL.of (s1 _ _ hp))
    refine ⟨_, rfl, p, _, rfl, len1, q, _, _, rfl, rfl, upd_same, by omega, by omega, leLine (by rw [List.length_singleton]; omega), fun q2 hq2 => ?_⟩
    have e0 : (List.replicate (((e.map nv).length : Nat) : Int).toNat [V.int 0]).flatten = (scatF e (fun k => k) (List.replicate n 0) 0).map nv := by
      rw [Int.toNat_natCast, rep_one, scatF_zero, List.map_replicate, eml]
      rfl
    rw [e0]
    have s2 := sNew s1 hq2 (.lst ((scatF e (fun k => k) (List.replicate n 0) 0).map nv))
    have nq2 : H q2 = none := s1.free hq2
    have Pv0 : ∃ u2 u3 : Option V, ([some (V.ref p), some (V.ref q2), none, none] : L2.St) = [some (V.ref p), some (V.ref q2), u2, u3] ∧ Same H (upd (upd H q (.lst [.int 0])) q2 (.lst ((scatF e (fun k => k) (List.replicate n 0) 0).map nv))) ∧
        upd (upd H q (.lst [.int 0])) q2 (.lst ((scatF e (fun k => k) (List.replicate n 0) 0).map nv)) q2 = some (.lst ((scatF e (fun k => k) (List.replicate n 0) 0).map nv)) := ⟨_, _, rfl, s2, upd_same⟩
    rcases hp with hp | hp
    · refine .inr ⟨_, rfl, p, _, rfl, sqTm (sTm s2) hp, for_pairs (K := K) walkT (fun i σ H' => ∃ u2 u3 : Option V, σ = [some (.ref p), some (.ref q2), u2, u3] ∧ Same H H' ∧ H' q2 = some (.lst ((scatF e (fun k => k) (List.replicate n 0) i).map nv))) Pv0
        (fun i σ H' _ hp' => sqTm (sTm hp'.choose_spec.choose_spec.2.1) hp) ?_ ?_⟩
      · rintro i x σ H' T' hi hx ⟨u2, u3, rfl, s5, hl⟩ hT'
        obtain ⟨li, rfl⟩ := nv_get hx
        have s6 := sNew s5 hT' (.tup [.int (i : Nat), nv (e.getD i 0)])
        have hl6 := upd_keep (u := .tup [.int (i : Nat), nv (e.getD i 0)]) hl hT'
        refine ⟨_, rfl, _, rfl, _, rfl, q2, _, _, e.getD i 0, rfl, rfl, hl6, ixNat ?_, _, _, rfl, sWr s6 nq2 _, ?_⟩
        · rw [List.length_map, scatF_length, List.length_replicate]
          exact perm_range_lt pm (getD_mem 0 li)
        · rw [upd_same, scatF_succ, List.map_set]
          rfl
      · rintro σ H' ⟨u2, u3, rfl, s5, hl⟩
        rw [eml] at hl
        refine ⟨_, rfl, q2, _, rfl, .inl ⟨SqL.of hl, fun l hl' => k _ l (sNew s5 hl' _) (s5.free hl') ?_⟩⟩
        rw [upd_same]
        unfold invM
        rw [el]
    · refine .inl ⟨_, rfl, p, _, rfl, SqL.of (s2 _ _ hp), for_pairs (K := K) walk_enum (fun i σ H' => ∃ u2 u3 : Option V, σ = [some (.ref p), some (.ref q2), u2, u3] ∧ Same H H' ∧ H' q2 = some (.lst ((scatF e (fun k => k) (List.replicate n 0) i).map nv))) Pv0
        (fun i σ H' _ hp' => SqL.of (hp'.choose_spec.choose_spec.2.1 _ _ hp)) ?_ ?_⟩
      · rintro i x σ H' T' hi hx ⟨u2, u3, rfl, s5, hl⟩ hT'
        obtain ⟨li, rfl⟩ := nv_get hx
        have s6 := sNew s5 hT' (.tup [.int (i : Nat), nv (e.getD i 0)])
        have hl6 := upd_keep (u := .tup [.int (i : Nat), nv (e.getD i 0)]) hl hT'
        refine ⟨_, rfl, _, rfl, _, rfl, q2, _, _, e.getD i 0, rfl, rfl, hl6, ixNat ?_, _, _, rfl, sWr s6 nq2 _, ?_⟩
        · rw [List.length_map, scatF_length, List.length_replicate]
          exact perm_range_lt pm (getD_mem 0 li)
        · rw [upd_same, scatF_succ, List.map_set]
          rfl
      · rintro σ H' ⟨u2, u3, rfl, s5, hl⟩
        rw [eml] at hl
        refine ⟨_, rfl, q2, _, rfl, .inl ⟨SqL.of hl, fun l hl' => k _ l (sNew s5 hl' _) (s5.free hl') ?_⟩⟩
        rw [upd_same]
        unfold invM
        rw [el]
/-! ### combined -/
def spComb (K : PySem.W.Frag) : Sp := fun vs H Q _ => ∃ (p q : Addr) (a b : List Nat) (n : Nat), vs = [.ref p, .ref q] ∧ SqT K H p (a.map nv) ∧ SqT K H q (b.map nv) ∧ a.Perm (List.range n) ∧ b.length = n ∧ n ≤ 114 ∧
  ∀ (H' : Hp) (r : Addr), Same H H' → H r = none → H' r = some (.tup ((combM a b).map nv)) → Q (.ref r) H'
abbrev N_combined : List Str := ["one", "other", "place"]
theorem sc_combined : FnScope N_combined ["one", "other"] (defScope t_combined) := ⟨rfl, rfl, rfl, by decide +kernel, rfl, by decide +kernel, by decide +kernel⟩
theorem ok_combined (T : Txt K mg) : Cal P w K mg base CX0 1 "combined" ["one", "other"] (spComb K) := by
  refine T.d_combined.mk0 sc_combined (fun _ _ _ _ _ _ us hl => match us, hl with | [_, _], _ => rfl) (fun vs H Q E h => ?_) (fun f cdv A outer st H vs Q E hr h => ?_)
  · obtain ⟨_, _, _, _, _, rfl, _⟩ := h
    rfl
  · obtain ⟨p, q, a, b, n, rfl, hp, hq, pm, bl, hn, k⟩ := h
    have al := perm_range_len pm
    refine ⟨_, ((pss_one (ps_ret (pe_callTy (k_tuple (K := K)) (by rfl) T.f_tuple b_tuple (pa_cons (pe_lc (own := [("place", 2)]) (g := gName 2) (tt := tYes) rfl sc_combined.nd (ki_tup (K := K) (pv 0)) (blkOk_by (N := N_combined) (sc := defScope t_combined) (by decide +kernel)) (fun _ _ _ _ _ => pg_name (i := 2) sc_combined.nd rfl (Or.inl rfl)) (fun _ _ _ _ _ => pts_nil) (fun _ _ _ _ _ => (pe_ix (k_ixT (K := K)) (pv 1) (pv 2) (fun _ _ => rfl)))) pa_nil))))), ?_⟩
    refine ⟨_, rfl, p, rfl, ⟨_, hp⟩, fun D hD => lc_tup (K := K) (a := p) (xs := a.map nv) (fun i H' => Same H H' ∧ H' D = some (.lst ((combM (a.take i) b).map nv))) ⟨sNew (Same.refl H) hD _, upd_same⟩ (fun i H' _ hp' => sqTm (sTm hp'.1) hp) ?_ ?_⟩
    · rintro i x H' hx ⟨s5, hl⟩
      obtain ⟨li, rfl⟩ := nv_get hx
      have mem := getD_mem 0 li
      have lt := perm_range_lt pm mem
      refine ⟨rfl, yesT ⟨_, rfl, _, rfl, q, _, _, _, rfl, rfl, sqTm (sTm s5) hq, atI_nat (nv_at (by omega)), _, hl, ltLine (by rw [List.length_map]; unfold combM; rw [List.length_map, List.length_take]; omega), sWr s5 hD _, ?_⟩⟩
      rw [upd_same, take_more (some_of_lt 0 li)]
      unfold combM
      rw [List.map_append, List.map_append]
      rfl
    · rintro H1 ⟨S1, hl⟩
      rw [List.length_map, List.take_length] at hl
      exact ⟨D, _, rfl, .inl ⟨SqL.of hl, fun l hl' => k _ l (sNew S1 hl' _) (S1.free hl') upd_same⟩⟩
end
end K14
/-! ## K14E3 -/
namespace K14
open PySem PySem.Spec PyProof.Rows L2
def sawK (l : List Nat) : List (Key × V) := l.map fun (x : Nat) => ((.inl (x : Int) : Key), V.bl true)
theorem sawK_none : ∀ {l : List Nat} {p : Nat}, p ∉ l → valV (sawK l) (.inl (p : Int) : Key) = none
  | [], _, _ => rfl
  | x :: l, p, h => by
    have e : ¬ (((.inl (x : Int) : Key), V.bl true) : Key × V).1 = (.inl (p : Int) : Key) := fun z => h (by injection z with z; rw [Int.ofNat.inj z]; exact List.mem_cons_self)
    show valV (_ :: sawK l) _ = none
    rw [valV_neg e]
    exact sawK_none fun z => h (List.mem_cons_of_mem _ z)
theorem sawK_some : ∀ {l : List Nat} {p : Nat}, p ∈ l → valV (sawK l) (.inl (p : Int) : Key) = some (.bl true)
  | [], _, h => nomatch h
  | x :: l, p, h => by
    show valV (_ :: sawK l) _ = _
    by_cases q : x = p
    · subst q
      exact valV_pos rfl
    · have e : ¬ (((.inl (x : Int) : Key), V.bl true) : Key × V).1 = (.inl (p : Int) : Key) := fun z => q (by injection z with z; exact Int.ofNat.inj z)
      rw [valV_neg e]
      exact sawK_some ((List.mem_cons.mp h).resolve_left fun z => q z.symm)
theorem sawK_len (l : List Nat) : (sawK l).length = l.length := List.length_map _
section
variable {P : Program} {w : World} {K : PySem.W.Frag} {mg : Str → Option Value} {base : Heap}
/-! ### cycles_of -/
def spCyc (K : PySem.W.Frag) : Sp := fun vs H Q _ => ∃ (p : Addr) (e : List Nat) (n : Nat), vs = [.ref p] ∧ SqT K H p (e.map nv) ∧ e.Perm (List.range n) ∧ n ≤ 114 ∧
  ∀ (H' : Hp) (q : Addr) (xs : List V), Same H H' → H q = none → H' q = some (.lst xs) → TpAll K H' xs ((cycs e).map effD) → Q (.ref q) H'
theorem effTp {H : Hp} {a : Addr} {e : List Nat} (h : SqT K H a (e.map nv)) : Tp K H (.ref a) (effD e) := .tup (by rw [← natsV] at h; exact h) (tpIntsMk _)
theorem effInv {H : Hp} {v : V} {e : List Nat} (h : Tp K H v (effD e)) : ∃ a, v = .ref a ∧ SqT K H a (e.map nv) := by
  obtain ⟨a, xs, rfl, hq, hall⟩ := tpTup h
  rw [tpInts hall, natsV] at hq
  exact ⟨a, rfl, hq⟩
theorem cyc_len {n : Nat} {e : List Nat} (pm : e.Perm (List.range n)) : ∀ i, i ≤ n → (cycP e n i).1.length ≤ i
  | 0, _ => Nat.le_refl _
  | i + 1, h => by
    have ih := cyc_len pm i (by omega)
    rw [cycP_succ]
    unfold stepC
    split
    · omega
    · rw [List.length_append, List.length_singleton]
      omega
abbrev N_cycles_of : List Str := ["effect", "found", "seen", "start", "cycle", "place"]
theorem sc_cycles_of : FnScope N_cycles_of ["effect"] (defScope t_cycles_of) := ⟨rfl, rfl, rfl, by decide +kernel, rfl, by decide +kernel, by decide +kernel⟩
theorem ok_cycles_of (T : Txt K mg) : Cal P w K mg base CX0 1 "cycles_of" ["effect"] (spCyc K) := by
  refine T.d_cycles_of.mk0 sc_cycles_of (fun _ _ _ _ _ _ us hl => match us, hl with | [_], _ => rfl) (fun vs H Q E h => ?_) (fun f cdv A outer st H vs Q E hr h => ?_)
  · obtain ⟨_, _, _, rfl, _⟩ := h
    rfl
  · obtain ⟨p, e, n, rfl, hp, pm, hn, k⟩ := h
    have el := perm_range_len pm
    have eml : (e.map nv).length = n := by rw [List.length_map, el]
    have he : ∀ p, p < n → e.getD p 0 < n := fun p hp => perm_range_lt pm (getD_mem 0 (by rw [el]; exact hp))
    refine ⟨_, ((pss_cons (ps_par (i := 1) (j := 2) (by rfl) sc_cycles_of.nd rfl rfl (by decide) rfl rfl (pa_cons (pe_lst pa_nil) (pa_cons pe_dnewK pa_nil)) (by rfl))
    (pss_cons (ps_for PassesOwn.never rfl (pi_range1 (by rfl) T.f_range (pa_cons (pe_callB (k_len (K := K)) (by rfl) T.f_len b_len (pa_cons (pv 0) pa_nil)) pa_nil)) (pg_name (i := 3) sc_cycles_of.nd rfl (Or.inl rfl))
    (pss_one (ps_if (pt_cmp (pc_dnotin (hu_of hr) (pv 3) (pv 2)))
      (pss_cons (ps_par (i := 4) (j := 5) (by rfl) sc_cycles_of.nd rfl rfl (by decide) rfl rfl (pa_cons (pe_lst pa_nil) (pa_cons (pv 3) pa_nil)) (by rfl))
        (pss_cons (ps_while PassesOwn.never (pt_cmp (pc_dnotin (hu_of hr) (pv 5) (pv 2)))
        (pss_cons (ps_dput (hu_of hr) (pv 2) (pv 5) pe_bl rfl)
          (pss_cons (ps_expr (k_append (K := K) (pv 4) (pa_cons (pv 5) pa_nil)))
          (pss_one (ps_set (i := 5) sc_cycles_of.nd rfl (Or.inl rfl) (pe_ix (k_ixT (K := K)) (pv 0) (pv 5) (fun _ _ => rfl)))))))
        (pss_one (ps_expr (k_append (K := K) (pv 1) (pa_cons (pe_callTy (k_tuple (K := K)) (by rfl) T.f_tuple b_tuple (pa_cons (pv 4) pa_nil)) pa_nil))))))
      pss_nil)))
    (pss_one (ps_ret (pv 1)))))), ?_⟩
    refine ⟨Nat.zero_le _, fun F hF => ?_⟩
    intro D hD
    have s1 := sNew (Same.refl H) hF (.lst [])
    have s2 := sNew s1 hD (.dK [])
    have nD : H D = none := s1.free hD
    have FD : F ≠ D := fun z => by rw [← z, upd_same] at hD; cases hD
    refine ⟨_, _, rfl, _, rfl, p, _, rfl, .inr (sqTm (sTm s2) hp), _, rfl, by omega, by omega, for_range (lo := 0) (n := (((e.map nv).length : Nat) : Int).toNat) (fun i σ H' => ∃ u3 u4 u5, σ = [some (.ref p), some (.ref F), some (.ref D), u3, u4, u5] ∧ Same H H' ∧ H' D = some (.dK (sawK (cycP e n i).2)) ∧ ∃ fs, H' F = some (.lst fs) ∧ TpAll K H' fs ((cycP e n i).1.map effD)) ?_ ?_ ?_⟩
    · refine ⟨_, _, _, rfl, s2, upd_same, [], ?_, .nil⟩
      rw [upd_ne FD, upd_same]
    · rintro i σ H' hi ⟨u3, u4, u5, rfl, s5, hd, fs, hl, hfs⟩
      rw [Int.toNat_natCast, eml] at hi
      rw [show (0 : Int) + (i : Nat) = (i : Nat) by omega]
      have ci := cinv (n := n) (e := e) he i (Nat.le_of_lt hi)
      have lfs := tpLen hfs
      rw [List.length_map] at lfs
      have lcy := cyc_len pm i (Nat.le_of_lt hi)
      have succ := cycP_succ e n i
      unfold stepC at succ
      refine ⟨_, rfl, _, rfl, D, _, rfl, DGet.k (k := .inl (i : Int)) hd, ?_⟩
      by_cases c : i ∈ (cycP e n i).2
      · rw [sawK_some c]
        rw [if_pos c] at succ
        refine ⟨_, rfl, ifF rfl ⟨_, _, _, rfl, s5, ?_, fs, hl, ?_⟩⟩
        · rw [succ]; exact hd
        · rw [succ]; exact hfs
      · rw [sawK_none c]
        rw [if_neg c] at succ
        refine ⟨_, rfl, ifT rfl ⟨Nat.zero_le _, fun C hC => ?_⟩⟩
        have nC : H C = none := s5.free hC
        have CD : C ≠ D := fun z => by rw [z, hd] at hC; cases hC
        have CF : C ≠ F := fun z => by rw [z, hl] at hC; cases hC
        refine ⟨_, rfl, _, _, rfl, ?_⟩
        refine ⟨fun m σ H'' => ∃ (pre : List Nat) (pl : Nat), σ = [some (.ref p), some (.ref F), some (.ref D), some (.int (i : Nat)), some (.ref C), some (nv pl)] ∧ Same H H'' ∧ H'' D = some (.dK (sawK ((cycP e n i).2 ++ pre))) ∧ H'' F = some (.lst fs) ∧ TpAll K H'' fs ((cycP e n i).1.map effD) ∧ H'' C = some (.lst (pre.map nv)) ∧
          pre ++ walkC e m ((cycP e n i).2 ++ pre) pl = walkC e n (cycP e n i).2 i ∧ n ≤ m + ((cycP e n i).2 ++ pre).length ∧ Sn n ((cycP e n i).2 ++ pre) ∧ pl < n, ⟨n, [], i, rfl, sNew s5 hC _, ?_, upd_keep hl hC, tpKeepAll (tmNew hC _) hfs, upd_same, ?_, by omega, ?_, hi⟩, ?_⟩
        · rw [List.append_nil]; exact upd_keep hd hC
        · rw [List.append_nil]; rfl
        · rw [List.append_nil]; exact ci.sn
        · rintro m σ H'' ⟨pre, pl, rfl, s6, hd6, hl6, hfs6, hc6, ew, hm, sn, hpl⟩
          refine ⟨_, rfl, _, rfl, D, _, rfl, DGet.k (k := .inl (pl : Int)) hd6, ?_⟩
          by_cases c2 : pl ∈ (cycP e n i).2 ++ pre
          · rw [sawK_some c2]
            rw [walkC_in e c2, List.append_nil] at ew
            refine ⟨_, rfl, ifF rfl ?_⟩
            refine ⟨_, rfl, .inl ⟨rfl, _, SqL.of hl6⟩, _, rfl, C, _, rfl, .inl ⟨SqL.of hc6, fun q hq => ?_⟩⟩
            have hl7 := upd_keep (u := .tup (pre.map nv)) hl6 hq
            have hd7 := upd_keep (u := .tup (pre.map nv)) hd6 hq
            have qF : q ≠ F := fun z => by rw [z, hl6] at hq; cases hq
            refine ⟨F, fs, _, rfl, rfl, hl7, ltLine (by omega), _, _, _, rfl, sWr (sNew s6 hq _) hF _, ?_, _, upd_same, ?_⟩
            · rw [succ, upd_ne (Ne.symm FD), hd7, ew]
            · rw [succ, List.map_append]
              refine tpApp (tpKeepAll ((tmNew hq _).trans (tmLst hl7 _)) hfs6) (.cons (effTp ?_) .nil)
              rw [← ew]
              exact SqT.of (by rw [upd_ne qF, upd_same])
          · rw [sawK_none c2]
            have sn2 := sn.more hpl c2
            have l2 := sn2.len
            rw [List.length_append, List.length_singleton] at l2
            obtain ⟨m', rfl⟩ : ∃ m', m = m' + 1 := ⟨m - 1, by omega⟩
            rw [walkC_out e c2, List.append_assoc (cycP e n i).2] at ew
            refine ⟨_, rfl, ifT rfl ⟨fun σ' H3 => ∃ (pre : List Nat) (pl : Nat), σ' = [some (.ref p), some (.ref F), some (.ref D), some (.int (i : Nat)), some (.ref C), some (nv pl)] ∧ Same H H3 ∧ H3 D = some (.dK (sawK ((cycP e n i).2 ++ pre))) ∧ H3 F = some (.lst fs) ∧ TpAll K H3 fs ((cycP e n i).1.map effD) ∧ H3 C = some (.lst (pre.map nv)) ∧
              pre ++ walkC e m' ((cycP e n i).2 ++ pre) pl = walkC e n (cycP e n i).2 i ∧ n ≤ m' + ((cycP e n i).2 ++ pre).length ∧ Sn n ((cycP e n i).2 ++ pre) ∧ pl < n, fun σ' H3 h3 => ⟨m', Nat.lt_succ_self _, h3⟩, ?_⟩⟩
            have sl : (sawK ((cycP e n i).2 ++ pre)).length < sizeLine := ltLine (by rw [sawK_len]; have := sn.len; omega)
            refine ⟨_, rfl, _, rfl, D, _, rfl, DPut.k (k := .inl (pl : Int)) hd6 sl, ?_⟩
            rw [putK_new (.bl true) (sawK_none c2)]
            have e7 : sawK ((cycP e n i).2 ++ pre) ++ [((.inl (pl : Int) : Key), V.bl true)] = sawK ((cycP e n i).2 ++ (pre ++ [pl])) := by
              rw [← List.append_assoc]
              exact (List.map_append (l₁ := (cycP e n i).2 ++ pre) (l₂ := [pl])).symm
            rw [e7]
            have hl7 : upd H'' D (.dK (sawK ((cycP e n i).2 ++ (pre ++ [pl])))) F = some (.lst fs) := by rw [upd_ne FD]; exact hl6
            have hc7 : upd H'' D (.dK (sawK ((cycP e n i).2 ++ (pre ++ [pl])))) C = some (.lst (pre.map nv)) := by rw [upd_ne CD]; exact hc6
            have t7 := tmDic hd6 (.dK (sawK ((cycP e n i).2 ++ (pre ++ [pl]))))
            have s7 := sWr s6 nD (.dK (sawK ((cycP e n i).2 ++ (pre ++ [pl]))))
            have plen : pre.length ≤ 114 := by
              have := sn.len
              rw [List.length_append] at this
              omega
            refine ⟨_, rfl, .inl ⟨rfl, _, SqL.of hc7⟩, _, rfl, C, _, _, rfl, rfl, hc7, ltLine (by rw [List.length_map]; omega), ?_⟩
            refine ⟨_, rfl, _, rfl, p, _, _, _, rfl, rfl, sqTm ((sTm s6).trans (t7.trans (tmLst hc7 _))) hp, atI_nat (nv_at (by rw [el]; exact hpl)), pre ++ [pl], _, rfl, sWr s7 nC _, ?_, ?_, tpKeepAll (t7.trans (tmLst hc7 _)) hfs6, ?_, ?_, ?_, ?_, he pl hpl⟩
            · rw [upd_ne (Ne.symm CD), upd_same]
            · rw [upd_ne (Ne.symm CF)]; exact hl7
            · rw [upd_same, List.map_append]; rfl
            · rw [← ew]; simp
            · simp only [List.length_append, List.length_singleton] at hm ⊢; omega
            · rw [← List.append_assoc]; exact sn2
    · rintro σ H' ⟨u3, u4, u5, rfl, s5, hd, fs, hl, hfs⟩
      rw [Int.toNat_natCast, eml] at hfs
      refine ⟨_, rfl, k H' F fs s5 hF hl ?_⟩
      unfold cycs
      rw [el]
      exact hfs
/-! ### repeated -/
def spRep (K : PySem.W.Frag) : Sp := fun vs H Q _ => ∃ (p : Addr) (e : List Nat) (c : Int) (n : Nat), vs = [.ref p, .int c] ∧ SqT K H p (e.map nv) ∧ e.Perm (List.range n) ∧ n ≤ 114 ∧
  ∀ (H' : Hp) (q : Addr), Same H H' → H q = none → H' q = some (.tup ((repM e c).map nv)) → Q (.ref q) H'
abbrev N_repeated : List Str := ["effect", "count", "result", "cycle", "index", "place"]
theorem sc_repeated : FnScope N_repeated ["effect", "count"] (defScope t_repeated) := ⟨rfl, rfl, rfl, by decide +kernel, rfl, by decide +kernel, by decide +kernel⟩
theorem ok_repeated (T : Txt K mg) : Cal P w K mg base CX0 2 "repeated" ["effect", "count"] (spRep K) := by
  have C_cycles_of : Cal P w K mg base CX0 1 _ _ _ := ok_cycles_of T
  refine T.d_repeated.mk0 sc_repeated (fun _ _ _ _ _ _ us hl => match us, hl with | [_, _], _ => rfl) (fun vs H Q E h => ?_) (fun f cdv A outer st H vs Q E hr h => ?_)
  · obtain ⟨_, _, _, _, rfl, _⟩ := h
    rfl
  · obtain ⟨p, e, c, n, rfl, hp, pm, hn, k⟩ := h
    have el := perm_range_len pm
    have eml : (e.map nv).length = n := by rw [List.length_map, el]
    refine ⟨_, ((pss_cons (ps_set (i := 2) sc_repeated.nd rfl (Or.inl rfl) (pe_op op_rep (pe_lst (pa_cons pe_int pa_nil)) (pe_callB (k_len (K := K)) (by rfl) T.f_len b_len (pa_cons (pv 0) pa_nil))))
    (pss_cons (ps_for PassesOwn.never rfl (ki_list (K := K) (pe_cal C_cycles_of (hr.mono (by decide)) rfl pass0 (pa_cons (pv 0) pa_nil))) (pg_name (i := 3) sc_repeated.nd rfl (Or.inl rfl))
    (pss_one (ps_for PassesOwn.never rfl (ki_enumT (K := K) (by rfl) T.f_enumerate (pa_cons (pv 3) pa_nil)) (kg_tup (K := K) rfl (pgs_cons (pg_name (i := 4) sc_repeated.nd rfl (Or.inl rfl)) (pgs_cons (pg_name (i := 5) sc_repeated.nd rfl (Or.inl rfl)) pgs_nil)))
      (pss_one (ps_asg (pe_ix (k_ixT (K := K)) (pv 3) (pe_op op_mod (pe_callTy call_int1 (by rfl) T.f_int b_int (pa_cons (pe_op op_add (pv 4) (pv 1)) pa_nil)) (pe_callB (k_len (K := K)) (by rfl) T.f_len b_len (pa_cons (pv 3) pa_nil))) (fun _ _ => rfl)) (pg_sub (pv 2) (pv 5) set_list))))))
    (pss_one (ps_ret (pe_callTy (k_tuple (K := K)) (by rfl) T.f_tuple b_tuple (pa_cons (pv 2) pa_nil))))))), ?_⟩
    refine ⟨leLine (show 1 ≤ 100000 by decide), fun q hq => ?_⟩
    have s1 := sNew (Same.refl H) hq (.lst [.int 0])
    refine ⟨_, rfl, p, _, rfl, .inr (sqTm (sTm s1) hp), q, _, _, rfl, rfl, upd_same, by omega, by omega, leLine (by rw [List.length_singleton]; omega), fun R hR => ?_⟩
    have e0 : (List.replicate (((e.map nv).length : Nat) : Int).toNat [V.int 0]).flatten = (((cycs e).take 0).foldl (repStep c) (List.replicate n 0)).map nv := by
      rw [Int.toNat_natCast, rep_one, eml, List.take_zero]
      show _ = (List.replicate n 0).map nv
      rw [List.map_replicate]
      rfl
    rw [e0]
    have s2 := sNew s1 hR (.lst ((((cycs e).take 0).foldl (repStep c) (List.replicate n 0)).map nv))
    have nR : H R = none := s1.free hR
    refine ⟨_, rfl, p, e, n, rfl, sqTm (sTm s2) hp, pm, hn, fun H1 F fs S1 hF hl hfs => ?_⟩
    have hR1 := S1 _ _ (show upd (upd H q (.lst [.int 0])) R _ R = some _ from upd_same)
    have RF : R ≠ F := ne_of_none upd_same hF
    have S01 := s2.trans S1
    have lfs := tpLen hfs
    rw [List.length_map] at lfs
    have rl : ∀ cs : List (List Nat), (cs.foldl (repStep c) (List.replicate n 0)).length = n := fun cs => by
      have : ∀ (cs : List (List Nat)) (r : List Nat), (cs.foldl (repStep c) r).length = r.length := by
        intro cs
        induction cs with
        | nil => intro r; rfl
        | cons x cs ih => intro r; rw [List.foldl_cons, ih]; unfold repStep; rw [scatF_length]
      rw [this, List.length_replicate]
    refine ⟨F, rfl, ⟨_, SqL.of hl⟩, for_list (K := K) (a := F) (xs := fs) (fun i σ H' => ∃ u3 u4 u5, σ = [some (.ref p), some (.int c), some (.ref R), u3, u4, u5] ∧ Sx R H1 H' ∧ H' R = some (.lst ((((cycs e).take i).foldl (repStep c) (List.replicate n 0)).map nv)))
      ⟨_, _, _, rfl, .of (Same.refl H1), hR1⟩ (fun i σ H' _ hp' => SqL.of (hp'.choose_spec.choose_spec.choose_spec.2.1.keep _ _ RF.symm hl)) ?_ ?_⟩
    · rintro i x σ H' hx ⟨u3, u4, u5, rfl, s5, hr5⟩
      obtain ⟨d, hd, hxd⟩ := tpGetV hfs hx
      rw [List.getElem?_map] at hd
      cases ec : (cycs e)[i]? with
      | none => rw [ec] at hd; cases hd
      | some cy =>
        rw [ec] at hd
        cases hd
        obtain ⟨a, rfl, ha⟩ := effInv hxd
        have cyn : ∀ x ∈ cy, x < n := fun x hx => perm_range_lt (cycs_perm pm) (List.mem_flatten.mpr ⟨cy, List.mem_of_getElem? ec, hx⟩)
        have ha5 := sqTm (s5.tm hR1) ha
        refine ⟨_, rfl, a, _, rfl, ha5, for_pairs (K := K) walkT (fun j σ H'' => ∃ u4 u5, σ = [some (.ref p), some (.int c), some (.ref R), some (.ref a), u4, u5] ∧ Sx R H1 H'' ∧ H'' R = some (.lst ((scatF cy (rotM cy c) (((cycs e).take i).foldl (repStep c) (List.replicate n 0)) j).map nv)))
          ⟨_, _, rfl, s5, hr5⟩ (fun j σ H'' _ hp' => sqTm (hp'.choose_spec.choose_spec.2.1.tm hR1) ha) ?_ ?_⟩
        · rintro j y σ H'' T' hj hy ⟨u4, u5, rfl, s6, hr6⟩ hT'
          obtain ⟨lj, rfl⟩ := nv_get hy
          have s7 := s6.new hT' (.tup [.int (j : Nat), nv (cy.getD j 0)])
          have hr7 := upd_keep (u := .tup [.int (j : Nat), nv (cy.getD j 0)]) hr6 hT'
          have ha7 := sqTm (s7.tm hR1) ha
          have cl : (cy.map nv).length = cy.length := List.length_map _
          have m0 : 0 ≤ ((j : Int) + c) % (cy.length : Int) := Int.emod_nonneg _ (by omega)
          have m1 : ((j : Int) + c) % (cy.length : Int) < cy.length := Int.emod_lt_of_pos _ (by omega)
          have at_ : atI (cy.map nv) (((j : Int) + c) % ((cy.map nv).length : Int)) = some (nv (rotM cy c j)) := by
            rw [cl]
            have e : ((j : Int) + c) % (cy.length : Int) = ((((j : Int) + c) % (cy.length : Int)).toNat : Int) := (Int.toNat_of_nonneg m0).symm
            rw [e]
            exact atI_nat (nv_at (by omega))
          refine ⟨_, rfl, _, rfl, _, rfl, _, _, rfl, rfl, .inl ⟨_, rfl, _, rfl, a, _, rfl, .inr ha7, _, _, rfl, rfl, by show (0 : Int) < ((cy.map nv).length : Nat); rw [cl]; omega, a, _, _, _, rfl, rfl, ha7, at_, ?_⟩⟩
          refine ⟨_, rfl, _, rfl, R, _, _, cy.getD j 0, rfl, rfl, hr7, ixNat ?_, _, _, rfl, s7.wr _, ?_⟩
          · rw [List.length_map, scatF_length, rl]
            exact cyn _ (getD_mem 0 lj)
          · rw [upd_same, scatF_succ, List.map_set]
        · rintro σ H'' ⟨u4, u5, rfl, s6, hr6⟩
          refine ⟨_, _, _, rfl, s6, ?_⟩
          rw [hr6, take_more ec, List.foldl_append, List.length_map]
          try rfl
    · rintro σ H' ⟨u3, u4, u5, rfl, s5, hr5⟩
      rw [lfs, List.take_length] at hr5
      have S5 := s5.same S01 nR
      refine ⟨_, rfl, R, _, rfl, .inl ⟨SqL.of hr5, fun l hl' => k _ l (sNew S5 hl' _) (S5.free hl') ?_⟩⟩
      rw [upd_same]
      unfold repM
      rw [el]
/-! ### ticks_effect, pattern_effect, effect_between -/
def spTicks (K : PySem.W.Frag) : Sp := fun vs H Q _ => ∃ (v : V) (sz : List Nat) (rt : Rt) (t c : Int), vs = [v, .int t, .int c] ∧ Tp K H v (planD sz rt) ∧ PlanOk sz rt ∧ -3000000000000000000 ≤ t ∧ t ≤ 3000000000000000000 ∧ 0 ≤ c ∧ c ≤ 100000 ∧
  ∀ (H' : Hp) (q : Addr), Same H H' → H q = none → H' q = some (.tup ((ticksM sz rt t c).map nv)) → Q (.ref q) H'
abbrev N_ticks_effect : List Str := ["plan", "time", "count", "contents", "number"]
theorem sc_ticks_effect : FnScope N_ticks_effect ["plan", "time", "count"] (defScope t_ticks_effect) := ⟨rfl, rfl, rfl, by decide +kernel, rfl, by decide +kernel, by decide +kernel⟩
theorem ok_ticks_effect (T : Txt K mg) : Cal P w K mg base CX0 4 "ticks_effect" ["plan", "time", "count"] (spTicks K) := by
  have C_all_places : Cal P w K mg base CX0 1 _ _ _ := ok_all_places T
  have C_run_tick : Cal P w K mg base CX0 3 _ _ _ := ok_run_tick T
  have C_inverse_of : Cal P w K mg base CX0 1 _ _ _ := ok_inverse_of T
  refine T.d_ticks_effect.mk0 sc_ticks_effect (fun _ _ _ _ _ _ us hl => match us, hl with | [_, _, _], _ => rfl) (fun vs H Q E h => ?_) (fun f cdv A outer st H vs Q E hr h => ?_)
  · obtain ⟨_, _, _, _, _, rfl, _⟩ := h
    rfl
  · obtain ⟨v, sz, rt, t, c, rfl, hv, ok, t1, t2, c1, c2, k⟩ := h
    refine ⟨_, ((pss_cons (ps_set (i := 3) sc_ticks_effect.nd rfl (Or.inl rfl) (pe_listRg rfl (by rfl) T.f_list (prg_1 (by rfl) T.f_range (pe_callB (k_len (K := K)) (by rfl) T.f_len b_len (pa_cons (pe_cal C_all_places (hr.mono (by decide)) rfl pass0 (pa_cons (pv 0) pa_nil)) pa_nil)))))
    (pss_cons (ps_for PassesOwn.never rfl (pi_range2 (by rfl) T.f_range (pa_cons (pe_op op_add (pv 1) pe_int) (pa_cons (pe_op op_add (pe_op op_add (pv 1) (pv 2)) pe_int) pa_nil))) (pg_name (i := 4) sc_ticks_effect.nd rfl (Or.inl rfl))
    (pss_one (ps_expr (pe_cal C_run_tick (hr.mono (by decide)) rfl pass0 (pa_cons (pv 0) (pa_cons (pv 3) (pa_cons (pv 4) pa_nil)))))))
    (pss_one (ps_ret (pe_cal C_inverse_of (hr.mono (by decide)) rfl pass0 (pa_cons (pv 3) pa_nil))))))), ?_⟩
    have nle := ok.n_le
    refine ⟨_, rfl, v, sz, rt, rfl, hv, ok, fun H1 p xs S1 hp hl hx => ?_⟩
    have lx := tpLen hx
    rw [List.length_map, placesL_len] at lx
    have lx' : xs.length = nn sz rt := lx
    refine ⟨p, _, rfl, .inl (SqL.of hl), _, rfl, ⟨by omega, by omega, by omega, by omega, by omega⟩, fun q hq => ?_⟩
    have er : rgV 0 (xs.length : Nat) = (tickN sz rt t 0).map nv := by
      rw [tickN_zero, lx']
      unfold rgV
      rw [Int.sub_zero, Int.toNat_natCast]
      refine List.map_congr_left fun i _ => ?_
      rw [Int.zero_add]
      rfl
    rw [er]
    have S2 := sNew S1 hq (.lst ((tickN sz rt t 0).map nv))
    have nq : H q = none := S1.free hq
    have ec : (t + c + 1 - (t + 1)).toNat = c.toNat := by omega
    refine ⟨_, rfl, _, _, rfl, rfl, _, rfl, _, rfl, _, _, rfl, rfl, _, _, rfl, rfl, _, _, rfl, ⟨by omega, by omega, by omega, by omega⟩, for_range (lo := t + 1) (n := (t + c + 1 - (t + 1)).toNat) (fun i σ H' => ∃ u4, σ = [some v, some (.int t), some (.int c), some (.ref q), u4] ∧ Same H H' ∧ H' q = some (.lst ((tickN sz rt t i).map nv))) ⟨_, rfl, S2, upd_same⟩ ?_ ?_⟩
    · rintro i σ H' hi ⟨u4, rfl, s5, hl5⟩
      have pm := tickN_perm ok t i
      refine ⟨_, rfl, _, rfl, _, rfl, v, sz, rt, q, _, t + 1 + (i : Nat), rfl, tpKeep (sTm s5) hv, ok, hl5, by rw [List.length_map, perm_range_len pm], fun H6 s6 hl6 => ?_⟩
      refine ⟨_, rfl, s6.same s5 nq, ?_⟩
      rw [hl6, runT_map, ← tickN_succ]
    · rintro σ H' ⟨u4, rfl, s5, hl5⟩
      rw [ec] at hl5
      refine ⟨_, rfl, q, _, nn sz rt, rfl, .inr hl5, tickN_perm ok t _, nle, fun H6 r S6 hr6 hl6 => ?_⟩
      exact k H6 r (s5.trans S6) (s5.free hr6) hl6
def spPatE (K : PySem.W.Frag) : Sp := fun vs H Q _ => ∃ (v : V) (sz : List Nat) (rt : Rt) (t : Int), vs = [v, .int t] ∧ Tp K H v (planD sz rt) ∧ PlanOk sz rt ∧ -3000000000000000000 ≤ t ∧ t ≤ 3000000000000000000 ∧
  ∀ (H' : Hp) (q : Addr), Same H H' → H q = none → H' q = some (.tup ((ticksM sz rt t (patM eqsR rt : Nat)).map nv)) → Q (.ref q) H'
abbrev N_pattern_effect : List Str := ["plan", "time"]
theorem sc_pattern_effect : FnScope N_pattern_effect ["plan", "time"] (defScope t_pattern_effect) := ⟨rfl, rfl, rfl, by decide +kernel, rfl, by decide +kernel, by decide +kernel⟩
theorem ok_pattern_effect (T : Txt K mg) : Cal P w K mg base CX0 5 "pattern_effect" ["plan", "time"] (spPatE K) := by
  have C_ticks_effect : Cal P w K mg base CX0 4 _ _ _ := ok_ticks_effect T
  have C_pattern_of : Cal P w K mg base CX0 3 _ _ _ := ok_pattern_of T
  refine T.d_pattern_effect.mk0 sc_pattern_effect (fun _ _ _ _ _ _ us hl => match us, hl with | [_, _], _ => rfl) (fun vs H Q E h => ?_) (fun f cdv A outer st H vs Q E hr h => ?_)
  · obtain ⟨_, _, _, _, rfl, _⟩ := h
    rfl
  · obtain ⟨v, sz, rt, t, rfl, hv, ok, t1, t2, k⟩ := h
    refine ⟨_, ((pss_one (ps_ret (pe_cal C_ticks_effect (hr.mono (by decide)) rfl pass0 (pa_cons (pv 0) (pa_cons (pv 1) (pa_cons (pe_cal C_pattern_of (hr.mono (by decide)) rfl pass0 (pa_cons (pv 0) pa_nil)) pa_nil))))))), ?_⟩
    obtain ⟨p1, p2⟩ := patM_bound (eqs := eqsR) ok
    refine ⟨_, rfl, _, rfl, _, rfl, v, sz, rt, rfl, hv, ok, fun H1 S1 => ?_⟩
    exact ⟨v, sz, rt, t, _, rfl, tpKeep (sTm S1) hv, ok, t1, t2, by omega, by omega, fun H2 q S2 hq hl => k H2 q (S1.trans S2) (S1.free hq) hl⟩
def spEffP (K : PySem.W.Frag) : Sp := fun vs H Q _ => ∃ (v : V) (sz : List Nat) (rt : Rt) (t c : Int), vs = [v, .int t, .int c] ∧ Tp K H v (planD sz rt) ∧ PlanOk sz rt ∧ -3000000000000000000 ≤ t ∧ t ≤ 3000000000000000000 ∧ 0 ≤ c ∧
  ∀ (H' : Hp) (q : Addr), Same H H' → H q = none → H' q = some (.tup ((effP eqsR sz rt t c).map nv)) → Q (.ref q) H'
def spEff (K : PySem.W.Frag) : Sp := fun vs H Q _ => ∃ (v : V) (sz : List Nat) (rt : Rt) (t c : Int), vs = [v, .int t, .int c] ∧ Tp K H v (planD sz rt) ∧ PlanOk sz rt ∧ -1000000000000000000 ≤ t ∧ t ≤ 1000000000000000000 ∧ -1000000000000000000 ≤ c ∧ c ≤ 1000000000000000000 ∧
  ∀ (H' : Hp) (q : Addr), Same H H' → H q = none → H' q = some (.tup ((effM eqsR sz rt t c).map nv)) → Q (.ref q) H'
abbrev N_effect_between : List Str := ["plan", "time", "count", "length", "whole"]
theorem sc_effect_between : FnScope N_effect_between ["plan", "time", "count"] (defScope t_effect_between) := ⟨rfl, rfl, rfl, by decide +kernel, rfl, by decide +kernel, by decide +kernel⟩
theorem ok_effP (T : Txt K mg) : Cal P w K mg base CX0 6 "effect_between" ["plan", "time", "count"] (spEffP K) := by
  have C_ticks_effect : Cal P w K mg base CX0 4 _ _ _ := ok_ticks_effect T
  have C_pattern_effect : Cal P w K mg base CX0 5 _ _ _ := ok_pattern_effect T
  have C_pattern_of : Cal P w K mg base CX0 3 _ _ _ := ok_pattern_of T
  have C_repeated : Cal P w K mg base CX0 2 _ _ _ := ok_repeated T
  have C_combined : Cal P w K mg base CX0 1 _ _ _ := ok_combined T
  have C_inverse_of : Cal P w K mg base CX0 1 _ _ _ := ok_inverse_of T
  refine T.d_effect_between.mk0 sc_effect_between (fun _ _ _ _ _ _ us hl => match us, hl with | [_, _, _], _ => rfl) (fun vs H Q E h => ?_) (fun f cdv A outer st H vs Q E hr h => ?_)
  · obtain ⟨_, _, _, _, _, rfl, _⟩ := h
    rfl
  · obtain ⟨v, sz, rt, t, c, rfl, hv, ok, t1, t2, c1, k⟩ := h
    refine ⟨_, ((pss_cons (ps_if (pt_cmpR op_lt (pv 2) pe_int (nomark _))
    (pss_one (ps_ret (pe_cal C_inverse_of (hr.mono (by decide)) rfl pass0 (pa_cons pe_never pa_nil))))
    pss_nil)
    (pss_cons (ps_set (i := 3) sc_effect_between.nd rfl (Or.inl rfl) (pe_cal C_pattern_of (hr.mono (by decide)) rfl pass0 (pa_cons (pv 0) pa_nil)))
    (pss_cons (ps_set (i := 4) sc_effect_between.nd rfl (Or.inl rfl) (pe_cal C_repeated (hr.mono (by decide)) rfl pass0 (pa_cons (pe_cal C_pattern_effect (hr.mono (by decide)) rfl pass0 (pa_cons (pv 0) (pa_cons (pv 1) pa_nil))) (pa_cons (pe_op op_fdiv (pv 2) (pv 3)) pa_nil))))
    (pss_one (ps_ret (pe_cal C_combined (hr.mono (by decide)) rfl pass0 (pa_cons (pv 4) (pa_cons (pe_cal C_ticks_effect (hr.mono (by decide)) rfl pass0 (pa_cons (pv 0) (pa_cons (pv 1) (pa_cons (pe_op op_sub (pv 2) (pe_op op_mul (pe_op op_fdiv (pv 2) (pv 3)) (pv 3))) pa_nil)))) pa_nil))))))))), ?_⟩
    obtain ⟨p1, p2⟩ := patM_bound (eqs := eqsR) ok
    refine ⟨_, rfl, _, _, rfl, rfl, _, rfl, ifF (decide_eq_false (by omega)) ?_⟩
    refine ⟨_, rfl, v, sz, rt, rfl, hv, ok, fun H1 S1 => ?_⟩
    refine ⟨_, rfl, _, rfl, v, sz, rt, t, rfl, tpKeep (sTm S1) hv, ok, t1, t2, fun H2 q2 S2 hq2 hl2 => ?_⟩
    have d0 : 0 < ((patM eqsR rt : Nat) : Int) := by omega
    refine ⟨_, rfl, _, rfl, _, _, rfl, rfl, ⟨d0, by omega⟩, q2, _, c / (patM eqsR rt : Nat), nn sz rt, rfl, SqT.of hl2, ticksM_perm ok _ _, ok.n_le, fun H3 q3 S3 hq3 hl3 => ?_⟩
    have S13 := S1.trans (S2.trans S3)
    have m0 : 0 ≤ c - c / (patM eqsR rt : Nat) * (patM eqsR rt : Nat) := by
      have := Int.ediv_mul_le c (Int.ne_of_gt d0)
      omega
    have m1 : c - c / (patM eqsR rt : Nat) * (patM eqsR rt : Nat) < (patM eqsR rt : Nat) := by
      have := Int.lt_ediv_add_one_mul_self c d0
      rw [Int.add_mul, Int.one_mul] at this
      omega
    refine ⟨_, rfl, _, rfl, _, rfl, _, rfl, _, rfl, _, rfl, _, _, rfl, rfl, ⟨d0, by omega⟩, _, rfl, _, _, rfl, rfl, .inr ⟨by omega, by omega⟩, _, _, rfl, rfl, v, sz, rt, t, _, rfl, tpKeep (sTm S13) hv, ok, t1, t2, m0, by omega, fun H4 q4 S4 hq4 hl4 => ?_⟩
    refine ⟨q3, q4, _, _, nn sz rt, rfl, SqT.of (S4 _ _ hl3), SqT.of hl4, repM_perm (ticksM_perm ok _ _) _, perm_range_len (ticksM_perm ok _ _), ok.n_le, fun H5 q5 S5 hq5 hl5 => ?_⟩
    exact k H5 q5 (S13.trans (S4.trans S5)) ((S13.trans S4).free hq5) hl5
theorem ok_effect_between (T : Txt K mg) : Cal P w K mg base CX0 7 "effect_between" ["plan", "time", "count"] (spEff K) := by
  have C_ticks_effect : Cal P w K mg base CX0 4 _ _ _ := ok_ticks_effect T
  have C_pattern_effect : Cal P w K mg base CX0 5 _ _ _ := ok_pattern_effect T
  have C_pattern_of : Cal P w K mg base CX0 3 _ _ _ := ok_pattern_of T
  have C_repeated : Cal P w K mg base CX0 2 _ _ _ := ok_repeated T
  have C_combined : Cal P w K mg base CX0 1 _ _ _ := ok_combined T
  have C_inverse_of : Cal P w K mg base CX0 1 _ _ _ := ok_inverse_of T
  have C_effect_between : Cal P w K mg base CX0 6 _ _ _ := ok_effP T
  refine T.d_effect_between.mk0 sc_effect_between (fun _ _ _ _ _ _ us hl => match us, hl with | [_, _, _], _ => rfl) (fun vs H Q E h => ?_) (fun f cdv A outer st H vs Q E hr h => ?_)
  · obtain ⟨_, _, _, _, _, rfl, _⟩ := h
    rfl
  · obtain ⟨v, sz, rt, t, c, rfl, hv, ok, t1, t2, c1, c2, k⟩ := h
    refine ⟨_, ((pss_cons (ps_if (pt_cmpR op_lt (pv 2) pe_int (nomark _))
    (pss_one (ps_ret (pe_cal C_inverse_of (hr.mono (by decide)) rfl pass0 (pa_cons (pe_cal C_effect_between (hr.mono (by decide)) rfl pass0 (pa_cons (pv 0) (pa_cons (pe_op op_add (pv 1) (pv 2)) (pa_cons (pe_op op_sub pe_int (pv 2)) pa_nil)))) pa_nil))))
    pss_nil)
    (pss_cons (ps_set (i := 3) sc_effect_between.nd rfl (Or.inl rfl) (pe_cal C_pattern_of (hr.mono (by decide)) rfl pass0 (pa_cons (pv 0) pa_nil)))
    (pss_cons (ps_set (i := 4) sc_effect_between.nd rfl (Or.inl rfl) (pe_cal C_repeated (hr.mono (by decide)) rfl pass0 (pa_cons (pe_cal C_pattern_effect (hr.mono (by decide)) rfl pass0 (pa_cons (pv 0) (pa_cons (pv 1) pa_nil))) (pa_cons (pe_op op_fdiv (pv 2) (pv 3)) pa_nil))))
    (pss_one (ps_ret (pe_cal C_combined (hr.mono (by decide)) rfl pass0 (pa_cons (pv 4) (pa_cons (pe_cal C_ticks_effect (hr.mono (by decide)) rfl pass0 (pa_cons (pv 0) (pa_cons (pv 1) (pa_cons (pe_op op_sub (pv 2) (pe_op op_mul (pe_op op_fdiv (pv 2) (pv 3)) (pv 3))) pa_nil)))) pa_nil))))))))), ?_⟩
    refine ⟨_, rfl, _, _, rfl, rfl, _, rfl, ?_⟩
    by_cases c0 : c < 0
    · refine ifT (decide_eq_true c0) ⟨_, rfl, _, rfl, _, rfl, _, _, rfl, rfl, _, rfl, _, _, rfl, rfl, v, sz, rt, _, _, rfl, hv, ok, by omega, by omega, by omega, fun H1 q1 S1 hq1 hl1 => ?_⟩
      refine ⟨q1, _, nn sz rt, rfl, .inl (SqT.of hl1), effP_perm eqsR ok _ _, ok.n_le, fun H2 q2 S2 hq2 hl2 => k H2 q2 (S1.trans S2) (S1.free hq2) ?_⟩
      rw [hl2]
      unfold effM
      rw [if_pos c0]
    · obtain ⟨p1, p2⟩ := patM_bound (eqs := eqsR) ok
      refine ifF (decide_eq_false c0) ?_
      refine ⟨_, rfl, v, sz, rt, rfl, hv, ok, fun H1 S1 => ?_⟩
      refine ⟨_, rfl, _, rfl, v, sz, rt, t, rfl, tpKeep (sTm S1) hv, ok, by omega, by omega, fun H2 q2 S2 hq2 hl2 => ?_⟩
      have d0 : 0 < ((patM eqsR rt : Nat) : Int) := by omega
      refine ⟨_, rfl, _, rfl, _, _, rfl, rfl, ⟨d0, by omega⟩, q2, _, c / (patM eqsR rt : Nat), nn sz rt, rfl, SqT.of hl2, ticksM_perm ok _ _, ok.n_le, fun H3 q3 S3 hq3 hl3 => ?_⟩
      have S13 := S1.trans (S2.trans S3)
      have m0 : 0 ≤ c - c / (patM eqsR rt : Nat) * (patM eqsR rt : Nat) := by
        have := Int.ediv_mul_le c (Int.ne_of_gt d0)
        omega
      have m1 : c - c / (patM eqsR rt : Nat) * (patM eqsR rt : Nat) < (patM eqsR rt : Nat) := by
        have := Int.lt_ediv_add_one_mul_self c d0
        rw [Int.add_mul, Int.one_mul] at this
        omega
      refine ⟨_, rfl, _, rfl, _, rfl, _, rfl, _, rfl, _, rfl, _, _, rfl, rfl, ⟨d0, by omega⟩, _, rfl, _, _, rfl, rfl, .inr ⟨by omega, by omega⟩, _, _, rfl, rfl, v, sz, rt, t, _, rfl, tpKeep (sTm S13) hv, ok, by omega, by omega, m0, by omega, fun H4 q4 S4 hq4 hl4 => ?_⟩
      refine ⟨q3, q4, _, _, nn sz rt, rfl, SqT.of (S4 _ _ hl3), SqT.of hl4, repM_perm (ticksM_perm ok _ _) _, perm_range_len (ticksM_perm ok _ _), ok.n_le, fun H5 q5 S5 hq5 hl5 => ?_⟩
      refine k H5 q5 (S13.trans (S4.trans S5)) ((S13.trans S4).free hq5) ?_
      rw [hl5]
      unfold effM
      rw [if_neg c0]
      rfl
end
end K14
/-! ## K14S -/
namespace K14
open PySem PySem.Spec PyProof.Rows L2
/-- tuple(xs) of a list, its object told as it stands -/
def rTupF (K : PySem.W.Frag) : List V → Hp → VK → Prop := fun xs H Q => ∃ p ys, xs = [.ref p] ∧ SqL K H p ys ∧ ∀ (l : Addr) (ob : Obj), H l = none → ob.dict = none → Q (.ref l) (upd H l (.frz ob (.tup ys)))
theorem k_tupleF {X : Cx} {K : PySem.W.Frag} (hK : X.K = K := by rfl) : CallR X (.type "tuple") (rTupF K) := by
  subst hK
  intro pins s σ H vs us Q I r h
  obtain ⟨p, ys, rfl, hs, q⟩ := h
  obtain ⟨u, rfl, ru⟩ := vals1 r
  obtain rfl : u = .ref p := ru
  obtain ⟨its, rv, pl, hz⟩ := I.list hs
  refine call_tuple_list pl.isList (fun h' hk => ?_) (by rw [List.size_toArray, ← rv.length]; exact hz)
  have J : Inv X pins σ H { s with heap := h' } := I.kept (t' := s.toks) hk
  have nw : (h'.push ({ cls := .type "tuple", data := .seq its.toArray } : Obj)).get? h'.objs.size = some { cls := .type "tuple", data := .seq its.toArray } := Heap.get?_push_size _ rfl
  exact ⟨.ref h'.objs.size, upd H h'.objs.size (.frz { cls := .type "tuple", data := .seq its.toArray } (.tup ys)), J.laid (t' := s.toks) (fun b o e => Heap.get?_push_of_some _ e) (Nat.le_refl _) (show ObjOk X.prog X.w _ _ _ (.frz _ (.tup ys)) from ⟨nw, hz, its, rv, IsTup.new _ _⟩), rfl, q _ _ (J.hok.fresh (Nat.le_refl _)) rfl⟩
theorem take_chunk (sz : List Nat) (m : Nat) (xs : List Int) {i : Nat} (hi : i < sz.length) : xs.take (m + (sz.take i).sum) ++ chunk sz m xs i = xs.take (m + (sz.take (i + 1)).sum) := by
  unfold chunk
  rw [← List.take_add, take_more (some_of_lt 0 hi), List.sum_append]
  congr 1
  simp
  omega
theorem chunk_len {sz : List Nat} {m : Nat} {xs : List Int} (hl : xs.length = m + sz.sum) {i : Nat} (hi : i < sz.length) : (chunk sz m xs i).length = sz.getD i 0 := by
  unfold chunk
  have := take_sum_le hi
  rw [List.length_take, List.length_drop]
  omega
structure StOk (sz : List Nat) (rt : Rt) (t : Int) (xs : List Int) : Prop where
  len : xs.length = nn sz rt
  nd : xs.Nodup
  rg : ∀ x ∈ xs, 1 ≤ x ∧ x ≤ 999
  t1 : -1000000000000000000000000000000 ≤ t
  t2 : t ≤ 1000000000000000000000000000000
/-- a state laid out -/
structure StAt (K : PySem.W.Frag) (H : Hp) (v : V) (sz : List Nat) (m : Nat) (t : Int) (xs : List Int) (a c s : Addr) (ss : List V) : Prop where
  ev : v = .ref a
  top : SqT K H a [.int t, .ref c, .ref s]
  car : SqT K H c ((xs.take m).map V.int)
  shs : SqT K H s ss
  all : TpAll K H ss ((List.range sz.length).map fun s => intsD (chunk sz m xs s))
section
variable {K : PySem.W.Frag} {H H' : Hp} {v : V} {sz : List Nat} {m : Nat} {t : Int} {xs : List Int} {a c s : Addr} {ss : List V}
theorem stInv (h : Tp K H v (stD sz m t xs)) : ∃ a c s ss, StAt K H v sz m t xs a c s ss := by
  obtain ⟨a, ys, rfl, hq, hall⟩ := tpTup h
  cases hall with
  | cons h0 h1 =>
    cases h1 with
    | cons h1 h2 =>
      cases h2 with
      | cons h2 h3 =>
        cases h3
        obtain rfl := tpInt h0
        obtain ⟨c, cs, rfl, hc, hcs⟩ := tpTup h1
        obtain ⟨s, ss, rfl, hs, hss⟩ := tpTup h2
        rw [tpInts hcs] at hc
        exact ⟨a, c, s, ss, rfl, hq, hc, hs, hss⟩
theorem StAt.keep (P : StAt K H v sz m t xs a c s ss) (S : Tm H H') : StAt K H' v sz m t xs a c s ss := ⟨P.ev, sqTm S P.top, sqTm S P.car, sqTm S P.shs, tpKeepAll S P.all⟩
theorem StAt.slen (P : StAt K H v sz m t xs a c s ss) : ss.length = sz.length := by
  have := tpLen P.all
  rwa [List.length_map, List.length_range] at this
theorem StAt.shelf (P : StAt K H v sz m t xs a c s ss) {i : Nat} {x : V} (h : ss[i]? = some x) : ∃ q, i < sz.length ∧ x = .ref q ∧ SqT K H q ((chunk sz m xs i).map V.int) := by
  have li : i < sz.length := by
    have := (List.getElem?_eq_some_iff.mp h).1
    rwa [P.slen] at this
  obtain ⟨d, hd, hx⟩ := tpGetV P.all h
  rw [List.getElem?_map, List.getElem?_range li] at hd
  cases hd
  obtain ⟨q, vs, rfl, hq, hvs⟩ := tpTup hx
  rw [tpInts hvs] at hq
  exact ⟨q, li, rfl, hq⟩
end
theorem dpInts {K : PySem.W.Frag} {H : Hp} : ∀ (ns : List Int), DpAll K H (ns.map V.int) (ns.map .int) := fun ns => tpDpAll (tpIntsMk ns)
theorem shLstInts (k : Nat) (ns : List Int) : Sh (k + 1) (.list (ns.map .int)) := shLst (shInts k ns)
theorem frzTp {K : PySem.W.Frag} {H : Hp} {a : Addr} {ob : Obj} {xs : List Int} (h : H a = some (.frz ob (.tup (xs.map V.int)))) : Tp K H (.ref a) (intsD xs) := .tup (.inl (.inr ⟨ob, h⟩)) (tpIntsMk _)
section
variable {P : Program} {w : World} {K : PySem.W.Frag} {mg : Str → Option Value} {base : Heap}
/-! ### contents_of -/
def spCont (K : PySem.W.Frag) : Sp := fun vs H Q _ => ∃ (v : V) (sz : List Nat) (rt : Rt) (t : Int) (xs : List Int), vs = [v] ∧ Tp K H v (stD sz rt.length t xs) ∧ PlanOk sz rt ∧ xs.length = nn sz rt ∧
  ∀ (H' : Hp) (p : Addr), Same H H' → H p = none → H' p = some (.lst (xs.map V.int)) → Q (.ref p) H'
abbrev N_contents_of : List Str := ["state", "contents", "shelf"]
theorem sc_contents_of : FnScope N_contents_of ["state"] (defScope t_contents_of) := ⟨rfl, rfl, rfl, by decide +kernel, rfl, by decide +kernel, by decide +kernel⟩
theorem ok_contents_of (T : Txt K mg) : Cal P w K mg base CX0 1 "contents_of" ["state"] (spCont K) := by
  refine T.d_contents_of.mk0 sc_contents_of (fun _ _ _ _ _ _ us hl => match us, hl with | [_], _ => rfl) (fun vs H Q E h => ?_) (fun f cdv A outer st H vs Q E hr h => ?_)
  · obtain ⟨_, _, _, _, _, rfl, _⟩ := h
    rfl
  · obtain ⟨v, sz, rt, t, xs, rfl, hv, ok, hx, k⟩ := h
    obtain ⟨a, c, s, ss, SA⟩ := stInv hv
    obtain rfl := SA.ev
    refine ⟨_, ((pss_cons (ps_set (i := 1) sc_contents_of.nd rfl (Or.inl rfl) (pe_callTy (k_list (K := K)) (by rfl) T.f_list b_list (pa_cons (pe_ix (k_ixT (K := K)) (pv 0) pe_int (fun _ _ => rfl)) pa_nil)))
    (pss_cons (ps_for PassesOwn.never rfl (ki_tup (K := K) (pe_ix (k_ixT (K := K)) (pv 0) pe_int (fun _ _ => rfl))) (pg_name (i := 2) sc_contents_of.nd rfl (Or.inl rfl))
    (pss_one (ps_expr (k_extend (K := K) (pv 1) (pa_cons (pe_callTy (k_list (K := K)) (by rfl) T.f_list b_list (pa_cons (pv 2) pa_nil)) pa_nil)))))
    (pss_one (ps_ret (pv 1)))))), ?_⟩
    have nle := ok.n_le
    have hx' : xs.length = rt.length + sz.sum := hx
    have m0 : rt.length + sz.sum ≤ 114 := nle
    refine ⟨_, rfl, a, _, _, _, rfl, rfl, SA.top, rfl, c, _, rfl, .inr SA.car, fun p hp => ?_⟩
    have s1 := sNew (Same.refl H) hp (.lst ((xs.take rt.length).map V.int))
    have SA1 := SA.keep (sTm s1)
    refine ⟨_, rfl, a, _, _, _, rfl, rfl, SA1.top, rfl, s, rfl, ⟨_, SA1.shs⟩, for_tup (K := K) (a := s) (xs := ss) (fun i σ H' => ∃ u2, σ = [some (.ref a), some (.ref p), u2] ∧ Same H H' ∧ H' p = some (.lst ((xs.take (rt.length + (sz.take i).sum)).map V.int))) ⟨_, rfl, s1, by rw [upd_same, List.take_zero]; rfl⟩
      (fun i σ H' _ hp' => sqTm (sTm hp'.choose_spec.2.1) SA.shs) ?_ ?_⟩
    · rintro i x σ H' hx2 ⟨u2, rfl, s5, hl⟩
      have SA5 := SA.keep (sTm s5)
      obtain ⟨q, li, rfl, hq⟩ := SA5.shelf hx2
      have cl := chunk_len (m := rt.length) hx' li
      have tl := take_sum_le li
      refine ⟨_, rfl, .inl ⟨rfl, _, SqL.of hl⟩, _, rfl, q, _, rfl, .inr hq, fun r hr' => ?_⟩
      have hl6 := upd_keep (u := .lst ((chunk sz rt.length xs i).map V.int)) hl hr'
      refine ⟨p, r, _, _, rfl, rfl, hl6, upd_same, leLine (by rw [List.length_map, List.length_map, List.length_take, cl]; omega), _, rfl, sWr (sNew s5 hr' _) hp _, ?_⟩
      rw [upd_same, ← List.map_append, take_chunk sz rt.length xs li]
    · rintro σ H' ⟨u2, rfl, s5, hl⟩
      rw [SA.slen, List.take_length, List.take_of_length_le (by omega)] at hl
      exact ⟨_, rfl, k H' p s5 hp hl⟩
/-! ### state_of -/
def spSt (K : PySem.W.Frag) : Sp := fun vs H Q _ => ∃ (v : V) (sz : List Nat) (rt : Rt) (t : Int) (p : Addr) (xs : List Int), vs = [v, .int t, .ref p] ∧ Tp K H v (planD sz rt) ∧ PlanOk sz rt ∧ H p = some (.lst (xs.map V.int)) ∧ xs.length = nn sz rt ∧
  ∀ (H' : Hp) (r : V), Same H H' → Tp K H' r (stD sz rt.length t xs) → Q r H'
abbrev N_state_of : List Str := ["plan", "time", "contents", "first", "shelves", "size"]
theorem sc_state_of : FnScope N_state_of ["plan", "time", "contents"] (defScope t_state_of) := ⟨rfl, rfl, rfl, by decide +kernel, rfl, by decide +kernel, by decide +kernel⟩
theorem ok_state_of (T : Txt K mg) : Cal P w K mg base CX0 1 "state_of" ["plan", "time", "contents"] (spSt K) := by
  refine T.d_state_of.mk0 sc_state_of (fun _ _ _ _ _ _ us hl => match us, hl with | [_, _, _], _ => rfl) (fun vs H Q E h => ?_) (fun f cdv A outer st H vs Q E hr h => ?_)
  · obtain ⟨_, _, _, _, _, _, rfl, _⟩ := h
    rfl
  · obtain ⟨v, sz, rt, t, p, xs, rfl, hv, ok, hp, hx, k⟩ := h
    obtain ⟨a, sa, ra, rr, PA⟩ := planInv hv
    obtain rfl := PA.ev
    refine ⟨_, ((pss_cons (ps_set (i := 3) sc_state_of.nd rfl (Or.inl rfl) (pe_callB (k_len (K := K)) (by rfl) T.f_len b_len (pa_cons (pe_ix (k_ixT (K := K)) (pv 0) pe_int (fun _ _ => rfl)) pa_nil)))
    (pss_cons (ps_set (i := 4) sc_state_of.nd rfl (Or.inl rfl) (pe_lst pa_nil))
    (pss_cons (ps_for PassesOwn.never rfl (ki_tup (K := K) (pe_ix (k_ixT (K := K)) (pv 0) pe_int (fun _ _ => rfl))) (pg_name (i := 5) sc_state_of.nd rfl (Or.inl rfl))
    (pss_cons (ps_expr (k_append (K := K) (pv 4) (pa_cons (pe_callTy (k_tuple (K := K)) (by rfl) T.f_tuple b_tuple (pa_cons (pe_slice (k_slL (K := K)) (pv 2) (po_some (pv 3)) (po_some (pe_op op_add (pv 3) (pv 5)))) pa_nil)) pa_nil)))
      (pss_one (ps_aug (i := 3) sc_state_of.nd rfl (Or.inl rfl) (pv 5) ip_add))))
    (pss_one (ps_ret (pe_tup (pa_cons (pv 1) (pa_cons (pe_callTy (k_tuple (K := K)) (by rfl) T.f_tuple b_tuple (pa_cons (pe_slice (k_slL (K := K)) (pv 2) po_none (po_some (pe_callB (k_len (K := K)) (by rfl) T.f_len b_len (pa_cons (pe_ix (k_ixT (K := K)) (pv 0) pe_int (fun _ _ => rfl)) pa_nil)))) pa_nil)) (pa_cons (pe_callTy (k_tuple (K := K)) (by rfl) T.f_tuple b_tuple (pa_cons (pv 4) pa_nil)) pa_nil)))))))))), ?_⟩
    have lrt := PA.rlen
    have nle := ok.n_le
    have s2 := ok.s2
    have hx' : xs.length = rt.length + sz.sum := hx
    refine ⟨_, rfl, a, _, _, _, rfl, rfl, PA.top, rfl, ra, rr, rfl, .inr PA.rts, ?_⟩
    refine ⟨Nat.zero_le _, fun D hD => ?_⟩
    have s1 := sNew (Same.refl H) hD (.lst [])
    have PA1 := PA.keep (sTm s1)
    refine ⟨_, rfl, a, _, _, _, rfl, rfl, PA1.top, rfl, sa, rfl, ⟨_, PA1.szs⟩, for_tup (K := K) (a := sa) (xs := (natsI sz).map V.int) (fun i σ H' => ∃ u5, σ = [some (.ref a), some (.int t), some (.ref p), some (.int (rt.length + (sz.take i).sum : Nat)), some (.ref D), u5] ∧ Same H H' ∧ ∃ ys, H' D = some (.lst ys) ∧ TpAll K H' ys ((List.range i).map fun s => intsD (chunk sz rt.length xs s))) ⟨_, by rw [lrt, List.take_zero]; rfl, s1, [], upd_same, .nil⟩
      (fun i σ H' _ hp' => sqTm (sTm hp'.choose_spec.2.1) PA.szs) ?_ ?_⟩
    · rintro i x σ H' hx2 ⟨u5, rfl, s5, ys, hl, hys⟩
      obtain ⟨li, rfl⟩ := natsI_get hx2
      have tl := take_sum_le li
      have ly := tpLen hys
      rw [List.length_map, List.length_range] at ly
      have cut : cutV (xs.map V.int) (some ((rt.length + (sz.take i).sum : Nat) : Int)) (some (((rt.length + (sz.take i).sum : Nat) : Int) + (sz.getD i 0 : Nat))) = (chunk sz rt.length xs i).map V.int := by
        have := cut_two (xs.map V.int) (rt.length + (sz.take i).sum) (rt.length + (sz.take i).sum + sz.getD i 0) (by rw [List.length_map]; omega) (by rw [List.length_map]; omega)
        rw [Nat.add_sub_cancel_left] at this
        unfold chunk
        rw [List.map_take, List.map_drop, ← this]
        rfl
      refine ⟨_, rfl, .inl ⟨rfl, _, SqL.of hl⟩, _, rfl, _, rfl, _, rfl, _, rfl, _, rfl, _, _, rfl, rfl, _, rfl, p, _, rfl, SqL.of (s5 _ _ hp), fun q hq => ?_⟩
      rw [cut]
      have s6 := sNew s5 hq (.lst ((chunk sz rt.length xs i).map V.int))
      have hl6 := upd_keep (u := .lst ((chunk sz rt.length xs i).map V.int)) hl hq
      refine ⟨q, _, rfl, .inl ⟨SqL.of upd_same, fun q2 hq2 => ?_⟩⟩
      have s7 := sNew s6 hq2 (.tup ((chunk sz rt.length xs i).map V.int))
      have hl7 := upd_keep (u := .tup ((chunk sz rt.length xs i).map V.int)) hl6 hq2
      have q2D : q2 ≠ D := fun z => by rw [z, hl6] at hq2; cases hq2
      refine ⟨D, ys, _, rfl, rfl, hl7, ltLine (by omega), ?_⟩
      refine ⟨_, rfl, _, rfl, _, _, rfl, rfl, some (.int (sz.getD i 0 : Nat)), ?_, sWr s7 hD _, _, upd_same, ?_⟩
      · rw [show rt.length + (sz.take (i + 1)).sum = rt.length + (sz.take i).sum + sz.getD i 0 by rw [take_more (some_of_lt 0 li), List.sum_append]; simp; omega]
        rfl
      · rw [List.range_succ, List.map_append]
        refine tpApp (tpKeepAll ((tmNew hq _).trans ((tmNew hq2 _).trans (tmLst hl7 _))) hys) (.cons (.tup (xs := (chunk sz rt.length xs i).map V.int) (SqT.of ?_) (tpIntsMk _)) .nil)
        rw [upd_ne q2D, upd_same]
    · rintro σ H' ⟨u5, rfl, s5, ys, hl, hys⟩
      have PA5 := PA.keep (sTm s5)
      rw [natsI_len] at hys
      have cut := cut_take (xs.map V.int) rt.length (by rw [List.length_map]; omega)
      refine ⟨_, rfl, _, rfl, _, rfl, a, _, _, _, rfl, rfl, PA5.top, rfl, ra, rr, rfl, .inr PA5.rts, _, rfl, p, _, rfl, SqL.of (s5 _ _ hp), fun q hq => ?_⟩
      have s6 := sNew s5 hq (.lst (cutV (xs.map V.int) none (some ((rr.length : Nat) : Int))))
      refine ⟨q, _, rfl, .inl ⟨SqL.of upd_same, fun q2 hq2 => ?_⟩⟩
      have s7 := sNew s6 hq2 (.tup (cutV (xs.map V.int) none (some ((rr.length : Nat) : Int))))
      have hl6 := upd_keep (u := .lst (cutV (xs.map V.int) none (some ((rr.length : Nat) : Int)))) hl hq
      have hl7 := upd_keep (u := .tup (cutV (xs.map V.int) none (some ((rr.length : Nat) : Int)))) hl6 hq2
      refine ⟨_, rfl, D, _, rfl, .inl ⟨SqL.of hl7, fun q3 hq3 => ?_⟩⟩
      have s8 := sNew s7 hq3 (.tup ys)
      refine ⟨leLine (show 3 ≤ 100000 by decide), fun q4 hq4 => ?_⟩
      have s9 := sNew s8 hq4 (.tup [.int t, .ref q2, .ref q3])
      refine k _ _ s9 (.tup (SqT.of upd_same) (.cons (.int t) (.cons (.tup (xs := (xs.take rt.length).map V.int) (SqT.of ?_) (tpIntsMk _)) (.cons (.tup (xs := ys) (SqT.of (upd_keep upd_same hq4)) ?_) .nil))))
      · have := upd_keep (u := .tup [.int t, .ref q2, .ref q3]) (upd_keep (u := .tup ys) (show upd _ q2 (.tup (cutV (xs.map V.int) none (some ((rr.length : Nat) : Int)))) q2 = _ from upd_same) hq3) hq4
        rw [this, lrt, cut, List.map_take]
      · exact tpKeepAll ((tmNew hq _).trans ((tmNew hq2 _).trans ((tmNew hq3 _).trans (tmNew hq4 _)))) hys
/-! ### fits, validate_state -/
def spFits (K : PySem.W.Frag) : Sp := fun vs H Q _ => ∃ (v u : V) (sz : List Nat) (rt : Rt) (t : Int) (xs : List Int), vs = [v, u] ∧ Tp K H v (planD sz rt) ∧ PlanOk sz rt ∧ Tp K H u (stD sz rt.length t xs) ∧ StOk sz rt t xs ∧ ∀ H', Same H H' → Q (.bl true) H'
abbrev N_fits : List Str := ["plan", "state", "time", "carried", "shelves", "contents", "shelf", "parcel"]
theorem sc_fits : FnScope N_fits ["plan", "state"] (defScope t_fits) := ⟨rfl, rfl, rfl, by decide +kernel, rfl, by decide +kernel, by decide +kernel⟩
theorem ok_fits (T : Txt K mg) : Cal P w K mg base CX0 2 "fits" ["plan", "state"] (spFits K) := by
  have C_contents_of : Cal P w K mg base CX0 1 _ _ _ := ok_contents_of T
  refine T.d_fits.mk0 sc_fits (fun _ _ _ _ _ _ us hl => match us, hl with | [_, _], _ => rfl) (fun vs H Q E h => ?_) (fun f cdv A outer st H vs Q E hr h => ?_)
  · obtain ⟨_, _, _, _, _, _, rfl, _⟩ := h
    rfl
  · obtain ⟨v, u, sz, rt, t, xs, rfl, hv, ok, hu, so, k⟩ := h
    obtain ⟨a, sa, ra, rr, PA⟩ := planInv hv
    obtain rfl := PA.ev
    obtain ⟨b, c, s, ss, SA⟩ := stInv hu
    obtain rfl := SA.ev
    refine ⟨_, ((pss_cons (ps_if (pt_cmpR op_ne (pe_callB (k_len (K := K)) (by rfl) T.f_len b_len (pa_cons (pv 1) pa_nil)) pe_int (nomark _))
    (pss_one (ps_ret pe_bl))
    pss_nil)
    (pss_cons (ps_asg (pv 1) (kg_tup (K := K) rfl (pgs_cons (pg_name (i := 2) sc_fits.nd rfl (Or.inl rfl)) (pgs_cons (pg_name (i := 3) sc_fits.nd rfl (Or.inl rfl)) (pgs_cons (pg_name (i := 4) sc_fits.nd rfl (Or.inl rfl)) pgs_nil)))))
    (pss_cons (ps_if (PW.pt (pw_or (pt_not (pt_chain op_le op_le (pe_op op_sub pe_int (gInt T.i_MAX_TIME rfl)) (pv 2) (gInt T.i_MAX_TIME rfl))) (pw_or1 (pt_cmpR op_ne (pe_callB (k_len (K := K)) (by rfl) T.f_len b_len (pa_cons (pv 3) pa_nil)) (pe_callB (k_len (K := K)) (by rfl) T.f_len b_len (pa_cons (pe_ix (k_ixT (K := K)) (pv 0) pe_int (fun _ _ => rfl)) pa_nil)) (nomark _)))))
    (pss_one (ps_ret pe_bl))
    pss_nil)
    (pss_cons (ps_if (pt_cmpR (k_neD (K := K) hr.units) (pe_lc (own := [("shelf", 6)]) (g := gName 6) (tt := tYes) rfl sc_fits.nd (ki_tup (K := K) (pv 4)) (blkOk_by (N := N_fits) (sc := defScope t_fits) (by decide +kernel)) (fun _ _ _ _ _ => pg_name (i := 6) sc_fits.nd rfl (Or.inl rfl)) (fun _ _ _ _ _ => pts_nil) (fun _ _ _ _ _ => (pe_callB (k_len (K := K)) (by rfl) T.f_len b_len (pa_cons (pv 6) pa_nil)))) (pe_callTy (k_list (K := K)) (by rfl) T.f_list b_list (pa_cons (pe_ix (k_ixT (K := K)) (pv 0) pe_int (fun _ _ => rfl)) pa_nil)) (nomark _))
    (pss_one (ps_ret pe_bl))
    pss_nil)
    (pss_cons (ps_set (i := 5) sc_fits.nd rfl (Or.inl rfl) (pe_cal C_contents_of (hr.mono (by decide)) rfl pass0 (pa_cons (pv 1) pa_nil)))
    (pss_one (ps_ret (pe_and (pe_cmpR op_eq (k_lenSet (K := K) (by rfl) T.f_len (by rfl) T.f_set (pv 5)) (pe_callB (k_len (K := K)) (by rfl) T.f_len b_len (pa_cons (pv 5) pa_nil)) (nomark _)) (pe_one (pe_callB (k_all (K := K) rfl) (by rfl) T.f_all b_all (pa_cons (pe_lc (own := [("parcel", 7)]) (g := gName 7) (tt := tYes) rfl sc_fits.nd (ki_list (K := K) (pv 5)) (blkOk_by (N := N_fits) (sc := defScope t_fits) (by decide +kernel)) (fun _ _ _ _ _ => pg_name (i := 7) sc_fits.nd rfl (Or.inl rfl)) (fun _ _ _ _ _ => pts_nil) (fun _ _ _ _ _ => (pe_chain op_le op_le pe_int (pv 7) (gInt T.i_MAX_PARCEL rfl)))) pa_nil)))))))))))), ?_⟩
    have lrt := PA.rlen
    have nle := ok.n_le
    have s2 := ok.s2
    have hx' : xs.length = rt.length + sz.sum := so.len
    have m0 : rt.length + sz.sum ≤ 114 := nle
    have lc : ((xs.take rt.length).map V.int).length = rt.length := by rw [List.length_map, List.length_take]; omega
    refine ⟨_, rfl, b, _, rfl, .inr SA.top, rfl, _, rfl, ifF (by simp) ?_⟩
    refine ⟨_, rfl, b, _, rfl, SA.top, rfl, _, _, rfl, _, _, rfl, _, _, rfl, rfl, ?_⟩
    have b1 := so.t1
    have b2 := so.t2
    refine ⟨_, _, rfl, rfl, _, rfl, _, _, rfl, rfl, _, rfl, ifT (decide_eq_true (by omega)) ⟨_, _, rfl, rfl, _, rfl, ifF (by rw [decide_eq_true (by omega)]; rfl) ?_⟩⟩
    refine ⟨_, rfl, c, _, rfl, .inr SA.car, _, rfl, a, _, _, _, rfl, rfl, PA.top, rfl, ra, rr, rfl, .inr PA.rts, rfl, _, rfl, ifF (by rw [lc, lrt]; simp) ?_⟩
    refine ⟨_, rfl, s, rfl, ⟨_, SA.shs⟩, fun D hD => lc_tup (K := K) (a := s) (xs := ss) (fun i H' => Same H H' ∧ H' D = some (.lst ((natsI (sz.take i)).map V.int))) ⟨sNew (Same.refl H) hD _, upd_same⟩ (fun i H' _ hp' => sqTm (sTm hp'.1) SA.shs) ?_ ?_⟩
    · rintro i x H' hx2 ⟨s5, hl⟩
      obtain ⟨q, li, rfl, hq⟩ := (SA.keep (sTm s5)).shelf hx2
      have cl := chunk_len (m := rt.length) hx' li
      refine ⟨rfl, yesT ⟨_, rfl, q, _, rfl, .inr hq, _, hl, ltLine (by rw [natsI_len, List.length_take]; omega), sWr s5 hD _, ?_⟩⟩
      rw [upd_same, List.length_map, cl, take_more (some_of_lt 0 li)]
      unfold natsI
      rw [List.map_append, List.map_append]
      rfl
    · rintro H1 ⟨S1, hl1⟩
      rw [SA.slen, List.take_length] at hl1
      have PA1 := PA.keep (sTm S1)
      refine ⟨_, rfl, a, _, _, _, rfl, rfl, PA1.top, rfl, sa, _, rfl, .inr PA1.szs, fun q hq => ?_⟩
      have S2 := sNew S1 hq (.lst ((natsI sz).map V.int))
      have sh := shaped_of (shLstInts 0 (natsI sz)) (by decide)
      refine ⟨.list ((natsI sz).map .int), .list ((natsI sz).map .int), .lst (SqL.of (upd_keep hl1 hq)) (dpInts _), .lst (SqL.of upd_same) (dpInts _), sh, sh, _, rfl, ifF (by rw [eqvLstInts]; simp) ?_⟩
      have hu2 := tpKeep (sTm S2) hu
      refine ⟨_, rfl, _, sz, rt, t, xs, rfl, hu2, ok, so.len, fun H3 p S3 hp hl3 => ?_⟩
      have S03 := S2.trans S3
      have len : (xs.map V.int).length = xs.length := List.length_map _
      refine ⟨_, rfl, p, xs, rfl, SqL.of hl3, so.nd, by omega, _, rfl, p, _, rfl, .inl (SqL.of hl3), rfl, _, rfl, ifT (by rw [len]; simp) ?_⟩
      have np : H p = none := S2.free hp
      refine ⟨_, rfl, p, rfl, ⟨_, SqL.of hl3⟩, fun D hD => lc_list (K := K) (a := p) (xs := xs.map V.int) (fun i H' => Same H3 H' ∧ H' D = some (.lst ((List.replicate i true).map V.bl))) ⟨sNew (Same.refl H3) hD _, upd_same⟩ (fun i H' _ hp' => SqL.of (hp'.1 _ _ hl3)) ?_ ?_⟩
      · rintro i x H' hx2 ⟨s5, hl⟩
        have li : i < xs.length := by
          have := (List.getElem?_eq_some_iff.mp hx2).1
          rwa [List.length_map] at this
        rw [List.getElem?_map, some_of_lt 0 li] at hx2
        obtain rfl := Option.some.inj hx2
        obtain ⟨r1, r2⟩ := so.rg _ (getD_mem 0 li)
        refine ⟨rfl, yesT ⟨_, rfl, _, _, rfl, rfl, _, rfl, ifT (decide_eq_true r1) ⟨_, _, rfl, rfl, _, hl, ltLine (by simp; omega), ?_⟩⟩⟩
        dsimp only
        rw [decide_eq_true r2, bl_more]
        exact ⟨sWr s5 hD _, upd_same⟩
      · rintro H4 ⟨S4, hl4⟩
        refine ⟨D, _, rfl, SqL.of hl4, ?_⟩
        have e : (List.replicate (xs.map V.int).length true).all id = true := by simp
        rw [e]
        exact k H4 (S03.trans S4)
def spVSt (K : PySem.W.Frag) : Sp := fun vs H Q _ => ∃ (v u : V) (sz : List Nat) (rt : Rt) (t : Int) (xs : List Int), vs = [v, u] ∧ Tp K H v (planD sz rt) ∧ PlanOk sz rt ∧ Tp K H u (stD sz rt.length t xs) ∧ StOk sz rt t xs ∧ ∀ H', Same H H' → Q .non H'
abbrev N_validate_state : List Str := ["plan", "state"]
theorem sc_validate_state : FnScope N_validate_state ["plan", "state"] (defScope t_validate_state) := ⟨rfl, rfl, rfl, by decide +kernel, rfl, by decide +kernel, by decide +kernel⟩
theorem ok_validate_state (T : Txt K mg) : Cal P w K mg base CX0 3 "validate_state" ["plan", "state"] (spVSt K) := by
  have C_validate_plan : Cal P w K mg base CX0 2 _ _ _ := ok_validate_plan T
  have C_fits : Cal P w K mg base CX0 2 _ _ _ := ok_fits T
  refine T.d_validate_state.mk0 sc_validate_state (fun _ _ _ _ _ _ us hl => match us, hl with | [_, _], _ => rfl) (fun vs H Q E h => ?_) (fun f cdv A outer st H vs Q E hr h => ?_)
  · obtain ⟨_, _, _, _, _, _, rfl, _⟩ := h
    rfl
  · obtain ⟨v, u, sz, rt, t, xs, rfl, hv, ok, hu, so, k⟩ := h
    refine ⟨_, ((pss_cons (ps_expr (pe_cal C_validate_plan (hr.mono (by decide)) rfl pass0 (pa_cons (pv 0) pa_nil)))
    (pss_one (ps_if (pt_not (pt_val (pe_cal C_fits (hr.mono (by decide)) rfl pass0 (pa_cons (pv 0) (pa_cons (pv 1) pa_nil)))))
    (pss_one ps_never)
    pss_nil)))), ?_⟩
    refine ⟨_, rfl, v, sz, rt, rfl, hv, ok, fun H1 S1 => ?_⟩
    refine ⟨_, rfl, _, rfl, v, u, sz, rt, t, xs, rfl, tpKeep (sTm S1) hv, ok, tpKeep (sTm S1) hu, so, fun H2 S2 => ?_⟩
    exact ⟨_, rfl, ifF rfl (k H2 (S1.trans S2))⟩
/-! ### moved -/
def spMov (K : PySem.W.Frag) : Sp := fun vs H Q _ => ∃ (v u : V) (p : Addr) (sz : List Nat) (rt : Rt) (t t' : Int) (xs : List Int) (e : List Nat), vs = [v, u, .int t', .ref p] ∧ Tp K H v (planD sz rt) ∧ PlanOk sz rt ∧ Tp K H u (stD sz rt.length t xs) ∧ xs.length = nn sz rt ∧ SqT K H p (e.map nv) ∧ e.Perm (List.range (nn sz rt)) ∧
  ∀ (H' : Hp) (r : V), Same H H' → Tp K H' r (stD sz rt.length t' (movM e xs)) → Q r H'
abbrev N_moved : List Str := ["plan", "state", "time", "effect", "contents", "result", "place", "goal"]
theorem sc_moved : FnScope N_moved ["plan", "state", "time", "effect"] (defScope t_moved) := ⟨rfl, rfl, rfl, by decide +kernel, rfl, by decide +kernel, by decide +kernel⟩
theorem ok_moved (T : Txt K mg) : Cal P w K mg base CX0 2 "moved" ["plan", "state", "time", "effect"] (spMov K) := by
  have C_contents_of : Cal P w K mg base CX0 1 _ _ _ := ok_contents_of T
  have C_state_of : Cal P w K mg base CX0 1 _ _ _ := ok_state_of T
  refine T.d_moved.mk0 sc_moved (fun _ _ _ _ _ _ us hl => match us, hl with | [_, _, _, _], _ => rfl) (fun vs H Q E h => ?_) (fun f cdv A outer st H vs Q E hr h => ?_)
  · obtain ⟨_, _, _, _, _, _, _, _, _, rfl, _⟩ := h
    rfl
  · obtain ⟨v, u, p, sz, rt, t, t', xs, e, rfl, hv, ok, hu, hx, hp, pm, k⟩ := h
    refine ⟨_, ((pss_cons (ps_set (i := 4) sc_moved.nd rfl (Or.inl rfl) (pe_cal C_contents_of (hr.mono (by decide)) rfl pass0 (pa_cons (pv 1) pa_nil)))
    (pss_cons (ps_set (i := 5) sc_moved.nd rfl (Or.inl rfl) (pe_op op_rep (pe_lst (pa_cons pe_int pa_nil)) (pe_callB (k_len (K := K)) (by rfl) T.f_len b_len (pa_cons (pv 4) pa_nil))))
    (pss_cons (ps_for PassesOwn.never rfl (ki_enumT (K := K) (by rfl) T.f_enumerate (pa_cons (pv 3) pa_nil)) (kg_tup (K := K) rfl (pgs_cons (pg_name (i := 6) sc_moved.nd rfl (Or.inl rfl)) (pgs_cons (pg_name (i := 7) sc_moved.nd rfl (Or.inl rfl)) pgs_nil)))
    (pss_one (ps_asg (pe_ix (k_ixL (K := K)) (pv 4) (pv 6) (fun _ _ => rfl)) (pg_sub (pv 5) (pv 7) set_list))))
    (pss_one (ps_ret (pe_cal C_state_of (hr.mono (by decide)) rfl pass0 (pa_cons (pv 0) (pa_cons (pv 2) (pa_cons (pv 5) pa_nil)))))))))), ?_⟩
    have nle := ok.n_le
    have el := perm_range_len pm
    have eml : (e.map nv).length = nn sz rt := by rw [List.length_map, el]
    refine ⟨_, rfl, u, sz, rt, t, xs, rfl, hu, ok, hx, fun H1 c S1 hc hl1 => ?_⟩
    refine ⟨leLine (show 1 ≤ 100000 by decide), fun q hq => ?_⟩
    have s1 := sNew S1 hq (.lst [.int 0])
    have hl2 := upd_keep (u := .lst [.int 0]) hl1 hq
    have lxm : (xs.map V.int).length = nn sz rt := by rw [List.length_map, hx]
    refine ⟨_, rfl, c, _, rfl, .inl (SqL.of hl2), q, _, _, rfl, rfl, upd_same, by omega, by omega, leLine (by rw [List.length_singleton]; omega), fun R hR => ?_⟩
    have e0 : (List.replicate (((xs.map V.int).length : Nat) : Int).toNat [V.int 0]).flatten = (scatF e (fun k => xs.getD k 0) (List.replicate (nn sz rt) 0) 0).map V.int := by
      rw [Int.toNat_natCast, rep_one, scatF_zero, List.map_replicate, lxm]
    rw [e0]
    have s2 := sNew s1 hR (.lst ((scatF e (fun k => xs.getD k 0) (List.replicate (nn sz rt) 0) 0).map V.int))
    have nR : H R = none := s1.free hR
    have hl3 := upd_keep (u := .lst ((scatF e (fun k => xs.getD k 0) (List.replicate (nn sz rt) 0) 0).map V.int)) hl2 hR
    have Rc : R ≠ c := fun z => by rw [z, hl2] at hR; cases hR
    refine ⟨_, rfl, p, _, rfl, sqTm (sTm s2) hp, for_pairs (K := K) walkT (fun i σ H' => ∃ u6 u7 : Option V, σ = [some v, some u, some (.int t'), some (.ref p), some (.ref c), some (.ref R), u6, u7] ∧ Same H H' ∧ H' c = some (.lst (xs.map V.int)) ∧ H' R = some (.lst ((scatF e (fun k => xs.getD k 0) (List.replicate (nn sz rt) 0) i).map V.int)))
      ⟨_, _, rfl, s2, hl3, upd_same⟩ (fun i σ H' _ hp' => sqTm (sTm hp'.choose_spec.choose_spec.2.1) hp) ?_ ?_⟩
    · rintro i x σ H' T' hi hx2 ⟨u6, u7, rfl, s5, hc5, hl⟩ hT'
      obtain ⟨li, rfl⟩ := nv_get hx2
      have s6 := sNew s5 hT' (.tup [.int (i : Nat), nv (e.getD i 0)])
      have hl6 := upd_keep (u := .tup [.int (i : Nat), nv (e.getD i 0)]) hl hT'
      have hc6 := upd_keep (u := .tup [.int (i : Nat), nv (e.getD i 0)]) hc5 hT'
      have at_ : (xs.map V.int)[i]? = some (.int (xs.getD i 0)) := by rw [List.getElem?_map, some_of_lt 0 (by omega)]; rfl
      refine ⟨_, rfl, _, rfl, c, _, _, _, rfl, rfl, SqL.of hc6, atI_nat at_, _, rfl, _, rfl, R, _, _, e.getD i 0, rfl, rfl, hl6, ixNat ?_, _, _, rfl, sWr s6 nR _, ?_, ?_⟩
      · rw [List.length_map, scatF_length, List.length_replicate]
        exact perm_range_lt pm (getD_mem 0 li)
      · rw [upd_ne (Ne.symm Rc)]
        exact hc6
      · rw [upd_same, scatF_succ, List.map_set]
    · rintro σ H' ⟨u6, u7, rfl, s5, hc5, hl⟩
      rw [eml] at hl
      have em : movM e xs = scatF e (fun k => xs.getD k 0) (List.replicate (nn sz rt) 0) (nn sz rt) := by
        unfold movM
        rw [hx]
      rw [← em] at hl
      refine ⟨_, rfl, _, rfl, _, rfl, v, sz, rt, t', R, movM e xs, rfl, tpKeep (sTm s5) hv, ok, hl, by rw [(movM_perm pm hx).length_eq, hx], fun H6 r S6 hr6 => k H6 r (s5.trans S6) hr6⟩
/-! ### arrangement -/
def spArr (K : PySem.W.Frag) : Sp := fun vs H Q _ => ∃ (v u : V) (sz : List Nat) (rt : Rt) (t : Int) (xs : List Int), vs = [v, u] ∧ Tp K H v (planD sz rt) ∧ PlanOk sz rt ∧ Tp K H u (stD sz rt.length t xs) ∧ StOk sz rt t xs ∧ ∀ (H' : Hp) (a : Addr) (ob : Obj), Same H H' → H' a = some (.frz ob (.tup (xs.map V.int))) → ob.dict = none → Q (.ref a) H'
abbrev N_arrangement : List Str := ["plan", "state"]
theorem sc_arrangement : FnScope N_arrangement ["plan", "state"] (defScope t_arrangement) := ⟨rfl, rfl, rfl, by decide +kernel, rfl, by decide +kernel, by decide +kernel⟩
theorem ok_arrangement (T : Txt K mg) : Cal P w K mg base CX0 4 "arrangement" ["plan", "state"] (spArr K) := by
  have C_validate_state : Cal P w K mg base CX0 3 _ _ _ := ok_validate_state T
  have C_contents_of : Cal P w K mg base CX0 1 _ _ _ := ok_contents_of T
  refine T.d_arrangement.mk0 sc_arrangement (fun _ _ _ _ _ _ us hl => match us, hl with | [_, _], _ => rfl) (fun vs H Q E h => ?_) (fun f cdv A outer st H vs Q E hr h => ?_)
  · obtain ⟨_, _, _, _, _, _, rfl, _⟩ := h
    rfl
  · obtain ⟨v, u, sz, rt, t, xs, rfl, hv, ok, hu, so, k⟩ := h
    refine ⟨_, ((pss_cons (ps_expr (pe_cal C_validate_state (hr.mono (by decide)) rfl pass0 (pa_cons (pv 0) (pa_cons (pv 1) pa_nil))))
    (pss_one (ps_ret (pe_callTy (k_tupleF (K := K)) (by rfl) T.f_tuple b_tuple (pa_cons (pe_cal C_contents_of (hr.mono (by decide)) rfl pass0 (pa_cons (pv 1) pa_nil)) pa_nil)))))), ?_⟩
    refine ⟨_, rfl, _, rfl, v, u, sz, rt, t, xs, rfl, hv, ok, hu, so, fun H1 S1 => ?_⟩
    refine ⟨_, rfl, u, sz, rt, t, xs, rfl, tpKeep (sTm S1) hu, ok, so.len, fun H2 p S2 hp hl => ?_⟩
    exact ⟨p, _, rfl, SqL.of hl, fun q ob hq hd => k _ q ob (sNew (S1.trans S2) hq _) upd_same hd⟩
end
end K14
/-! ## K14X0 -/
namespace PySem
namespace HandSPX
open Builtin Builtin.ObjectAttr
section
variable {prog : Program} {w : World} {A : Around} {E : Value → Shared → Prop} {R : Result → Shared → Prop} {h : Heap} {g : Array GenState} {d : Drawn} {t : Nat} {os : OsState}
variable {nm q : Str} {C N : Addr} {bs bm bmB : List Value} {hdct : Bool} {sn : List Str} {sub : List Value} {ab : Bool} {col : Option Bool} {dd : Option Addr} {k0 k1 k2 k3 k5 : Option Value} {B newId initId : String} {kw : List (Str × Value)}
theorem k14_check_new (F : ExcBaseFacts B newId initId bmB) (hT : ∀ X : String, bm.contains (.type X) = bmB.contains (.type X)) {M : Model} {rest : List Value} {Q : Unit → Shared → Prop}
    (hC : h.get? C = some (excClassObj nm q C N bs bm hdct sn sub ab col dd k0 k1 k2 k3 k5 newId)) (hq : Q () ⟨h, g, d, t, os⟩) : wpAny M A (checkBuiltinCall newId ⟨.ref C :: rest, kw⟩) Q E ⟨h, g, d, t, os⟩ := by
  have hcont : (Value.ref C :: bm).contains (.type B) = true := by rw [List.contains_cons, hT, F.hasB, Bool.or_true]
  have hstar := F.noStar
  simp only [checkBuiltinCall, F.newKind, F.newSplit, F.newRow]
  repeat (first | refine wpAny_loadPart_at hC ?_ | (refine wpAny_isSubtype_exc hC ?_; rw [hcont]) | refine wpAny_staticBase_exc hC ?_ | refine wpAny_madeBy_exc hC ?_ | simp only [bne_self_eq_false, Bool.false_eq_true, if_false] | wp_step)
  exact hq
theorem k14_new_own (F : ExcBaseFacts B newId initId bmB) (hT : ∀ X : String, bm.contains (.type X) = bmB.contains (.type X)) {rest : List Value}
    (hC : h.get? C = some (excClassObj nm q C N bs bm hdct sn sub ab col dd k0 k1 k2 k3 k5 newId))
    (hq : R (.ok (.ret (.ref (h.objs.size + 1)))) ⟨(h.push { cls := .type "tuple", data := .seq rest.toArray }).push
      { cls := .ref C, data := .fields #[.ref h.objs.size, .none, .none, .none, .bool false, .none] }, g, d, t, os⟩) (hrest : rest.length ≤ sizeLine) :
    codeAny (model prog w) A (.builtin newId ⟨.ref C :: rest, kw⟩) R ⟨h, g, d, t, os⟩ := by
  have hends := F.ends
  have hcB : (Value.ref C :: bm).contains (.type B) = true := by rw [List.contains_cons, hT, F.hasB, Bool.or_true]
  have hcA : (Value.ref C :: bm).contains (.type "AttributeError") = false := by rw [List.contains_cons, hT, F.noAttr]; rfl
  have hcN : (Value.ref C :: bm).contains (.type "NameError") = false := by rw [List.contains_cons, hT, F.noName]; rfl
  refine codeAny_builtinAt F.entry ?_
  unfold Builtin.«BaseException.__new__»
  refine wpAt_bind ?_
  show wpAt _ _ _ (stack >>= _) _ _ _
  refine wpAt_bind (wpAt_stack fun p below => wpAt_of_wpAny ?_)
  wp_walk
  refine wpAt_of_wpAny ?_
  rw [F.owner]
  repeat (first | with_reducible refine wpAny_madeHere_exc F.canon hC ?_ | with_reducible refine wpAny_loadPart_at hC ?_ | (with_reducible refine wpAny_isSubtype_exc hC ?_; first | rw [hcB] | rw [hcA] | rw [hcN]) | wp_step)
  show R _ _
  rw [Heap.size_push]
  exact hq
theorem k14_type_call (F : ExcBaseFacts B newId initId bmB) (hT : ∀ X : String, bm.contains (.type X) = bmB.contains (.type X)) {rest : List Value} {fI : Addr} {Q : Fin → Shared → Prop}
    (hC : h.get? C = some (excClassObj nm q C N bs bm hdct sn sub ab col dd k0 k1 k2 k3 k5 newId))
    (hi : W.Looks (model prog w) h (typeLookup (.ref C) "__init__") (some (.ref fI))) (hb : ∀ self, W.Looks (model prog w) h (bindSpecial (.ref fI) self) (.ref fI, [self])) (hrest : rest.length ≤ sizeLine)
    (hq : codeAny (model prog w) A (.call (.ref fI) ⟨.ref (h.objs.size + 1) :: rest, kw⟩)
      (fun r s' => match r with | .ok (.ret v) => v = .none ∧ Q (.done (.ret (.ref (h.objs.size + 1)))) s' | .ok _ => False | .error e => E e s')
      ⟨(h.push (W.kdv_tup rest)).push (excO C h.objs.size), g, d, t, os⟩) :
    wpAny (model prog w) A (Builtin.«type.__call__» ⟨.ref C :: rest, kw⟩) Q E ⟨h, g, d, t, os⟩ := by
  repeat (first | with_reducible refine wpAny_loadPart_at hC ?_ | with_reducible refine wpAny_madeBy_exc hC ?_ | wp_step)
  refine codeAny_call_builtin_code (Code.quiet_builtin _ F.quiet) (k14_check_new F hT hC ?_)
  refine k14_new_own F hT hC ?_ hrest
  show wpAny _ _ _ _ _ _
  have k : ∀ b o, h.get? b = some o → ((h.push (W.kdv_tup rest)).push (excO C h.objs.size)).get? b = some o := fun b o e => Heap.get?_push_of_some _ (Heap.get?_push_of_some _ e)
  have hC₁ := k _ _ hC
  have hget : ((h.push (W.kdv_tup rest)).push (excO C h.objs.size)).get? (h.objs.size + 1) = some (excO C h.objs.size) := by heap_get
  have hcC : (Value.ref C :: bm).contains (.ref C) = true := by simp
  have i1 := hi.keeps k
  have b1 := (hb (.ref (h.objs.size + 1))).keeps k
  unfold isInstance
  repeat (first | with_reducible refine wpAny_loadPart_at hget ?_ | (with_reducible refine wpAny_isSubtype_exc hC₁ ?_; rw [hcC]) | wp_step)
  show wpAny _ _ (typeLookup (.ref C) _) _ _ _
  refine i1.at ?_
  refine wpAny_holding (wpAny_bind (b1.at ?_))
  refine wpAny_bind (wpAny_call (codeAny_mono hq fun r s' z => ?_))
  rcases r with e | (v | _ | _ | _) <;> first | exact z | exact z.elim | skip
  obtain ⟨rfl, z⟩ := z
  first
    | exact wpAny_pure (wpAny_pure z)
    | (wp_walk; exact z)
theorem k14_call_own (F : ExcBaseFacts B newId initId bmB) (hT : ∀ X : String, bm.contains (.type X) = bmB.contains (.type X)) {rest : List Value} {fI : Addr}
    (hC : h.get? C = some (excClassObj nm q C N bs bm hdct sn sub ab col dd k0 k1 k2 k3 k5 newId))
    (hi : W.Looks (model prog w) h (typeLookup (.ref C) "__init__") (some (.ref fI))) (hb : ∀ self, W.Looks (model prog w) h (bindSpecial (.ref fI) self) (.ref fI, [self])) (hrest : rest.length ≤ sizeLine)
    (hq : codeAny (model prog w) (A.under (.builtin "type.__call__" ⟨.ref C :: rest, kw⟩)) (.call (.ref fI) ⟨.ref (h.objs.size + 1) :: rest, kw⟩) (W.InitBack (h.objs.size + 1) R)
      ⟨(h.push (W.kdv_tup rest)).push (excO C h.objs.size), g, d, t, os⟩) :
    codeAny (model prog w) A (.call (.ref C) ⟨rest, kw⟩) R ⟨h, g, d, t, os⟩ := by
  have f1 := tc_lookup
  have f2 := tc_bind (.ref C)
  have hTy : (⟨h, g, d, t, os⟩ : Shared).TypeIs (.ref C) "type" := ⟨_, hC, rfl⟩
  refine codeAny_of_tree ?_
  show wpAny _ _ (callAny (.ref C) _) _ _ _
  repeat (any_goals (first | assumption | with_reducible refine wpAny_loadPart_at hC ?_ | wp_step))
  refine ⟨rfl, ?_⟩
  refine codeAny_call_builtin_at (Code.quiet_builtin _ (by decide +kernel)) entry_typeCall (wpAny_check_type_call_sub hC (k14_type_call F hT hC hi hb hrest ?_))
  refine codeAny_mono hq fun r s' z => ?_
  rcases r with e | (v | _ | _ | _) <;> exact z
end
end HandSPX
end PySem
/-! ## K14X -/
namespace K14
open PySem PySem.Spec PyProof.Rows L2
/-! ### own exception classes: what is asked of the text -/
def cad (mg : Str → Option Value) (x : Str) : Addr := match mg x with
  | some (.ref a) => a
  | _ => 0
def exNames : List Str := ["InvalidPlan", "InvalidState", "InvalidCount", "UnknownPlace", "UnknownParcel", "UnknownShelf", "UnknownCarrier", "InvalidEffect", "DifferentSizes", "InvalidParcels", "Contradiction", "InvalidArrangement", "ShelfFull", "ParcelCarried", "InvalidSwap"]
def raised : List Str := ["InvalidCount", "InvalidArrangement", "InvalidSwap"]
def firstDef : Stmt → Stmt
  | .ClassDef (body := b) .. => b.getD 0 (.Pass ⟨0, 0, 0, 0⟩)
  | _ => .Pass ⟨0, 0, 0, 0⟩
abbrev t_swap_init : Stmt := firstDef (top 14)
structure Ecs (K : PySem.W.Frag) (mg : Str → Option Value) : Prop where
  g : ∀ x ∈ ("ShelfError" : Str) :: exNames, mg x = some (.ref (cad mg x))
  own : ∀ x ∈ ([("InvalidCount" : Str), "InvalidArrangement"] : List Str), PySem.W.excIn K (cad mg x) PySem.HandSPX.veTail "ValueError.__new__" = true
  bx : ∀ x ∈ raised, PySem.W.keepIn K (.ref (cad mg x)) = true ∧ PySem.W.subIn K (.ref (cad mg x)) (.type "BaseException") = some true ∧ PySem.W.typeIn K (.ref (cad mg x)) = some (.type "type")
  exc : ∀ x ∈ raised, ExcC K (cad mg x)
  kit : ∀ x ∈ raised, ∀ y ∈ exNames, PySem.W.kitOne K (.ref (cad mg x)) (.ref (cad mg y)) = some (decide (x = y))
  kve : ∀ x ∈ raised, PySem.W.kitOne K (.ref (cad mg x)) (.type "ValueError") = some true
  exm : ∀ x ∈ raised, PySem.W.exmOne K (.ref (cad mg x)) (.ref (cad mg "ShelfError")) = some true
  oex : OexC K (cad mg "InvalidSwap")
  xf : XfC K (cad mg "InvalidSwap")
  nix : PySem.W.findIn K (.ref (cad mg "InvalidSwap")) "index" = some none
  ini : ∃ (fI : Addr) (fd : FuncData), PySem.W.findIn K (.ref (cad mg "InvalidSwap")) "__init__" = some (some (.ref fI)) ∧ PySem.W.typeIn K (.ref fI) = some (.type "function") ∧ FunD K "__init__" "InvalidSwap.__init__" (defArgs t_swap_init) (defBody t_swap_init) (defScope t_swap_init) [] [] fI fd
  sga : PySem.W.specialIn K (.ref (cad mg "ShelfError")) "__getattribute__" = some (some (.builtin "type.__getattribute__"))
  srd : ∃ mc, PySem.W.readsIn K (cad mg "ShelfError") mc = true ∧ PySem.W.findCls K (.ref (cad mg "ShelfError")) mc "__init__" = some (.val (.builtin "ValueError.__init__"))
  skp : True
theorem memOf {x : Str} {l : List Str} (h : l.contains x = true) : x ∈ l := List.contains_iff_mem.mp h
/-! ### rules -/
section
variable {X : Cx} {E : XK}
theorem passLL : Passes (L2.CX X.prog X.w) X (fun _ _ _ => False) := fun _ _ _ _ _ _ _ h => by
  obtain ⟨_, _, _, _, _, _, _, _, _, _, _, _, z⟩ := h
  exact z.elim
theorem pmk_plain {x m : Str} {j : Nat} {p p2 pos : Pos} {K : PySem.W.Frag} {mg : Str → Option Value} (EC : Ecs K mg) (h1 : x ∈ ([("InvalidCount" : Str), "InvalidArrangement"] : List Str)) (h2 : x ∈ raised) (h3 : x ∈ ("ShelfError" : Str) :: exNames) (hg : Gl X x)
    (hdb : (x == ("__debug__" : Str)) = false := by decide) (hK : X.K = K := by rfl) (hm : X.mg = mg := by rfl) : PMk X (.Call (.Name x p) [.Constant (.str m) j p2] [] pos) (fun _ H Q => Q (.ref (cad mg x)) none H) := by
  subst hK
  subst hm
  exact pmk_own PySem.F.excBase_ValueError (EC.own x h1) (EC.g x h3) (EC.bx x h2).1 (raises_own (EC.bx x h2).2.1 (EC.bx x h2).2.2) hg hdb
end
/-- f(.., k = v), no defaults -/
theorem funKb {K : PySem.W.Frag} {x qual : Str} {params : Arguments} {body : List Stmt} {scope : Scope} {f : Addr} {fd : FuncData} {ps : List Str} (F : FunD K x qual params body scope [] [] f fd) (n : Nat) (ks : List Str) (g : {α : Type} → List α → List α → List α)
    (hrel : ∀ {vs zs : List V} {us ws : List Value}, Vals vs us → Vals zs ws → Vals (g vs zs) (g us ws))
    (h : ∀ (kV doc pm : Value) (an : Option Addr) (cdv ct : Value) (us ws : List Value), us.length = n → ws.length = ks.length → bindArgs (PySem.W.fnOf x qual params body scope .none kV doc pm an cdv ct) ⟨us, ks.zip ws⟩ = pure (ps.zip (g us ws))) :
    KBn K fd ps n ks (fun us ws => g us ws) (fun vs zs => g vs zs) := by
  obtain ⟨oc, od, dV, kV, doc, pm, an, cdv, ct, osl, rfl, lk, hcd, hD, hK⟩ := F.ex
  rcases hD with ⟨_, rfl⟩ | ⟨e, _⟩
  · exact ⟨fun s us ws X l1 l2 => .of_eq (h kV doc pm an cdv ct us ws l1 l2), fun r1 r2 => hrel r1 r2⟩
  · exact absurd rfl e
/-- C(k = v), C's own __init__ keeping sp -/
def tMkK (C : Addr) (m : Nat) (sp : Sp) (gV : List V → List V → List V) (tk : TA) : L2.St → Hp → XK → Prop := fun σ H Q => tk σ H fun zs H1 => zs.length = m ∧ ∀ a, H1 a = none → sp (gV [.ref a] zs) (upd H1 a (exo a C none))
  (fun v H2 => v = .non ∧ ∃ (d : Addr) (fs : List (Str × V)), H2 a = some (exo a C (some d)) ∧ H2 d = some (exd d fs) ∧ H1 d = none ∧ Q (.ref C) (some d) (upd (del H2 a) d (.xd fs))) (fun _ _ _ => False)
section
variable {X : Cx} {CX : CXT} {k : Nat} {x : Str} {p pos : Pos} {ps ks : List Str} {sp : Sp} {kws : List Keyword} {tk : TA} {g : List Value → List Value → List Value} {gV : List V → List V → List V} {C fI : Addr} {fd : FuncData}
theorem pmk_kw (T : OexC X.K C) (iC : PySem.W.findIn X.K (.ref C) "__init__" = some (some (.ref fI))) (tI : PySem.W.typeIn X.K (.ref fI) = some (.type "function"))
    (F1 : FnOk X.prog X.w X.K X.mg X.base CX k fI fd ps sp) (hr : Room (k + 1) X.A) (hb : KBn X.K fd ps 1 ks g gV) (hx : Passes CX X (fun _ _ _ => False)) (hg : Gl X x) (hm : X.mg x = some (.ref C)) (hkw : PK X kws tk)
    (hall : (backToKw pos (keywordEach kws X.env)).all (·.1.isSome) = true := by rfl) (hks : (backToKw pos (keywordEach kws X.env)).filterMap (·.1) = ks := by rfl) (hdb : (x == ("__debug__" : Str)) = false := by decide)
    (hpl : ((backTo pos (starEach [] X.env)).any (·.1) || (backToKw pos (keywordEach kws X.env)).any (·.1.isNone)) = false := by rfl) :
    PMk X (.Call (.Name x p) [] kws pos) (tMkK C ks.length sp gV tk) := by
  intro pins s σ H Q I h
  obtain ⟨nm, q, N, bs, bm, sn, sub, ab, col, dd, k0, k1, k2, k3, k5, hC, hbm⟩ := T.cls
  refine wpAny_Call_Name_kw (ld_glob I hg hm ?_ hdb)
  refine PySem.W.callWith_KW0 (h₀ := X.base) I.ok.mod.kin T.kC hall ?_ hpl
  refine thn (hkw.run pos pins s σ H _ I h) fun ws s1 ⟨zs, H1, I1, rz, hz, q1⟩ => ⟨I1.kIn, ?_⟩
  rw [hks]
  show wpAny _ _ (call (.ref C) [] (ks.zip ws)) _ _ _
  obtain ⟨hp, gn, dr, tk0, os⟩ := s1
  have hsz : hp.objs.size ≤ hp.objs.size + 1 := Nat.le_succ _
  have hn : H1 (hp.objs.size + 1) = none := I1.hok.fresh hsz
  have hq := q1 (hp.objs.size + 1) hn
  have kk : ∀ b o, hp.get? b = some o → ((hp.push (PySem.W.kdv_tup [])).push (PySem.HandSPX.excO C hp.objs.size)).get? b = some o := fun b o e => Heap.get?_push_of_some _ (Heap.get?_push_of_some _ e)
  have hget : ((hp.push (PySem.W.kdv_tup [])).push (PySem.HandSPX.excO C hp.objs.size)).get? (hp.objs.size + 1) = some (PySem.HandSPX.excO C hp.objs.size) := by heap_get
  have I2 : Inv X pins σ (upd H1 (hp.objs.size + 1) (exo (hp.objs.size + 1) C none)) ⟨(hp.push (PySem.W.kdv_tup [])).push (PySem.HandSPX.excO C hp.objs.size), gn, dr, tk0, os⟩ :=
    I1.laid (t' := tk0) (a := hp.objs.size + 1) (o := exo (hp.objs.size + 1) C none) (h' := (hp.push (PySem.W.kdv_tup [])).push (PySem.HandSPX.excO C hp.objs.size)) kk hsz (exo_ok hget)
  have r2 := hb.rel (vs := [V.ref (hp.objs.size + 1)]) (us := [Value.ref (hp.objs.size + 1)]) (.cons rfl .nil) rz
  refine wpAny_call (PySem.HandSPX.k14_call_own PySem.F.excBase_ValueError (fun Y => PySem.HandSPX.refsVE_contains Y bm hbm) (I1.kIn _ _ hC) (PySem.W.looks_findIn I1.kIn iC) (fun self => PySem.W.bind_fn I1.kIn self tI) (by show 0 ≤ sizeLine; exact Nat.zero_le _)
    (codeAny_mono (F1.run _ X.stack _ _ ⟨[Value.ref (hp.objs.size + 1)], ks.zip ws⟩ (g [Value.ref (hp.objs.size + 1)] ws) _ _ (fun _ _ _ => False) (hr.make C [] (ks.zip ws)) (I2.env0.make C [] (ks.zip ws)) (hb.to _ [Value.ref (hp.objs.size + 1)] ws I2.kIn rfl (rz.length.symm.trans hz)) r2 hq) fun r s' hq' => ?_))
  cases r with
  | error er => exact hx pins σ _ _ er s' I2 hq'
  | ok fl =>
    cases fl with
    | ret u =>
      obtain ⟨v, H2, os2, bare2, un2, hok2, rv, ev, d, fs, ea, ed, hd1, q2⟩ := hq'
      subst ev
      obtain ⟨h2, g2, d2, t2, os'⟩ := s'
      exact ⟨rv, mk_end (raises_own T.exC T.tyC) I1 hsz kk un2 hok2 os2 bare2 ea ed hd1 q2⟩
    | next => exact False.elim hq'
    | brk => exact False.elim hq'
    | cont => exact False.elim hq'
end
section
variable {X : Cx} {e : Expr} {es : List Expr} {ta : TA} {p1 p2 pos : Pos} {x : Str} {S : Addr} {mc : Value}
/-- S.__init__(self, ..), S an own class that takes ValueError's -/
theorem pe_seinit {pl : Sem Bool} (hg : Gl X x) (hm : X.mg x = some (.ref S)) (hga : PySem.W.specialIn X.K (.ref S) "__getattribute__" = some (some (.builtin "type.__getattribute__"))) (hrd : PySem.W.readsIn X.K S mc = true)
    (vV : PySem.W.findCls X.K (.ref S) mc "__init__" = some (.val (.builtin "ValueError.__init__"))) (ha : PA X (e :: es) ta)
    (hc : eval (.Call (.Attribute (.Name x p1) "__init__" p2) (e :: es) [] pos) X.env = (do
      let ov ← eval (.Name x p1) X.env
      standAt p2.atName
      let (f, first) ← holding [ov] (getMethod ov "__init__" pl)
      callWith pos f first (backTo pos (starEach (e :: es) X.env)) (backToKw pos (keywordEach [] X.env))) := by rfl)
    (hdb : (x == ("__debug__" : Str)) = false := by decide)
    (he : starEach (e :: es) X.env = (false, eval e X.env) :: starEach es X.env := by rfl) (hpl : (backTo pos (starEach es X.env)).any (·.1) = false := by rfl) :
    PE X (.Call (.Attribute (.Name x p1) "__init__" p2) (e :: es) [] pos) (tVeI X.K ta) := by
  refine ⟨fun pins s σ H Q I h => ?_⟩
  refine PySem.W.methodCall_KW (ld_glob I hg hm ?_ hdb) hc
  refine PySem.W.method_cls I.kIn hga (PySem.W.cls_value I.kIn hrd vV (by decide +kernel) ?_)
  show wpAny _ _ (callWith pos (Value.builtin "ValueError.__init__") [] (backTo pos (starEach (e :: es) X.env)) []) _ _ _
  refine PyProof.Rows.callWith_method1 (thn (ha.run pos pins _ σ H _ (I.tok _) h) fun us s1 ⟨vs, H1, I1, r1, a, C, ws, ev, hl, T, ea, q⟩ => ?_) he hpl
  subst ev
  cases r1 with
  | @cons _ u0 _ ur ra rw' =>
    obtain rfl : u0 = Value.ref a := ra
    have hlen : ur.length ≤ sizeLine := by
      rw [← Paired.length rw', sizeLine_eq]
      omega
    exact oinit_ok T I1 ea hlen fun s' J => ⟨.non, H1, J, rfl, q⟩
end
/-- isinstance(e, c), e the exception that the suite holds, with or without a dict -/
def rIsD (K : PySem.W.Frag) (D a : Addr) (d : Option Addr) : List V → Hp → VK → Prop := fun xs H Q => ∃ (c : V) (cv : Value) (b : Bool), xs = [.ref a, c] ∧ (∀ dd, d = some dd → ∃ fs, H dd = some (.xd fs)) ∧ (∀ u, RelV c u → u = cv) ∧ PySem.W.kitOne K (.ref D) cv = some b ∧ Q (.bl b) H
theorem call_isD {X : Cx} {a D : Addr} {d : Option Addr} {oe : Obj} {pn : List (Addr × Obj)} {K : PySem.W.Frag} (C : ExcC K D) (hz : Zc (.ref D) d oe) (hf : ∃ vs, oe.data = .fields vs) (hK : X.K = K := by rfl) : CallR (X.suite a ((a, oe) :: pn)) (.builtin "isinstance") (rIsD K D a d) := by
  subst hK
  intro pins s σ H xs us Q I r h
  obtain ⟨c, cv, b, rfl, hd, hcv, e, q⟩ := h
  cases r with
  | cons rx rr =>
    cases rr with
    | cons rt rr =>
      cases rr
      cases rx
      have ec := hcv _ rt
      subst ec
      obtain ⟨hget, _⟩ := I.pin (a, oe) (List.mem_append.mpr (.inl List.mem_cons_self))
      obtain ⟨vs, hv⟩ := hf
      have hcl : (PySem.W.clsIn X.K D).isSome = true := by obtain ⟨cd, hc, _⟩ := PySem.W.any_some C.hd; rw [hc]; rfl
      have fin : ∀ od, PySem.W.InstAt s.heap a oe D od → wpAny (model X.prog X.w) (X.suite a ((a, oe) :: pn)).A (call (.builtin "isinstance") [.ref a, _]) (EP (X.suite a ((a, oe) :: pn)) pins σ Q) (X.suite a ((a, oe) :: pn)).xe s := fun od J =>
        PySem.W.kia_one (PySem.W.kitx_exc hcl C.hg C.hk C.hs C.ha C.hn C.ht C.hm) I.kIn J e (fun z => nomatch z) fun tk => ⟨.bl b, H, I.kept (t' := tk) fun _ _ z => z, rfl, q⟩
      cases d with
      | none =>
        refine fin none ?_
        obtain ⟨oc, od, oda, osl⟩ := oe
        obtain ⟨h1, h2⟩ := hz
        dsimp only at h1 h2 hv
        subst h1 h2 hv
        exact ⟨hget, rfl, rfl, trivial⟩
      | some dd =>
        obtain ⟨fs, ea⟩ := hd dd rfl
        have hx : ObjOk X.prog X.w H s.heap dd (.xd fs) := I.hok dd _ ea
        obtain ⟨mA, hns, hr⟩ := hx
        obtain ⟨od, ho, hl⟩ := lookIn_ns hns
        exact fin (some od) ⟨hget, hz.1, by unfold PySem.W.notCls; rw [hv] <;> rfl, by rw [hz.2]; exact ho⟩
/-! ### InvalidSwap.__init__ -/
section
variable {P : Program} {w : World} {K : PySem.W.Frag} {mg : Str → Option Value} {base : Heap}
def spISw (C : Addr) : Sp := fun vs H Q _ => ∃ (a : Addr) (i : Int), vs = [.ref a, .int i] ∧ H a = some (exo a C none) ∧ ∀ dx, H dx = none → dx ≠ a → Q .non (upd (upd H dx (exd dx [("index", .int i)])) a (exo a C (some dx)))
abbrev N_swap_init : List Str := ["self", "index"]
theorem sc_swap_init : FnScope N_swap_init ["self", "index"] (defScope t_swap_init) := ⟨rfl, rfl, rfl, by decide +kernel, rfl, by decide +kernel, by decide +kernel⟩
theorem ok_swap_init (EC : Ecs K mg) {fI : Addr} {fd : FuncData} (F : FunD K "__init__" "InvalidSwap.__init__" (defArgs t_swap_init) (defBody t_swap_init) (defScope t_swap_init) [] [] fI fd) : FnOk P w K mg base CX0 1 fI fd ["self", "index"] (spISw (cad mg "InvalidSwap")) := by
  refine F.ok sc_swap_init (fun vs H Q E h => ?_) (fun cdv A outer st H vs Q E hr h => ?_)
  · obtain ⟨_, _, rfl, _⟩ := h
    rfl
  · obtain ⟨a, i, rfl, ha, k⟩ := h
    obtain ⟨mc, rd, vV⟩ := EC.srd
    suffices hh : ∃ t, PSs (cxOf CX0 P w K mg base N_swap_init "InvalidSwap.__init__" (defScope t_swap_init) fI cdv A outer st H E).nox (defBody t_swap_init) t ∧ t { nx := fun _ H' => Q .non H', rt := Q } (start N_swap_init [.ref a, .int i]) H by
      obtain ⟨t, ht, q⟩ := hh
      exact ⟨t, ht.nox, q⟩
    refine ⟨_, pss_cons (ps_expr (pe_seinit (pl := _) (by rfl) (EC.g "ShelfError" List.mem_cons_self) EC.sga rd vV (pa_cons (pv 0) (pa_cons pe_str pa_nil)))) (pss_one (ps_ost (pv 0) (pv 1))), ?_⟩
    refine ⟨_, rfl, a, _, _, rfl, by show 1 ≤ 1000; decide, EC.oex, ha, ?_⟩
    exact ⟨_, rfl, _, rfl, a, _, rfl, EC.oex, EC.nix, .inl ⟨ha, k⟩⟩
end
end K14
/-! ## K14T -/
namespace PyProof.Rows
open PySem
section
variable {prog : Program} {w : World} {A : Around} {E : Value → Shared → Prop} {s : Shared}
theorem k14_collect_tup {l : Addr} {vs : List Value} {Q : List Value → Shared → Prop} (hl : s.heap.IsTuple l vs.toArray)
    (h : Q vs { s with heap := (s.heap.push (seqObj "list" #[] 0)).update s.heap.objs.size (Obj.mapSeq (· ++ vs.toArray)) }) (hsz : vs.length ≤ sizeLine) :
    wpAny (model prog w) A (collect (.ref l)) Q E s := by
  obtain ⟨o, ho, hc, n, hd⟩ := id hl
  unfold collect
  refine wpAny_bind (wpAny_runValue (codeAny_builtin entry_proto_collect' ?_))
  show wpAny _ _ (do again (.builtin "list.__iadd__" ⟨[← newList [], .ref l], []⟩)) _ _ s
  refine wpAny_bind (wpAny_newList (wpAny_pure ⟨Code.quiet_builtin _ (by decide +kernel), codeAny_builtin entry_list_iadd' ?_⟩))
  show wpAny _ _ (Builtin.List.listExtendWith (.ref s.heap.objs.size) (.ref l) (.ref s.heap.objs.size)) _ _ { s with heap := s.heap.push (seqObj "list" #[] 0) }
  unfold Builtin.List.listExtendWith
  have ho' : (s.heap.push (seqObj "list" #[] 0)).get? l = some o := Heap.get?_push_of_some _ ho
  refine wpAny_bind (wpAny_typeOf (T := "tuple") ⟨o, ho', hc⟩ ?_)
  have ht : (Value.type "tuple" == Value.type "tuple") = true := by rfl
  rw [if_pos (by rw [ht]; simp)]
  refine wpAny_bind (listItems_at ho' hd ?_)
  refine wpAny_bind (listItems_at (xs := #[]) (n := 0) (Heap.get?_push_size _ rfl) rfl ?_)
  rw [if_neg (by simp)]
  refine wpAny_bind (listUpdate_at (xs := #[]) (n := 0) (Heap.get?_push_size _ rfl) rfl ?_ (Nat.zero_le _) (by show (#[] ++ vs.toArray).size ≤ sizeLine + 1; simp only [Array.size_append, List.size_toArray, List.length_nil]; omega))
  refine wpAny_pure ?_
  show wpAny (model prog w) A (do
      let o ← load s.heap.objs.size
      match o.data with
      | .seq xs _ => pure xs.toList
      | _ => unsupported "internal:collect") Q E { s with heap := (s.heap.push (seqObj "list" #[] 0)).update s.heap.objs.size (Obj.mapSeq (· ++ vs.toArray)) }
  refine wpAny_bind (wpAny_load (get?_update_seq (Heap.get?_push_size _ rfl) _) ?_)
  show wpAny _ _ (pure ((#[] : Array Value) ++ vs.toArray).toList) Q E _
  rw [show ((#[] : Array Value) ++ vs.toArray).toList = vs by simp]
  exact wpAny_pure h
end
end PyProof.Rows
namespace SrtO
open PySem PyProof.Rows Srt
section
variable {prog : Program} {w : World} {A : Around} {E : Value → Shared → Prop} {s : Shared}
theorem k14_sorted_tup {l : Addr} {vs : List Value} {ltv : Value → Value → Bool} {Q : Value → Shared → Prop} (O : Swo ltv) (hl : s.heap.IsTuple l vs.toArray) (hz : vs.length ≤ sizeLine)
    (hS : 2 ≤ vs.length → ∀ (h₁ : Heap) (a : Addr), h₁.get? a = some (seqObj "list" vs.toArray 0) → (∀ b o, s.heap.get? b = some o → b ≠ a ∧ h₁.get? b = some o) → SortableO prog w A.in1.in1 { s with heap := h₁ } a vs ltv)
    (h : ∀ out : List Value, Srtd ltv out → Stb ltv out vs → Q (.ref (s.heap.objs.size + 1)) { s with heap := sortedAll s.heap vs out.toArray }) :
    wpAny (model prog w) A (call (.builtin "sorted") [.ref l]) Q E s := by
  refine Calls.call_function_entry kind_sorted plain_sorted entry_sorted (args_sorted1 _) ?_
  unfold Builtin.«sorted»
  refine wpAny_bind (m := checkCount "sorted" 1 1 _) (wpAny_pure ?_)
  refine wpAny_bind (k14_collect_tup hl ?_ hz)
  refine wpAny_bind (wpAny_newList ?_ hz)
  have hsz : ((s.heap.push (seqObj "list" #[] 0)).update s.heap.objs.size (Obj.mapSeq (· ++ vs.toArray))).objs.size = s.heap.objs.size + 1 := by
    rw [Heap.size_update, size_push']
  have hoL : (((s.heap.push (seqObj "list" #[] 0)).update s.heap.objs.size (Obj.mapSeq (· ++ vs.toArray))).push (seqObj "list" vs.toArray 0)).get? (s.heap.objs.size + 1) = some (seqObj "list" vs.toArray 0) := by
    rw [← hsz]; exact Heap.get?_push_size _ rfl
  have keep : ∀ b o, s.heap.get? b = some o → b ≠ s.heap.objs.size + 1 ∧ (((s.heap.push (seqObj "list" #[] 0)).update s.heap.objs.size (Obj.mapSeq (· ++ vs.toArray))).push (seqObj "list" vs.toArray 0)).get? b = some o := fun b o q => by
    have hlt : b < s.heap.objs.size := Heap.lt_size q
    refine ⟨Nat.ne_of_lt (Nat.lt_succ_of_lt hlt), Heap.get?_push_of_some _ ?_⟩
    rw [Heap.get?_update_ne _ _ _ _ (Nat.ne_of_lt hlt)]
    exact Heap.get?_push_of_some _ q
  show wpAny _ _ _ _ _ { s with heap := ((s.heap.push (seqObj "list" #[] 0)).update s.heap.objs.size (Obj.mapSeq (· ++ vs.toArray))).push (seqObj "list" vs.toArray 0) }
  rw [hsz]
  refine wpAny_bind (wpAny_holding (wpAny_call_entry slot_list_sort ⟨_, hoL, rfl⟩ entry_list_sort (list_sort_ord O hoL hz (fun h2 => hS h2 _ _ hoL keep) fun out hs hb => ⟨_, rfl, ?_⟩) (args_list_sort _)))
  exact wpAny_pure ⟨_, rfl, h out hs hb⟩
end
end SrtO
namespace K14
open PySem PySem.Spec PyProof.Rows L2
section
variable {X : Cx} {K : PySem.W.Frag}
theorem k_sortedT (hK : X.K = K := by rfl) : CallR X (.builtin "sorted") (rSortT K) := by
  subst hK
  intro pins s σ H vs us Q I r h
  obtain ⟨a, ns, rfl, hs, q⟩ := h
  obtain ⟨its, rv, hl, hz⟩ := I.tuple hs
  rw [Vals.ref1 r]
  have hi := rv.ints
  refine SrtO.k14_sorted_tup SrtO.swo_int (show s.heap.IsTuple a its.toArray from hl) (by rw [← rv.length]; exact hz) (fun h2 h₁ a' _ _ => SrtO.ints_sortable hi h2) fun out h1 h2 => ?_
  obtain ⟨k1, k2, k3⟩ := SrtO.ints_out hi h1 h2
  obtain ⟨ep, he'⟩ := PyProof.Rows.sortedAll_at s.heap its out.toArray
  have hlen : ((out.map SrtO.iv).map V.int).length ≤ sizeLine := by
    rw [List.length_map, k2.length_eq]
    rw [List.length_map] at hz
    exact hz
  exact ⟨.ref _, upd H (s.heap.objs.size + 1) (.lst ((out.map SrtO.iv).map V.int)), I.laid (t' := s.toks) (fun _ _ => PyProof.Rows.sortedAll_old) (Nat.le_succ _) ⟨hlen, out, ep, vals_of_ints k1, he'⟩, rfl, q _ _ k2 k3 (I.hok.fresh (Nat.le_succ _))⟩
end
end K14
/-! ## K14Y -/
namespace K14
open PySem PySem.Spec PyProof.Rows L2
theorem sorted_iff {a b a' b' : List Int} (ha : a'.Perm a) (hb : b'.Perm b) (sa : a'.Pairwise (· ≤ ·)) (sb : b'.Pairwise (· ≤ ·)) : a' = b' ↔ a.Perm b :=
  ⟨fun e => ha.symm.trans (e ▸ hb), fun p => List.Perm.eq_of_pairwise (fun _ _ _ _ h1 h2 => Int.le_antisymm h1 h2) sa sb (ha.trans (p.trans hb.symm))⟩
theorem idx_before {l : List Int} {x : Int} : ∀ {m : Nat} {z : Int}, m < l.idxOf x → l[m]? = some z → z ≠ x := by
  intro m z h e q
  subst q
  unfold List.idxOf at h
  have := List.not_of_lt_findIdx h
  have lt : m < l.length := (List.getElem?_eq_some_iff.mp e).1
  have e2 : l[m] = z := (List.getElem?_eq_some_iff.mp e).2
  rw [e2] at this
  simp at this
def plAt (sz : List Nat) (m i : Nat) : Pl := (placesL sz m).getD i (.car 0)
def swD (sz : List Nat) (m : Nat) (q : Nat × Nat) : PyData := .tuple [plD (plAt sz m q.1), plD (plAt sz m q.2)]
theorem m1_InvalidCount : ("InvalidCount" : Str) ∈ ([("InvalidCount" : Str), "InvalidArrangement"] : List Str) := List.mem_cons_self
theorem m1_InvalidArrangement : ("InvalidArrangement" : Str) ∈ ([("InvalidCount" : Str), "InvalidArrangement"] : List Str) := List.mem_cons_of_mem _ List.mem_cons_self
theorem m2_InvalidCount : ("InvalidCount" : Str) ∈ raised := List.mem_cons_self
theorem m2_InvalidArrangement : ("InvalidArrangement" : Str) ∈ raised := List.mem_cons_of_mem _ List.mem_cons_self
theorem m2_InvalidSwap : ("InvalidSwap" : Str) ∈ raised := List.mem_cons_of_mem _ (List.mem_cons_of_mem _ List.mem_cons_self)
theorem m3_InvalidCount : ("InvalidCount" : Str) ∈ ("ShelfError" : Str) :: exNames := memOf (by decide +kernel)
theorem m3_InvalidArrangement : ("InvalidArrangement" : Str) ∈ ("ShelfError" : Str) :: exNames := memOf (by decide +kernel)
theorem m3_InvalidSwap : ("InvalidSwap" : Str) ∈ ("ShelfError" : Str) :: exNames := memOf (by decide +kernel)
theorem places_at {K : PySem.W.Frag} {H : Hp} {es : List V} {sz : List Nat} {m i : Nat} (h : TpAll K H es ((placesL sz m).map plD)) (hi : i < m + sz.sum) : ∃ v, es[i]? = some v ∧ Tp K H v (plD (plAt sz m i)) := by
  refine tpGet h ?_
  rw [List.getElem?_map, some_of_lt (.car 0) (by rw [placesL_len]; exact hi)]
  rfl
section
variable {P : Program} {w : World} {K : PySem.W.Frag} {mg : Str → Option Value} {base : Heap}
/-! ### validate_count -/
def spVCt (mg : Str → Option Value) : Sp := fun vs H Q E => ∃ (c lo hi : Int), vs = [.int c, .int lo, .int hi] ∧ ((lo ≤ c ∧ c ≤ hi ∧ Q .non H) ∨ ((c < lo ∨ hi < c) ∧ E (.ref (cad mg "InvalidCount")) none H))
abbrev N_validate_count : List Str := ["count", "smallest", "largest"]
theorem sc_validate_count : FnScope N_validate_count ["count", "smallest", "largest"] (defScope t_validate_count) := ⟨rfl, rfl, rfl, by decide +kernel, rfl, by decide +kernel, by decide +kernel⟩
theorem ok_validate_count (T : Txt K mg) (EC : Ecs K mg) : Cal P w K mg base (L2.CX P w) 1 "validate_count" ["count", "smallest", "largest"] (spVCt mg) := by
  refine T.d_validate_count.mkX sc_validate_count (fun _ _ _ _ _ _ us hl => match us, hl with | [_, _, _], _ => rfl) (fun vs H Q E h => ?_) (fun f cdv A outer s H vs Q E hr h => ?_)
  · obtain ⟨_, _, _, rfl, _⟩ := h
    rfl
  · obtain ⟨c, lo, hi, rfl, h⟩ := h
    refine ⟨_, ((pss_one (ps_if (pt_not (pt_chain op_le op_le (pv 1) (pv 0) (pv 2)))
    (pss_one (ps_raise rfl (takes_of rfl rfl rfl rfl) (pmk_plain EC m1_InvalidCount m2_InvalidCount m3_InvalidCount (by rfl))))
    pss_nil))), ?_⟩
    refine ⟨_, rfl, _, rfl, _, _, rfl, rfl, _, rfl, ?_⟩
    by_cases h1 : lo ≤ c
    · refine ifT (decide_eq_true h1) ⟨_, rfl, _, _, rfl, rfl, _, rfl, ?_⟩
      by_cases h2 : c ≤ hi
      · refine ifF (by rw [decide_eq_true h2]; rfl) ?_
        rcases h with h | h
        · exact h.2.2
        · omega
      · refine ifT (by rw [decide_eq_false h2]; rfl) ?_
        rcases h with h | h
        · omega
        · exact h.2
    · refine ifF (decide_eq_false h1) ⟨_, rfl, ifT rfl ?_⟩
      rcases h with h | h
      · omega
      · exact h.2
/-! ### needed_swaps -/
def swpL (sz : List Nat) (rt : Rt) (t : Int) (xs gl : List Int) (c : Int) : List (Nat × Nat) := (runS (tgtM (effM eqsR sz rt t c) gl) xs (nn sz rt)).1
def spNeed (K : PySem.W.Frag) (mg : Str → Option Value) (R : Hp → Hp → V → List PyData → Prop) : Sp := fun vs H Q E => ∃ (v u g : V) (sz : List Nat) (rt : Rt) (t : Int) (xs gl : List Int) (c : Int), vs = [v, u, g, .int c] ∧ Tp K H v (planD sz rt) ∧ PlanOk sz rt ∧ Tp K H u (stD sz rt.length t xs) ∧ StOk sz rt t xs ∧
  Tp K H g (intsD gl) ∧ gl.length ≤ 1000 ∧ -1000000000000000000 ≤ t ∧ t ≤ 1000000000000000000 ∧
  ((¬ gl.Perm xs ∧ ∀ H', Same H H' → E (.ref (cad mg "InvalidArrangement")) none H') ∨ (gl.Perm xs ∧ (c < -1000000000000000000 ∨ 1000000000000000000 < c) ∧ ∀ H', Same H H' → E (.ref (cad mg "InvalidCount")) none H') ∨
    (gl.Perm xs ∧ -1000000000000000000 ≤ c ∧ c ≤ 1000000000000000000 ∧ ∀ (H' : Hp) (r : V), Same H H' → R H H' r ((swpL sz rt t xs gl c).map (swD sz rt.length)) → Q r H'))
def isL (K : PySem.W.Frag) : Hp → Hp → V → List PyData → Prop := fun H H' r ds => ∃ (p : Addr) (ys : List V), r = .ref p ∧ H p = none ∧ H' p = some (.lst ys) ∧ TpAll K H' ys ds
def isN : Hp → Hp → V → List PyData → Prop := fun _ _ r ds => r = .int (ds.length : Nat)
abbrev N_needed_swaps : List Str := ["plan", "state", "goal", "count", "contents", "every", "found", "place", "later", "other"]
theorem sc_needed_swaps : FnScope N_needed_swaps ["plan", "state", "goal", "count"] (defScope t_needed_swaps) := ⟨rfl, rfl, rfl, by decide +kernel, rfl, by decide +kernel, by decide +kernel⟩
theorem swL_len {n : Nat} {tg c0 : List Int} : ∀ i, (runS tg c0 i).1.length ≤ i
  | 0 => Nat.le_refl _
  | i + 1 => by
    have ih := swL_len (n := n) (tg := tg) (c0 := c0) i
    rw [runS_succ]
    unfold stepS
    split
    · omega
    · rw [List.length_append, List.length_singleton]
      omega
theorem ok_needed_swaps (T : Txt K mg) (EC : Ecs K mg) : Cal P w K mg base (L2.CX P w) 8 "needed_swaps" ["plan", "state", "goal", "count"] (spNeed K mg (isL K)) := by
  have C_validate_state : Cal P w K mg base CX0 3 _ _ _ := ok_validate_state T
  have C_contents_of : Cal P w K mg base CX0 1 _ _ _ := ok_contents_of T
  have C_validate_count : Cal P w K mg base (L2.CX P w) 1 _ _ _ := ok_validate_count T EC
  have C_all_places : Cal P w K mg base CX0 1 _ _ _ := ok_all_places T
  have C_effect_between : Cal P w K mg base CX0 7 _ _ _ := ok_effect_between T
  refine T.d_needed_swaps.mkX sc_needed_swaps (fun _ _ _ _ _ _ us hl => match us, hl with | [_, _, _, _], _ => rfl) (fun vs H Q E h => ?_) (fun f cdv A outer s H vs Q E hr h => ?_)
  · obtain ⟨_, _, _, _, _, _, _, _, _, rfl, _⟩ := h
    rfl
  · obtain ⟨v, u, g, sz, rt, t, xs, gl, c, rfl, hv, ok, hu, so, hg, gle, t1, t2, k⟩ := h
    refine ⟨_, ((pss_cons (ps_expr (pe_cal C_validate_state (hr.mono (by decide)) rfl pass0 (pa_cons (pv 0) (pa_cons (pv 1) pa_nil))))
    (pss_cons (ps_set (i := 4) sc_needed_swaps.nd rfl (Or.inl rfl) (pe_cal C_contents_of (hr.mono (by decide)) rfl pass0 (pa_cons (pv 1) pa_nil)))
    (pss_cons (ps_if (pt_cmpR (k_neD (K := K) hr.units) (pe_callB (k_sortedT (K := K)) (by rfl) T.f_sorted b_sorted (pa_cons (pv 2) pa_nil)) (pe_callB (k_sorted (K := K)) (by rfl) T.f_sorted b_sorted (pa_cons (pv 4) pa_nil)) (nomark _))
    (pss_one (ps_raise rfl (takes_of rfl rfl rfl rfl) (pmk_plain EC m1_InvalidArrangement m2_InvalidArrangement m3_InvalidArrangement (by rfl))))
    pss_nil)
    (pss_cons (ps_expr (pe_cal C_validate_count (hr.mono (by decide)) rfl (passes_call (takes_of rfl rfl rfl rfl) (fun _ _ _ _ h => h)) (pa_cons (pv 3) (pa_cons (pe_op op_sub pe_int (gInt T.i_MAX_TICKS rfl)) (pa_cons (gInt T.i_MAX_TICKS rfl) pa_nil)))))
    (pss_cons (ps_par (i := 5) (j := 6) (by rfl) sc_needed_swaps.nd rfl rfl (by decide) rfl rfl (pa_cons (pe_cal C_all_places (hr.mono (by decide)) rfl pass0 (pa_cons (pv 0) pa_nil)) (pa_cons (pe_lst pa_nil) pa_nil)) (by rfl))
    (pss_cons (ps_for (passes_of rfl) rfl (ki_enumT (K := K) (by rfl) T.f_enumerate (pa_cons (pe_cal C_effect_between (hr.mono (by decide)) rfl pass0 (pa_cons (pv 0) (pa_cons (pe_ix (k_ixT (K := K)) (pv 1) pe_int (fun _ _ => rfl)) (pa_cons (pv 3) pa_nil)))) pa_nil)) (kg_tup (K := K) rfl (pgs_cons (pg_name (i := 7) sc_needed_swaps.nd rfl (Or.inl rfl)) (pgs_cons (pg_name (i := 8) sc_needed_swaps.nd rfl (Or.inl rfl)) pgs_nil)))
    (pss_one (ps_if (pt_cmpR op_ne (pe_ix (k_ixL (K := K)) (pv 4) (pv 7) (fun _ _ => rfl)) (pe_ix (k_ixT (K := K)) (pv 2) (pv 8) (fun _ _ => rfl)) (nomark _))
      (pss_cons (ps_set (i := 9) sc_needed_swaps.nd rfl (Or.inl rfl) (k_bm (K := K) PySem.F.plainAttrs_list PySem.F.slot_list_index PySem.F.type_list_index (k_index (K := K)) (pv 4) (pa_cons (pe_ix (k_ixT (K := K)) (pv 2) (pv 8) (fun _ _ => rfl)) pa_nil)))
        (pss_cons (ps_asg (pe_tup (pa_cons (pe_ix (k_ixL (K := K)) (pv 4) (pv 9) (fun _ _ => rfl)) (pa_cons (pe_ix (k_ixL (K := K)) (pv 4) (pv 7) (fun _ _ => rfl)) pa_nil))) (kg_tup (K := K) rfl (pgs_cons (pg_sub (pv 4) (pv 7) set_list) (pgs_cons (pg_sub (pv 4) (pv 9) set_list) pgs_nil))))
        (pss_one (ps_expr (k_append (K := K) (pv 6) (pa_cons (pe_tup (pa_cons (pe_ix (k_ixL (K := K)) (pv 5) (pv 7) (fun _ _ => rfl)) (pa_cons (pe_ix (k_ixL (K := K)) (pv 5) (pv 9) (fun _ _ => rfl)) pa_nil))) pa_nil))))))
      pss_nil)))
    (pss_one (ps_ret (pv 6)))))))))), ?_⟩
    have nle : rt.length + sz.sum ≤ 114 := ok.n_le
    have hx : xs.length = rt.length + sz.sum := so.len
    obtain ⟨ga, gs, rfl, hga, hgs⟩ := tpTup hg
    rw [tpInts hgs] at hga
    obtain ⟨b, cc, ss, sss, SA⟩ := stInv hu
    obtain rfl := SA.ev
    refine ⟨_, rfl, _, rfl, v, _, sz, rt, t, xs, rfl, hv, ok, hu, so, fun H1 S1 => ?_⟩
    refine ⟨_, rfl, _, sz, rt, t, xs, rfl, tpKeep (sTm S1) hu, ok, so.len, fun H2 p S2 hp hl2 => ?_⟩
    have S02 := S1.trans S2
    have np : H p = none := S1.free hp
    refine ⟨_, rfl, ga, gl, rfl, sqTm (sTm S02) hga, fun g1 q1 pm1 so1 hq1 => ?_⟩
    have S3 := sNew S02 hq1 (.lst (g1.map V.int))
    have hl3 := upd_keep (u := .lst (g1.map V.int)) hl2 hq1
    refine ⟨_, rfl, p, xs, rfl, SqL.of hl3, fun g2 q2 pm2 so2 hq2 => ?_⟩
    have S4 := sNew S3 hq2 (.lst (g2.map V.int))
    have hl4 := upd_keep (u := .lst (g2.map V.int)) hl3 hq2
    have hq4 := upd_keep (u := .lst (g2.map V.int)) (show upd H2 q1 (.lst (g1.map V.int)) q1 = _ from upd_same) hq2
    have sh1 := shaped_of (shLstInts 0 g1) (by decide)
    have sh2 := shaped_of (shLstInts 0 g2) (by decide)
    refine ⟨.list (g1.map .int), .list (g2.map .int), .lst (SqL.of hq4) (dpInts _), .lst (SqL.of upd_same) (dpInts _), sh1, sh2, _, rfl, ?_⟩
    have iff := sorted_iff pm1 pm2 so1 so2
    rw [eqvLstInts]
    by_cases pm : gl.Perm xs
    · refine ifF (by rw [decide_eq_true (iff.mpr pm)]; rfl) ?_
      refine ⟨_, rfl, _, _, rfl, rfl, c, _, _, rfl, ?_⟩
      rcases k with k | k | k
      · exact absurd pm k.1
      · exact .inr ⟨by omega, k.2.2 _ S4⟩
      · obtain ⟨_, c1, c2, k⟩ := k
        refine .inl ⟨by omega, c2, ?_⟩
        -- every, found
        refine ⟨_, rfl, v, sz, rt, rfl, tpKeep (sTm S4) hv, ok, fun H5 e es S5 he hel hes => ?_⟩
        have S05 := S4.trans S5
        refine ⟨Nat.zero_le _, fun F hF => ?_⟩
        have S6 := sNew S05 hF (.lst [])
        have hl6 := upd_keep (u := .lst []) (S5 _ _ hl4) hF
        have hel6 := upd_keep (u := .lst []) hel hF
        have hes6 := tpKeepAll (tmNew hF (.lst [])) hes
        have SA6 := SA.keep (sTm S6)
        have nF : H F = none := S05.free hF
        refine ⟨_, _, rfl, _, rfl, _, rfl, b, _, _, _, rfl, rfl, SA6.top, rfl, _, rfl, v, sz, rt, t, c, rfl, tpKeep (sTm S6) hv, ok, t1, t2, c1, c2, fun H7 a S7 ha hal => ?_⟩
        have S07 := S6.trans S7
        have hl7 := S7 _ _ hl6
        have hel7 := S7 _ _ hel6
        have hF7 := S7 _ _ (show upd H5 F (.lst []) F = _ from upd_same)
        have hes7 := tpKeepAll (sTm S7) hes6
        have pe := effM_perm eqsR ok t c
        have el := perm_range_len pe
        have M := mate_tgt pe so.len so.nd pm
        have eml : ((effM eqsR sz rt t c).map nv).length = nn sz rt := by rw [List.length_map, el]
        have Fp : F ≠ p := fun z => by
          have := S5 _ _ hl4
          rw [← z, hF] at this
          cases this
        have Fe : F ≠ e := fun z => by rw [z, hel] at hF; cases hF
        have pe_ : p ≠ e := fun z => by
          rw [← z, hl4] at he
          cases he
        refine ⟨a, _, rfl, SqT.of hal, for_pairs (K := K) walkT (fun i σ H' => ∃ u7 u8 u9 : Option V, σ = [some v, some (.ref b), some (.ref ga), some (.int c), some (.ref p), some (.ref e), some (.ref F), u7, u8, u9] ∧ Same H H' ∧ Tm H7 H' ∧ H' e = some (.lst es) ∧ H' p = some (.lst ((runS (tgtM (effM eqsR sz rt t c) gl) xs i).2.map V.int)) ∧
            ∃ fs, H' F = some (.lst fs) ∧ TpAll K H' fs ((runS (tgtM (effM eqsR sz rt t c) gl) xs i).1.map (swD sz rt.length))) ⟨_, _, _, rfl, S07, Tm.refl _, hel7, hl7, [], hF7, .nil⟩
          (fun i σ H' _ hp' => sqTm hp'.choose_spec.choose_spec.choose_spec.2.2.1 (SqT.of hal)) ?_ ?_⟩
        · rintro i x σ H' T' hi hx2 ⟨u7, u8, u9, rfl, s5, tm5, he5, hl5, fs, hf5, hfs⟩ hT'
          obtain ⟨li, rfl⟩ := nv_get hx2
          rw [el] at li
          have li' : i < rt.length + sz.sum := li
          have I := sinv_all M i (Nat.le_of_lt li)
          generalize hcur : (runS (tgtM (effM eqsR sz rt t c) gl) xs i).2 = cur at *
          generalize hS : (runS (tgtM (effM eqsR sz rt t c) gl) xs i).1 = S at *
          have lc := I.mate.lc
          have ltg := I.mate.lt
          have lei : (effM eqsR sz rt t c).getD i 0 < nn sz rt := perm_range_lt pe (getD_mem 0 (by rw [el]; exact li))
          have s6 := sNew s5 hT' (.tup [.int (i : Nat), nv ((effM eqsR sz rt t c).getD i 0)])
          have tm6 := tm5.trans (tmNew hT' (.tup [.int (i : Nat), nv ((effM eqsR sz rt t c).getD i 0)]))
          have hl6' := upd_keep (u := .tup [.int (i : Nat), nv ((effM eqsR sz rt t c).getD i 0)]) hl5 hT'
          have he6' := upd_keep (u := .tup [.int (i : Nat), nv ((effM eqsR sz rt t c).getD i 0)]) he5 hT'
          have hf6' := upd_keep (u := .tup [.int (i : Nat), nv ((effM eqsR sz rt t c).getD i 0)]) hf5 hT'
          have hfs6 := tpKeepAll (tmNew hT' (.tup [.int (i : Nat), nv ((effM eqsR sz rt t c).getD i 0)])) hfs
          have hga6 := sqTm (sTm s6) hga
          have gll : gl.length = nn sz rt := by rw [pm.length_eq, so.len]
          have at1 : (cur.map V.int)[i]? = some (.int (cur.getD i 0)) := by rw [List.getElem?_map, some_of_lt 0 (by rw [lc]; exact li)]; rfl
          have at2 : (gl.map V.int)[(effM eqsR sz rt t c).getD i 0]? = some (.int (gl.getD ((effM eqsR sz rt t c).getD i 0) 0)) := by rw [List.getElem?_map, some_of_lt 0 (by rw [gll]; exact lei)]; rfl
          have etg := tgtM_at (goal := gl) el li
          rw [← etg] at at2
          generalize htg : tgtM (effM eqsR sz rt t c) gl = tg at *
          refine ⟨_, rfl, _, rfl, p, _, _, _, rfl, rfl, SqL.of hl6', atI_nat at1, _, rfl, _, rfl, ga, _, _, _, rfl, rfl, hga6, atI_nat at2, rfl, _, rfl, ?_⟩
          have succ := runS_succ tg xs i
          unfold stepS at succ
          rw [hcur, hS] at succ
          by_cases ceq : cur.getD i 0 = tg.getD i 0
          · rw [if_pos ceq] at succ
            refine ifF (by rw [ceq, decide_eq_true rfl]; rfl) ⟨_, _, _, rfl, s6, tm6, he6', ?_, fs, hf6', ?_⟩
            · rw [succ, hcur]; exact hl6'
            · rw [succ, hS]; exact hfs6
          · rw [if_neg ceq] at succ
            have mem := I.mate.mem li
            have lo := List.idxOf_lt_length_of_mem mem
            have hne : tau (nn sz rt) tg cur i ≠ i := fun z => ceq ((I.mate.tau_fix li).mp z)
            generalize ho : cur.idxOf (tg.getD i 0) = o at *
            have ato : (cur.map V.int)[o]? = some (.int (tg.getD i 0)) := by
              rw [List.getElem?_map, List.getElem?_eq_getElem lo]
              subst ho
              rw [List.getElem_idxOf lo]
              rfl
            have ato' : cur.getD o 0 = tg.getD i 0 := by
              rw [List.getElem?_map, some_of_lt 0 lo] at ato
              have := Option.some.inj ato
              injection this
            have flat : (cur.map V.int).all flatV = true := by
              rw [List.all_eq_true]
              intro z hz
              obtain ⟨y, _, rfl⟩ := List.mem_map.mp hz
              rfl
            refine ifT (by rw [decide_eq_false (fun z => ceq (by injection z))]; rfl) ?_
            refine ⟨_, rfl, .inl ⟨rfl, _, SqL.of hl6'⟩, _, rfl, _, rfl, ga, _, _, _, rfl, rfl, hga6, atI_nat at2, p, _, _, o, _, rfl, rfl, SqL.of hl6', rfl, flat, ato, by simp [eqV], fun m z' hm hz => ?_, ?_⟩
            · rw [List.getElem?_map] at hz
              cases e0 : cur[m]? with
              | none => rw [e0] at hz; cases hz
              | some z0 =>
                rw [e0] at hz
                cases hz
                have := idx_before (by rw [ho]; exact hm) e0
                show (z0 == tg.getD i 0) = false
                exact beq_eq_false_iff_ne.mpr this
            · -- the swap
              refine ⟨_, rfl, _, rfl, p, _, _, _, rfl, rfl, SqL.of hl6', atI_nat ato, _, rfl, _, rfl, p, _, _, _, rfl, rfl, SqL.of hl6', atI_nat at1, leLine (show 2 ≤ 100000 by decide), fun T2 hT2 => ?_⟩
              have s7 := sNew s6 hT2 (.tup [.int (tg.getD i 0), .int (cur.getD i 0)])
              have hl7' := upd_keep (u := .tup [.int (tg.getD i 0), .int (cur.getD i 0)]) hl6' hT2
              have he7' := upd_keep (u := .tup [.int (tg.getD i 0), .int (cur.getD i 0)]) he6' hT2
              have hf7' := upd_keep (u := .tup [.int (tg.getD i 0), .int (cur.getD i 0)]) hf6' hT2
              refine ⟨T2, _, rfl, SqT.of upd_same, rfl, _, _, rfl, ⟨_, rfl, _, rfl, p, _, _, i, rfl, rfl, hl7', ixNat (by rw [List.length_map, lc]; exact li), _, _, rfl, ⟨_, rfl, _, rfl, p, _, _, o, rfl, rfl, upd_same, ixNat (by rw [List.length_set, List.length_map]; exact lo), rfl, ?_⟩⟩⟩
              have upd2 : ∀ (Hh : Hp) (o1 o2 : HO), upd (upd Hh p o1) p o2 = upd Hh p o2 := fun Hh o1 o2 => by
                funext z
                by_cases hz : z = p
                · rw [hz, upd_same, upd_same]
                · rw [upd_ne hz, upd_ne hz, upd_ne hz]
              rw [upd2]
              have esw : ((cur.map V.int).set i (.int (tg.getD i 0))).set o (.int (cur.getD i 0)) = (swapAt cur i o).map V.int := by
                unfold swapAt
                rw [ato', List.map_set, List.map_set]
              rw [esw]
              have hl8 : upd (upd (upd H' T' (.tup [.int (i : Nat), nv ((effM eqsR sz rt t c).getD i 0)])) T2 (.tup [V.int (tg.getD i 0), V.int (cur.getD i 0)])) p (.lst ((swapAt cur i o).map V.int)) p = some (.lst ((swapAt cur i o).map V.int)) := upd_same
              have he8 := (upd_ne (H := upd (upd H' T' (.tup [.int (i : Nat), nv ((effM eqsR sz rt t c).getD i 0)])) T2 (.tup [.int (tg.getD i 0), .int (cur.getD i 0)])) (o := .lst ((swapAt cur i o).map V.int)) (Ne.symm pe_)).trans he7'
              have hf8 := (upd_ne (H := upd (upd H' T' (.tup [.int (i : Nat), nv ((effM eqsR sz rt t c).getD i 0)])) T2 (.tup [.int (tg.getD i 0), .int (cur.getD i 0)])) (o := .lst ((swapAt cur i o).map V.int)) Fp).trans hf7'
              have t8 := (tmNew hT2 (.tup [.int (tg.getD i 0), .int (cur.getD i 0)])).trans (tmLst hl7' (.lst ((swapAt cur i o).map V.int)))
              have tm8 := tm6.trans t8
              have s8 := sWr s7 np (.lst ((swapAt cur i o).map V.int))
              have lo' : o < rt.length + sz.sum := by rw [lc] at lo; exact lo
              have hes8 := tpKeepAll tm8 hes7
              obtain ⟨vi, evi, hvi⟩ := places_at hes8 li'
              obtain ⟨vo, evo, hvo⟩ := places_at hes8 lo'
              have lfs := tpLen hfs
              rw [List.length_map] at lfs
              have lS : S.length ≤ i := by rw [← hS]; exact swL_len (n := 0) i
              refine ⟨_, rfl, .inl ⟨rfl, _, SqL.of hf8⟩, _, rfl, _, rfl, e, _, _, _, rfl, rfl, SqL.of he8, atI_nat evi, _, rfl, _, rfl, e, _, _, _, rfl, rfl, SqL.of he8, atI_nat evo, leLine (show 2 ≤ 100000 by decide), fun T3 hT3 => ?_⟩
              have s9 := sNew s8 hT3 (.tup [vi, vo])
              have hf9 := upd_keep (u := .tup [vi, vo]) hf8 hT3
              have he9 := upd_keep (u := .tup [vi, vo]) he8 hT3
              have hl9 := upd_keep (u := .tup [vi, vo]) hl8 hT3
              have T3F : T3 ≠ F := fun z => by rw [z, hf8] at hT3; cases hT3
              have t9 := (tmNew hT3 (.tup [vi, vo])).trans (tmLst hf9 (.lst (fs ++ [.ref T3])))
              refine ⟨F, fs, _, rfl, rfl, hf9, ltLine (by omega), some (.int (i : Nat)), some (nv ((effM eqsR sz rt t c).getD i 0)), some (.int (o : Nat)), rfl, sWr s9 nF _, tm8.trans t9, ?_, ?_, _, upd_same, ?_⟩
              · rw [upd_ne (Ne.symm Fe)]; exact he9
              · rw [upd_ne (Ne.symm Fp), succ]; exact hl9
              · rw [succ, List.map_append]
                refine tpApp (tpKeepAll (t8.trans t9) hfs6) (.cons (.tup (xs := [vi, vo]) (SqT.of ?_) (.cons (tpKeep t9 hvi) (.cons (tpKeep t9 hvo) .nil))) .nil)
                rw [upd_ne T3F, upd_same]
        · rintro σ H' ⟨u7, u8, u9, rfl, s5, tm5, he5, hl5, fs, hf5, hfs⟩
          rw [eml] at hfs
          exact ⟨_, rfl, k H' _ s5 ⟨F, fs, rfl, nF, hf5, hfs⟩⟩
    · refine ifT (by rw [decide_eq_false (fun z => pm (iff.mp z))]; rfl) ?_
      rcases k with k | k | k
      · exact k.2 _ S4
      · exact absurd k.1 pm
      · exact absurd k.1 pm
abbrev N_plan_swaps : List Str := ["plan", "state", "goal", "count"]
theorem sc_plan_swaps : FnScope N_plan_swaps ["plan", "state", "goal", "count"] (defScope t_plan_swaps) := ⟨rfl, rfl, rfl, by decide +kernel, rfl, by decide +kernel, by decide +kernel⟩
theorem ok_plan_swaps (T : Txt K mg) (EC : Ecs K mg) : Cal P w K mg base (L2.CX P w) 9 "plan_swaps" ["plan", "state", "goal", "count"] (spNeed K mg (isL K)) := by
  have C_needed_swaps : Cal P w K mg base (L2.CX P w) 8 _ _ _ := ok_needed_swaps T EC
  refine T.d_plan_swaps.mkX sc_plan_swaps (fun _ _ _ _ _ _ us hl => match us, hl with | [_, _, _, _], _ => rfl) (fun vs H Q E h => ?_) (fun f cdv A outer s H vs Q E hr h => ?_)
  · obtain ⟨_, _, _, _, _, _, _, _, _, rfl, _⟩ := h
    rfl
  · obtain ⟨v, u, g, sz, rt, t, xs, gl, c, rfl, h⟩ := h
    refine ⟨_, ((pss_one (ps_ret (pe_cal C_needed_swaps (hr.mono (by decide)) rfl (passes_call (takes_of rfl rfl rfl rfl) (fun _ _ _ _ h => h)) (pa_cons (pv 0) (pa_cons (pv 1) (pa_cons (pv 2) (pa_cons (pv 3) pa_nil)))))))), ?_⟩
    exact ⟨_, rfl, _, rfl, _, rfl, _, rfl, v, u, g, sz, rt, t, xs, gl, c, rfl, h⟩
abbrev N_fewest_swaps : List Str := ["plan", "state", "goal", "count"]
theorem sc_fewest_swaps : FnScope N_fewest_swaps ["plan", "state", "goal", "count"] (defScope t_fewest_swaps) := ⟨rfl, rfl, rfl, by decide +kernel, rfl, by decide +kernel, by decide +kernel⟩
theorem ok_fewest_swaps (T : Txt K mg) (EC : Ecs K mg) : Cal P w K mg base (L2.CX P w) 9 "fewest_swaps" ["plan", "state", "goal", "count"] (spNeed K mg isN) := by
  have C_needed_swaps : Cal P w K mg base (L2.CX P w) 8 _ _ _ := ok_needed_swaps T EC
  refine T.d_fewest_swaps.mkX sc_fewest_swaps (fun _ _ _ _ _ _ us hl => match us, hl with | [_, _, _, _], _ => rfl) (fun vs H Q E h => ?_) (fun f cdv A outer s H vs Q E hr h => ?_)
  · obtain ⟨_, _, _, _, _, _, _, _, _, rfl, _⟩ := h
    rfl
  · obtain ⟨v, u, g, sz, rt, t, xs, gl, c, rfl, hv, ok, hu, so, hg, gle, t1, t2, k⟩ := h
    refine ⟨_, ((pss_one (ps_ret (pe_callB (k_len (K := K)) (by rfl) T.f_len b_len (pa_cons (pe_cal C_needed_swaps (hr.mono (by decide)) rfl (passes_call (takes_of rfl rfl rfl rfl) (fun _ _ _ _ h => h)) (pa_cons (pv 0) (pa_cons (pv 1) (pa_cons (pv 2) (pa_cons (pv 3) pa_nil))))) pa_nil))))), ?_⟩
    refine ⟨_, rfl, _, rfl, _, rfl, _, rfl, v, u, g, sz, rt, t, xs, gl, c, rfl, hv, ok, hu, so, hg, gle, t1, t2, ?_⟩
    rcases k with k | k | k
    · exact .inl k
    · exact .inr (.inl k)
    · obtain ⟨pm, c1, c2, k⟩ := k
      refine .inr (.inr ⟨pm, c1, c2, fun H' r S h => ?_⟩)
      obtain ⟨p, ys, rfl, _, hl, hys⟩ := h
      refine ⟨p, ys, rfl, .inl (SqL.of hl), k H' _ S ?_⟩
      show V.int (ys.length : Nat) = _
      rw [tpLen hys]
/-! ### advance -/
def spAdv (K : PySem.W.Frag) : Sp := fun vs H Q _ => ∃ (v u : V) (sz : List Nat) (rt : Rt) (t c : Int) (xs : List Int), vs = [v, u, .int c] ∧ Tp K H v (planD sz rt) ∧ PlanOk sz rt ∧ Tp K H u (stD sz rt.length t xs) ∧ StOk sz rt t xs ∧ -1000000000000000000 ≤ t ∧ t ≤ 1000000000000000000 ∧ -1000000000000000000 ≤ c ∧ c ≤ 1000000000000000000 ∧
  ∀ (H' : Hp) (r : V), Same H H' → Tp K H' r (stD sz rt.length (t + c) (movM (effM eqsR sz rt t c) xs)) → Q r H'
abbrev N_advance : List Str := ["plan", "state", "count"]
theorem sc_advance : FnScope N_advance ["plan", "state", "count"] (defScope t_advance) := ⟨rfl, rfl, rfl, by decide +kernel, rfl, by decide +kernel, by decide +kernel⟩
theorem ok_advance (T : Txt K mg) (EC : Ecs K mg) : Cal P w K mg base CX0 8 "advance" ["plan", "state", "count"] (spAdv K) := by
  have C_validate_state : Cal P w K mg base CX0 3 _ _ _ := ok_validate_state T
  have C_validate_count : Cal P w K mg base (L2.CX P w) 1 _ _ _ := ok_validate_count T EC
  have C_effect_between : Cal P w K mg base CX0 7 _ _ _ := ok_effect_between T
  have C_moved : Cal P w K mg base CX0 2 _ _ _ := ok_moved T
  refine T.d_advance.mk0 sc_advance (fun _ _ _ _ _ _ us hl => match us, hl with | [_, _, _], _ => rfl) (fun vs H Q E h => ?_) (fun f cdv A outer s H vs Q E hr h => ?_)
  · obtain ⟨_, _, _, _, _, _, _, rfl, _⟩ := h
    rfl
  · obtain ⟨v, u, sz, rt, t, c, xs, rfl, hv, ok, hu, so, t1, t2, c1, c2, k⟩ := h
    obtain ⟨b, cc, ss, sss, SA⟩ := stInv hu
    obtain rfl := SA.ev
    refine ⟨_, ((pss_cons (ps_expr (pe_cal C_validate_state (hr.mono (by decide)) rfl pass0 (pa_cons (pv 0) (pa_cons (pv 1) pa_nil))))
    (pss_cons (ps_expr (pe_cal C_validate_count (hr.mono (by decide)) rfl passLL (pa_cons (pv 2) (pa_cons (pe_op op_sub pe_int (gInt T.i_MAX_TICKS rfl)) (pa_cons (gInt T.i_MAX_TICKS rfl) pa_nil)))))
    (pss_one (ps_ret (pe_cal C_moved (hr.mono (by decide)) rfl pass0 (pa_cons (pv 0) (pa_cons (pv 1) (pa_cons (pe_op op_add (pe_ix (k_ixT (K := K)) (pv 1) pe_int (fun _ _ => rfl)) (pv 2)) (pa_cons (pe_cal C_effect_between (hr.mono (by decide)) rfl pass0 (pa_cons (pv 0) (pa_cons (pe_ix (k_ixT (K := K)) (pv 1) pe_int (fun _ _ => rfl)) (pa_cons (pv 2) pa_nil)))) pa_nil)))))))))), ?_⟩
    refine ⟨_, rfl, _, rfl, v, _, sz, rt, t, xs, rfl, hv, ok, hu, so, fun H1 S1 => ?_⟩
    refine ⟨_, rfl, _, _, rfl, rfl, c, _, _, rfl, .inl ⟨by omega, c2, ?_⟩⟩
    have SA1 := SA.keep (sTm S1)
    refine ⟨_, rfl, _, rfl, _, rfl, b, _, _, _, rfl, rfl, SA1.top, rfl, _, rfl, _, _, rfl, rfl, _, rfl, _, rfl, b, _, _, _, rfl, rfl, SA1.top, rfl, _, rfl, v, sz, rt, t, c, rfl, tpKeep (sTm S1) hv, ok, t1, t2, c1, c2, fun H2 a S2 ha hal => ?_⟩
    have S02 := S1.trans S2
    exact ⟨v, _, a, sz, rt, t, t + c, xs, _, rfl, tpKeep (sTm S02) hv, ok, tpKeep (sTm S02) hu, so.len, SqT.of hal, effM_perm eqsR ok t c, fun H3 r S3 hr3 => k H3 r (S02.trans S3) hr3⟩
end
end K14
/-! ## K14Z -/
namespace K14
open PySem PySem.Spec PyProof.Rows L2
theorem k_isi {X : Cx} {K : PySem.W.Frag} (hK : X.K = K := by rfl) : CallR X (.builtin "isinstance") (rIsi K) := by subst hK; exact call_isi
theorem tyTup {K : PySem.W.Frag} {H : Hp} {a : Addr} {xs : List V} (h : SqT K H a xs) : TyX K H (.ref a) (.type "tuple") := by
  rcases h with (h | ⟨o, h⟩) | ⟨o, its, n, h, c, _⟩
  · exact .base (.tup h)
  · exact .fTuple h
  · exact .kTuple h c
theorem anyPl (L : List Pl) (p : Pl) : ((L.map plD).any fun z => PyData.eqv z (plD p)) = decide (p ∈ L) := by
  rw [List.any_map]
  by_cases h : p ∈ L
  · rw [decide_eq_true h, List.any_eq_true]
    exact ⟨p, h, by show PyData.eqv (plD p) (plD p) = true; rw [plEqv]; simp⟩
  · rw [decide_eq_false h, List.any_eq_false]
    intro q hq
    show ¬ PyData.eqv (plD q) (plD p) = true
    rw [plEqv]
    simp only [decide_eq_true_eq]
    intro e
    exact h (e ▸ hq)
theorem shPls (L : List Pl) : ∀ d ∈ L.map plD, Sh 1 d := fun d hd => by
  obtain ⟨p, _, rfl⟩ := List.mem_map.mp hd
  exact plSh p
def GoodS (K : PySem.W.Frag) (H : Hp) (sz : List Nat) (m : Nat) (x : V) : Prop := ∃ p q, Tp K H x (.tuple [plD p, plD q]) ∧ p ∈ placesL sz m ∧ q ∈ placesL sz m ∧ p ≠ q
def BadS (K : PySem.W.Frag) (H : Hp) (sz : List Nat) (m : Nat) (x : V) : Prop :=
  (∃ p q, Tp K H x (.tuple [plD p, plD q]) ∧ ¬ (p ∈ placesL sz m ∧ q ∈ placesL sz m ∧ p ≠ q)) ∨ (∃ p, Tp K H x (.tuple [plD p])) ∨ x = .non ∨ ∃ l zs, x = .ref l ∧ H l = some (.lst zs)
theorem GoodS.keep {K : PySem.W.Frag} {H H' : Hp} {sz : List Nat} {m : Nat} {x : V} (h : GoodS K H sz m x) (s : Tm H H') : GoodS K H' sz m x := by
  obtain ⟨p, q, h, r⟩ := h
  exact ⟨p, q, tpKeep s h, r⟩
theorem BadS.keep {K : PySem.W.Frag} {H H' : Hp} {sz : List Nat} {m : Nat} {x : V} (h : BadS K H sz m x) (s : Same H H') : BadS K H' sz m x := by
  rcases h with ⟨p, q, h, r⟩ | ⟨p, h⟩ | h | ⟨l, zs, e, h⟩
  · exact .inl ⟨p, q, tpKeep (sTm s) h, r⟩
  · exact .inr (.inl ⟨p, tpKeep (sTm s) h⟩)
  · exact .inr (.inr (.inl h))
  · exact .inr (.inr (.inr ⟨l, zs, e, s _ _ h⟩))
def foldSw (xs : List Int) (qs : List (Nat × Nat)) : List Int := qs.foldl (fun xs q => swapAt xs q.1 q.2) xs
theorem foldSw_length : ∀ (qs : List (Nat × Nat)) (xs : List Int), (foldSw xs qs).length = xs.length
  | [], _ => rfl
  | q :: qs, xs => by
    show (foldSw (swapAt xs q.1 q.2) qs).length = xs.length
    rw [foldSw_length qs, swapAt_length]
theorem plAt_mem {sz : List Nat} {m i : Nat} (h : i < m + sz.sum) : plAt sz m i ∈ placesL sz m := getD_mem _ (by rw [placesL_len]; exact h)
theorem plAt_inj {sz : List Nat} {m i j : Nat} (hi : i < m + sz.sum) (hj : j < m + sz.sum) (e : plAt sz m i = plAt sz m j) : i = j :=
  getD_inj (placesL_nodup sz m) (by rw [placesL_len]; exact hi) (by rw [placesL_len]; exact hj) e
section
variable {P : Program} {w : World} {K : PySem.W.Frag} {mg : Str → Option Value} {base : Heap}
/-! ### is_swap -/
def spIsSw (K : PySem.W.Frag) : Sp := fun vs H Q _ => ∃ (e : Addr) (x : V) (es : List V) (sz : List Nat) (m : Nat), vs = [.ref e, x] ∧ SqL K H e es ∧ TpAll K H es ((placesL sz m).map plD) ∧ ((GoodS K H sz m x ∧ Q (.bl true) H) ∨ (BadS K H sz m x ∧ Q (.bl false) H))
abbrev N_is_swap : List Str := ["every", "swap"]
theorem sc_is_swap : FnScope N_is_swap ["every", "swap"] (defScope t_is_swap) := ⟨rfl, rfl, rfl, by decide +kernel, rfl, by decide +kernel, by decide +kernel⟩
theorem ok_is_swap (T : Txt K mg) : Cal P w K mg base CX0 1 "is_swap" ["every", "swap"] (spIsSw K) := by
  refine T.d_is_swap.mk0 sc_is_swap (fun _ _ _ _ _ _ us hl => match us, hl with | [_, _], _ => rfl) (fun vs H Q E h => ?_) (fun f cdv A outer s H vs Q E hr h => ?_)
  · obtain ⟨_, _, _, _, _, rfl, _⟩ := h
    rfl
  · obtain ⟨e, x, es, sz, m, rfl, he, hes, k⟩ := h
    refine ⟨_, ((pss_one (ps_ret (pe_and (pe_callB (k_isi (K := K)) (by rfl) T.f_isinstance b_isinstance (pa_cons (pv 1) (pa_cons (pe_bltn (v := .ty "tuple") (by rfl) T.f_tuple b_tuple rfl) pa_nil))) (pe_and (pe_cmpR op_eq (pe_callB (k_len (K := K)) (by rfl) T.f_len b_len (pa_cons (pv 1) pa_nil)) pe_int (nomark _)) (pe_and (pe_cmpR (k_inD (K := K) (hu65 hr)) (pe_ix (k_ixT (K := K)) (pv 1) pe_int (fun _ _ => rfl)) (pv 0) (by rfl)) (pe_and (pe_cmpR (k_inD (K := K) (hu65 hr)) (pe_ix (k_ixT (K := K)) (pv 1) pe_int (fun _ _ => rfl)) (pv 0) (by rfl)) (pe_one (pe_cmpR (k_neD (K := K) hr.units) (pe_ix (k_ixT (K := K)) (pv 1) pe_int (fun _ _ => rfl)) (pe_ix (k_ixT (K := K)) (pv 1) pe_int (fun _ _ => rfl)) (nomark _)))))))))), ?_⟩
    have dl : Dp K H (.ref e) (.list ((placesL sz m).map plD)) := .lst he (tpDpAll hes)
    have sl : SeqAt.shaped (.list ((placesL sz m).map plD)) = true := shaped_of (shLst (shPls _)) (by decide)
    have sp : ∀ p : Pl, SeqAt.shaped (plD p) = true := fun p => shaped_of (plSh p) (by decide)
    have two : ∀ p q, Tp K H x (.tuple [plD p, plD q]) → Q (.bl (decide (p ∈ placesL sz m ∧ q ∈ placesL sz m ∧ p ≠ q))) H → ∃ a vp vq, x = .ref a ∧ SqT K H a [vp, vq] ∧ Tp K H vp (plD p) ∧ Tp K H vq (plD q) := fun p q hx _ => by
      obtain ⟨a, xs, rfl, ha, hall⟩ := tpTup hx
      cases hall with
      | cons h1 h2 =>
        cases h2 with
        | cons h2 h3 =>
          cases h3
          exact ⟨a, _, _, rfl, ha, h1, h2⟩
    have k2 : (∃ p q, Tp K H x (.tuple [plD p, plD q]) ∧ Q (.bl (decide (p ∈ placesL sz m ∧ q ∈ placesL sz m ∧ p ≠ q))) H) ∨ (((∃ p, Tp K H x (.tuple [plD p])) ∨ x = .non ∨ ∃ l zs, x = .ref l ∧ H l = some (.lst zs)) ∧ Q (.bl false) H) := by
      rcases k with ⟨⟨p, q, hx, g⟩, hQ⟩ | ⟨⟨p, q, hx, g⟩ | h, hQ⟩
      · exact .inl ⟨p, q, hx, by rw [decide_eq_true g]; exact hQ⟩
      · exact .inl ⟨p, q, hx, by rw [decide_eq_false g]; exact hQ⟩
      · exact .inr ⟨h, hQ⟩
    rcases k2 with ⟨p, q, hx, hQ⟩ | ⟨⟨p, hx⟩ | rfl | ⟨l, zs, rfl, hl⟩, hQ⟩
    · obtain ⟨a, vp, vq, rfl, ha, hp, hq⟩ := two p q hx hQ
      refine ⟨_, rfl, .ref a, .ty "tuple", .type "tuple", .type "tuple", true, rfl, .ty _, tyTup ha, kit_ty (by decide +kernel), _, rfl, ifT rfl ⟨_, rfl, a, _, rfl, .inr ha, rfl, _, rfl, ifT (by simp)
        ⟨_, rfl, a, _, _, _, rfl, rfl, ha, rfl, _, rfl, plD p, _, tpDp hp, dl, sp p, sl, _, rfl, ?_⟩⟩⟩
      rw [anyPl]
      by_cases h1 : p ∈ placesL sz m
      · refine ifT (decide_eq_true h1) ⟨_, rfl, a, _, _, _, rfl, rfl, ha, rfl, _, rfl, plD q, _, tpDp hq, dl, sp q, sl, _, rfl, ?_⟩
        rw [anyPl]
        by_cases h2 : q ∈ placesL sz m
        · refine ifT (decide_eq_true h2) ⟨_, rfl, a, _, _, _, rfl, rfl, ha, rfl, _, rfl, a, _, _, _, rfl, rfl, ha, rfl, plD p, plD q, tpDp hp, tpDp hq, sp p, sp q, ?_⟩
          rw [plEqv]
          have ee : (!decide (p = q)) = decide (p ∈ placesL sz m ∧ q ∈ placesL sz m ∧ p ≠ q) := by
            by_cases h3 : p = q
            · rw [decide_eq_true h3, decide_eq_false (fun z => z.2.2 h3)]; rfl
            · rw [decide_eq_false h3, decide_eq_true ⟨h1, h2, h3⟩]; rfl
          rw [ee]
          exact hQ
        · refine ifF (decide_eq_false h2) ?_
          rw [decide_eq_false (fun z => h2 z.2.1)] at hQ
          exact hQ
      · refine ifF (decide_eq_false h1) ?_
        rw [decide_eq_false (fun z => h1 z.1)] at hQ
        exact hQ
    · obtain ⟨a, xs, rfl, ha, hall⟩ := tpTup hx
      cases hall with
      | cons h1 h2 =>
        cases h2
        exact ⟨_, rfl, .ref a, .ty "tuple", .type "tuple", .type "tuple", true, rfl, .ty _, tyTup ha, kit_ty (by decide +kernel), _, rfl, ifT rfl ⟨_, rfl, a, _, rfl, .inr ha, rfl, _, rfl, ifF (by simp) hQ⟩⟩
    · exact ⟨_, rfl, .non, .ty "tuple", .type "NoneType", .type "tuple", false, rfl, .ty _, .base .non, kit_ty (by decide +kernel), _, rfl, ifF rfl hQ⟩
    · exact ⟨_, rfl, .ref l, .ty "tuple", .type "list", .type "tuple", false, rfl, .ty _, .base (.lst hl), kit_ty (by decide +kernel), _, rfl, ifF rfl hQ⟩
/-! ### swap_all -/
def okSw (n : Nat) (q : Nat × Nat) : Prop := q.1 < n ∧ q.2 < n ∧ q.1 ≠ q.2
def spSwA (K : PySem.W.Frag) (mg : Str → Option Value) : Sp := fun vs H Q E => ∃ (v u : V) (s : Addr) (sz : List Nat) (rt : Rt) (t : Int) (xs : List Int) (ys : List V), vs = [v, u, .ref s] ∧ Tp K H v (planD sz rt) ∧ PlanOk sz rt ∧ Tp K H u (stD sz rt.length t xs) ∧ StOk sz rt t xs ∧ SqL K H s ys ∧
  ((∃ qs : List (Nat × Nat), TpAll K H ys (qs.map (swD sz rt.length)) ∧ (∀ q ∈ qs, okSw (nn sz rt) q) ∧ ∀ (H' : Hp) (r : V), Same H H' → Tp K H' r (stD sz rt.length t (foldSw xs qs)) → Q r H') ∨
    (∃ (k : Nat) (x : V), ys[k]? = some x ∧ (∀ i y, i < k → ys[i]? = some y → GoodS K H sz rt.length y) ∧ BadS K H sz rt.length x ∧ ∀ (H' : Hp) (d : Addr), Same H H' → H' d = some (.xd [("index", .int (k : Nat))]) → E (.ref (cad mg "InvalidSwap")) (some d) H'))
theorem SqLs {H H' : Hp} {s : Addr} {ys : List V} (S : Same H H') (h : SqL K H s ys) : SqL K H' s ys := by
  rcases h with (h | ⟨o, h⟩) | h
  · exact .inl (.inl (S _ _ h))
  · exact .inl (.inr ⟨o, S _ _ h⟩)
  · exact .inr h
abbrev N_swap_all : List Str := ["plan", "state", "swaps", "every", "contents", "index", "swap", "first", "second", "one", "other"]
theorem sc_swap_all : FnScope N_swap_all ["plan", "state", "swaps"] (defScope t_swap_all) := ⟨rfl, rfl, rfl, by decide +kernel, rfl, by decide +kernel, by decide +kernel⟩
theorem ok_swap_all (T : Txt K mg) (EC : Ecs K mg) : Cal P w K mg base (L2.CX P w) 4 "swap_all" ["plan", "state", "swaps"] (spSwA K mg) := by
  have C_validate_state : Cal P w K mg base CX0 3 _ _ _ := ok_validate_state T
  have C_all_places : Cal P w K mg base CX0 1 _ _ _ := ok_all_places T
  have C_contents_of : Cal P w K mg base CX0 1 _ _ _ := ok_contents_of T
  have C_is_swap : Cal P w K mg base CX0 1 _ _ _ := ok_is_swap T
  have C_state_of : Cal P w K mg base CX0 1 _ _ _ := ok_state_of T
  obtain ⟨fI, fd, iC, tI, FD⟩ := EC.ini
  have F1 : FnOk P w K mg base CX0 1 fI fd ["self", "index"] (spISw (cad mg "InvalidSwap")) := ok_swap_init EC FD
  have kb : KBn K fd ["self", "index"] 1 ["index"] (fun us ws => us ++ ws) (fun vs zs => vs ++ zs) := funKb FD 1 ["index"] (fun us ws => us ++ ws) (fun a b => a.append b)
    (fun kV doc pm an cdv ct us ws h1 h2 => match us, ws, h1, h2 with | [_], [_], _, _ => rfl)
  have gSw : mg "InvalidSwap" = some (.ref (cad mg "InvalidSwap")) := EC.g _ m3_InvalidSwap
  refine T.d_swap_all.mkX sc_swap_all (fun _ _ _ _ _ _ us hl => match us, hl with | [_, _, _], _ => rfl) (fun vs H Q E h => ?_) (fun f cdv A outer st H vs Q E hr h => ?_)
  · obtain ⟨_, _, _, _, _, _, _, _, rfl, _⟩ := h
    rfl
  · obtain ⟨v, u, s, sz, rt, t, xs, ys, rfl, hv, ok, hu, so, hs, k⟩ := h
    obtain ⟨b, cc, ss, sss, SA⟩ := stInv hu
    obtain rfl := SA.ev
    refine ⟨_, ((pss_cons (ps_expr (pe_cal C_validate_state (hr.mono (by decide)) rfl pass0 (pa_cons (pv 0) (pa_cons (pv 1) pa_nil))))
    (pss_cons (ps_par (i := 3) (j := 4) (by rfl) sc_swap_all.nd rfl rfl (by decide) rfl rfl (pa_cons (pe_cal C_all_places (hr.mono (by decide)) rfl pass0 (pa_cons (pv 0) pa_nil)) (pa_cons (pe_cal C_contents_of (hr.mono (by decide)) rfl pass0 (pa_cons (pv 1) pa_nil)) pa_nil)) (by rfl))
    (pss_cons (ps_for (passes_of rfl) rfl (ki_enum (K := K) (by rfl) T.f_enumerate (pa_cons (pv 2) pa_nil)) (kg_tup (K := K) rfl (pgs_cons (pg_name (i := 5) sc_swap_all.nd rfl (Or.inl rfl)) (pgs_cons (pg_name (i := 6) sc_swap_all.nd rfl (Or.inl rfl)) pgs_nil)))
    (pss_one (ps_if (pt_not (pt_val (pe_cal C_is_swap (hr.mono (by decide)) rfl pass0 (pa_cons (pv 3) (pa_cons (pv 6) pa_nil)))))
      (pss_one (ps_raise rfl (takes_of rfl rfl rfl rfl) (pmk_kw EC.oex iC tI F1 (hr.mono (by decide)) kb pass0 (by rfl) gSw (pk_cons (pv 5) pk_nil))))
      pss_nil)))
    (pss_cons (ps_for (passes_of rfl) rfl (ki_list (K := K) (pv 2)) (kg_tup (K := K) rfl (pgs_cons (pg_name (i := 7) sc_swap_all.nd rfl (Or.inl rfl)) (pgs_cons (pg_name (i := 8) sc_swap_all.nd rfl (Or.inl rfl)) pgs_nil)))
    (pss_cons (ps_par (i := 9) (j := 10) (by rfl) sc_swap_all.nd rfl rfl (by decide) rfl rfl (pa_cons (k_bm (K := K) PySem.F.plainAttrs_list PySem.F.slot_list_index PySem.F.type_list_index (k_indexD (K := K) (hu65 hr)) (pv 3) (pa_cons (pv 7) pa_nil)) (pa_cons (k_bm (K := K) PySem.F.plainAttrs_list PySem.F.slot_list_index PySem.F.type_list_index (k_indexD (K := K) (hu65 hr)) (pv 3) (pa_cons (pv 8) pa_nil)) pa_nil)) (by rfl))
      (pss_one (ps_asg (pe_tup (pa_cons (pe_ix (k_ixL (K := K)) (pv 4) (pv 10) (fun _ _ => rfl)) (pa_cons (pe_ix (k_ixL (K := K)) (pv 4) (pv 9) (fun _ _ => rfl)) pa_nil))) (kg_tup (K := K) rfl (pgs_cons (pg_sub (pv 4) (pv 9) set_list) (pgs_cons (pg_sub (pv 4) (pv 10) set_list) pgs_nil)))))))
    (pss_one (ps_ret (pe_cal C_state_of (hr.mono (by decide)) rfl pass0 (pa_cons (pv 0) (pa_cons (pe_ix (k_ixT (K := K)) (pv 1) pe_int (fun _ _ => rfl)) (pa_cons (pv 4) pa_nil))))))))))), ?_⟩
    have nle : rt.length + sz.sum ≤ 114 := ok.n_le
    have hx : xs.length = rt.length + sz.sum := so.len
    refine ⟨_, rfl, _, rfl, v, _, sz, rt, t, xs, rfl, hv, ok, hu, so, fun H1 S1 => ?_⟩
    refine ⟨_, rfl, v, sz, rt, rfl, tpKeep (sTm S1) hv, ok, fun H2 e es S2 he hel hes => ?_⟩
    have S02 := S1.trans S2
    refine ⟨_, rfl, _, sz, rt, t, xs, rfl, tpKeep (sTm S02) hu, ok, so.len, fun H3 p S3 hp hl3 => ⟨_, _, rfl, ?_⟩⟩
    have S03 := S02.trans S3
    have np : H p = none := S02.free hp
    have hel3 := S3 _ _ hel
    have hes3 := tpKeepAll (sTm S3) hes
    have pe : p ≠ e := fun z => by rw [z, hel] at hp; cases hp
    rcases k with ⟨qs, hys, hqs, k⟩ | ⟨kk, x, hxk, hgood, hbad, k⟩
    · have ly := tpLen hys
      rw [List.length_map] at ly
      refine ⟨_, rfl, s, _, rfl, SqLs S03 hs, for_pairs (K := K) walk_enum (fun i σ H' => ∃ u5 u6 : Option V, σ = [some v, some (.ref b), some (.ref s), some (.ref e), some (.ref p), u5, u6, none, none, none, none] ∧ Same H3 H') ⟨_, _, rfl, Same.refl _⟩
        (fun i σ H' _ hp' => SqLs (S03.trans hp'.choose_spec.choose_spec.2) hs) ?_ ?_⟩
      · rintro i x σ H' T' hi hx2 ⟨u5, u6, rfl, s5⟩ hT'
        have s6 := sNew s5 hT' (.tup [.int (i : Nat), x])
        have hxd : GoodS K H sz rt.length x := by
          obtain ⟨d, hd, hxd⟩ := tpGetV hys hx2
          rw [List.getElem?_map] at hd
          cases eq : qs[i]? with
          | none => rw [eq] at hd; cases hd
          | some q =>
            rw [eq] at hd
            cases hd
            obtain ⟨q1, q2, q3⟩ := hqs q (List.mem_of_getElem? eq)
            exact ⟨_, _, hxd, plAt_mem q1, plAt_mem q2, fun z => q3 (plAt_inj q1 q2 z)⟩
        refine ⟨_, rfl, _, rfl, e, x, es, sz, rt.length, rfl, SqL.of (s6 _ _ hel3), tpKeepAll (sTm s6) hes3, .inl ⟨hxd.keep (sTm (S03.trans s6)), ?_⟩⟩
        exact ⟨_, rfl, ifF rfl ⟨_, _, rfl, s6⟩⟩
      · rintro σ H' ⟨u5, u6, rfl, s5⟩
        have S05 := S03.trans s5
        have hl5 := s5 _ _ hl3
        have pnil : ∀ H'' : Hp, True := fun _ => trivial
        refine ⟨_, rfl, s, rfl, ⟨_, SqLs S05 hs⟩, for_list (K := K) (a := s) (xs := ys) (fun i σ H'' => ∃ u7 u8 u9 u10 : Option V, σ = [some v, some (.ref b), some (.ref s), some (.ref e), some (.ref p), u5, u6, u7, u8, u9, u10] ∧ Same H H'' ∧ Tm H' H'' ∧ H'' e = some (.lst es) ∧ H'' p = some (.lst ((foldSw xs (qs.take i)).map V.int)))
          ⟨_, _, _, _, rfl, S05, Tm.refl _, s5 _ _ hel3, hl5⟩ (fun i σ H'' _ hp' => SqLs hp'.choose_spec.choose_spec.choose_spec.choose_spec.2.1 hs) ?_ ?_⟩
        · rintro i x σ H'' hx2 ⟨u7, u8, u9, u10, rfl, s6, tm6, he6, hl6⟩
          obtain ⟨d, hd, hxd⟩ := tpGetV hys hx2
          rw [List.getElem?_map] at hd
          cases eq : qs[i]? with
          | none => rw [eq] at hd; cases hd
          | some q =>
            rw [eq] at hd
            cases hd
            obtain ⟨q1, q2, q3⟩ := hqs q (List.mem_of_getElem? eq)
            have q1' : q.1 < rt.length + sz.sum := q1
            have q2' : q.2 < rt.length + sz.sum := q2
            obtain ⟨ta, tv, rfl, hta, hall⟩ := tpTup hxd
            cases hall with
            | cons h1 h2 =>
              cases h2 with
              | cons h2 h3 =>
                cases h3
                have hes6 := tpKeepAll ((sTm s5).trans tm6) hes3
                have dl : Dp K H'' (.ref e) (.list ((placesL sz rt.length).map plD)) := .lst (SqL.of he6) (tpDpAll hes6)
                have sl : SeqAt.shaped (.list ((placesL sz rt.length).map plD)) = true := shaped_of (shLst (shPls _)) (by decide)
                have sp : ∀ p : Pl, SeqAt.shaped (plD p) = true := fun p => shaped_of (plSh p) (by decide)
                have at_ : ∀ j, j < rt.length + sz.sum → ((placesL sz rt.length).map plD)[j]? = some (plD (plAt sz rt.length j)) := fun j hj => by
                  rw [List.getElem?_map, some_of_lt (.car 0) (by rw [placesL_len]; exact hj)]
                  rfl
                have bef : ∀ j, j < rt.length + sz.sum → ∀ (m : Nat) (z' : PyData), m < j → ((placesL sz rt.length).map plD)[m]? = some z' → PyData.eqv z' (plD (plAt sz rt.length j)) = false := fun j hj m z' hm hz => by
                  rw [at_ m (by omega)] at hz
                  cases hz
                  rw [plEqv, decide_eq_false]
                  intro z
                  have := plAt_inj (by omega) hj z
                  omega
                have self : ∀ j, PyData.eqv (plD (plAt sz rt.length j)) (plD (plAt sz rt.length j)) = true := fun j => by rw [plEqv]; simp
                have lf : ∀ j, (foldSw xs (qs.take j)).length = rt.length + sz.sum := fun j => by rw [foldSw_length, hx]
                refine ⟨ta, _, rfl, sqTm (sTm s6) hta, rfl, _, _, rfl, _, _, rfl, rfl, ?_⟩
                refine ⟨_, rfl, .inl ⟨rfl, _, SqL.of he6⟩, _, rfl, e, _, plD (plAt sz rt.length q.1), _, q.1, _, rfl, rfl, dl, tpDp (tpKeep (sTm s6) h1), sl, sp _, at_ _ q1', self _, bef _ q1', ?_⟩
                refine ⟨_, rfl, .inl ⟨rfl, _, SqL.of he6⟩, _, rfl, e, _, plD (plAt sz rt.length q.2), _, q.2, _, rfl, rfl, dl, tpDp (tpKeep (sTm s6) h2), sl, sp _, at_ _ q2', self _, bef _ q2', ⟨_, _, rfl, ?_⟩⟩
                have a1 : ((foldSw xs (qs.take i)).map V.int)[q.1]? = some (.int ((foldSw xs (qs.take i)).getD q.1 0)) := by rw [List.getElem?_map, some_of_lt 0 (by rw [lf]; exact q1')]; rfl
                have a2 : ((foldSw xs (qs.take i)).map V.int)[q.2]? = some (.int ((foldSw xs (qs.take i)).getD q.2 0)) := by rw [List.getElem?_map, some_of_lt 0 (by rw [lf]; exact q2')]; rfl
                refine ⟨_, rfl, _, rfl, p, _, _, _, rfl, rfl, SqL.of hl6, atI_nat a2, _, rfl, _, rfl, p, _, _, _, rfl, rfl, SqL.of hl6, atI_nat a1, leLine (show 2 ≤ 100000 by decide), fun T2 hT2 => ?_⟩
                have hl7 := upd_keep (u := .tup [.int ((foldSw xs (qs.take i)).getD q.2 0), .int ((foldSw xs (qs.take i)).getD q.1 0)]) hl6 hT2
                have he7 := upd_keep (u := .tup [.int ((foldSw xs (qs.take i)).getD q.2 0), .int ((foldSw xs (qs.take i)).getD q.1 0)]) he6 hT2
                have s7 := sNew s6 hT2 (.tup [.int ((foldSw xs (qs.take i)).getD q.2 0), .int ((foldSw xs (qs.take i)).getD q.1 0)])
                have lm : ((foldSw xs (qs.take i)).map V.int).length = rt.length + sz.sum := by rw [List.length_map, lf]
                refine ⟨T2, _, rfl, SqT.of upd_same, rfl, _, _, rfl, ⟨_, rfl, _, rfl, p, _, _, q.1, rfl, rfl, hl7, ixNat (by rw [lm]; exact q1'), _, _, rfl, ⟨_, rfl, _, rfl, p, _, _, q.2, rfl, rfl, upd_same, ixNat (by rw [List.length_set, lm]; exact q2'), rfl, ?_⟩⟩⟩
                have upd2 : ∀ (Hh : Hp) (o1 o2 : HO), upd (upd Hh p o1) p o2 = upd Hh p o2 := fun Hh o1 o2 => by
                  funext z
                  by_cases hz : z = p
                  · rw [hz, upd_same, upd_same]
                  · rw [upd_ne hz, upd_ne hz, upd_ne hz]
                rw [upd2]
                have esw : (((foldSw xs (qs.take i)).map V.int).set q.1 (.int ((foldSw xs (qs.take i)).getD q.2 0))).set q.2 (.int ((foldSw xs (qs.take i)).getD q.1 0)) = (foldSw xs (qs.take (i + 1))).map V.int := by
                  rw [take_more eq]
                  unfold foldSw
                  rw [List.foldl_append]
                  show _ = (swapAt _ q.1 q.2).map V.int
                  unfold swapAt
                  rw [List.map_set, List.map_set]
                rw [esw]
                refine ⟨_, _, _, _, rfl, sWr s7 np _, tm6.trans ((tmNew hT2 _).trans (tmLst hl7 _)), ?_, upd_same⟩
                rw [upd_ne (Ne.symm pe)]
                exact he7
        · rintro σ H'' ⟨u7, u8, u9, u10, rfl, s6, tm6, he6, hl6⟩
          rw [ly, List.take_length] at hl6
          have SA6 := SA.keep (sTm s6)
          refine ⟨_, rfl, _, rfl, b, _, _, _, rfl, rfl, SA6.top, rfl, _, rfl, v, sz, rt, t, p, foldSw xs qs, rfl, tpKeep (sTm s6) hv, ok, hl6, by rw [foldSw_length]; exact so.len, fun H7 r S7 hr7 => k H7 r (s6.trans S7) hr7⟩
    · have lk := (List.getElem?_eq_some_iff.mp hxk).1
      refine ⟨_, rfl, s, _, rfl, SqLs S03 hs, for_pairs (K := K) walk_enum (fun i σ H' => ∃ u5 u6 : Option V, σ = [some v, some (.ref b), some (.ref s), some (.ref e), some (.ref p), u5, u6, none, none, none, none] ∧ Same H3 H' ∧ i ≤ kk) ⟨_, _, rfl, Same.refl _, Nat.zero_le _⟩
        (fun i σ H' _ hp' => SqLs (S03.trans hp'.choose_spec.choose_spec.2.1) hs) ?_ ?_⟩
      · rintro i y σ H' T' hi hx2 ⟨u5, u6, rfl, s5, hik⟩ hT'
        have s6 := sNew s5 hT' (.tup [.int (i : Nat), y])
        have S06 := S03.trans s6
        by_cases eik : i = kk
        · subst eik
          rw [hxk] at hx2
          cases hx2
          refine ⟨_, rfl, _, rfl, e, x, es, sz, rt.length, rfl, SqL.of (s6 _ _ hel3), tpKeepAll (sTm s6) hes3, .inr ⟨hbad.keep S06, ?_⟩⟩
          refine ⟨_, rfl, ifT rfl ⟨_, rfl, rfl, fun a ha => ⟨a, (i : Nat), rfl, upd_same, fun dx hdx hne => ⟨rfl, dx, [("index", .int (i : Nat))], upd_same, ?_, ?_, ?_⟩⟩⟩⟩
          · rw [upd_ne hne, upd_same]
          · rw [upd_ne hne] at hdx
            exact hdx
          · rw [upd_ne hne] at hdx
            refine k _ dx (fun z o hz => ?_) upd_same
            have h6 := S06 _ _ hz
            have za : z ≠ a := ne_of_none h6 ha
            have zd : z ≠ dx := ne_of_none h6 hdx
            rw [upd_ne zd, del_ne za, upd_ne za, upd_ne zd, upd_ne za]
            exact h6
        · refine ⟨_, rfl, _, rfl, e, y, es, sz, rt.length, rfl, SqL.of (s6 _ _ hel3), tpKeepAll (sTm s6) hes3, .inl ⟨(hgood i y (by omega) hx2).keep (sTm S06), ?_⟩⟩
          exact ⟨_, rfl, ifF rfl ⟨_, _, rfl, s6, by omega⟩⟩
      · rintro σ H' ⟨u5, u6, rfl, s5, hik⟩
        omega
end
end K14
/-! ## K14L -/
namespace K14
open PySem PySem.Spec PyProof.Rows L2
/-! ### rules -/
theorem k_isiT {X : Cx} {K : PySem.W.Frag} (hK : X.K = K := by rfl) : CallR X (.builtin "isinstance") (rIsiT K) := by subst hK; exact call_isiT
def rTIdx (K : PySem.W.Frag) : V → List V → Hp → VK → Prop := fun x xs H Q => ∃ (a : Addr) (ns : List Int) (k : Int), x = .ref a ∧ xs = [.int k] ∧ SqT K H a (ns.map V.int) ∧ k ∈ ns ∧ Q (.int (ns.idxOf k : Nat)) H
theorem k_tidx {X : Cx} {K : PySem.W.Frag} (hK : X.K = K := by rfl) : MtR X "tuple.index" (rTIdx K) := by
  subst hK
  intro pins s σ H x xs v us Q I rx rxs h
  obtain ⟨a, ns, k, rfl, rfl, hs, hk, q⟩ := h
  cases rx
  obtain ⟨u, rfl, ru⟩ := rxs.one
  obtain ⟨t, rfl⟩ := ru
  obtain ⟨its, rv, hl, hz⟩ := I.tuple hs
  exact PySem.SeqAt.tuple_index_ints (show s.heap.IsTuple a its.toArray from hl) rv.ints hk ⟨.int (ns.idxOf k : Nat), H, I.tok _, ⟨_, rfl⟩, q⟩
/-- the tuple that x is, its object told -/
def FzT (H : Hp) (x : V) : Prop := ∃ (a : Addr) (ob : Obj) (xs : List V), x = .ref a ∧ H a = some (.frz ob (.tup xs)) ∧ ob.dict = none
def tBMT (r : V → List V → Hp → VK → Prop) (to : TE) (t : TA) : TE := fun σ H Q => to σ H fun x H1 => FzT H1 x ∧ t σ H1 fun xs H2 => r x xs H2 Q
theorem k_bmT {X : Cx} {K : PySem.W.Frag} {o e : Expr} {es : List Expr} {to : TE} {t : TA} {name : Str} {apos cpos : Pos} {id : String} {r : V → List V → Hp → VK → Prop} (pa : PlainAttrs "tuple") (slot : Slot "tuple" name id) (hty : typeOf (.builtin id) = pure (.type "method_descriptor")) (hm : MtR X id r) (ho : PE X o to) (ha : PA X (e :: es) t)
    (hbase : attributeBase o name X.env (eval o X.env) = eval o X.env := by rfl)
    (hfew : ((backTo cpos (starEach (e :: es) X.env)).all (fun x => !x.1) && (backToKw cpos (keywordEach [] X.env)).all (fun x => x.1.isSome) && decide ((e :: es).length + ([] : List Keyword).length + (if ([] : List Keyword).isEmpty then 0 else 1) < 30)) = true := by rfl)
    (hline : (apos.endLine == cpos.line) = true := by rfl) (hs : starEach (e :: es) X.env = (false, eval e X.env) :: starEach es X.env := by rfl) (hplain : (backTo cpos (starEach es X.env)).any (·.1) = false := by rfl) (hK : X.K = K := by rfl) :
    PE X (.Call (.Attribute o name apos) (e :: es) [] cpos) (tBMT r to t) := by
  refine ⟨fun pins s σ H Q I h => wpAny_Call_method_late hbase hfew hline rfl (thn (ho.run pins s σ H _ I h) fun v s1 ⟨x, H1, I1, r1, ⟨a, ob, xs, ex, ea, nd⟩, q1⟩ => ?_)⟩
  have hv := r1
  subst ex
  obtain rfl : v = Value.ref a := hv
  obtain ⟨g1, _, its, rv, o', g2, g3, _⟩ := (show ObjOk X.prog X.w H1 s1.heap a (.frz ob (.tup xs)) from I1.hok a _ ea)
  refine ⟨"tuple", id, pa, slot, hty, ⟨o', g2, g3⟩, fun z hz => ⟨ob, by cases hz; exact g1, nd⟩, ?_⟩
  have hA := ha.run cpos pins s1 σ H1 _ I1 q1
  rw [hs] at hA ⊢
  exact Calls.callWith_builtin (by show (false || (backTo cpos (starEach es X.env)).any (·.1)) = false; rw [hplain] <;> rfl) (Calls.evalArgs_plain (thn hA fun us s2 ⟨vs, H2, I2, r2, q2⟩ => hm pins s2 σ H2 (V.ref a) vs (Value.ref a) us Q I2 r1 r2 q2))
theorem ixN_of {n : Nat} {i : Int} (h0 : 0 ≤ i) (h1 : i < n) : ixN n i = some i.toNat := by
  unfold ixN
  rw [if_pos h0, if_pos h1]
theorem atI_of {α : Type} {xs : List α} {i : Int} (h0 : 0 ≤ i) (h1 : i < xs.length) : atI xs i = xs[i.toNat]? := by
  unfold atI
  rw [ixN_of h0 h1]
  rfl
def mx (n : Nat) : Int := if ((n : Nat) : Int) > (1 : Int) then ((n : Nat) : Int) else 1
/-! ### the source of draws -/
structure DR (h c : Addr) (H : Hp) : Prop where
  ex : ∃ (m k : Int) (xs : List Int), H h = some (.lst [.int m, .ref c, .int k]) ∧ H c = some (.lst (xs.map V.int)) ∧ xs.length ≤ 63
theorem DR.ne {h c : Addr} {H : Hp} (d : DR h c H) : h ≠ c := fun e => by
  obtain ⟨m, k, xs, h1, h2, _⟩ := d.ex
  rw [e, h2] at h1
  match xs, h1 with
  | [], h1 => cases h1
  | [_], h1 => cases h1
  | _ :: _ :: _, h1 => cases h1
/-- all stands but the source -/
structure Dx (h c : Addr) (H H' : Hp) : Prop where
  keep : ∀ b u, b ≠ h → b ≠ c → H b = some u → H' b = some u
section
variable {h c : Addr} {H0 H H' H'' : Hp}
theorem Dx.refl (h c : Addr) (H : Hp) : Dx h c H H := ⟨fun _ _ _ _ e => e⟩
theorem Dx.trans (a : Dx h c H H') (b : Dx h c H' H'') : Dx h c H H'' := ⟨fun x u h1 h2 e => b.keep x u h1 h2 (a.keep x u h1 h2 e)⟩
theorem Dx.new (a : Dx h c H H') {q : Addr} (hq : H' q = none) (o : HO) : Dx h c H (upd H' q o) := ⟨fun x u h1 h2 e => upd_keep (a.keep x u h1 h2 e) hq⟩
theorem Dx.same (a : Dx h c H H') (s : Same H' H'') : Dx h c H H'' := ⟨fun x u h1 h2 e => s _ _ (a.keep x u h1 h2 e)⟩
theorem Dx.of (s : Same H H') : Dx h c H H' := ⟨fun x u _ _ e => s _ _ e⟩
theorem Dx.wrh (a : Dx h c H H') (o : HO) : Dx h c H (upd H' h o) := ⟨fun x u h1 h2 e => by rw [upd_ne h1]; exact a.keep x u h1 h2 e⟩
theorem Dx.wrc (a : Dx h c H H') (o : HO) : Dx h c H (upd H' c o) := ⟨fun x u h1 h2 e => by rw [upd_ne h2]; exact a.keep x u h1 h2 e⟩
theorem Dx.wr (a : Dx h c H H') {p : Addr} (hp : H p = none) (o : HO) : Dx h c H (upd H' p o) := ⟨fun x u h1 h2 e => by rw [upd_ne (ne_of_none e hp)]; exact a.keep x u h1 h2 e⟩
theorem Dx.tm (a : Dx h c H H') (d : DR h c H) : Tm H H' := by
  obtain ⟨m, k, xs, h1, h2, _⟩ := d.ex
  exact ⟨fun b ys e => a.keep b _ (ne_of e h1 (by intro z; cases z)) (ne_of e h2 (by intro z; cases z)) e, fun b o u e => a.keep b _ (ne_of e h1 (by intro z; cases z)) (ne_of e h2 (by intro z; cases z)) e⟩
/-- a list of one's own, behind draws -/
theorem Dx.own (a : Dx h c H H') (d : DR h c H) {p : Addr} {o : HO} (hp : H p = some o) (n1 : p ≠ h) (n2 : p ≠ c) : H' p = some o := a.keep p o n1 n2 hp
theorem DR.new (d : DR h c H) {q : Addr} (hq : H q = none) (o : HO) : DR h c (upd H q o) := by
  obtain ⟨m, k, xs, h1, h2, h3⟩ := d.ex
  exact ⟨m, k, xs, upd_keep h1 hq, upd_keep h2 hq, h3⟩
theorem DR.wr (d : DR h c H) {q : Addr} (n1 : q ≠ h) (n2 : q ≠ c) (o : HO) : DR h c (upd H q o) := by
  obtain ⟨m, k, xs, h1, h2, h3⟩ := d.ex
  exact ⟨m, k, xs, by rw [upd_ne (Ne.symm n1)]; exact h1, by rw [upd_ne (Ne.symm n2)]; exact h2, h3⟩
theorem DR.same (d : DR h c H) (s : Same H H') : DR h c H' := by
  obtain ⟨m, k, xs, h1, h2, h3⟩ := d.ex
  exact ⟨m, k, xs, s _ _ h1, s _ _ h2, h3⟩
theorem DR.nh (d : DR h c H) {q : Addr} (hq : H q = none) : q ≠ h := fun e => by
  obtain ⟨m, k, xs, h1, _, _⟩ := d.ex
  rw [e, h1] at hq
  cases hq
theorem DR.nc (d : DR h c H) {q : Addr} (hq : H q = none) : q ≠ c := fun e => by
  obtain ⟨m, k, xs, _, h1, _⟩ := d.ex
  rw [e, h1] at hq
  cases hq
theorem Dx.free (a : Dx h c H H') (d : DR h c H) {q : Addr} (hq : H' q = none) (d' : DR h c H') : H q = none := by
  cases e : H q with
  | none => rfl
  | some u =>
    have := a.keep q u (d'.nh hq) (d'.nc hq) e
    rw [hq] at this
    cases this
end
section
variable {P : Program} {w : World} {K : PySem.W.Frag} {mg : Str → Option Value} {base : Heap}
/-! ### _law_mix -/
def spMix (K : PySem.W.Frag) : Sp := fun vs H Q _ => ∃ (s : Addr) (ns : List Int) (i : Int), vs = [.ref s, .int i] ∧ SqL K H s (ns.map V.int) ∧ ns.length ≤ 63 ∧ ∀ (H' : Hp) (h c : Addr), Same H H' → H h = none → H c = none → DR h c H' → Q (.ref h) H'
abbrev N_law_mix : List Str := ["_law_script", "_law_seed", "_law_mixed_here", "_law_cell"]
theorem sc_law_mix : FnScope N_law_mix ["_law_script", "_law_seed"] (defScope t_law_mix) := ⟨rfl, rfl, rfl, by decide +kernel, rfl, by decide +kernel, by decide +kernel⟩
theorem ok_law_mix (T : Txt K mg) : Cal P w K mg base CX0 1 "_law_mix" ["_law_script", "_law_seed"] (spMix K) := by
  refine T.d_law_mix.mk0 sc_law_mix (fun _ _ _ _ _ _ us hl => match us, hl with | [_, _], _ => rfl) (fun vs H Q E h => ?_) (fun f cdv A outer st H vs Q E hr h => ?_)
  · obtain ⟨_, _, _, rfl, _⟩ := h
    rfl
  · obtain ⟨s, ns, i, rfl, hs, hn, k⟩ := h
    refine ⟨_, ((pss_cons (ps_set (i := 2) sc_law_mix.nd rfl (Or.inl rfl) (pv 1))
    (pss_cons (ps_for PassesOwn.never rfl (ki_list (K := K) (pv 0)) (pg_name (i := 3) sc_law_mix.nd rfl (Or.inl rfl))
    (pss_one (ps_set (i := 2) sc_law_mix.nd rfl (Or.inl rfl) (pe_op op_mod (pe_op op_add (pe_op op_add (pe_op op_mul (pv 2) pe_int) (pe_op op_mod (pv 3) pe_int)) pe_int) pe_int))))
    (pss_one (ps_ret (pe_lst (pa_cons (pv 2) (pa_cons (pe_callTy (k_list (K := K)) (by rfl) T.f_list b_list (pa_cons (pv 0) pa_nil)) (pa_cons pe_int pa_nil))))))))), ?_⟩
    refine ⟨_, rfl, _, rfl, s, rfl, ⟨_, hs⟩, for_list (K := K) (a := s) (xs := ns.map V.int) (fun j σ H' => ∃ (m : Int) (u : Option V), σ = [some (.ref s), some (.int i), some (.int m), u] ∧ H' = H) ⟨_, _, rfl, rfl⟩ (fun j σ H' _ hp => by rw [hp.choose_spec.choose_spec.2]; exact hs) ?_ ?_⟩
    · rintro j x σ H' hx ⟨m, u, rfl, rfl⟩
      rw [List.getElem?_map] at hx
      cases e : ns[j]? with
      | none => rw [e] at hx; cases hx
      | some z =>
        rw [e] at hx
        cases hx
        refine ⟨_, rfl, _, _, rfl, rfl, .inr ⟨by omega, by omega⟩, _, rfl, _, _, rfl, rfl, by show (0 : Int) < 2147483629; omega, _, _, rfl, rfl, _, _, rfl, rfl, _, _, rfl, rfl, by show (0 : Int) < 2147483647; omega, _, _, rfl, rfl⟩
    · rintro σ H' ⟨m, u, rfl, rfl⟩
      refine ⟨_, rfl, _, rfl, s, _, rfl, .inl hs, fun c hc => ⟨leLine (show 3 ≤ 100000 by decide), fun h hh => ?_⟩⟩
      have s1 := sNew (Same.refl H') hc (.lst (ns.map V.int))
      exact k _ h c (sNew s1 hh _) (s1.free hh) hc ⟨m, 0, ns, upd_same, upd_keep upd_same hh, hn⟩
/-! ### _law_next -/
def spNext : Sp := fun vs H Q _ => ∃ (h c : Addr) (l : Int), vs = [.ref h, .int l] ∧ DR h c H ∧ 0 < l ∧ l ≤ 1000000000000000000 ∧ ∀ (H' : Hp) (r : Int), Dx h c H H' → DR h c H' → 0 ≤ r → r < l → Q (.int r) H'
abbrev N_law_next : List Str := ["_law_h", "_law_limit", "_law_cell"]
theorem sc_law_next : FnScope N_law_next ["_law_h", "_law_limit"] (defScope t_law_next) := ⟨rfl, rfl, rfl, by decide +kernel, rfl, by decide +kernel, by decide +kernel⟩
theorem ok_law_next (T : Txt K mg) : Cal P w K mg base CX0 1 "_law_next" ["_law_h", "_law_limit"] spNext := by
  refine T.d_law_next.mk0 sc_law_next (fun _ _ _ _ _ _ us hl => match us, hl with | [_, _], _ => rfl) (fun vs H Q E h => ?_) (fun f cdv A outer st H vs Q E hr h => ?_)
  · obtain ⟨_, _, _, rfl, _⟩ := h
    rfl
  · obtain ⟨h, c, l, rfl, d, l0, l1, kk⟩ := h
    obtain ⟨m, k, xs, hh, hc, hn⟩ := d.ex
    have hne := d.ne
    have len : (xs.map V.int).length = xs.length := List.length_map _
    refine ⟨_, ((pss_cons (ps_set (i := 2) sc_law_next.nd rfl (Or.inl rfl) (pe_ix (k_ixL (K := K)) (pe_op op_cat (pe_ix (k_ixL (K := K)) (pv 0) pe_int (fun _ _ => rfl)) (pe_lst (pa_cons pe_int pa_nil))) (pe_op op_mod (pe_callTy call_int1 (by rfl) T.f_int b_int (pa_cons (pe_ix (k_ixL (K := K)) (pv 0) pe_int (fun _ _ => rfl)) pa_nil)) (pe_callB (call_max2 rfl) (by rfl) T.f_max b_max (pa_cons pe_int (pa_cons (pe_callB (k_len (K := K)) (by rfl) T.f_len b_len (pa_cons (pe_ix (k_ixL (K := K)) (pv 0) pe_int (fun _ _ => rfl)) pa_nil)) pa_nil)))) (fun _ _ => rfl)))
    (pss_cons (ps_if (pt_cmpR op_ge (pv 2) (pe_op op_pow pe_int pe_int) (nomark _))
    (pss_cons (ps_asg (pe_op op_fdivW (pv 2) (pv 1)) (pg_sub (pe_ix (k_ixL (K := K)) (pv 0) pe_int (fun _ _ => rfl)) (pe_op op_mod (pe_callTy call_int1 (by rfl) T.f_int b_int (pa_cons (pe_ix (k_ixL (K := K)) (pv 0) pe_int (fun _ _ => rfl)) pa_nil)) (pe_callB (k_len (K := K)) (by rfl) T.f_len b_len (pa_cons (pe_ix (k_ixL (K := K)) (pv 0) pe_int (fun _ _ => rfl)) pa_nil))) set_list))
      (pss_one (ps_ret (pe_op op_mod (pe_callTy call_int1 (by rfl) T.f_int b_int (pa_cons (pv 2) pa_nil)) (pv 1)))))
    pss_nil)
    (pss_cons (ps_asg (pe_op op_mod (pe_op op_add (pe_op op_add (pe_op op_mul (pe_ix (k_ixL (K := K)) (pv 0) pe_int (fun _ _ => rfl)) pe_int) (pe_op op_mul (pv 2) pe_int)) pe_int) pe_int) (pg_sub (pv 0) pe_int set_list))
    (pss_cons (ps_asg (pe_op op_add (pe_ix (k_ixL (K := K)) (pv 0) pe_int (fun _ _ => rfl)) pe_int) (pg_sub (pv 0) pe_int set_list))
    (pss_one (ps_ret (pe_op op_mod (pe_op op_fdivW (pe_ix (k_ixL (K := K)) (pv 0) pe_int (fun _ _ => rfl)) pe_int) (pv 1))))))))), ?_⟩
    refine ⟨_, rfl, h, _, _, _, rfl, rfl, SqL.of hh, rfl, leLine (show 1 ≤ 100000 by decide), fun q hq => ?_⟩
    have hh1 := upd_keep (u := .lst [.int 0]) hh hq
    have hc1 := upd_keep (u := .lst [.int 0]) hc hq
    refine ⟨c, q, _, _, rfl, rfl, hc1, upd_same, leLine (by rw [len, List.length_singleton]; omega), fun q2 hq2 => ?_⟩
    have hh2 := upd_keep (u := .lst (xs.map V.int ++ [.int 0])) hh1 hq2
    have hc2 := upd_keep (u := .lst (xs.map V.int ++ [.int 0])) hc1 hq2
    have D2 : Dx h c H (upd (upd H q (.lst [.int 0])) q2 (.lst (xs.map V.int ++ [.int 0]))) := ((Dx.refl h c H).new hq _).new hq2 _
    have app : xs.map V.int ++ [V.int 0] = (xs ++ [0]).map V.int := by rw [List.map_append]; rfl
    have hM : mx (xs.map V.int).length = if ((xs.length : Nat) : Int) > 1 then ((xs.length : Nat) : Int) else 1 := by rw [len]; rfl
    have M0 : 0 < mx (xs.map V.int).length := by
      rw [hM]
      split <;> omega
    have M1 : mx (xs.map V.int).length ≤ xs.length + 1 := by
      rw [hM]
      split <;> omega
    have i0 := Int.emod_nonneg k (Int.ne_of_gt M0)
    have i1 := Int.emod_lt_of_pos k M0
    have at_ : atI (xs.map V.int ++ [V.int 0]) (k % mx (xs.map V.int).length) = some (.int ((xs ++ [0]).getD (k % mx (xs.map V.int).length).toNat 0)) := by
      have lb : ((xs ++ [0]).map V.int).length = xs.length + 1 := by rw [List.length_map, List.length_append, List.length_singleton]
      rw [app, atI_of i0 (by rw [lb]; omega), List.getElem?_map, some_of_lt 0 (by rw [List.length_append, List.length_singleton]; omega)]
      rfl
    refine ⟨_, rfl, h, _, _, _, rfl, rfl, SqL.of hh2, rfl, .inl ⟨_, rfl, _, rfl, h, _, _, _, rfl, rfl, SqL.of hh2, rfl, c, _, rfl, .inl (SqL.of hc2), _, _, rfl, _, _, rfl, rfl, M0, q2, _, _, _, rfl, rfl, SqL.of upd_same, at_, ?_⟩⟩
    · generalize hcell : (xs ++ [0]).getD (k % mx (xs.map V.int).length).toNat 0 = cell at *
      refine ⟨_, rfl, _, _, rfl, rfl, ⟨by omega, by omega, by decide⟩, _, _, rfl, rfl, _, rfl, ?_⟩
      by_cases big : (10 : Int) ^ (18 : Int).toNat ≤ cell
      · have lp : (k % mx (xs.map V.int).length).toNat < xs.length := by
          rcases Nat.lt_or_ge (k % mx (xs.map V.int).length).toNat xs.length with z | z
          · exact z
          · exfalso
            have e1 : (xs ++ [0]).getD (k % mx (xs.map V.int).length).toNat 0 = 0 := by
              rw [List.getD_eq_getElem?_getD, List.getElem?_append_right z]
              by_cases e2 : (k % mx (xs.map V.int).length).toNat - xs.length = 0
              · rw [e2]; rfl
              · rw [List.getElem?_eq_none (by rw [List.length_singleton]; omega)]; rfl
            rw [e1] at hcell
            rw [← hcell] at big
            exact absurd big (by decide)
        have eM : mx (xs.map V.int).length = xs.length := by
          rw [hM]
          split <;> omega
        refine ifT (decide_eq_true big) ⟨_, rfl, _, rfl, _, _, rfl, rfl, wide_div (b := 64) l0 (by omega) (by decide) (by decide), _, rfl, h, _, _, _, rfl, rfl, SqL.of hh2, rfl, _, rfl, h, _, _, _, rfl, rfl, SqL.of hh2, rfl, .inl ⟨_, rfl, _, rfl, h, _, _, _, rfl, rfl, SqL.of hh2, rfl, c, _, rfl, .inl (SqL.of hc2), _, _, rfl, rfl, by show (0 : Int) < ((xs.map V.int).length : Nat); rw [len]; omega, c, _, _, (k % mx (xs.map V.int).length).toNat, rfl, rfl, hc2, ?_, ?_⟩⟩
        · have eL : (((xs.map V.int).length : Nat) : Int) = mx (xs.map V.int).length := by rw [eM, len]
          show ixN _ (k % (((xs.map V.int).length : Nat) : Int)) = _
          rw [eL]
          exact ixN_of i0 (by rw [eL]; exact i1)
        · refine ⟨_, rfl, .inl ⟨_, rfl, _, rfl, _, _, rfl, rfl, l0, kk _ _ (D2.wrc _) ⟨m, k, xs.set (k % mx (xs.map V.int).length).toNat (cell / l), ?_, ?_, by rw [List.length_set]; exact hn⟩ (Int.emod_nonneg _ (by omega)) (Int.emod_lt_of_pos _ l0)⟩⟩
          · rw [upd_ne hne]; exact hh2
          · rw [upd_same, List.map_set]
      · refine ifF (decide_eq_false big) ?_
        refine ⟨_, rfl, h, _, _, _, rfl, rfl, SqL.of hh2, rfl, _, _, rfl, rfl, .inr ⟨by omega, by omega⟩, _, rfl, _, _, rfl, rfl, .inr ⟨by omega, by omega⟩, _, _, rfl, rfl, _, _, rfl, rfl, _, _, rfl, rfl, by show (0 : Int) < 2147483647; omega, _, rfl, h, _, _, 0, rfl, rfl, hh2, rfl, ?_⟩
        refine ⟨_, rfl, h, _, _, _, rfl, rfl, SqL.of upd_same, rfl, _, _, rfl, rfl, _, rfl, h, _, _, 2, rfl, rfl, upd_same, rfl, ?_⟩
        refine ⟨_, rfl, h, _, _, _, rfl, rfl, SqL.of upd_same, rfl, _, _, rfl, rfl, wide_div (b := 64) (by show (0 : Int) < 7; omega) (by decide) (by decide) (by decide), _, rfl, _, _, rfl, rfl, l0, kk _ _ ((D2.wrh _).wrh _) ⟨_, _, xs, upd_same, ?_, hn⟩ (Int.emod_nonneg _ (by omega)) (Int.emod_lt_of_pos _ l0)⟩
        rw [upd_ne (Ne.symm hne), upd_ne (Ne.symm hne)]
        exact hc2
end
end K14
/-! ## K14L2 -/
namespace K14
open PySem PySem.Spec PyProof.Rows L2
theorem pick2 {a b r : Int} (h0 : 0 ≤ r) (h1 : r < 5) : ∃ z, atI [V.int a, V.int b] (r / 4) = some (.int z) ∧ (z = a ∨ z = b) := by
  have : r = 0 ∨ r = 1 ∨ r = 2 ∨ r = 3 ∨ r = 4 := by omega
  rcases this with rfl | rfl | rfl | rfl | rfl
  · exact ⟨a, rfl, .inl rfl⟩
  · exact ⟨a, rfl, .inl rfl⟩
  · exact ⟨a, rfl, .inl rfl⟩
  · exact ⟨a, rfl, .inl rfl⟩
  · exact ⟨b, rfl, .inr rfl⟩
theorem pickB {a b r : Int} (h0 : 0 ≤ r) (h1 : r < 2) : ∃ z, atI [V.int a, V.int b] r = some (.int z) ∧ (z = a ∨ z = b) := by
  have : r = 0 ∨ r = 1 := by omega
  rcases this with rfl | rfl
  · exact ⟨a, rfl, .inl rfl⟩
  · exact ⟨b, rfl, .inr rfl⟩
theorem natInt {z : Int} (h : 0 ≤ z) : V.int z = V.int (z.toNat : Nat) := by rw [Int.toNat_of_nonneg h]
theorem entsTp {K : PySem.W.Frag} {H : Hp} (ro : List (Option Nat)) : TpAll K H (ro.map entV) (ro.map entD) := roTp ro
section
variable {P : Program} {w : World} {K : PySem.W.Frag} {mg : Str → Option Value} {base : Heap}
/-! ### _law_plan -/
def spLPlan (K : PySem.W.Frag) : Sp := fun vs H Q _ => ∃ (h c : Addr) (a b : Int), vs = [.ref h, .int a, .int b] ∧ DR h c H ∧ 0 < a ∧ a ≤ 12 ∧ 0 < b ∧ b ≤ 6 ∧ ∀ (H' : Hp) (r : V) (sz : List Nat) (rt : Rt), Dx h c H H' → DR h c H' → PlanOk sz rt → Tp K H' r (planD sz rt) → Q r H'
structure EntOk (n : Nat) (ro : List (Option Nat)) : Prop where
  all : ∀ k, some k ∈ ro → k < n
abbrev N_law_plan : List Str := ["_law_h", "_law_shelves", "_law_carriers", "_law_sizes", "_law_shelf", "_law_routes", "_law_carrier", "_law_entries", "_law_k"]
theorem sc_law_plan : FnScope N_law_plan ["_law_h", "_law_shelves", "_law_carriers"] (defScope t_law_plan) := ⟨rfl, rfl, rfl, by decide +kernel, rfl, by decide +kernel, by decide +kernel⟩
theorem ok_law_plan (T : Txt K mg) : Cal P w K mg base CX0 2 "_law_plan" ["_law_h", "_law_shelves", "_law_carriers"] (spLPlan K) := by
  have C_law_next : Cal P w K mg base CX0 1 _ _ _ := ok_law_next T
  refine T.d_law_plan.mk0 sc_law_plan (fun _ _ _ _ _ _ us hl => match us, hl with | [_, _, _], _ => rfl) (fun vs H Q E h => ?_) (fun f cdv A outer st H vs Q E hr h => ?_)
  · obtain ⟨_, _, _, _, rfl, _⟩ := h
    rfl
  · obtain ⟨h, c, a, b, rfl, d, a0, a1, b0, b1, kk⟩ := h
    refine ⟨_, ((pss_cons (ps_set (i := 3) sc_law_plan.nd rfl (Or.inl rfl) (pe_lst pa_nil))
    (pss_cons (ps_for PassesOwn.never rfl (pi_range1 (by rfl) T.f_range (pa_cons (pe_op op_add pe_int (pe_cal C_law_next (hr.mono (by decide)) rfl pass0 (pa_cons (pv 0) (pa_cons (pv 1) pa_nil)))) pa_nil)) (pg_name (i := 4) sc_law_plan.nd rfl (Or.inl rfl))
    (pss_one (ps_expr (k_append (K := K) (pv 3) (pa_cons (pe_ix (k_ixL (K := K)) (pe_lst (pa_cons (pe_cal C_law_next (hr.mono (by decide)) rfl pass0 (pa_cons (pv 0) (pa_cons pe_int pa_nil))) (pa_cons (pe_cal C_law_next (hr.mono (by decide)) rfl pass0 (pa_cons (pv 0) (pa_cons pe_int pa_nil))) pa_nil))) (pe_op op_fdiv (pe_cal C_law_next (hr.mono (by decide)) rfl pass0 (pa_cons (pv 0) (pa_cons pe_int pa_nil))) pe_int) (fun _ _ => rfl)) pa_nil)))))
    (pss_cons (ps_set (i := 5) sc_law_plan.nd rfl (Or.inl rfl) (pe_lst pa_nil))
    (pss_cons (ps_for PassesOwn.never rfl (pi_range1 (by rfl) T.f_range (pa_cons (pe_op op_add pe_int (pe_cal C_law_next (hr.mono (by decide)) rfl pass0 (pa_cons (pv 0) (pa_cons (pv 2) pa_nil)))) pa_nil)) (pg_name (i := 6) sc_law_plan.nd rfl (Or.inl rfl))
    (pss_cons (ps_set (i := 7) sc_law_plan.nd rfl (Or.inl rfl) (pe_lst pa_nil))
      (pss_cons (ps_for PassesOwn.never rfl (pi_range1 (by rfl) T.f_range (pa_cons (pe_op op_add pe_int (pe_cal C_law_next (hr.mono (by decide)) rfl pass0 (pa_cons (pv 0) (pa_cons (pe_ix (k_ixL (K := K)) (pe_lst (pa_cons pe_int (pa_cons pe_int pa_nil))) (pe_cal C_law_next (hr.mono (by decide)) rfl pass0 (pa_cons (pv 0) (pa_cons pe_int pa_nil))) (fun _ _ => rfl)) pa_nil)))) pa_nil)) (pg_name (i := 8) sc_law_plan.nd rfl (Or.inl rfl))
      (pss_one (ps_expr (k_append (K := K) (pv 7) (pa_cons (pe_ifExp (pt_cmpR op_eq (pe_cal C_law_next (hr.mono (by decide)) rfl pass0 (pa_cons (pv 0) (pa_cons pe_int pa_nil))) pe_int (nomark _)) pe_non (pe_cal C_law_next (hr.mono (by decide)) rfl pass0 (pa_cons (pv 0) (pa_cons (pe_callB (k_len (K := K)) (by rfl) T.f_len b_len (pa_cons (pv 3) pa_nil)) pa_nil)))) pa_nil)))))
      (pss_one (ps_expr (k_append (K := K) (pv 5) (pa_cons (pe_callTy (k_tuple (K := K)) (by rfl) T.f_tuple b_tuple (pa_cons (pv 7) pa_nil)) pa_nil)))))))
    (pss_one (ps_ret (pe_tup (pa_cons (pe_callTy (k_tuple (K := K)) (by rfl) T.f_tuple b_tuple (pa_cons (pv 3) pa_nil)) (pa_cons (pe_callTy (k_tuple (K := K)) (by rfl) T.f_tuple b_tuple (pa_cons (pv 5) pa_nil)) pa_nil)))))))))), ?_⟩
    refine ⟨Nat.zero_le _, fun D hD => ?_⟩
    have d1 := d.new hD (.lst [])
    have Dh := d.nh hD
    have Dc := d.nc hD
    have X1 := (Dx.refl h c H).new hD (.lst [])
    refine ⟨_, rfl, _, rfl, h, c, a, rfl, d1, a0, by omega, fun H1 n1 X2 d2 n10 n11 => ⟨_, _, rfl, rfl, ?_⟩⟩
    have X12 := X1.trans X2
    have hD1 := X2.own d1 (show upd H D (.lst []) D = some _ from upd_same) Dh Dc
    refine ⟨_, rfl, by omega, by omega, for_range (lo := 0) (n := (1 + n1).toNat) (fun i σ H' => ∃ u4, σ = [some (.ref h), some (.int a), some (.int b), some (.ref D), u4, none, none, none, none] ∧ Dx h c H H' ∧ DR h c H' ∧ ∃ ss : List Nat, ss.length = i ∧ (∀ z ∈ ss, z ≤ 9) ∧ H' D = some (.lst ((natsI ss).map V.int))) ⟨_, rfl, X12, d2, [], rfl, (fun _ hz => nomatch hz), hD1⟩ ?_ ?_⟩
    · rintro i σ H' hi ⟨u4, rfl, X, dd, ss, sl, s9, hl⟩
      refine ⟨_, rfl, .inl ⟨rfl, _, SqL.of hl⟩, _, rfl, h, c, 3, rfl, dd, by decide, by decide, fun H2 x1 Y1 e1 x10 x11 => ?_⟩
      refine ⟨_, rfl, h, c, 10, rfl, e1, by decide, by decide, fun H3 x2 Y2 e2 x20 x21 => ⟨leLine (show 2 ≤ 100000 by decide), fun L hL => ?_⟩⟩
      have e3 := e2.new hL (.lst [.int x1, .int x2])
      refine ⟨_, rfl, h, c, 5, rfl, e3, by decide, by decide, fun H4 x3 Y4 e4 x30 x31 => ?_⟩
      have hl4 : H4 D = some (.lst ((natsI ss).map V.int)) := Y4.own e3 (upd_keep (Y2.own e1 (Y1.own dd hl Dh Dc) Dh Dc) hL) Dh Dc
      have hL4 : H4 L = some (.lst [.int x1, .int x2]) := Y4.own e3 (show upd H3 L _ L = some _ from upd_same) (e2.nh hL) (e2.nc hL)
      obtain ⟨z, ez, hz⟩ := pick2 (a := x1) (b := x2) x30 x31
      have z0 : 0 ≤ z := by omega
      have z9 : z ≤ 9 := by omega
      refine ⟨_, _, rfl, rfl, ⟨by omega, by omega⟩, L, _, _, _, rfl, rfl, SqL.of hL4, ez, D, _, _, rfl, rfl, hl4, ltLine (by rw [natsI_len]; omega), ?_⟩
      refine ⟨_, rfl, ((X.trans Y1).trans (Y2.new hL _)).trans Y4 |>.wr hD _, e4.wr Dh Dc _, ss ++ [z.toNat], by rw [List.length_append, List.length_singleton, sl], fun y hy => ?_, ?_⟩
      · rcases List.mem_append.mp hy with q | q
        · exact s9 y q
        · obtain rfl := List.mem_singleton.mp q
          omega
      · rw [upd_same, natInt z0]
        unfold natsI
        rw [List.map_append, List.map_append]
        rfl
    · rintro σ H' ⟨u4, rfl, X, dd, ss, sl, s9, hl⟩
      refine ⟨Nat.zero_le _, fun R hR => ?_⟩
      have dR := dd.new hR (.lst [])
      have Rh := dd.nh hR
      have Rc := dd.nc hR
      have nR : H R = none := X.free d hR dd
      have RD : R ≠ D := fun z => by rw [z, hl] at hR; cases hR
      have hl2 := upd_keep (u := .lst []) hl hR
      refine ⟨_, rfl, _, rfl, h, c, b, rfl, dR, b0, by omega, fun H1 n2 X3 d3 n20 n21 => ⟨_, _, rfl, rfl, ?_⟩⟩
      have hl3 := X3.own dR hl2 Dh Dc
      have hR3 := X3.own dR (show upd H' R (.lst []) R = some _ from upd_same) Rh Rc
      refine ⟨_, rfl, by omega, by omega, for_range (lo := 0) (n := (1 + n2).toNat) (fun i σ H' => ∃ u6 u7 u8, σ = [some (.ref h), some (.int a), some (.int b), some (.ref D), u4, some (.ref R), u6, u7, u8] ∧ Dx h c H H' ∧ DR h c H' ∧ H' D = some (.lst ((natsI ss).map V.int)) ∧
          ∃ (rr : List V) (rt : Rt), rt.length = i ∧ (∀ ro ∈ rt, 1 ≤ ro.length ∧ ro.length ≤ 6 ∧ EntOk ss.length ro) ∧ H' R = some (.lst rr) ∧ TpAll K H' rr (rt.map roD)) ⟨_, _, _, rfl, (X.new hR _).trans X3, d3, hl3, [], [], rfl, (fun _ hz => nomatch hz), hR3, .nil⟩ ?_ ?_⟩
      · rintro i σ H2 hi ⟨u6, u7, u8, rfl, Y, e0, hlD, rr, rt, rl, rok, hlR, hrr⟩
        refine ⟨Nat.zero_le _, fun M hM => ?_⟩
        have dM := e0.new hM (.lst [])
        have Mh := e0.nh hM
        have Mc := e0.nc hM
        have nM : H M = none := Y.free d hM e0
        have MD : M ≠ D := fun z => by rw [z, hlD] at hM; cases hM
        have MR : M ≠ R := fun z => by rw [z, hlR] at hM; cases hM
        refine ⟨_, rfl, leLine (show 2 ≤ 100000 by decide), fun L hL => ?_⟩
        have dL := dM.new hL (.lst [.int 3, .int 6])
        refine ⟨_, rfl, h, c, 2, rfl, dL, by decide, by decide, fun H3 r3 Y3 e3 r30 r31 => ?_⟩
        have hL3 := Y3.own dL (show upd (upd H2 M (.lst [])) L (.lst [.int 3, .int 6]) L = some _ from upd_same) (dM.nh hL) (dM.nc hL)
        obtain ⟨z, ez, hz⟩ := pickB (a := 3) (b := 6) r30 r31
        refine ⟨L, _, _, _, rfl, rfl, SqL.of hL3, ez, h, c, z, rfl, e3, by omega, by omega, fun H4 r4 Y4 e4 r40 r41 => ⟨_, _, rfl, rfl, ?_⟩⟩
        have YY := ((Y.new hM _).new hL _).trans (Y3.trans Y4)
        have hlD4 := Y4.own e3 (Y3.own dL (upd_keep (upd_keep hlD hM) hL) Dh Dc) Dh Dc
        have hlR4 := Y4.own e3 (Y3.own dL (upd_keep (upd_keep hlR hM) hL) Rh Rc) Rh Rc
        have hlM4 := Y4.own e3 (Y3.own dL (upd_keep (show upd H2 M (.lst []) M = some _ from upd_same) hL) Mh Mc) Mh Mc
        have tm4 : Tm H2 H4 := (tmNew hM _).trans ((tmNew hL _).trans ((Y3.tm dL).trans (Y4.tm e3)))
        refine ⟨_, rfl, by omega, by omega, for_range (lo := 0) (n := (1 + r4).toNat) (fun j σ H' => ∃ u8, σ = [some (.ref h), some (.int a), some (.int b), some (.ref D), u4, some (.ref R), some (.int (0 + (i : Nat))), some (.ref M), u8] ∧ Dx h c H H' ∧ DR h c H' ∧ Tm H2 H' ∧ H' D = some (.lst ((natsI ss).map V.int)) ∧ H' R = some (.lst rr) ∧
            ∃ ro : List (Option Nat), ro.length = j ∧ EntOk ss.length ro ∧ H' M = some (.lst (ro.map entV))) ⟨_, rfl, YY, e4, tm4, hlD4, hlR4, [], rfl, ⟨fun _ hz => nomatch hz⟩, hlM4⟩ ?_ ?_⟩
        · rintro j σ H5 hj ⟨u8, rfl, Z, e5, tm5, hD5, hR5, ro, rl5, eo, hM5⟩
          refine ⟨_, rfl, .inl ⟨rfl, _, SqL.of hM5⟩, _, rfl, h, c, 5, rfl, e5, by decide, by decide, fun H6 r6 Y6 e6 r60 r61 => ⟨rfl, _, rfl, ?_⟩⟩
          have hM6 := Y6.own e5 hM5 Mh Mc
          have hD6 := Y6.own e5 hD5 Dh Dc
          have hR6 := Y6.own e5 hR5 Rh Rc
          by_cases q0 : r6 = 0
          · refine ifT (by rw [q0]; rfl) ⟨M, _, _, rfl, rfl, hM6, ltLine (by rw [List.length_map]; omega), _, rfl, (Z.trans Y6).wr nM _, e6.wr Mh Mc _, (tm5.trans (Y6.tm e5)).trans (tmLst hM6 _), ?_, ?_, ro ++ [none], by rw [List.length_append, List.length_singleton, rl5], ⟨fun k hk => ?_⟩, ?_⟩
            · rw [upd_ne (Ne.symm MD)]; exact hD6
            · rw [upd_ne (Ne.symm MR)]; exact hR6
            · rcases List.mem_append.mp hk with y | y
              · exact eo.all k y
              · cases List.mem_singleton.mp y
            · rw [upd_same, List.map_append]; rfl
          · refine ifF (by simp [q0]) ⟨_, rfl, _, rfl, D, _, rfl, .inl (SqL.of hD6), h, c, _, rfl, e6, by rw [natsI_len, sl]; omega, by rw [natsI_len, sl]; omega, fun H7 r7 Y7 e7 r70 r71 => ?_⟩
            rw [natsI_len] at r71
            have hM7 := Y7.own e6 hM6 Mh Mc
            have hD7 := Y7.own e6 hD6 Dh Dc
            have hR7 := Y7.own e6 hR6 Rh Rc
            refine ⟨M, _, _, rfl, rfl, hM7, ltLine (by rw [List.length_map]; omega), _, rfl, ((Z.trans Y6).trans Y7).wr nM _, e7.wr Mh Mc _, ((tm5.trans (Y6.tm e5)).trans (Y7.tm e6)).trans (tmLst hM7 _), ?_, ?_, ro ++ [some r7.toNat], by rw [List.length_append, List.length_singleton, rl5], ⟨fun k hk => ?_⟩, ?_⟩
            · rw [upd_ne (Ne.symm MD)]; exact hD7
            · rw [upd_ne (Ne.symm MR)]; exact hR7
            · rcases List.mem_append.mp hk with y | y
              · exact eo.all k y
              · have := Option.some.inj (List.mem_singleton.mp y)
                omega
            · rw [upd_same, List.map_append, natInt r70]; rfl
        · rintro σ H5 ⟨u8, rfl, Z, e5, tm5, hD5, hR5, ro, rl5, eo, hM5⟩
          refine ⟨_, rfl, .inl ⟨rfl, _, SqL.of hR5⟩, _, rfl, M, _, rfl, .inl ⟨SqL.of hM5, fun t ht => ?_⟩⟩
          have hR6 := upd_keep (u := .tup (ro.map entV)) hR5 ht
          have hD6 := upd_keep (u := .tup (ro.map entV)) hD5 ht
          have tR : t ≠ R := fun z => by rw [z, hR5] at ht; cases ht
          have lrr := tpLen hrr
          rw [List.length_map] at lrr
          refine ⟨R, rr, _, rfl, rfl, hR6, ltLine (by omega), _, _, _, rfl, (Z.new ht _).wr nR _, (e5.new ht _).wr Rh Rc _, ?_, rr ++ [.ref t], rt ++ [ro], by rw [List.length_append, List.length_singleton, rl], fun x hx => ?_, upd_same, ?_⟩
          · rw [upd_ne (Ne.symm RD)]; exact hD6
          · rcases List.mem_append.mp hx with y | y
            · exact rok x y
            · obtain rfl := List.mem_singleton.mp y
              exact ⟨by omega, by omega, eo⟩
          · rw [List.map_append]
            refine tpApp (tpKeepAll ((tm5.trans (tmNew ht _)).trans (tmLst hR6 _)) hrr) (.cons (.tup (xs := ro.map entV) (SqT.of ?_) (entsTp ro)) .nil)
            rw [upd_ne tR, upd_same]
      · rintro σ H2 ⟨u6, u7, u8, rfl, Y, e0, hlD, rr, rt, rl, rok, hlR, hrr⟩
        refine ⟨_, rfl, D, _, rfl, .inl ⟨SqL.of hlD, fun t1 ht1 => ?_⟩⟩
        have hR1 := upd_keep (u := .tup ((natsI ss).map V.int)) hlR ht1
        refine ⟨_, rfl, R, _, rfl, .inl ⟨SqL.of hR1, fun t2 ht2 => ⟨leLine (show 2 ≤ 100000 by decide), fun t3 ht3 => ?_⟩⟩⟩
        refine kk _ _ ss rt (((Y.new ht1 _).new ht2 _).new ht3 _) (((e0.new ht1 _).new ht2 _).new ht3 _) ⟨by omega, by omega, s9, by omega, by omega, fun ro hro => ⟨(rok ro hro).1, (rok ro hro).2.1⟩, fun ro hro k hk => (rok ro hro).2.2.all k hk⟩ ?_
        refine .tup (SqT.of upd_same) (.cons (.tup (xs := (natsI ss).map V.int) (SqT.of (upd_keep (upd_keep upd_same ht2) ht3)) (tpIntsMk _)) (.cons (.tup (xs := rr) (SqT.of (upd_keep upd_same ht3)) (tpKeepAll ((tmNew ht1 _).trans ((tmNew ht2 _).trans (tmNew ht3 _))) hrr)) .nil))
end
end K14
/-! ## K14L3 -/
namespace K14
open PySem PySem.Spec PyProof.Rows L2
theorem pow15 : (10 : Int) ^ (15 : Int).toNat = 1000000000000000 := by decide
theorem pick4 {a b d e r : Int} (h0 : 0 ≤ r) (h1 : r < 4) : ∃ z, atI [V.int a, V.int b, V.int d, V.int e] r = some (.int z) ∧ (z = a ∨ z = b ∨ z = d ∨ z = e) := by
  have : r = 0 ∨ r = 1 ∨ r = 2 ∨ r = 3 := by omega
  rcases this with rfl | rfl | rfl | rfl
  · exact ⟨a, rfl, .inl rfl⟩
  · exact ⟨b, rfl, .inr (.inl rfl)⟩
  · exact ⟨d, rfl, .inr (.inr (.inl rfl))⟩
  · exact ⟨e, rfl, .inr (.inr (.inr rfl))⟩
/-- the k-th parcel -/
def pfk (s u : Int) (k : Nat) : Int := 1 + (s + (1 + u) * (0 + (k : Int))) % 997
theorem pfk_range (s u : Int) (k : Nat) : 1 ≤ pfk s u k ∧ pfk s u k ≤ 999 := by
  unfold pfk
  have h0 := Int.emod_nonneg (s + (1 + u) * (0 + (k : Int))) (show (997 : Int) ≠ 0 by decide)
  have h1 := Int.emod_lt_of_pos (s + (1 + u) * (0 + (k : Int))) (show (0 : Int) < 997 by decide)
  omega
theorem pfk_inj {s u : Int} (s0 : 0 ≤ s) (u0 : 0 ≤ u) (u1 : u < 996) {i j : Nat} (hi : i < 997) (hj : j < 997) (e : pfk s u i = pfk s u j) : i = j := by
  unfold pfk at e
  have key : ∀ k : Nat, (s + (1 + u) * (0 + (k : Int))) % 997 = (((s.toNat + (1 + u).toNat * k) % 997 : Nat) : Int) := fun k => by
    rw [Int.natCast_emod, Int.natCast_add, Int.natCast_mul, Int.toNat_of_nonneg s0, Int.toNat_of_nonneg (by omega), Int.zero_add]
    rfl
  rw [key, key] at e
  exact par_inj (s := (1 + u).toNat) (a := s.toNat) (by omega) (by omega) hi hj (by omega)
def pfs (s u : Int) (n : Nat) : List Int := (List.range n).map (pfk s u)
theorem pfs_ok {sz : List Nat} {rt : Rt} {s u t : Int} (ok : PlanOk sz rt) (s0 : 0 ≤ s) (u0 : 0 ≤ u) (u1 : u < 996) (t0 : -1000000000000000 ≤ t) (t1 : t ≤ 1000000000000000) : StOk sz rt t (pfs s u (nn sz rt)) := by
  have nle := ok.n_le
  refine ⟨by unfold pfs; rw [List.length_map, List.length_range], ?_, fun x hx => ?_, by omega, by omega⟩
  · unfold pfs
    rw [List.nodup_iff_pairwise_ne, List.pairwise_map]
    refine List.Pairwise.imp_of_mem (fun {i j} hi hj h e => h (pfk_inj s0 u0 u1 (by have := List.mem_range.mp hi; omega) (by have := List.mem_range.mp hj; omega) e)) List.nodup_range
  · unfold pfs at hx
    obtain ⟨k, _, rfl⟩ := List.mem_map.mp hx
    exact pfk_range s u k
theorem inNv (i : Nat) (l : List Nat) : inV (nv i) (l.map nv) = decide (i ∈ l) := by
  unfold inV
  by_cases h : i ∈ l
  · rw [decide_eq_true h, List.any_eq_true]
    exact ⟨nv i, List.mem_map.mpr ⟨i, h, rfl⟩, by simp [nv, eqV]⟩
  · rw [decide_eq_false h, List.any_eq_false]
    intro x hx
    obtain ⟨j, hj, rfl⟩ := List.mem_map.mp hx
    simp only [nv, eqV, beq_iff_eq]
    intro e
    exact h (Int.ofNat.inj e ▸ hj)
theorem nvFlat (l : List Nat) : (l.map nv).all flatV = true := by
  rw [List.all_eq_true]
  intro x hx
  obtain ⟨j, _, rfl⟩ := List.mem_map.mp hx
  rfl
section
variable {P : Program} {w : World} {K : PySem.W.Frag} {mg : Str → Option Value} {base : Heap}
/-! ### _law_state -/
def spLState (K : PySem.W.Frag) : Sp := fun vs H Q _ => ∃ (h c : Addr) (v : V) (sz : List Nat) (rt : Rt), vs = [.ref h, v] ∧ DR h c H ∧ Tp K H v (planD sz rt) ∧ PlanOk sz rt ∧ ∀ (H' : Hp) (r : V) (t : Int) (xs : List Int), Dx h c H H' → DR h c H' → StOk sz rt t xs → -1000000000000000 ≤ t → t ≤ 1000000000000000 → Tp K H' r (stD sz rt.length t xs) → Q r H'
abbrev N_law_state : List Str := ["_law_h", "_law_plan_here", "_law_start", "_law_step_here", "_law_parcels", "_law_time", "_law_carried", "_law_shelves", "_law_spot", "_law_size", "_law_k"]
theorem sc_law_state : FnScope N_law_state ["_law_h", "_law_plan_here"] (defScope t_law_state) := ⟨rfl, rfl, rfl, by decide +kernel, rfl, by decide +kernel, by decide +kernel⟩
theorem ok_law_state (T : Txt K mg) : Cal P w K mg base CX0 2 "_law_state" ["_law_h", "_law_plan_here"] (spLState K) := by
  have C_law_next : Cal P w K mg base CX0 1 _ _ _ := ok_law_next T
  refine T.d_law_state.mk0 sc_law_state (fun _ _ _ _ _ _ us hl => match us, hl with | [_, _], _ => rfl) (fun vs H Q E h => ?_) (fun f cdv A outer st H vs Q E hr h => ?_)
  · obtain ⟨_, _, _, _, _, rfl, _⟩ := h
    rfl
  · obtain ⟨h, c, v, sz, rt, rfl, d, hv, ok, kk⟩ := h
    obtain ⟨a, sa, ra, rr, PA⟩ := planInv hv
    obtain rfl := PA.ev
    refine ⟨_, ((pss_cons (ps_asg (pe_tup (pa_cons (pe_cal C_law_next (hr.mono (by decide)) rfl pass0 (pa_cons (pv 0) (pa_cons pe_int pa_nil))) (pa_cons (pe_op op_add pe_int (pe_cal C_law_next (hr.mono (by decide)) rfl pass0 (pa_cons (pv 0) (pa_cons pe_int pa_nil)))) pa_nil))) (kg_tup (K := K) rfl (pgs_cons (pg_name (i := 2) sc_law_state.nd rfl (Or.inr rfl)) (pgs_cons (pg_name (i := 3) sc_law_state.nd rfl (Or.inr rfl)) pgs_nil))))
    (pss_cons (ps_setLc (i := 4) (own := [("_law_k", 10)]) (g := gName 10) (tt := tYes) rfl sc_law_state.nd rfl rfl (sw_true rfl rfl rfl (by decide +kernel)) (pi_range1 (by rfl) T.f_range (pa_cons (pe_op op_add (pe_callB (k_len (K := K)) (by rfl) T.f_len b_len (pa_cons (pe_ix (k_ixT (K := K)) (pv 1) pe_int (fun _ _ => rfl)) pa_nil)) (pe_callB (k_sumT (K := K) rfl) (by rfl) T.f_sum b_sum (pa_cons (pe_ix (k_ixT (K := K)) (pv 1) pe_int (fun _ _ => rfl)) pa_nil))) pa_nil)) (blkOk_by (N := N_law_state) (sc := defScope t_law_state) (by decide +kernel)) (fun _ _ _ _ _ => pg_name (i := 10) sc_law_state.nd rfl (Or.inl rfl)) (fun _ _ _ _ _ => pts_nil) (fun _ _ _ _ _ => (pe_op op_add pe_int (pe_op op_mod (pe_callTy call_int1 (by rfl) T.f_int b_int (pa_cons (pe_op op_add (pv 2) (pe_op op_mul (pv 3) (pv 10))) pa_nil)) pe_int))))
    (pss_cons (ps_set (i := 5) sc_law_state.nd rfl (Or.inl rfl) (pe_ix (k_ixL (K := K)) (pe_lst (pa_cons pe_int (pa_cons (pe_cal C_law_next (hr.mono (by decide)) rfl pass0 (pa_cons (pv 0) (pa_cons pe_int pa_nil))) (pa_cons (pe_op op_sub pe_int (pe_cal C_law_next (hr.mono (by decide)) rfl pass0 (pa_cons (pv 0) (pa_cons pe_int pa_nil)))) (pa_cons (pe_op op_sub (pe_op op_pow pe_int pe_int) (pe_cal C_law_next (hr.mono (by decide)) rfl pass0 (pa_cons (pv 0) (pa_cons (pe_op op_pow pe_int pe_int) pa_nil)))) pa_nil))))) (pe_cal C_law_next (hr.mono (by decide)) rfl pass0 (pa_cons (pv 0) (pa_cons pe_int pa_nil))) (fun _ _ => rfl)))
    (pss_cons (ps_par3 (i := 6) (j := 7) (l := 8) (by rfl) sc_law_state.nd rfl rfl rfl (by decide) (by decide) (by decide) rfl rfl rfl (pa_cons (pe_callTy (k_tuple (K := K)) (by rfl) T.f_tuple b_tuple (pa_cons (pe_slice (k_slL (K := K)) (pv 4) po_none (po_some (pe_callB (k_len (K := K)) (by rfl) T.f_len b_len (pa_cons (pe_ix (k_ixT (K := K)) (pv 1) pe_int (fun _ _ => rfl)) pa_nil)))) pa_nil)) (pa_cons (pe_lst pa_nil) (pa_cons (pe_callB (k_len (K := K)) (by rfl) T.f_len b_len (pa_cons (pe_ix (k_ixT (K := K)) (pv 1) pe_int (fun _ _ => rfl)) pa_nil)) pa_nil))) (by rfl))
    (pss_cons (ps_for PassesOwn.never rfl (ki_tup (K := K) (pe_ix (k_ixT (K := K)) (pv 1) pe_int (fun _ _ => rfl))) (pg_name (i := 9) sc_law_state.nd rfl (Or.inl rfl))
    (pss_cons (ps_expr (k_append (K := K) (pv 7) (pa_cons (pe_callTy (k_tuple (K := K)) (by rfl) T.f_tuple b_tuple (pa_cons (pe_slice (k_slL (K := K)) (pv 4) (po_some (pv 8)) (po_some (pe_op op_add (pv 8) (pv 9)))) pa_nil)) pa_nil)))
      (pss_one (ps_set (i := 8) sc_law_state.nd rfl (Or.inl rfl) (pe_op op_add (pv 8) (pv 9))))))
    (pss_one (ps_ret (pe_tup (pa_cons (pv 5) (pa_cons (pv 6) (pa_cons (pe_callTy (k_tuple (K := K)) (by rfl) T.f_tuple b_tuple (pa_cons (pv 7) pa_nil)) pa_nil)))))))))))), ?_⟩
    have lrt := PA.rlen
    have nle : rt.length + sz.sum ≤ 114 := ok.n_le
    refine ⟨_, rfl, h, c, 997, rfl, d, by decide, by decide, fun H1 s X1 d1 s0 s1 => ?_⟩
    refine ⟨_, rfl, h, c, 996, rfl, d1, by decide, by decide, fun H2 u X2 d2 u0 u1 => ⟨_, _, rfl, rfl, leLine (show 2 ≤ 100000 by decide), fun T0 hT0 => ?_⟩⟩
    have X3 := (X1.trans X2).new hT0 (.tup [.int s, .int (1 + u)])
    have d3 := d2.new hT0 (.tup [.int s, .int (1 + u)])
    refine ⟨T0, _, rfl, SqT.of upd_same, rfl, _, _, rfl, _, _, rfl, rfl, ?_⟩
    have PA3 := PA.keep (X3.tm d)
    refine ⟨_, rfl, a, _, _, _, rfl, rfl, PA3.top, rfl, ra, rr, rfl, .inr PA3.rts, _, rfl, a, _, _, _, rfl, rfl, PA3.top, rfl, sa, natsI sz, rfl, PA3.szs, _, _, rfl, rfl, _, rfl, by rw [natsI_sum, lrt]; omega, by rw [natsI_sum, lrt]; omega, fun D hD => ?_⟩
    have nD : H D = none := X3.free d hD d3
    have Dh := d3.nh hD
    have Dc := d3.nc hD
    refine lc_range (lo := 0) (n := (((rr.length : Nat) : Int) + (natsI sz).sum).toNat) (fun i H' => Same (upd H2 T0 (.tup [.int s, .int (1 + u)])) H' ∧ H' D = some (.lst ((pfs s u i).map V.int))) ⟨sNew (Same.refl _) hD _, upd_same⟩ ?_ ?_
    · rintro i H' hi ⟨s5, hl⟩
      rw [natsI_sum, lrt] at hi
      refine ⟨rfl, yesT ⟨_, rfl, _, rfl, _, rfl, _, _, rfl, rfl, .inl ⟨by omega, by omega⟩, _, _, rfl, rfl, .inl ⟨_, rfl, _, _, rfl, rfl, by show (0 : Int) < 997; omega, _, _, rfl, rfl, _, hl, ltLine (by unfold pfs; rw [List.length_map, List.length_map, List.length_range]; omega), sWr s5 hD _, ?_⟩⟩⟩
      rw [upd_same]
      unfold pfs
      rw [List.range_succ, List.map_append, List.map_append]
      rfl
    · rintro H4 ⟨s4, hl4⟩
      have en : (((rr.length : Nat) : Int) + (natsI sz).sum).toNat = nn sz rt := by rw [natsI_sum, lrt]; show _ = rt.length + sz.sum; omega
      rw [en] at hl4
      have X4 := X3.same s4
      have d4 := d3.same s4
      -- the time
      refine ⟨_, rfl, h, c, 50, rfl, d4, by decide, by decide, fun H5 t1 Y5 d5 t10 t11 => ?_⟩
      refine ⟨_, rfl, h, c, 50, rfl, d5, by decide, by decide, fun H6 t2 Y6 d6 t20 t21 => ⟨_, _, rfl, rfl, ?_⟩⟩
      refine ⟨_, _, rfl, rfl, ⟨by decide, by decide, by decide⟩, _, rfl, _, _, rfl, rfl, ⟨by decide, by decide, by decide⟩, h, c, _, rfl, d6, by rw [pow15]; decide, by rw [pow15]; decide, fun H7 t3 Y7 d7 t30 t31 => ⟨_, _, rfl, rfl, leLine (show 4 ≤ 100000 by decide), fun L hL => ?_⟩⟩
      rw [pow15] at t31 ⊢
      have d7L := d7.new hL (.lst [.int 0, .int t1, .int (0 - t2), .int (1000000000000000 - t3)])
      refine ⟨_, rfl, h, c, 4, rfl, d7L, by decide, by decide, fun H8 r8 Y8 d8 r80 r81 => ?_⟩
      have hL8 := Y8.own d7L (show upd H7 L _ L = some _ from upd_same) (d7.nh hL) (d7.nc hL)
      obtain ⟨t, et, ht⟩ := pick4 (a := 0) (b := t1) (d := 0 - t2) (e := 1000000000000000 - t3) r80 r81
      refine ⟨L, _, _, _, rfl, rfl, SqL.of hL8, et, ?_⟩
      have tlo : -1000000000000000 ≤ t := by omega
      have thi : t ≤ 1000000000000000 := by omega
      have so := pfs_ok (t := t) ok s0 u0 u1 tlo thi
      have X8 := (((X4.trans Y5).trans Y6).trans Y7).new hL (.lst [.int 0, .int t1, .int (0 - t2), .int (1000000000000000 - t3)]) |>.trans Y8
      have hD8 : H8 D = some (.lst ((pfs s u (nn sz rt)).map V.int)) := Y8.own d7L (upd_keep (Y7.own d6 (Y6.own d5 (Y5.own d4 hl4 Dh Dc) Dh Dc) Dh Dc) hL) Dh Dc
      have PA8 := PA.keep (X8.tm d)
      generalize hxs : pfs s u (nn sz rt) = xs at *
      have lx : xs.length = rt.length + sz.sum := so.len
      have cut := cut_take (xs.map V.int) rt.length (by rw [List.length_map]; omega)
      -- carried, shelves, spot
      refine ⟨_, rfl, _, rfl, a, _, _, _, rfl, rfl, PA8.top, rfl, ra, rr, rfl, .inr PA8.rts, _, rfl, D, _, rfl, SqL.of hD8, fun q hq => ?_⟩
      rw [lrt, cut, ← List.map_take]
      refine ⟨q, _, rfl, .inl ⟨SqL.of upd_same, fun q2 hq2 => ?_⟩⟩
      have hD9 := upd_keep (u := .tup ((xs.take rt.length).map V.int)) (upd_keep (u := .lst ((xs.take rt.length).map V.int)) hD8 hq) hq2
      have X9 := (X8.new hq (.lst ((xs.take rt.length).map V.int))).new hq2 (.tup ((xs.take rt.length).map V.int))
      have d9 := (d8.new hq (.lst ((xs.take rt.length).map V.int))).new hq2 (.tup ((xs.take rt.length).map V.int))
      refine ⟨Nat.zero_le _, fun S hS => ?_⟩
      have hD10 := upd_keep (u := .lst []) hD9 hS
      have X10 := X9.new hS (.lst [])
      have d10 := d9.new hS (.lst [])
      have hq10 := upd_keep (u := .lst []) (show upd (upd H8 q (.lst ((xs.take rt.length).map V.int))) q2 (.tup ((xs.take rt.length).map V.int)) q2 = _ from upd_same) hS
      have PA10 := PA.keep (X10.tm d)
      have SD : S ≠ D := fun z => by rw [z, hD9] at hS; cases hS
      refine ⟨_, rfl, a, _, _, _, rfl, rfl, PA10.top, rfl, ra, rr, rfl, .inr PA10.rts, ?_⟩
      have hS10 := (show upd (upd (upd H8 q (.lst ((xs.take rt.length).map V.int))) q2 (.tup ((xs.take rt.length).map V.int))) S (.lst []) S = _ from upd_same)
      have nS : H S = none := X9.free d hS d9
      have Sh_ := d9.nh hS
      have Sc_ := d9.nc hS
      refine ⟨_, _, _, rfl, ?_⟩
      refine ⟨_, rfl, a, _, _, _, rfl, rfl, PA10.top, rfl, sa, rfl, ⟨_, PA10.szs⟩, for_tup (K := K) (a := sa) (xs := (natsI sz).map V.int) (fun i σ H' => ∃ u9, σ = [some (.ref h), some (.ref a), some (.int s), some (.int (1 + u)), some (.ref D), some (.int t), some (.ref q2), some (.ref S), some (.int (rt.length + (sz.take i).sum : Nat)), u9, none] ∧ Dx h c H H' ∧ DR h c H' ∧ H' D = some (.lst (xs.map V.int)) ∧ H' q2 = some (.tup ((xs.take rt.length).map V.int)) ∧ ∃ ys, H' S = some (.lst ys) ∧ TpAll K H' ys ((List.range i).map fun s => intsD (chunk sz rt.length xs s)))
        ⟨_, by rw [lrt, List.take_zero]; rfl, X10, d10, hD10, hq10, [], hS10, .nil⟩ (fun i σ H' _ hp' => sqTm (hp'.choose_spec.2.1.tm d) PA.szs) ?_ ?_⟩
      · rintro i x σ H' hx2 ⟨u9, rfl, X, dd, hDD, hqq, ys, hl, hys⟩
        obtain ⟨li, rfl⟩ := natsI_get hx2
        have tl := take_sum_le li
        have ly := tpLen hys
        rw [List.length_map, List.length_range] at ly
        have s2 := ok.s2
        have cutc : cutV (xs.map V.int) (some ((rt.length + (sz.take i).sum : Nat) : Int)) (some (((rt.length + (sz.take i).sum : Nat) : Int) + (sz.getD i 0 : Nat))) = (chunk sz rt.length xs i).map V.int := by
          have := cut_two (xs.map V.int) (rt.length + (sz.take i).sum) (rt.length + (sz.take i).sum + sz.getD i 0) (by rw [List.length_map]; omega) (by rw [List.length_map]; omega)
          rw [Nat.add_sub_cancel_left] at this
          unfold chunk
          rw [List.map_take, List.map_drop, ← this]
          rfl
        refine ⟨_, rfl, .inl ⟨rfl, _, SqL.of hl⟩, _, rfl, _, rfl, _, rfl, _, rfl, _, rfl, _, _, rfl, rfl, _, rfl, D, _, rfl, SqL.of hDD, fun p hp => ?_⟩
        rw [cutc]
        have hl6 := upd_keep (u := .lst ((chunk sz rt.length xs i).map V.int)) hl hp
        have hD6 := upd_keep (u := .lst ((chunk sz rt.length xs i).map V.int)) hDD hp
        have hq6 := upd_keep (u := .lst ((chunk sz rt.length xs i).map V.int)) hqq hp
        refine ⟨p, _, rfl, .inl ⟨SqL.of upd_same, fun p2 hp2 => ?_⟩⟩
        have hl7 := upd_keep (u := .tup ((chunk sz rt.length xs i).map V.int)) hl6 hp2
        have hD7 := upd_keep (u := .tup ((chunk sz rt.length xs i).map V.int)) hD6 hp2
        have hq7 := upd_keep (u := .tup ((chunk sz rt.length xs i).map V.int)) hq6 hp2
        have p2S : p2 ≠ S := fun z => by rw [z, hl6] at hp2; cases hp2
        have qS : q2 ≠ S := fun z => by rw [z, hl7] at hq7; cases hq7
        refine ⟨S, ys, _, rfl, rfl, hl7, ltLine (by omega), ?_⟩
        refine ⟨_, rfl, _, rfl, _, _, rfl, rfl, some (.int (sz.getD i 0 : Nat)), ?_, ((X.new hp _).new hp2 _).wr nS _, ((dd.new hp _).new hp2 _).wr Sh_ Sc_ _, ?_, ?_, _, upd_same, ?_⟩
        · rw [show rt.length + (sz.take (i + 1)).sum = rt.length + (sz.take i).sum + sz.getD i 0 by rw [take_more (some_of_lt 0 li), List.sum_append]; simp; omega]
          rfl
        · rw [upd_ne (Ne.symm SD)]; exact hD7
        · rw [upd_ne qS]; exact hq7
        · rw [List.range_succ, List.map_append]
          refine tpApp (tpKeepAll ((tmNew hp _).trans ((tmNew hp2 _).trans (tmLst hl7 _))) hys) (.cons (.tup (xs := (chunk sz rt.length xs i).map V.int) (SqT.of ?_) (tpIntsMk _)) .nil)
          rw [upd_ne p2S, upd_same]
      · rintro σ H' ⟨u9, rfl, X, dd, hDD, hqq, ys, hl, hys⟩
        rw [natsI_len] at hys
        refine ⟨_, rfl, _, rfl, _, rfl, S, _, rfl, .inl ⟨SqL.of hl, fun q3 hq3 => ⟨leLine (show 3 ≤ 100000 by decide), fun q4 hq4 => ?_⟩⟩⟩
        refine kk _ _ t xs ((X.new hq3 _).new hq4 _) ((dd.new hq3 _).new hq4 _) so tlo thi (.tup (SqT.of upd_same) (.cons (.int t) (.cons (.tup (xs := (xs.take rt.length).map V.int) (SqT.of (upd_keep (upd_keep hqq hq3) hq4)) (tpIntsMk _)) (.cons (.tup (xs := ys) (SqT.of (upd_keep upd_same hq4)) (tpKeepAll ((tmNew hq3 _).trans (tmNew hq4 _)) hys)) .nil))))
/-! ### _law_mixed -/
def spMixd (K : PySem.W.Frag) : Sp := fun vs H Q _ => ∃ (h c : Addr) (v : V) (n : Int) (xs : List Int), vs = [.ref h, v, .int n] ∧ DR h c H ∧ Tp K H v (intsD xs) ∧ xs.Nodup ∧ 1 ≤ xs.length ∧ xs.length ≤ 114 ∧ 0 ≤ n ∧ n ≤ 1000 ∧ ∀ (H' : Hp) (r : V) (gl : List Int), Dx h c H H' → DR h c H' → gl.Perm xs → Tp K H' r (intsD gl) → Q r H'
abbrev N_law_mixed : List Str := ["_law_h", "_law_row", "_law_changes", "_law_found", "_law_k", "_law_one", "_law_other"]
theorem sc_law_mixed : FnScope N_law_mixed ["_law_h", "_law_row", "_law_changes"] (defScope t_law_mixed) := ⟨rfl, rfl, rfl, by decide +kernel, rfl, by decide +kernel, by decide +kernel⟩
theorem ok_law_mixed (T : Txt K mg) : Cal P w K mg base CX0 2 "_law_mixed" ["_law_h", "_law_row", "_law_changes"] (spMixd K) := by
  have C_law_next : Cal P w K mg base CX0 1 _ _ _ := ok_law_next T
  refine T.d_law_mixed.mk0 sc_law_mixed (fun _ _ _ _ _ _ us hl => match us, hl with | [_, _, _], _ => rfl) (fun vs H Q E h => ?_) (fun f cdv A outer st H vs Q E hr h => ?_)
  · obtain ⟨_, _, _, _, _, rfl, _⟩ := h
    rfl
  · obtain ⟨h, c, v, n, xs, rfl, d, hv, nd, l1, l2, n0, n1, kk⟩ := h
    obtain ⟨a, as, rfl, ha, has⟩ := tpTup hv
    rw [tpInts has] at ha
    refine ⟨_, ((pss_cons (ps_set (i := 3) sc_law_mixed.nd rfl (Or.inl rfl) (pe_callTy (k_list (K := K)) (by rfl) T.f_list b_list (pa_cons (pv 1) pa_nil)))
    (pss_cons (ps_for PassesOwn.never rfl (pi_range1 (by rfl) T.f_range (pa_cons (pv 2) pa_nil)) (pg_name (i := 4) sc_law_mixed.nd rfl (Or.inl rfl))
    (pss_cons (ps_par (i := 5) (j := 6) (by rfl) sc_law_mixed.nd rfl rfl (by decide) rfl rfl (pa_cons (pe_cal C_law_next (hr.mono (by decide)) rfl pass0 (pa_cons (pv 0) (pa_cons (pe_callB (k_len (K := K)) (by rfl) T.f_len b_len (pa_cons (pv 3) pa_nil)) pa_nil))) (pa_cons (pe_cal C_law_next (hr.mono (by decide)) rfl pass0 (pa_cons (pv 0) (pa_cons (pe_callB (k_len (K := K)) (by rfl) T.f_len b_len (pa_cons (pv 3) pa_nil)) pa_nil))) pa_nil)) (by rfl))
      (pss_one (ps_asg (pe_tup (pa_cons (pe_ix (k_ixL (K := K)) (pv 3) (pv 6) (fun _ _ => rfl)) (pa_cons (pe_ix (k_ixL (K := K)) (pv 3) (pv 5) (fun _ _ => rfl)) pa_nil))) (kg_tup (K := K) rfl (pgs_cons (pg_sub (pv 3) (pv 5) set_list) (pgs_cons (pg_sub (pv 3) (pv 6) set_list) pgs_nil)))))))
    (pss_one (ps_ret (pe_callTy (k_tuple (K := K)) (by rfl) T.f_tuple b_tuple (pa_cons (pv 3) pa_nil))))))), ?_⟩
    refine ⟨_, rfl, a, _, rfl, .inr ha, fun D hD => ?_⟩
    have d1 := d.new hD (.lst (xs.map V.int))
    have X1 := (Dx.refl h c H).new hD (.lst (xs.map V.int))
    have Dh := d.nh hD
    have Dc := d.nc hD
    refine ⟨_, rfl, _, rfl, by omega, by omega, for_range (lo := 0) (n := n.toNat) (fun i σ H' => ∃ u4 u5 u6, σ = [some (.ref h), some (.ref a), some (.int n), some (.ref D), u4, u5, u6] ∧ Dx h c H H' ∧ DR h c H' ∧ ∃ ys : List Int, ys.Perm xs ∧ H' D = some (.lst (ys.map V.int))) ⟨_, _, _, rfl, X1, d1, xs, .refl _, upd_same⟩ ?_ ?_⟩
    · rintro i σ H' hi ⟨u4, u5, u6, rfl, X, dd, ys, pm, hl⟩
      have ly : ys.length = xs.length := pm.length_eq
      have lm : (ys.map V.int).length = xs.length := by rw [List.length_map, ly]
      refine ⟨_, rfl, _, rfl, D, _, rfl, .inl (SqL.of hl), h, c, _, rfl, dd, by rw [lm]; omega, by rw [lm]; omega, fun H2 r1 Y2 d2 r10 r11 => ?_⟩
      have hl2 := Y2.own dd hl Dh Dc
      refine ⟨_, rfl, _, rfl, D, _, rfl, .inl (SqL.of hl2), h, c, _, rfl, d2, by rw [lm]; omega, by rw [lm]; omega, fun H3 r2 Y3 d3 r20 r21 => ⟨_, _, rfl, ?_⟩⟩
      have hl3 := Y3.own d2 hl2 Dh Dc
      rw [lm] at r11 r21
      have q1 : r1.toNat < ys.length := by omega
      have q2 : r2.toNat < ys.length := by omega
      have a1 : atI (ys.map V.int) r1 = some (.int (ys.getD r1.toNat 0)) := by rw [atI_of r10 (by rw [lm]; exact r11), List.getElem?_map, some_of_lt 0 q1]; rfl
      have a2 : atI (ys.map V.int) r2 = some (.int (ys.getD r2.toNat 0)) := by rw [atI_of r20 (by rw [lm]; exact r21), List.getElem?_map, some_of_lt 0 q2]; rfl
      refine ⟨_, rfl, _, rfl, D, _, _, _, rfl, rfl, SqL.of hl3, a2, _, rfl, _, rfl, D, _, _, _, rfl, rfl, SqL.of hl3, a1, leLine (show 2 ≤ 100000 by decide), fun T2 hT2 => ?_⟩
      have hl7 := upd_keep (u := .tup [.int (ys.getD r2.toNat 0), .int (ys.getD r1.toNat 0)]) hl3 hT2
      refine ⟨T2, _, rfl, SqT.of upd_same, rfl, _, _, rfl, ⟨_, rfl, _, rfl, D, _, _, r1.toNat, rfl, rfl, hl7, ixN_of r10 (by rw [lm]; exact r11), _, _, rfl, ⟨_, rfl, _, rfl, D, _, _, r2.toNat, rfl, rfl, upd_same, ixN_of r20 (by rw [List.length_set, lm]; exact r21), rfl, ?_⟩⟩⟩
      have X4 := (((X.trans Y2).trans Y3).new hT2 (.tup [.int (ys.getD r2.toNat 0), .int (ys.getD r1.toNat 0)])).wr hD (.lst ((ys.map V.int).set r1.toNat (.int (ys.getD r2.toNat 0)))) |>.wr hD (.lst (((ys.map V.int).set r1.toNat (.int (ys.getD r2.toNat 0))).set r2.toNat (.int (ys.getD r1.toNat 0))))
      refine ⟨_, _, _, rfl, X4, ((d3.new hT2 _).wr Dh Dc _).wr Dh Dc _, swapAt ys r1.toNat r2.toNat, (swapAt_perm (pm.nodup_iff.mpr nd) q1 q2).trans pm, ?_⟩
      rw [upd_same]
      unfold swapAt
      rw [List.map_set, List.map_set]
    · rintro σ H' ⟨u4, u5, u6, rfl, X, dd, ys, pm, hl⟩
      exact ⟨_, rfl, D, _, rfl, .inl ⟨SqL.of hl, fun q hq => kk _ _ ys (X.new hq _) (dd.new hq _) pm (.tup (SqT.of upd_same) (tpIntsMk _))⟩⟩
/-! ### _law_wheels -/
def spWhl (K : PySem.W.Frag) : Sp := fun vs H Q _ => ∃ (u v : V) (later goal : List Int) (n : Nat), vs = [u, v] ∧ Tp K H u (intsD later) ∧ FzT H u ∧ Tp K H v (intsD goal) ∧ Mate n goal later ∧ n ≤ 114 ∧ ∀ H', Same H H' → Q (.int (cnt (Rel (tau n goal later)) (List.range n) : Nat)) H'
abbrev N_law_wheels : List Str := ["_law_one", "_law_other", "_law_found", "_law_seen_here", "_law_start", "_law_spot"]
theorem sc_law_wheels : FnScope N_law_wheels ["_law_one", "_law_other"] (defScope t_law_wheels) := ⟨rfl, rfl, rfl, by decide +kernel, rfl, by decide +kernel, by decide +kernel⟩
theorem ok_law_wheels (T : Txt K mg) : Cal P w K mg base CX0 1 "_law_wheels" ["_law_one", "_law_other"] (spWhl K) := by
  refine T.d_law_wheels.mk0 sc_law_wheels (fun _ _ _ _ _ _ us hl => match us, hl with | [_, _], _ => rfl) (fun vs H Q E h => ?_) (fun f cdv A outer st H vs Q E hr h => ?_)
  · obtain ⟨_, _, _, _, _, rfl, _⟩ := h
    rfl
  · obtain ⟨u, v, later, goal, n, rfl, hu, hfz, hv, M, hn, kk⟩ := h
    obtain ⟨a, as, rfl, ha, has⟩ := tpTup hu
    rw [tpInts has] at ha
    obtain ⟨fa, fob, fxs, efz, hfz, fnd⟩ := hfz
    obtain ⟨b, bs, rfl, hb, hbs⟩ := tpTup hv
    rw [tpInts hbs] at hb
    refine ⟨_, ((pss_cons (ps_par (i := 2) (j := 3) (by rfl) sc_law_wheels.nd rfl rfl (by decide) rfl rfl (pa_cons pe_int (pa_cons (pe_lst pa_nil) pa_nil)) (by rfl))
    (pss_cons (ps_for PassesOwn.never rfl (pi_range1 (by rfl) T.f_range (pa_cons (pe_callB (k_len (K := K)) (by rfl) T.f_len b_len (pa_cons (pv 0) pa_nil)) pa_nil)) (pg_name (i := 4) sc_law_wheels.nd rfl (Or.inl rfl))
    (pss_one (ps_if (pt_cmpR (k_notin (K := K)) (pv 4) (pv 3) (by rfl))
      (pss_cons (ps_par (i := 2) (j := 5) (by rfl) sc_law_wheels.nd rfl rfl (by decide) rfl rfl (pa_cons (pe_op op_add (pv 2) pe_int) (pa_cons (pv 4) pa_nil)) (by rfl))
        (pss_one (ps_while PassesOwn.never (pt_cmpR (k_notin (K := K)) (pv 5) (pv 3) (by rfl))
        (pss_cons (ps_expr (k_append (K := K) (pv 3) (pa_cons (pv 5) pa_nil)))
          (pss_one (ps_set (i := 5) sc_law_wheels.nd rfl (Or.inl rfl) (k_bmT (K := K) PySem.F.plainAttrs_tuple PySem.F.slot_tuple_index PySem.F.type_tuple_index (k_tidx (K := K)) (pv 0) (pa_cons (pe_ix (k_ixT (K := K)) (pv 1) (pv 5) (fun _ _ => rfl)) pa_nil))))))))
      pss_nil)))
    (pss_one (ps_ret (pv 2)))))), ?_⟩
    have la : (later.map V.int).length = n := by rw [List.length_map, M.lc]
    refine ⟨Nat.zero_le _, fun D hD => ⟨_, _, rfl, ?_⟩⟩
    have s1 := sNew (Same.refl H) hD (.lst [])
    refine ⟨_, rfl, a, _, rfl, .inr (sqTm (sTm s1) ha), _, rfl, by omega, by omega, for_range (lo := 0) (n := (((later.map V.int).length : Nat) : Int).toNat) (fun i σ H' => ∃ (fo : Int) (se : List Nat) (u4 u5 : Option V), σ = [some (.ref a), some (.ref b), some (.int fo), some (.ref D), u4, u5] ∧ Same H H' ∧ H' D = some (.lst (se.map nv)) ∧ WOut n goal later i fo se)
      ⟨0, [], _, _, rfl, s1, upd_same, wout_start⟩ ?_ ?_⟩
    · rintro i σ H' hi ⟨fo, se, u4, u5, rfl, s5, hl, wo⟩
      rw [la, Int.toNat_natCast] at hi
      rw [show (0 : Int) + (i : Nat) = (i : Nat) by omega]
      refine ⟨_, rfl, _, rfl, D, _, rfl, .inl (SqL.of hl), rfl, nvFlat se, _, rfl, ?_⟩
      rw [show (V.int ((i : Nat) : Int)) = nv i from rfl, inNv]
      by_cases hin : i ∈ se
      · exact ifF (by rw [decide_eq_true hin]; rfl) ⟨fo, se, _, _, rfl, s5, hl, wout_skip M wo hin⟩
      · refine ifT (by rw [decide_eq_false hin]; rfl) ?_
        refine ⟨_, rfl, _, _, rfl, rfl, _, rfl, _, _, rfl, ?_⟩
        have tl : ∀ x, x < n → tau n goal later x < n := fun x hx => M.tau_lt hx
        refine ⟨fun m σ H'' => ∃ (k : Nat) (se' : List Nat) (sp : Nat), m = n - se'.length ∧ σ = [some (.ref a), some (.ref b), some (.int (fo + 1)), some (.ref D), some (nv i), some (nv sp)] ∧ Same H H'' ∧ H'' D = some (.lst (se'.map nv)) ∧ WSt (tau n goal later) n se i k se' sp,
          ⟨n - se.length, 0, se, i, rfl, rfl, s5, hl, wst_start wo.nd (wo.lt M (Nat.le_of_lt hi)) hi⟩, ?_⟩
        rintro m σ H'' ⟨k, se', sp, rfl, rfl, s6, hl6, ws⟩
        refine ⟨_, rfl, _, rfl, D, _, rfl, .inl (SqL.of hl6), rfl, nvFlat se', _, rfl, ?_⟩
        rw [inNv]
        by_cases hsp : sp ∈ se'
        · exact ifF (by rw [decide_eq_true hsp]; rfl) ⟨fo + 1, se', _, _, rfl, s6, hl6, wout_turn M wo hin ws hsp⟩
        · obtain ⟨w2, lt2⟩ := wst_turn tl ws hsp
          refine ifT (by rw [decide_eq_false hsp]; rfl) ⟨fun σ' H3 => ∃ (k : Nat) (se'' : List Nat) (sp : Nat), n - se''.length < n - se'.length ∧ σ' = [some (.ref a), some (.ref b), some (.int (fo + 1)), some (.ref D), some (nv i), some (nv sp)] ∧ Same H H3 ∧ H3 D = some (.lst (se''.map nv)) ∧ WSt (tau n goal later) n se i k se'' sp, fun σ' H3 ⟨k, se'', sp, lt, r⟩ => ⟨n - se''.length, lt, k, se'', sp, rfl, r⟩, ?_⟩
          refine ⟨_, rfl, .inl ⟨rfl, _, SqL.of hl6⟩, _, rfl, D, _, _, rfl, rfl, hl6, ltLine (by rw [List.length_map]; omega), ?_⟩
          have s7 := sWr s6 hD (.lst (se'.map nv ++ [nv sp]))
          have lt2' : n - (se' ++ [sp]).length < n - se'.length := by rw [List.length_append, List.length_singleton]; omega
          have at_ : (goal.map V.int)[sp]? = some (.int (goal.getD sp 0)) := by rw [List.getElem?_map, some_of_lt 0 (by rw [M.lt]; exact ws.sp)]; rfl
          have at2 := M.mem ws.sp
          refine ⟨_, rfl, ⟨fa, fob, fxs, efz, s7 _ _ hfz, fnd⟩, _, rfl, _, rfl, b, _, _, _, rfl, rfl, sqTm (sTm s7) hb, atI_nat at_, a, later, _, rfl, rfl, sqTm (sTm s7) ha, at2, k + 1, se' ++ [sp], tau n goal later sp, lt2', ?_, s7, ?_, w2⟩
          · unfold tau
            rw [if_pos ws.sp]
            rfl
          · rw [upd_same, List.map_append]
            rfl
    · rintro σ H' ⟨fo, se, u4, u5, rfl, s5, hl, wo⟩
      rw [la, Int.toNat_natCast] at wo
      refine ⟨_, rfl, ?_⟩
      rw [wo.num]
      exact kk H' s5
end
end K14
/-! ## K14L4 -/
namespace K14
open PySem PySem.Spec PyProof.Rows L2
section
variable {P : Program} {w : World} {K : PySem.W.Frag} {mg : Str → Option Value} {base : Heap}
theorem kTL_int : PySem.W.kitAny K (.type "int") [.type "tuple", .type "list"] = some false := kitAny_cons (b := false) (kit_ty (by decide +kernel)) (fun _ => kitAny_cons (b := false) (kit_ty (by decide +kernel)) (fun _ => kitAny_nil) (fun z => nomatch z)) (fun z => nomatch z)
theorem kTL_tup : PySem.W.kitAny K (.type "tuple") [.type "tuple", .type "list"] = some true := kitAny_cons (b := true) (kit_ty (by decide +kernel)) (fun z => nomatch z) (fun _ => rfl)
/-! ### _law_alike: two ints -/
def spAlI : Sp := fun vs H Q _ => ∃ (x y : Int), vs = [.int x, .int y] ∧ ∀ H', Same H H' → Q (.bl (decide (x = y))) H'
abbrev N_law_alike : List Str := ["_law_found", "_law_due", "_law_k"]
theorem sc_law_alike : FnScope N_law_alike ["_law_found", "_law_due"] (defScope t_law_alike) := ⟨rfl, rfl, rfl, by decide +kernel, rfl, by decide +kernel, by decide +kernel⟩
theorem ok_alike_int (T : Txt K mg) : Cal P w K mg base CX0 1 "_law_alike" ["_law_found", "_law_due"] spAlI := by
  refine T.d_law_alike.mk0 sc_law_alike (fun _ _ _ _ _ _ us hl => match us, hl with | [_, _], _ => rfl) (fun vs H Q E h => ?_) (fun f cdv A outer st H vs Q E hr h => ?_)
  · obtain ⟨_, _, rfl, _⟩ := h
    rfl
  · obtain ⟨x, y, rfl, kk⟩ := h
    refine ⟨_, ((pss_cons (ps_if (pt_val (pe_callB (k_isi (K := K)) (by rfl) T.f_isinstance b_isinstance (pa_cons (pv 1) (pa_cons (pe_bltn (v := .ty "dict") (by rfl) T.f_dict b_dict rfl) pa_nil))))
    (pss_one (ps_ret (pe_and (pe_callB (k_isi (K := K)) (by rfl) T.f_isinstance b_isinstance (pa_cons (pv 0) (pa_cons (pe_bltn (v := .ty "dict") (by rfl) T.f_dict b_dict rfl) pa_nil))) (pe_and pe_never (pe_one (pe_cmpR (k_eqD (K := K) hr.units) (pv 0) (pv 1) (nomark _)))))))
    pss_nil)
    (pss_cons (ps_if (pt_val (pe_callB (k_isiT (K := K)) (by rfl) T.f_isinstance b_isinstance (pa_cons (pv 1) (pa_cons (pe_tup (pa_cons (pe_bltn (v := .ty "tuple") (by rfl) T.f_tuple b_tuple rfl) (pa_cons (pe_bltn (v := .ty "list") (by rfl) T.f_list b_list rfl) pa_nil))) pa_nil))))
    (pss_cons (ps_if (PW.pt (pw_or (pt_not (pt_val (pe_callB (k_isiT (K := K)) (by rfl) T.f_isinstance b_isinstance (pa_cons (pv 0) (pa_cons (pe_tup (pa_cons (pe_bltn (v := .ty "tuple") (by rfl) T.f_tuple b_tuple rfl) (pa_cons (pe_bltn (v := .ty "list") (by rfl) T.f_list b_list rfl) pa_nil))) pa_nil))))) (pw_or1 (pt_cmpR op_ne (pe_callB (k_isi (K := K)) (by rfl) T.f_isinstance b_isinstance (pa_cons (pv 0) (pa_cons (pe_bltn (v := .ty "list") (by rfl) T.f_list b_list rfl) pa_nil))) (pe_callB (k_isi (K := K)) (by rfl) T.f_isinstance b_isinstance (pa_cons (pv 1) (pa_cons (pe_bltn (v := .ty "list") (by rfl) T.f_list b_list rfl) pa_nil))) (nomark _)))))
      (pss_one (ps_ret pe_bl))
      pss_nil)
      (pss_cons (ps_if (pt_cmpR op_ne (pe_callB (k_len (K := K)) (by rfl) T.f_len b_len (pa_cons (pv 0) pa_nil)) (pe_callB (k_len (K := K)) (by rfl) T.f_len b_len (pa_cons (pv 1) pa_nil)) (nomark _))
      (pss_one (ps_ret pe_bl))
      pss_nil)
      (pss_one (ps_ret (pe_cmpR (k_eqD (K := K) hr.units) (pe_lc (own := [("_law_k", 2)]) (g := gName 2) (tt := _) rfl sc_law_alike.nd (pi_range1 (by rfl) T.f_range (pa_cons (pe_callB (k_len (K := K)) (by rfl) T.f_len b_len (pa_cons (pv 1) pa_nil)) pa_nil)) (blkOk_by (N := N_law_alike) (sc := defScope t_law_alike) (by decide +kernel)) (fun _ _ _ _ _ => pg_name (i := 2) sc_law_alike.nd rfl (Or.inl rfl)) (fun _ _ _ _ _ => pts_one (pt_not (pt_val pe_never))) (fun _ _ _ _ _ => (pv 2))) (pe_lst pa_nil) (nomark _))))))
    pss_nil)
    (pss_cons (ps_if (PW.pt (pw_or (pt_cmpR op_isN (pv 1) pe_non (nomark _)) (pw_or1 (pt_val (pe_callB (k_isi (K := K)) (by rfl) T.f_isinstance b_isinstance (pa_cons (pv 1) (pa_cons (pe_bltn (v := .ty "str") (by rfl) T.f_str b_str rfl) pa_nil)))))))
    (pss_one (ps_ret (pe_and (pe_cmpR (k_eqD (K := K) hr.units) (pv 0) (pv 1) (nomark _)) (pe_one (pe_cmpR op_eq (pe_callB (k_isi (K := K)) (by rfl) T.f_isinstance b_isinstance (pa_cons (pv 0) (pa_cons (pe_bltn (v := .ty "str") (by rfl) T.f_str b_str rfl) pa_nil))) (pe_callB (k_isi (K := K)) (by rfl) T.f_isinstance b_isinstance (pa_cons (pv 1) (pa_cons (pe_bltn (v := .ty "str") (by rfl) T.f_str b_str rfl) pa_nil))) (nomark _))))))
    pss_nil)
    (pss_one (ps_ret (pe_and (pe_callB (k_isi (K := K)) (by rfl) T.f_isinstance b_isinstance (pa_cons (pv 0) (pa_cons (pe_bltn (v := .ty "int") (by rfl) T.f_int b_int rfl) pa_nil))) (pe_and (pe_cmpR op_eq (pe_callB (k_isi (K := K)) (by rfl) T.f_isinstance b_isinstance (pa_cons (pv 0) (pa_cons (pe_bltn (v := .ty "bool") (by rfl) T.f_bool b_bool rfl) pa_nil))) (pe_callB (k_isi (K := K)) (by rfl) T.f_isinstance b_isinstance (pa_cons (pv 1) (pa_cons (pe_bltn (v := .ty "bool") (by rfl) T.f_bool b_bool rfl) pa_nil))) (nomark _)) (pe_one (pe_cmpR (k_eqD (K := K) hr.units) (pv 0) (pv 1) (nomark _))))))))))), ?_⟩
    refine ⟨_, rfl, .int y, .ty "dict", .type "int", .type "dict", false, rfl, .ty _, .base (.int y), kit_ty (by decide +kernel), _, rfl, ifF rfl ?_⟩
    refine ⟨_, rfl, leLine (show 2 ≤ 100000 by decide), fun T0 hT0 => ⟨.int y, T0, [.ty "tuple", .ty "list"], .type "int", [.type "tuple", .type "list"], false, rfl, upd_same, .cons (.ty _) (.cons (.ty _) .nil), .base (.int y), kTL_int, _, rfl, ifF rfl ?_⟩⟩
    have s1 := sNew (Same.refl H) hT0 (.tup [.ty "tuple", .ty "list"])
    refine ⟨_, rfl, rfl, _, rfl, ifF rfl ⟨_, rfl, .int y, .ty "str", .type "int", .type "str", false, rfl, .ty _, .base (.int y), kit_ty (by decide +kernel), _, rfl, ifF rfl ?_⟩⟩
    refine ⟨_, rfl, .int x, .ty "int", .type "int", .type "int", true, rfl, .ty _, .base (.int x), kit_ty (by decide +kernel), _, rfl, ifT rfl ?_⟩
    refine ⟨_, rfl, .int x, .ty "bool", .type "int", .type "bool", false, rfl, .ty _, .base (.int x), kit_ty (by decide +kernel), _, rfl, .int y, .ty "bool", .type "int", .type "bool", false, rfl, .ty _, .base (.int y), kit_ty (by decide +kernel), rfl, _, rfl, ifT rfl ?_⟩
    refine ⟨_, rfl, _, rfl, .int x, .int y, .int x, .int y, shaped_of (shInt 0 x) (by decide), shaped_of (shInt 0 y) (by decide), ?_⟩
    have e : PyData.eqv (.int x) (.int y) = decide (x = y) := by
      simp only [PyData.eqv]
      by_cases h : x = y <;> simp [h]
    rw [e]
    exact kk _ s1
/-! ### two tuples of ints that are alike -/
def spAlT (K : PySem.W.Frag) : Sp := fun vs H Q _ => ∃ (u v : V) (xs : List Int), vs = [u, v] ∧ Tp K H u (intsD xs) ∧ Tp K H v (intsD xs) ∧ xs.length ≤ 1000 ∧ ∀ H', Same H H' → Q (.bl true) H'
theorem ok_alike (T : Txt K mg) : Cal P w K mg base CX0 2 "_law_alike" ["_law_found", "_law_due"] (spAlT K) := by
  have C_law_alike : Cal P w K mg base CX0 1 _ _ _ := ok_alike_int T
  refine T.d_law_alike.mk0 sc_law_alike (fun _ _ _ _ _ _ us hl => match us, hl with | [_, _], _ => rfl) (fun vs H Q E h => ?_) (fun f cdv A outer st H vs Q E hr h => ?_)
  · obtain ⟨_, _, _, rfl, _⟩ := h
    rfl
  · obtain ⟨u, v, xs, rfl, hu, hv, hx, kk⟩ := h
    obtain ⟨a, as, rfl, ha, has⟩ := tpTup hu
    rw [tpInts has] at ha
    obtain ⟨b, bs, rfl, hb, hbs⟩ := tpTup hv
    rw [tpInts hbs] at hb
    refine ⟨_, ((pss_cons (ps_if (pt_val (pe_callB (k_isi (K := K)) (by rfl) T.f_isinstance b_isinstance (pa_cons (pv 1) (pa_cons (pe_bltn (v := .ty "dict") (by rfl) T.f_dict b_dict rfl) pa_nil))))
    (pss_one (ps_ret (pe_and (pe_callB (k_isi (K := K)) (by rfl) T.f_isinstance b_isinstance (pa_cons (pv 0) (pa_cons (pe_bltn (v := .ty "dict") (by rfl) T.f_dict b_dict rfl) pa_nil))) (pe_and (pe_cal C_law_alike (hr.mono (by decide)) rfl pass0 (pa_cons (pe_callB (k_sortedT (K := K)) (by rfl) T.f_sorted b_sorted (pa_cons (pv 0) pa_nil)) (pa_cons (pe_callB (k_sortedT (K := K)) (by rfl) T.f_sorted b_sorted (pa_cons (pv 1) pa_nil)) pa_nil))) (pe_one (pe_cmpR (k_eqD (K := K) hr.units) (pv 0) (pv 1) (nomark _)))))))
    pss_nil)
    (pss_cons (ps_if (pt_val (pe_callB (k_isiT (K := K)) (by rfl) T.f_isinstance b_isinstance (pa_cons (pv 1) (pa_cons (pe_tup (pa_cons (pe_bltn (v := .ty "tuple") (by rfl) T.f_tuple b_tuple rfl) (pa_cons (pe_bltn (v := .ty "list") (by rfl) T.f_list b_list rfl) pa_nil))) pa_nil))))
    (pss_cons (ps_if (PW.pt (pw_or (pt_not (pt_val (pe_callB (k_isiT (K := K)) (by rfl) T.f_isinstance b_isinstance (pa_cons (pv 0) (pa_cons (pe_tup (pa_cons (pe_bltn (v := .ty "tuple") (by rfl) T.f_tuple b_tuple rfl) (pa_cons (pe_bltn (v := .ty "list") (by rfl) T.f_list b_list rfl) pa_nil))) pa_nil))))) (pw_or1 (pt_cmpR op_ne (pe_callB (k_isi (K := K)) (by rfl) T.f_isinstance b_isinstance (pa_cons (pv 0) (pa_cons (pe_bltn (v := .ty "list") (by rfl) T.f_list b_list rfl) pa_nil))) (pe_callB (k_isi (K := K)) (by rfl) T.f_isinstance b_isinstance (pa_cons (pv 1) (pa_cons (pe_bltn (v := .ty "list") (by rfl) T.f_list b_list rfl) pa_nil))) (nomark _)))))
      (pss_one (ps_ret pe_bl))
      pss_nil)
      (pss_cons (ps_if (pt_cmpR op_ne (pe_callB (k_len (K := K)) (by rfl) T.f_len b_len (pa_cons (pv 0) pa_nil)) (pe_callB (k_len (K := K)) (by rfl) T.f_len b_len (pa_cons (pv 1) pa_nil)) (nomark _))
      (pss_one (ps_ret pe_bl))
      pss_nil)
      (pss_one (ps_ret (pe_cmpR (k_eqD (K := K) hr.units) (pe_lc (own := [("_law_k", 2)]) (g := gName 2) (tt := _) rfl sc_law_alike.nd (pi_range1 (by rfl) T.f_range (pa_cons (pe_callB (k_len (K := K)) (by rfl) T.f_len b_len (pa_cons (pv 1) pa_nil)) pa_nil)) (blkOk_by (N := N_law_alike) (sc := defScope t_law_alike) (by decide +kernel)) (fun _ _ _ _ _ => pg_name (i := 2) sc_law_alike.nd rfl (Or.inl rfl)) (fun _ _ _ _ _ => pts_one (pt_not (pt_val (pe_cal C_law_alike (hr.mono (by decide)) rfl pass0 (pa_cons (pe_ix (k_ixT (K := K)) (pv 0) (pv 2) (fun _ _ => rfl)) (pa_cons (pe_ix (k_ixT (K := K)) (pv 1) (pv 2) (fun _ _ => rfl)) pa_nil)))))) (fun _ _ _ _ _ => (pv 2))) (pe_lst pa_nil) (nomark _))))))
    pss_nil)
    (pss_cons (ps_if (PW.pt (pw_or (pt_cmpR op_isN (pv 1) pe_non (nomark _)) (pw_or1 (pt_val (pe_callB (k_isi (K := K)) (by rfl) T.f_isinstance b_isinstance (pa_cons (pv 1) (pa_cons (pe_bltn (v := .ty "str") (by rfl) T.f_str b_str rfl) pa_nil)))))))
    (pss_one (ps_ret (pe_and (pe_cmpR (k_eqD (K := K) hr.units) (pv 0) (pv 1) (nomark _)) (pe_one (pe_cmpR op_eq (pe_callB (k_isi (K := K)) (by rfl) T.f_isinstance b_isinstance (pa_cons (pv 0) (pa_cons (pe_bltn (v := .ty "str") (by rfl) T.f_str b_str rfl) pa_nil))) (pe_callB (k_isi (K := K)) (by rfl) T.f_isinstance b_isinstance (pa_cons (pv 1) (pa_cons (pe_bltn (v := .ty "str") (by rfl) T.f_str b_str rfl) pa_nil))) (nomark _))))))
    pss_nil)
    (pss_one (ps_ret (pe_and (pe_callB (k_isi (K := K)) (by rfl) T.f_isinstance b_isinstance (pa_cons (pv 0) (pa_cons (pe_bltn (v := .ty "int") (by rfl) T.f_int b_int rfl) pa_nil))) (pe_and (pe_cmpR op_eq (pe_callB (k_isi (K := K)) (by rfl) T.f_isinstance b_isinstance (pa_cons (pv 0) (pa_cons (pe_bltn (v := .ty "bool") (by rfl) T.f_bool b_bool rfl) pa_nil))) (pe_callB (k_isi (K := K)) (by rfl) T.f_isinstance b_isinstance (pa_cons (pv 1) (pa_cons (pe_bltn (v := .ty "bool") (by rfl) T.f_bool b_bool rfl) pa_nil))) (nomark _)) (pe_one (pe_cmpR (k_eqD (K := K) hr.units) (pv 0) (pv 1) (nomark _))))))))))), ?_⟩
    refine ⟨_, rfl, .ref b, .ty "dict", .type "tuple", .type "dict", false, rfl, .ty _, tyTup hb, kit_ty (by decide +kernel), _, rfl, ifF rfl ?_⟩
    refine ⟨_, rfl, leLine (show 2 ≤ 100000 by decide), fun T0 hT0 => ⟨.ref b, T0, [.ty "tuple", .ty "list"], .type "tuple", [.type "tuple", .type "list"], true, rfl, upd_same, .cons (.ty _) (.cons (.ty _) .nil), tyTup (sqTm (tmNew hT0 _) hb), kTL_tup, _, rfl, ifT rfl ?_⟩⟩
    have s1 := sNew (Same.refl H) hT0 (.tup [.ty "tuple", .ty "list"])
    refine ⟨_, rfl, leLine (show 2 ≤ 100000 by decide), fun T1 hT1 => ⟨.ref a, T1, [.ty "tuple", .ty "list"], .type "tuple", [.type "tuple", .type "list"], true, rfl, upd_same, .cons (.ty _) (.cons (.ty _) .nil), tyTup (sqTm (sTm (sNew s1 hT1 _)) ha), kTL_tup, _, rfl, ifF rfl ?_⟩⟩
    have s2 := sNew s1 hT1 (.tup [.ty "tuple", .ty "list"])
    have ha2 := sqTm (sTm s2) ha
    have hb2 := sqTm (sTm s2) hb
    refine ⟨_, rfl, .ref a, .ty "list", .type "tuple", .type "list", false, rfl, .ty _, tyTup ha2, kit_ty (by decide +kernel), _, rfl, .ref b, .ty "list", .type "tuple", .type "list", false, rfl, .ty _, tyTup hb2, kit_ty (by decide +kernel), rfl, _, rfl, ifF rfl ?_⟩
    refine ⟨_, rfl, a, _, rfl, .inr ha2, _, rfl, b, _, rfl, .inr hb2, rfl, _, rfl, ifF (by simp) ?_⟩
    have lx : (xs.map V.int).length = xs.length := List.length_map _
    refine ⟨_, rfl, b, _, rfl, .inr hb2, _, rfl, by omega, by omega, fun D hD => lc_range (lo := 0) (n := (((xs.map V.int).length : Nat) : Int).toNat) (fun i H' => Same H H' ∧ H' D = some (.lst [])) ⟨sNew s2 hD _, upd_same⟩ ?_ ?_⟩
    · rintro i H' hi ⟨s5, hl⟩
      rw [lx, Int.toNat_natCast] at hi
      have at_ : atI (xs.map V.int) (0 + (i : Nat)) = some (.int (xs.getD i 0)) := by
        rw [Int.zero_add]
        refine atI_nat ?_
        rw [List.getElem?_map, some_of_lt 0 hi]
        rfl
      refine ⟨rfl, _, rfl, _, rfl, a, _, _, _, rfl, rfl, sqTm (sTm s5) ha, at_, _, rfl, _, rfl, b, _, _, _, rfl, rfl, sqTm (sTm s5) hb, at_, _, _, rfl, fun H6 s6 => ⟨_, rfl, ifF (by simp) ⟨s5.trans s6, s6 _ _ hl⟩⟩⟩
    · rintro H4 ⟨s4, hl4⟩
      refine ⟨Nat.zero_le _, fun E' hE => ⟨.list [], .list [], .lst (SqL.of (upd_keep hl4 hE)) .nil, .lst (SqL.of upd_same) .nil, by decide +kernel, by decide +kernel, ?_⟩⟩
      have e : PyData.eqv (.list []) (.list []) = true := by decide +kernel
      rw [e]
      exact kk _ (sNew s4 hE _)
end
end K14
/-! ## K14V -/
namespace PySem.W
open PySem PySem.Spec PySem.Calls PyProof.Rows
section
variable {M : Model} {A : Around} {E : Value → Shared → Prop} {s : Shared} {name qual : Str} {params : Arguments} {body : Expr} {scope : Scope} {env : Env} {c P : Addr} {ps : Array Value} {pos : Pos} {firstLine : Nat} {mg : Str → Option Value}
  {q : Str × Addr} {r : List (Str × Addr)} {Q : Value → Shared → Prop} {dV : Value}
/-- the words of a function of one expression, with its defaults -/
abbrev k14_fn (name qual : Str) (params : Arguments) (body : Expr) (scope : Scope) (cl : List (Str × Addr)) (dV pm cdv ct : Value) : FuncData :=
  { name, qualname := qual, params, body := .expr body, scope, globals := mainGlobals, closure := cl, defaults := dV, kwdefaults := .none, doc := .none, pyModule := pm, annotations := none, code := cdv, closureTuple := ct, builtins := builtinsNs }
theorem k14_tail (hcl : closureFor scope env = pure (q :: r)) (hge0 : env.globals = mainGlobals) (hg : s.heap.Ns mainGlobals mg) (hcode : env.code = .ref c) (C : CodeHd s.heap c P) (hP : s.heap.get? P = some (tabObj ps)) (ht : TriplesOk ps.toList)
    (hnf : codeAmong pos ps.toList = none) (hgP : mainGlobals ≠ P) (hb : s.heap.BuiltinsAt mg P)
    (h : ∀ c' ctv h' tk, Heap.ExtBut P s.heap h' → s.heap.objs.size ≤ c' → c' < h'.objs.size → h'.CodeRec (.ref c') qual → h'.get? P = some (tabObj (ps ++ #[rawInt pos.line, rawInt pos.col, .ref c'])) →
      Q (.ref h'.objs.size) { s with heap := h'.push { cls := .type "function", data := .func (k14_fn name qual params body scope (q :: r) dV ((mg "__name__").getD .none) (.ref c') ctv) }, toks := tk }) :
    wpAny M A (makeTail name qual params (.expr body) scope env dV .none none pos firstLine) Q E s := by
  obtain ⟨bm, ob, hbm, hne0, _, hneP, hbo, hcls, hdict, hdata⟩ := hb
  have pu : ∀ {o : Obj} {b : Addr} {u : Obj}, s.heap.get? b = some u → (s.heap.push o).get? b = some u := fun {o b u} e => Heap.get?_push_of_some _ e
  unfold makeTail
  rw [hcl, hge0]
  refine wpAny_bind (wpAny_pure ?_)
  simp only [List.isEmpty_cons, Bool.false_eq_true, if_false]
  refine wpAny_bind (wpAny_newTextTuple (wpAny_bind (wpAny_functionCodeX hcode ((C.keeps fun _ _ e => pu e).code (pu hP) ht) ((C.keeps fun _ _ e => pu e).tab (pu hP)) hnf fun c' h' tk hx hge hlt _ hrec htb _ => ?_)))
  have n2 := (hg.push _).extBut hx hgP
  have x2 : Heap.ExtBut P s.heap h' := fun b o hb' e => hx b o hb' (pu e)
  have g2 : s.heap.objs.size ≤ c' := Nat.le_trans (by rw [Heap.size_push]; omega) hge
  exact wpAny_bind (wpAny_builtinsFor n2 hbm hne0 (x2 _ _ hneP hbo) hcls hdict hdata (wpAny_bind (wpAny_nsGet n2 (wpAny_bind (wpAny_pure (wpAny_newObj_type (h c' _ h' tk x2 g2 hlt hrec htb.2) (by size_fits)))))))
theorem k14_tailHit {cv : Value} (hcl : closureFor scope env = pure (q :: r)) (hge0 : env.globals = mainGlobals) (hg : s.heap.Ns mainGlobals mg) (hcode : env.code = .ref c) (C : CodeHd s.heap c P) (hP : s.heap.get? P = some (tabObj ps)) (ht : TriplesOk ps.toList)
    (hf : codeAmong pos ps.toList = some cv) (hb : s.heap.BuiltinsAt mg P)
    (h : ∀ (ctv : Value) (h' : Heap) (tk : Tok), (∀ b o, s.heap.get? b = some o → h'.get? b = some o) → s.heap.objs.size ≤ h'.objs.size →
      Q (.ref h'.objs.size) { s with heap := h'.push { cls := .type "function", data := .func (k14_fn name qual params body scope (q :: r) dV ((mg "__name__").getD .none) cv ctv) }, toks := tk }) :
    wpAny M A (makeTail name qual params (.expr body) scope env dV .none none pos firstLine) Q E s := by
  obtain ⟨bm, ob, hbm, hne0, _, hneP, hbo, hcls, hdict, hdata⟩ := hb
  have pu : ∀ {o : Obj} {b : Addr} {u : Obj}, s.heap.get? b = some u → (s.heap.push o).get? b = some u := fun {o b u} e => Heap.get?_push_of_some _ e
  unfold makeTail
  rw [hcl, hge0]
  refine wpAny_bind (wpAny_pure ?_)
  simp only [List.isEmpty_cons, Bool.false_eq_true, if_false]
  refine wpAny_bind (wpAny_newTextTuple (wpAny_bind (wpAny_functionCode_hit hcode ((C.keeps fun _ _ e => pu e).code (pu hP) ht) hf (wpAny_bind (wpAny_builtinsFor (hg.push _) hbm hne0 (pu hbo) hcls hdict hdata (wpAny_bind (wpAny_nsGet (hg.push _) (wpAny_bind (wpAny_pure (wpAny_newObj_type (h _ _ s.toks (fun b o e => pu e) ?_) (by size_fits)))))))))))
  rw [Heap.size_push]
  omega
end
end PySem.W
namespace K14
open PySem PySem.Spec PyProof.Rows L2 LamX NdefX
/-! ### lambdas as values -/
def dvV : Option Addr → Value
  | none => .none
  | some T => .ref T
structure LF where
  params : Arguments
  body : Expr
  scope : Scope
  qual : Str
  cl : List (Str × Addr)
  c : Addr
  dv : Option Addr
abbrev LF.dV (F : LF) : Value := dvV F.dv
abbrev LF.fd (F : LF) (pm ctv : Value) : FuncData := PySem.W.k14_fn "<lambda>" F.qual F.params F.body F.scope F.cl F.dV pm (.ref F.c) ctv
def LF.nf (F : LF) : NF := ⟨"<lambda>", F.qual, F.params, [], F.scope, F.cl, F.c⟩
def LamO (f : Addr) (F : LF) : HO := .ext fun h => ∃ pm ctv : Value, h.get? f = some ({ cls := .type "function", data := .func (F.fd pm ctv) } : Obj)
theorem lamO_ne {f : Addr} {F : LF} (ps : Array Value) : LamO f F ≠ .tbl ps := fun z => by
  unfold LamO at z
  cases z
theorem lamO_nl {f : Addr} {F : LF} (xs : List V) : LamO f F ≠ .lst xs := fun z => by
  unfold LamO at z
  cases z
theorem codeO_nl {f : Addr} {q : Str} (xs : List V) : CodeO f q ≠ .lst xs := fun z => by
  unfold CodeO at z
  cases z
structure LamAt (H : Hp) (f : Addr) (F : LF) : Prop where
  o : H f = some (LamO f F)
  c : H F.c = some (CodeO F.c F.qual)
  d : ∀ T, F.dv = some T → H T = some (.tup [.int 0])
/-- all but lists and tables stay -/
def Ky (H H' : Hp) : Prop := ∀ b u, H b = some u → (∀ xs, u ≠ .lst xs) → (∀ ps, u ≠ .tbl ps) → H' b = some u
theorem LamAt.keep {H H' : Hp} {f : Addr} {F : LF} (l : LamAt H f F) (k : Ky H H') : LamAt H' f F :=
  ⟨k _ _ l.o lamO_nl lamO_ne, k _ _ l.c codeO_nl codeO_ne, fun T e => k _ _ (l.d T e) (fun xs z => by cases z) (fun ps z => by cases z)⟩
theorem kySame {H H' : Hp} (s : Same H H') : Ky H H' := fun b u e _ _ => s b u e
theorem kyExt {H H' : Hp} (s : ExtN H H') : Ky H H' := fun b u e _ n => s b u e n
theorem Ky.trans {H H1 H2 : Hp} (a : Ky H H1) (b : Ky H1 H2) : Ky H H2 := fun x u e n1 n2 => b x u (a x u e n1 n2) n1 n2
theorem extTm {H H' : Hp} (s : ExtN H H') : Tm H H' := ⟨fun b xs e => s b _ e (fun ps z => by cases z), fun b o u e => s b _ e (fun ps z => by cases z)⟩
theorem extNew {H H' : Hp} (s : ExtN H H') {q : Addr} (hq : H' q = none) (o : HO) : ExtN H (upd H' q o) := fun b u e n => upd_keep (s b u e n) hq
theorem extWr {H H' : Hp} (s : ExtN H H') {q : Addr} (hq : H q = none) (o : HO) : ExtN H (upd H' q o) := fun b u e n => by
  rw [upd_ne (ne_of_none e hq)]
  exact s b u e n
section
variable {X : Cx} {pins : List (Addr × Obj)} {σ : L2.St} {H : Hp} {s : Shared}
/-- a new function object is known from now on -/
theorem inv_lam {F : LF} {t' : Nat} {pm ctv : Value} (I : Inv X pins σ H s) :
    Inv X pins σ (upd H s.heap.objs.size (LamO s.heap.objs.size F)) { s with heap := s.heap.push { cls := .type "function", data := .func (F.fd pm ctv) }, toks := t' } := by
  have e : (s.heap.push ({ cls := .type "function", data := .func (F.fd pm ctv) } : Obj)).get? s.heap.objs.size = some { cls := .type "function", data := .func (F.fd pm ctv) } := Heap.get?_push_size _ rfl
  exact I.laid (a := s.heap.objs.size) (fun b u z => Heap.get?_push_of_some _ z) (Nat.le_refl _) ⟨⟨pm, ctv, e⟩, ⟨_, e⟩, fun h1 h2 ⟨p, t, z⟩ st => ⟨p, t, st _ z⟩⟩
theorem tail_lam {T : List (Addr × Str)} {c P : Addr} {params : Arguments} {body : Expr} {scope : Scope} {pos : Pos} {E : Value → Shared → Prop} {Q : Value → Shared → Prop} {dv : Option Addr} (I : Inv X pins σ H s) (TB : TabB X.base X.mg c P) (hcode : X.env.code = .ref c)
    (hm : (P, X.env.qual ++ "<lambda>") ∈ T) (hu : ∀ p ∈ T, p.1 = P → p.2 = X.env.qual ++ "<lambda>") (hT : Tabs T H) (hfree : ∀ y ∈ scope.names, y.2 = .free → ∃ c, X.env.cells.lookup y.1 = some c) (hne : cloFrom X.env.cells scope.names [] ≠ [])
    (hdv : ∀ D, dv = some D → H D = some (.tup [.int 0]))
    (h : ∀ (f c' : Addr) (H1 : Hp) (s' : Shared), Inv X pins σ H1 s' → ExtN H H1 → Tabs T H1 → H f = none → LamAt H1 f ⟨params, body, scope, X.env.qual ++ "<lambda>", cloFrom X.env.cells scope.names [], c', dv⟩ → Q (.ref f) s') :
    wpAny (model X.prog X.w) X.A (makeTail "<lambda>" (X.env.qual ++ "<lambda>") params (.expr body) scope X.env (dvV dv) .none none pos pos.line) Q E s := by
  obtain ⟨ps, hP, ht, ha⟩ := hT _ hm
  have bP : s.heap.BuiltinsAt X.mg P := TB.bm.keeps I.bk
  have hP' : s.heap.get? P = some { cls := .none, data := .fields ps } := I.hok P _ hP
  obtain ⟨q0, r0, e0⟩ : ∃ q r, cloFrom X.env.cells scope.names [] = q :: r := by
    cases e : cloFrom X.env.cells scope.names [] with
    | nil => exact absurd e hne
    | cons q r => exact ⟨q, r, rfl⟩
  have hcl : closureFor scope X.env = pure (q0 :: r0) := by rw [← e0]; exact closure_ok hfree
  cases hc : codeAmong pos ps.toList with
  | none =>
    refine PySem.W.k14_tail (mg := X.mg) (c := c) (P := P) (ps := ps) hcl I.ok.glob (I.mod.glob.keeps I.bk) hcode (TB.code.keeps I.bk) hP' ht hc TB.gP bP fun c' ctv h' tk hx hge hlt hrec htb => ?_
    obtain ⟨c2, oc, vs, t, e2, hoc, hd, hv⟩ := hrec
    cases e2
    have nC : H c' = none := I.hok.fresh hge
    have J := inv_table (t' := tk) (q := X.env.qual ++ "<lambda>") (more := #[rawInt pos.line, rawInt pos.col, .ref c']) (h' := h') I hP (fun b o hb e => hx b o hb e) htb hge ⟨oc, vs, t, hoc, hd, hv⟩
    have x1 : ExtN H (upd (upd H P (.tbl (ps ++ #[rawInt pos.line, rawInt pos.col, .ref c']))) c' (CodeO c' (X.env.qual ++ "<lambda>"))) := fun b o e n => by
      rw [upd_ne (ne_of_none e nC), upd_ne (fun z => n ps (Option.some.inj (e.symm.trans (by rw [z]; exact hP))))]
      exact e
    have T1 : Tabs T (upd (upd H P (.tbl (ps ++ #[rawInt pos.line, rawInt pos.col, .ref c']))) c' (CodeO c' (X.env.qual ++ "<lambda>"))) := fun p hp => by
      by_cases hb : p.1 = P
      · rw [hu p hp hb, hb]
        have eL : (ps ++ #[rawInt pos.line, rawInt pos.col, .ref c']).toList = ps.toList ++ [rawInt pos.line, rawInt pos.col, .ref c'] := by simp
        refine ⟨_, by rw [upd_ne (ne_of_none hP nC), upd_same], by rw [eL]; exact PySem.TriplesOk_snoc _ _ _ _ ht, fun p' cv hcv => ?_⟩
        rw [eL] at hcv
        rcases among_app _ ht hcv with z | z
        · obtain ⟨c0, y1, y2⟩ := ha p' cv z
          exact ⟨c0, y1, x1 _ _ y2 codeO_ne⟩
        · exact ⟨c', z, upd_same⟩
      · obtain ⟨ps', a1, a2, a3⟩ := hT p hp
        refine ⟨ps', by rw [upd_ne (ne_of_none a1 nC), upd_ne hb]; exact a1, a2, fun p' cv hcv => ?_⟩
        obtain ⟨c0, y1, y2⟩ := a3 p' cv hcv
        exact ⟨c0, y1, x1 _ _ y2 codeO_ne⟩
    have nF := J.hok.fresh (Nat.le_refl _)
    have J2 := inv_lam (F := ⟨params, body, scope, X.env.qual ++ "<lambda>", cloFrom X.env.cells scope.names [], c', dv⟩) (t' := tk) (pm := (X.mg "__name__").getD .none) (ctv := ctv) J
    rw [← e0]
    refine h h'.objs.size c' _ _ J2 (extNew x1 nF _) (T1.ext fun b o e => upd_keep e nF) (I.hok.fresh (Nat.le_trans hge (Nat.le_of_lt hlt))) ⟨upd_same, ?_, fun D e => ?_⟩
    · exact (upd_ne (Nat.ne_of_lt hlt)).trans upd_same
    · exact upd_keep (x1 _ _ (hdv D e) (fun ps z => by cases z)) nF
  | some cv =>
    obtain ⟨c', e, hco⟩ := ha pos cv hc
    subst e
    refine PySem.W.k14_tailHit (mg := X.mg) (c := c) (P := P) (ps := ps) hcl I.ok.glob (I.mod.glob.keeps I.bk) hcode (TB.code.keeps I.bk) hP' ht hc bP fun ctv h' tk hx hsz => ?_
    have J : Inv X pins σ H { s with heap := h', toks := tk } := I.kept hx
    have nF : H h'.objs.size = none := J.hok.fresh (Nat.le_refl _)
    have J2 := inv_lam (F := ⟨params, body, scope, X.env.qual ++ "<lambda>", cloFrom X.env.cells scope.names [], c', dv⟩) (t' := tk) (pm := (X.mg "__name__").getD .none) (ctv := ctv) J
    rw [← e0]
    exact h h'.objs.size c' _ _ J2 (fun b o e _ => upd_keep e nF) (hT.ext fun b o e => upd_keep e nF) nF ⟨upd_same, upd_keep hco nF, fun D e => upd_keep (hdv D e) nF⟩
end
/-- the value of a lambda -/
def tLamV (T : List (Addr × Str)) (hasD : Bool) (mk : Addr → Option Addr → LF) : TE := fun σ H Q => Tabs T H ∧ ∀ (f c' : Addr) (dv : Option Addr) (H1 : Hp), dv.isSome = hasD → ExtN H H1 → Tabs T H1 → H f = none → LamAt H1 f (mk c' dv) → Q (.ref f) H1
def clo0 (cells : List (Str × Addr)) (scope : Scope) (x : Str) : Prop := (x, NameKind.free) ∈ scope.names
section
variable {X : Cx} {T : List (Addr × Str)} {c P : Addr} {params : Arguments} {body : Expr} {scope : Scope} {pos : Pos}
theorem pe_lamV (TB : TabB X.base X.mg c P) (hcode : X.env.code = .ref c) (hm : (P, X.env.qual ++ "<lambda>") ∈ T) (hu : ∀ p ∈ T, p.1 = P → p.2 = X.env.qual ++ "<lambda>")
    (hfree : ∀ y ∈ scope.names, y.2 = .free → X.env.scope.names.lookup y.1 = some .cell ∨ X.env.scope.names.lookup y.1 = some .free) {x0 : Str} (hx0 : (x0, NameKind.free) ∈ scope.names) (hdef : defaultsOf params X.env = ([], [])) :
    PE X (.Lambda params body scope pos) (tLamV T false fun c' dv => ⟨params, body, scope, X.env.qual ++ "<lambda>", cloFrom X.env.cells scope.names [], c', dv⟩) := by
  refine ⟨fun pins s σ H Q I h => ?_⟩
  obtain ⟨hT, h⟩ := h
  have hfr : ∀ y ∈ scope.names, y.2 = .free → ∃ c, X.env.cells.lookup y.1 = some c := fun y hy e => (hfree y hy e).elim (fun z => I.ok.has _ (.inl z)) fun z => I.ok.has _ (.inr z)
  have hne : cloFrom X.env.cells scope.names [] ≠ [] := fun z => by
    have := cloFrom_has (cells := X.env.cells) (acc := []) hx0
    obtain ⟨c1, h1⟩ := mem_lookup this
    rw [z] at h1
    cases h1
  refine PySem.W.kla_eval hdef ?_
  rw [makeFunction_eq]
  simp only [List.zip_nil_right, List.filterMap_nil, List.isEmpty_nil, if_true, pure_bind]
  exact tail_lam (dv := none) I TB hcode hm hu hT hfr hne (fun _ e => nomatch e) fun f c' H1 s' I1 x1 T1 f0 L => ⟨.ref f, H1, I1, rfl, h f c' none H1 rfl x1 T1 f0 L⟩
theorem pe_lamD {e0 : Expr} (TB : TabB X.base X.mg c P) (hcode : X.env.code = .ref c) (hm : (P, X.env.qual ++ "<lambda>") ∈ T) (hu : ∀ p ∈ T, p.1 = P → p.2 = X.env.qual ++ "<lambda>")
    (hfree : ∀ y ∈ scope.names, y.2 = .free → X.env.scope.names.lookup y.1 = some .cell ∨ X.env.scope.names.lookup y.1 = some .free) {x0 : Str} (hx0 : (x0, NameKind.free) ∈ scope.names) (hdef : defaultsOf params X.env = ([eval e0 X.env], [])) (hkw : params.kwonlyargs = []) (h0 : PE X e0 (tC (.int 0))) :
    PE X (.Lambda params body scope pos) (tLamV T true fun c' dv => ⟨params, body, scope, X.env.qual ++ "<lambda>", cloFrom X.env.cells scope.names [], c', dv⟩) := by
  refine ⟨fun pins s σ H Q I h => ?_⟩
  obtain ⟨hT, h⟩ := h
  have hfr : ∀ y ∈ scope.names, y.2 = .free → ∃ c, X.env.cells.lookup y.1 = some c := fun y hy e => (hfree y hy e).elim (fun z => I.ok.has _ (.inl z)) fun z => I.ok.has _ (.inr z)
  have hne : cloFrom X.env.cells scope.names [] ≠ [] := fun z => by
    have := cloFrom_has (cells := X.env.cells) (acc := []) hx0
    obtain ⟨c1, h1⟩ := mem_lookup this
    rw [z] at h1
    cases h1
  rw [arm_eval_Lambda, hdef]
  show wpAny (model X.prog X.w) X.A (do let dv ← evalAll [eval e0 X.env]; let kdv ← holding dv (evalAllOpt []); makeFunction "<lambda>" (X.env.qual ++ "<lambda>") params (.expr body) scope X.env dv kdv [] pos pos.line) _ _ s
  refine wpAny_bind (wpAny_evalAll_cons (thn (h0.run pins s σ H (fun v H1 => v = .int 0 ∧ H1 = H) I ⟨rfl, rfl⟩) fun u s1 ⟨v, H1, I1, r1, ev, eH⟩ => wpAny_evalAll_nil (wpAny_bind (wpAny_holding (wpAny_pure ?_)))))
  subst ev
  subst eH
  rw [makeFunction_eq, hkw]
  simp only [List.zip_nil_left, List.filterMap_nil, List.isEmpty_nil, List.isEmpty_cons, Bool.false_eq_true, if_true, if_false, pure_bind]
  refine wpAny_bind (wpAny_newTextTuple ?_)
  have I2 : Inv X pins σ (upd H1 s1.heap.objs.size (.tup [.int 0])) { s1 with heap := s1.heap.push { cls := .type "tuple", data := .seq [u].toArray } } :=
    I1.laid (t' := s1.toks) (a := s1.heap.objs.size) (fun b o e => Heap.get?_push_of_some _ e) (Nat.le_refl _) (show ObjOk X.prog X.w _ _ _ (.tup [.int 0]) from ⟨by show 1 ≤ sizeLine; decide, [u], .cons r1 .nil, IsTup.new _ _⟩)
  have nD : H1 s1.heap.objs.size = none := I1.hok.fresh (Nat.le_refl _)
  exact tail_lam (dv := some s1.heap.objs.size) I2 TB hcode hm hu (hT.ext fun b o e => upd_keep e nD) hfr hne (fun D e => by cases e; exact upd_same) fun f c' H2 s' J x2 T2 f0 L => ⟨.ref f, H2, J, rfl, h f c' (some s1.heap.objs.size) H2 rfl (fun b o e n => x2 b o (upd_keep e nD) n) T2 (upd_none f0) L⟩
end
end K14
/-! ## K14W -/
namespace K14
open PySem PySem.Spec PyProof.Rows L2 LamX NdefX
/-! ### what a lambda promises -/
structure LOk (P : Program) (w : World) (K : PySem.W.Frag) (mg : Str → Option Value) (base : Heap) (CX : CXT) (k : Nat) (f : Addr) (F : LF) (fr : List Str) (sp : List (Option V) → Hp → VK → XK → Prop) : Prop where
  run : ∀ (A : Around) (outer : List Env) (s : Shared) (H : Hp) (ws : List (Option V)) (Q : VK) (E : XK), Room k A → Env0 P w K mg base A outer s H → LamAt H f F → CellsAt F.cl fr ws s.heap H → sp ws H Q E → codeAny (model P w) A (.call (.ref f) ⟨[], []⟩) (CR CX outer P w H s Q E) s
section
variable {CX : CXT} {P : Program} {w : World} {K : PySem.W.Frag} {mg : Str → Option Value} {base : Heap} {N ps fr : List Str} {F : LF} {f : Addr} {k : Nat} {sp : List (Option V) → Hp → VK → XK → Prop}
theorem LOk.mono {j : Nat} (o : LOk P w K mg base CX j f F fr sp) (h : j ≤ k) : LOk P w K mg base CX k f F fr sp := ⟨fun A outer s H ws Q E hr => o.run A outer s H ws Q E (hr.mono h)⟩
theorem lok_of {vs : List V} (S : NScope N ps fr F.scope) (hl : vs.length = ps.length)
    (hb : (F.dv = none ∧ vs = [] ∧ ∀ pm ctv, bindArgs (F.fd pm ctv) ⟨[], []⟩ = pure []) ∨ (∃ (D : Addr) (p : Str), F.dv = some D ∧ ps = [p] ∧ vs = [.int 0] ∧ ∀ pm ctv, ∃ kk : Option (Array Value) → Sem (List (Str × Value)), bindArgs (F.fd pm ctv) ⟨[], []⟩ = seqItems? (.ref D) >>= kk ∧ ∀ v, kk (some #[v]) = pure [(p, v)]))
    (hbody : ∀ (A : Around) (outer : List Env) (s : Shared) (H : Hp) (ws : List (Option V)) (Q : VK) (E : XK), Room k (A.deeper (envF F.nf f s.heap.objs.size)) → ws.length = fr.length → sp ws H Q E →
      ∃ t, PE (ncx CX P w K mg base N F.nf f A outer s H E) F.body t ∧ t (startF N vs ws) H Q) : LOk P w K mg base CX (k + 1) f F fr sp := by
  refine ⟨fun A outer s H ws Q E hr e0 la C hsp => ?_⟩
  have lim : s.heap.NoLimit := e0.mod.nolimit.keeps fun b o e => (e0.bs b o e).1
  obtain ⟨⟨pm, ctv, ho⟩, _, _⟩ := e0.hok f _ la.o
  have enter : ∀ us : List Value, Vals vs us → wpAny (model P w) A.in1 (newFunctionEnv F.scope mainGlobals F.cl (ps.zip us) (F.qual ++ ".<locals>.") (some f) (.ref F.c) none builtinsNs)
      (fun env s₂ => s₂.heap.NoLimit ∧ codeAny (model P w) A (.expr F.body env) (CR CX outer P w H s Q E) s₂) (fun e s' => (CR CX outer P w H s Q E) (.error e) s') s := fun us r => by
    refine wpAny_newFunctionEnv S.nocell (fun ⟨n, _⟩ hy => S.par n (List.of_mem_zip hy).1) (fun h₁ hns hsb => ⟨lim.fresh _ hsb, ?_⟩) S.kind
    have kp : ∀ b o, s.heap.get? b = some o → h₁.get? b = some o := fun b o e => hsb.extBut b o (Nat.ne_of_lt (Heap.lt_size e)) (Heap.get?_push_of_some _ e)
    obtain ⟨t, ht, hq⟩ := hbody A outer s H ws Q E (hr.deeper _) C.len hsp
    have J : Inv (ncx CX P w K mg base N F.nf f A outer s H E) [] (startF N vs ws) H { s with heap := h₁, toks := s.toks + (ps.zip us).length } := inv_startN (F := F.nf) S hr.hd e0 hl r C hns kp
    show codeAny _ _ (.expr F.body (envF F.nf f s.heap.objs.size)) _ _
    refine PySem.W.kla_codeExpr (wpAny_mono (ht.run [] _ (startF N vs ws) H _ J hq) (fun v s' h' => ?_) fun _ _ h' => h')
    obtain ⟨v', H', J', rv, q⟩ := h'
    exact ⟨v', H', J'.os, J'.bare, J'.base, J'.hok, rv, q⟩
  refine PySem.W.kla_callFunE hr.depth ho rfl S.co S.gen rfl (codeO_at e0.hok la.c) ?_
  rcases hb with ⟨_, ev, hb⟩ | ⟨D, p, ed, ep, ev, hb⟩
  · have z := enter [] (by rw [ev]; exact .nil)
    rw [hb pm ctv]
    rw [List.zip_nil_right] at z
    exact wpAny_pure z
  · obtain ⟨kk, e1, e2⟩ := hb pm ctv
    rw [e1]
    obtain ⟨_, its, rv, o, g1, g2, n, g3⟩ := (show ObjOk P w H s.heap D (.tup [.int 0]) from e0.hok D _ (la.d D ed))
    obtain ⟨u, rfl, ru⟩ := vals1 rv
    refine wpAny_bind ?_
    unfold seqItems?
    refine wpAny_bind (wpAny_load g1 ?_)
    rw [g3]
    refine wpAny_pure ?_
    rw [e2 u]
    have z := enter [u] (by rw [ev]; exact .cons ru .nil)
    rw [ep] at z
    exact wpAny_pure z
end
/-! ### x(), x a parameter that holds a lambda -/
section
variable {P : Program} {w : World} {K : PySem.W.Frag} {mg : Str → Option Value} {base : Heap} {CXg : CXT} {Eg : XK} {Ng : List Str} {qg : Str} {sg : Scope} {g : Addr} {cdg : Value} {A : Around} {outer : List Env} {s : Shared} {H : Hp}
theorem pe_lact {k : Nat} {f : Addr} {F : LF} {fr : List Str} {sp : List (Option V) → Hp → VK → XK → Prop} {ws : List (Option V)} {i : Nat} {a : Str} {pn : List (Addr × Obj)} {xe : Value → Shared → Prop} {W : WX} {p1 p2 : Pos}
    (L : LOk P w K mg base (L2.CX P w) k f F fr sp) (C : CellsAt F.cl fr ws s.heap H) (nf : ∀ y c, F.cl.lookup y = some c → c ∉ frs outer)
    (tk : Takes ((cxOf CXg P w K mg base Ng qg sg g cdg A outer s H Eg).tr pn xe) W) (hr : Room k (A.deeper (envOfC qg sg s.heap.objs.size g cdg)))
    (hN : Ng[i]? = some a) (hv : Vis sg a) (hd : (a == ("__debug__" : Str)) = false := by decide) (hcd : (a == ("__classdict__" : Str)) = false := by decide) :
    PE ((cxOf CXg P w K mg base Ng qg sg g cdg A outer s H Eg).tr pn xe) (.Call (.Name a p1) [] [] p2)
      (fun σZ HZ Q => σZ[i]? = some (some (.ref f)) ∧ LamAt HZ f F ∧ sp ws HZ Q (fun cls d H' => W cls d σZ H')) := by
  refine ⟨fun pinsZ sZ σZ HZ Q IZ h => ?_⟩
  obtain ⟨hs, la, hq⟩ := h
  refine wpAny_Call_Name_kw (thn ((pe_var (pos := p1) (i := i) hN hv hd hcd).run pinsZ sZ σZ HZ (fun v H1 => v = .ref f ∧ H1 = HZ) IZ ⟨.ref f, hs, rfl, rfl⟩) fun u s1 ⟨v, H1, I1, r1, ev, eH⟩ => ?_)
  subst ev
  subst eH
  obtain rfl : u = Value.ref f := r1
  obtain ⟨⟨pm, ctv, ho⟩, _, _⟩ := I1.hok f _ la.o
  have C1 : CellsAt F.cl fr ws s1.heap H1 := C.later (X := (cxOf CXg P w K mg base Ng qg sg g cdg A outer s H Eg).tr pn xe) nf (fun y c _ z => absurd (show c ∈ ([] : List Addr) from z) (by simp)) I1
  refine PySem.W.callWith_F0 (first := []) ⟨_, _, _, _, ho⟩ ?_
  show wpAny _ _ (call (.ref f) []) _ _ _
  refine wpAny_call (codeAny_mono (L.run _ _ s1 H1 ws Q _ hr I1.env0 la C1 hq) fun r s' hq' => ?_)
  cases r with
  | error e => exact tk e s' (XE.of_call I1 (fun cls d H' z => z) hq')
  | ok fl =>
    cases fl with
    | ret u => exact I1.after hq'
    | next => exact False.elim hq'
    | brk => exact False.elim hq'
    | cont => exact False.elim hq'
end
/-! ### _law_error -/
theorem gCls {X : Cx} {K : PySem.W.Frag} {mg : Str → Option Value} {x : Str} {pos : Pos} (EC : Ecs K mg) (h : x ∈ ("ShelfError" : Str) :: exNames) (hg : Gl X x) (hd : (x == ("__debug__" : Str)) = false := by decide) (hm : X.mg = mg := by rfl) : PE X (.Name x pos) (tC (.ref (cad mg x))) := by
  subst hm
  exact pe_glob hg (EC.g x h) rfl hd
def rIsX (K : PySem.W.Frag) (cls : Value) (a : Addr) (d : Option Addr) : List V → Hp → VK → Prop := fun xs H Q => ∃ D, cls = .ref D ∧ ExcC K D ∧ rIsD K D a d xs H Q
theorem k_isD {X : Cx} {K : PySem.W.Frag} {cls : Value} {a : Addr} {d : Option Addr} {oe : Obj} {pn : List (Addr × Obj)} (hz : Zc cls d oe) (hf : ∃ vs, oe.data = .fields vs) (hK : X.K = K := by rfl) : CallR (X.suite a ((a, oe) :: pn)) (.builtin "isinstance") (rIsX K cls a d) := by
  intro pins s σ H xs us Q I r h
  obtain ⟨D, rfl, C, h⟩ := h
  exact call_isD C hz hf hK pins s σ H xs us Q I r h
def rCntB (K : PySem.W.Frag) : V → List V → Hp → VK → Prop := fun x xs H Q => ∃ (p : Addr) (bs : List Bool), x = .ref p ∧ xs = [.bl true] ∧ SqL K H p (bs.map V.bl) ∧ Q (.int (bs.count true : Nat)) H
theorem blFlat (bs : List Bool) : (bs.map V.bl).all flatV = true := by
  rw [List.all_eq_true]
  intro x hx
  obtain ⟨b, _, rfl⟩ := List.mem_map.mp hx
  rfl
theorem cnt_bl : ∀ {bs : List Bool} {us : List Value}, Vals (bs.map V.bl) us → us.countP (eqU (.bl true)) = bs.count true
  | [], _, r => by cases r; rfl
  | b :: bs, _, r => by
    cases r with
    | cons h t =>
      cases h
      rw [List.countP_cons, List.count_cons, cnt_bl t]
      cases b <;> rfl
theorem k_cntB {X : Cx} {K : PySem.W.Frag} (hK : X.K = K := by rfl) : MtR X "list.count" (rCntB K) := by
  subst hK
  intro pins s σ H x xs v us Q I rx rxs h
  obtain ⟨p, bs, rfl, rfl, hs, q⟩ := h
  cases rx
  obtain ⟨u, rfl, ru⟩ := rxs.one
  have ru0 := ru
  cases ru
  obtain ⟨its, rv, ⟨⟨cls, dd, data, sl⟩, n, ho, hc, hdn, hd⟩, hlen⟩ := I.list hs
  simp only at hc hd
  subst hc hd
  refine call_meets PySem.F.slot_list_count ⟨_, ho, rfl⟩ PySem.F.entry_list_count (PySem.F.args_list_count_2 _ _)
    (SeqAt.list_countAt p its.toArray n dd sl (.bool true) (eqU (.bl true))) ⟨ho, fun y hy => mem_eqAt ru0 rfl rv (blFlat bs) y (by simpa using hy), ?_⟩
  have ec : its.toArray.toList.countP (eqU (.bl true)) = bs.count true := cnt_bl (by simpa using rv)
  refine ⟨.int (bs.count true : Nat), H, I.tok _, ⟨s.toks, ?_⟩, q⟩
  show Value.int ((its.toArray.toList.countP (eqU (.bl true)) : Nat) : Int) s.toks = Value.int ((bs.count true : Nat) : Int) s.toks
  rw [ec]
theorem m3_ShelfError : ("ShelfError" : Str) ∈ ("ShelfError" : Str) :: exNames := List.mem_cons_self
theorem m3_InvalidPlan : ("InvalidPlan" : Str) ∈ ("ShelfError" : Str) :: exNames := memOf (by decide +kernel)
theorem m3_InvalidState : ("InvalidState" : Str) ∈ ("ShelfError" : Str) :: exNames := memOf (by decide +kernel)
theorem m3_UnknownPlace : ("UnknownPlace" : Str) ∈ ("ShelfError" : Str) :: exNames := memOf (by decide +kernel)
theorem m3_UnknownParcel : ("UnknownParcel" : Str) ∈ ("ShelfError" : Str) :: exNames := memOf (by decide +kernel)
theorem m3_UnknownShelf : ("UnknownShelf" : Str) ∈ ("ShelfError" : Str) :: exNames := memOf (by decide +kernel)
theorem m3_UnknownCarrier : ("UnknownCarrier" : Str) ∈ ("ShelfError" : Str) :: exNames := memOf (by decide +kernel)
theorem m3_InvalidEffect : ("InvalidEffect" : Str) ∈ ("ShelfError" : Str) :: exNames := memOf (by decide +kernel)
theorem m3_DifferentSizes : ("DifferentSizes" : Str) ∈ ("ShelfError" : Str) :: exNames := memOf (by decide +kernel)
theorem m3_InvalidParcels : ("InvalidParcels" : Str) ∈ ("ShelfError" : Str) :: exNames := memOf (by decide +kernel)
theorem m3_Contradiction : ("Contradiction" : Str) ∈ ("ShelfError" : Str) :: exNames := memOf (by decide +kernel)
theorem m3_ShelfFull : ("ShelfFull" : Str) ∈ ("ShelfError" : Str) :: exNames := memOf (by decide +kernel)
theorem m3_ParcelCarried : ("ParcelCarried" : Str) ∈ ("ShelfError" : Str) :: exNames := memOf (by decide +kernel)
def kq (x : Str) : List Bool := exNames.map fun y => decide (x = y)
def lawNames : List Str := ["plan", "state", "count", "place", "parcel", "shelf", "carrier", "effect", "sizes", "parcels", "contradiction", "arrangement", "full", "carried", "swap"]
def wordOf (x : Str) : Str := if x = "InvalidCount" then "count" else if x = "InvalidArrangement" then "arrangement" else "swap"
def kIx (x : Str) : Nat := if x = "InvalidCount" then 2 else if x = "InvalidArrangement" then 11 else 14
theorem kinds_ok : ∀ x ∈ raised, (kq x)[kIx x]? = some true ∧ (∀ m < kIx x, (kq x)[m]? = some false) ∧ (kq x).count true = 1 ∧ lawNames[kIx x]? = some (wordOf x) ∧ decide (V.str (wordOf x) = V.str "plan") = false ∧ decide (V.str (wordOf x) = V.str "swap") = decide (x = "InvalidSwap") := by decide +kernel
end K14
/-! ## K14W2 -/
namespace K14
open PySem PySem.Spec PyProof.Rows L2 LamX NdefX
section
variable {P : Program} {w : World} {K : PySem.W.Frag} {mg : Str → Option Value} {base : Heap}
abbrev N_law_error : List Str := ["_law_call", "e", "_law_kinds", "_law_names", "_law_name"]
theorem sc_law_error : FnScope N_law_error ["_law_call"] (defScope t_law_error) := ⟨rfl, rfl, rfl, by decide +kernel, rfl, by decide +kernel, by decide +kernel⟩
/-- what the call must let out, and what is told of it then -/
def eOut (mg : Str → Option Value) (Q : VK) : XK := fun cls d H => ∃ x ∈ raised, cls = .ref (cad mg x) ∧
  ((x ≠ "InvalidSwap" ∧ d = none ∧ ∀ (H' : Hp) (q : Addr), Same H H' → H q = none → H' q = some (.tup [.str (wordOf x)]) → Q (.ref q) H') ∨
    (x = "InvalidSwap" ∧ ∃ (dd : Addr) (i : Int), d = some dd ∧ H dd = some (.xd [("index", .int i)]) ∧ ∀ (H' : Hp) (q : Addr), Same H H' → H q = none → H' q = some (.tup [.str "swap", .int i]) → Q (.ref q) H'))
theorem err_run (T : Txt K mg) (EC : Ecs K mg) : ∃ g : Addr, mg "_law_error" = some (.ref g) ∧ PySem.W.keepIn K (.ref g) = true ∧
    ∀ {k : Nat} {f : Addr} {F : LF} {fr : List Str} {sp : List (Option V) → Hp → VK → XK → Prop} {A : Around} {outer : List Env} {s : Shared} {H : Hp} {ws : List (Option V)} {Q : VK}, LOk P w K mg base (L2.CX P w) k f F fr sp → Room (k + 1) A →
      Env0 P w K mg base A outer s H → LamAt H f F → CellsAt F.cl fr ws s.heap H → (∀ y c, F.cl.lookup y = some c → c ∉ frs outer) → (∀ (Q' : VK) (E' : XK), (∀ c d H', eOut mg Q c d H' → E' c d H') → sp ws H Q' E') →
      codeAny (model P w) A (.call (.ref g) ⟨[.ref f], []⟩) (CR CX0 outer P w H s Q (fun _ _ _ => False)) s := by
  obtain ⟨g, fd, FD, hm⟩ := T.d_law_error.ex
  refine ⟨g, hm, FD.kp, fun {k f F fr sp A outer s H ws Q} L hr e0 la C nf hsp => ?_⟩
  have hb := FD.bindsN (ps := ["_law_call"]) (fun kV doc pm an cdv ct us hl => match us, hl with | [_], _ => rfl)
  obtain ⟨oc, od, dV, kV, doc, pm, an, cdv, ct, osl, rfl, lk, hcd, hD, hK⟩ := FD.ex
  have KX : K.In s.heap := e0.mod.kin.keeps fun b o e => (e0.bs b o e).1
  have bnd := hb s [.ref f] KX rfl
  refine run_ofS (N := N_law_error) (ps := ["_law_call"]) (us := [.ref f]) (vs := [.ref f]) lk hcd sc_law_error hr e0 bnd (.cons rfl .nil) rfl fun hr' => ?_
  suffices hh : ∃ t, PSs (cxOf CX0 P w K mg base N_law_error "_law_error" (defScope t_law_error) g cdv A outer s H (fun _ _ _ => False)).nox (defBody t_law_error) t ∧ t { nx := fun _ H' => Q .non H', rt := Q } (start N_law_error [.ref f]) H by
    obtain ⟨t, ht, q⟩ := hh
    exact ⟨t, ht.nox, q⟩
  refine ⟨_, pss_cons (ps_try_as (X := (cxOf CX0 P w K mg base N_law_error "_law_error" (defScope t_law_error) g cdv A outer s H (fun _ _ _ => False)).nox) (i := 1) (c := .ref (cad mg "ShelfError")) (Wout := fun _ _ _ _ => False)
      (tb := fun W D σ H1 => σ[0]? = some (some (.ref f)) ∧ LamAt H1 f F ∧ sp ws H1 (fun v H' => D.nx σ H') (fun cls d H' => W cls d σ H'))
      rfl rfl sc_law_error.nd rfl rfl ⟨by rfl, by decide, .inl (EC.g _ m3_ShelfError)⟩ L2.takes0 (fun W pn xe tk _ => ?_) (fun a oe cls d pn hz hf => ((pss_cons (ps_set (i := 2) sc_law_error.nd rfl (Or.inl rfl) (pe_lst (pa_cons (pe_callB (k_isD (K := K) hz hf) (by rfl) T.f_isinstance b_isinstance (pa_cons (pv 1) (pa_cons (gCls EC m3_InvalidPlan (by rfl)) pa_nil))) (pa_cons (pe_callB (k_isD (K := K) hz hf) (by rfl) T.f_isinstance b_isinstance (pa_cons (pv 1) (pa_cons (gCls EC m3_InvalidState (by rfl)) pa_nil))) (pa_cons (pe_callB (k_isD (K := K) hz hf) (by rfl) T.f_isinstance b_isinstance (pa_cons (pv 1) (pa_cons (gCls EC m3_InvalidCount (by rfl)) pa_nil))) pa_nil)))))
  (pss_cons (ps_expr (k_extend (K := K) (pv 2) (pa_cons (pe_lst (pa_cons (pe_callB (k_isD (K := K) hz hf) (by rfl) T.f_isinstance b_isinstance (pa_cons (pv 1) (pa_cons (gCls EC m3_UnknownPlace (by rfl)) pa_nil))) (pa_cons (pe_callB (k_isD (K := K) hz hf) (by rfl) T.f_isinstance b_isinstance (pa_cons (pv 1) (pa_cons (gCls EC m3_UnknownParcel (by rfl)) pa_nil))) (pa_cons (pe_callB (k_isD (K := K) hz hf) (by rfl) T.f_isinstance b_isinstance (pa_cons (pv 1) (pa_cons (gCls EC m3_UnknownShelf (by rfl)) pa_nil))) pa_nil)))) pa_nil)))
  (pss_cons (ps_expr (k_extend (K := K) (pv 2) (pa_cons (pe_lst (pa_cons (pe_callB (k_isD (K := K) hz hf) (by rfl) T.f_isinstance b_isinstance (pa_cons (pv 1) (pa_cons (gCls EC m3_UnknownCarrier (by rfl)) pa_nil))) (pa_cons (pe_callB (k_isD (K := K) hz hf) (by rfl) T.f_isinstance b_isinstance (pa_cons (pv 1) (pa_cons (gCls EC m3_InvalidEffect (by rfl)) pa_nil))) (pa_cons (pe_callB (k_isD (K := K) hz hf) (by rfl) T.f_isinstance b_isinstance (pa_cons (pv 1) (pa_cons (gCls EC m3_DifferentSizes (by rfl)) pa_nil))) pa_nil)))) pa_nil)))
  (pss_cons (ps_expr (k_extend (K := K) (pv 2) (pa_cons (pe_lst (pa_cons (pe_callB (k_isD (K := K) hz hf) (by rfl) T.f_isinstance b_isinstance (pa_cons (pv 1) (pa_cons (gCls EC m3_InvalidParcels (by rfl)) pa_nil))) (pa_cons (pe_callB (k_isD (K := K) hz hf) (by rfl) T.f_isinstance b_isinstance (pa_cons (pv 1) (pa_cons (gCls EC m3_Contradiction (by rfl)) pa_nil))) pa_nil))) pa_nil)))
  (pss_cons (ps_expr (k_extend (K := K) (pv 2) (pa_cons (pe_lst (pa_cons (pe_callB (k_isD (K := K) hz hf) (by rfl) T.f_isinstance b_isinstance (pa_cons (pv 1) (pa_cons (gCls EC m3_InvalidArrangement (by rfl)) pa_nil))) (pa_cons (pe_callB (k_isD (K := K) hz hf) (by rfl) T.f_isinstance b_isinstance (pa_cons (pv 1) (pa_cons (gCls EC m3_ShelfFull (by rfl)) pa_nil))) (pa_cons (pe_callB (k_isD (K := K) hz hf) (by rfl) T.f_isinstance b_isinstance (pa_cons (pv 1) (pa_cons (gCls EC m3_ParcelCarried (by rfl)) pa_nil))) pa_nil)))) pa_nil)))
  (pss_cons (ps_expr (k_append (K := K) (pv 2) (pa_cons (pe_callB (k_isD (K := K) hz hf) (by rfl) T.f_isinstance b_isinstance (pa_cons (pv 1) (pa_cons (gCls EC m3_InvalidSwap (by rfl)) pa_nil))) pa_nil)))
  (pss_cons (ps_if (PW.pt (pw_or (pt_cmpR op_ne (k_bm (K := K) PySem.F.plainAttrs_list PySem.F.slot_list_count PySem.F.type_list_count (k_cntB (K := K)) (pv 2) (pa_cons pe_bl pa_nil)) pe_int (nomark _)) (pw_or1 (pt_not (pt_val (pe_callB (k_isD (K := K) hz hf) (by rfl) T.f_isinstance b_isinstance (pa_cons (pv 1) (pa_cons (pe_bltn (v := .ty "ValueError") (by rfl) T.f_ValueError b_ValueError rfl) pa_nil))))))))
  (pss_one (ps_ret (pe_tup (pa_cons pe_str pa_nil))))
  pss_nil)
  (pss_cons (ps_set (i := 3) sc_law_error.nd rfl (Or.inl rfl) (pe_lst (pa_cons pe_str (pa_cons pe_str (pa_cons pe_str (pa_cons pe_str (pa_cons pe_str (pa_cons pe_str (pa_cons pe_str (pa_cons pe_str (pa_cons pe_str (pa_cons pe_str pa_nil))))))))))))
  (pss_cons (ps_set (i := 4) sc_law_error.nd rfl (Or.inl rfl) (pe_ix (k_ixL (K := K)) (pe_op op_cat (pv 3) (pe_lst (pa_cons pe_str (pa_cons pe_str (pa_cons pe_str (pa_cons pe_str (pa_cons pe_str pa_nil))))))) (k_bm (K := K) PySem.F.plainAttrs_list PySem.F.slot_list_index PySem.F.type_list_index (k_index (K := K)) (pv 2) (pa_cons pe_bl pa_nil)) (fun _ _ => rfl)))
  (pss_cons (ps_if (pt_cmpR op_eq (pv 4) pe_str (nomark _))
  (pss_one (ps_ret (pe_tup (pa_cons (pv 4) (pa_cons pe_never (pa_cons (pe_xf EC.xf EC.nix hz hf (pv 1)) pa_nil))))))
  pss_nil)
  (pss_one (ps_ret (pe_ifExp (pt_cmpR op_eq (pv 4) pe_str (nomark _)) (pe_tup (pa_cons (pv 4) (pa_cons (pe_xf EC.xf EC.nix hz hf (pv 1)) pa_nil))) (pe_tup (pa_cons (pv 4) pa_nil)))))))))))))))))) (pss_one (ps_ret (pe_tup (pa_cons pe_str pa_nil)))), ?_⟩
  · exact pss_one (ps_expr (pe_lact (CXg := CX0) (Eg := fun _ _ _ => False) (i := 0) L C nf tk hr' rfl (.inl rfl)))
  · refine ⟨rfl, la, hsp _ _ fun cls d H' hE => ?_⟩
    obtain ⟨x, hx, rfl, hcase⟩ := hE
    refine ⟨true, EC.exm x hx, fun _ a ha => ?_, fun z => nomatch z⟩
    obtain ⟨k1, k2, k3, k4, k5, k6⟩ := kinds_ok x hx
    have hdx : ∀ H1, Same H' H1 → ∀ dd, d = some dd → ∃ fs, H1 dd = some (.xd fs) := fun H1 S dd ed => by
      rcases hcase with ⟨_, hn, _⟩ | ⟨_, dd', i, hs, hdd, _⟩
      · rw [hn] at ed; cases ed
      · rw [hs] at ed; cases ed; exact ⟨_, S _ _ hdd⟩
    refine ⟨_, rfl, cad mg x, rfl, EC.exc x hx, .ref (cad mg "InvalidPlan"), .ref (cad mg "InvalidPlan"), decide (x = "InvalidPlan"), rfl, hdx _ (Same.refl _), (fun _ r => r), EC.kit x hx "InvalidPlan" (memOf (by decide +kernel)), _, rfl, cad mg x, rfl, EC.exc x hx, .ref (cad mg "InvalidState"), .ref (cad mg "InvalidState"), decide (x = "InvalidState"), rfl, hdx _ (Same.refl _), (fun _ r => r), EC.kit x hx "InvalidState" (memOf (by decide +kernel)), _, rfl, cad mg x, rfl, EC.exc x hx, .ref (cad mg "InvalidCount"), .ref (cad mg "InvalidCount"), decide (x = "InvalidCount"), rfl, hdx _ (Same.refl _), (fun _ r => r), EC.kit x hx "InvalidCount" (memOf (by decide +kernel)), leLine (show 3 ≤ 100000 by decide), fun D hD => ?_⟩
    have S1 := sNew (Same.refl H') hD (.lst [.bl (decide (x = "InvalidPlan")), .bl (decide (x = "InvalidState")), .bl (decide (x = "InvalidCount"))])
    have l1 : upd H' D (.lst [.bl (decide (x = "InvalidPlan")), .bl (decide (x = "InvalidState")), .bl (decide (x = "InvalidCount"))]) D = some (.lst [.bl (decide (x = "InvalidPlan")), .bl (decide (x = "InvalidState")), .bl (decide (x = "InvalidCount"))]) := upd_same
    refine ⟨_, rfl, .inl ⟨rfl, _, SqL.of l1⟩, _, rfl, cad mg x, rfl, EC.exc x hx, .ref (cad mg "UnknownPlace"), .ref (cad mg "UnknownPlace"), decide (x = "UnknownPlace"), rfl, hdx _ S1, (fun _ r => r), EC.kit x hx "UnknownPlace" (memOf (by decide +kernel)), _, rfl, cad mg x, rfl, EC.exc x hx, .ref (cad mg "UnknownParcel"), .ref (cad mg "UnknownParcel"), decide (x = "UnknownParcel"), rfl, hdx _ S1, (fun _ r => r), EC.kit x hx "UnknownParcel" (memOf (by decide +kernel)), _, rfl, cad mg x, rfl, EC.exc x hx, .ref (cad mg "UnknownShelf"), .ref (cad mg "UnknownShelf"), decide (x = "UnknownShelf"), rfl, hdx _ S1, (fun _ r => r), EC.kit x hx "UnknownShelf" (memOf (by decide +kernel)), leLine (show 3 ≤ 100000 by decide), fun L1 hL1 => ?_⟩
    have lk1 := upd_keep (u := .lst [.bl (decide (x = "UnknownPlace")), .bl (decide (x = "UnknownParcel")), .bl (decide (x = "UnknownShelf"))]) l1 hL1
    have M1 := sNew S1 hL1 (.lst [.bl (decide (x = "UnknownPlace")), .bl (decide (x = "UnknownParcel")), .bl (decide (x = "UnknownShelf"))])
    refine ⟨D, L1, _, _, rfl, rfl, lk1, upd_same, leLine (show 6 ≤ 100000 by decide), ?_⟩
    have S2 := sWr M1 hD (.lst ([.bl (decide (x = "InvalidPlan")), .bl (decide (x = "InvalidState")), .bl (decide (x = "InvalidCount"))] ++ [.bl (decide (x = "UnknownPlace")), .bl (decide (x = "UnknownParcel")), .bl (decide (x = "UnknownShelf"))]))
    have l2 := upd_same (H := upd (upd H' D (.lst [.bl (decide (x = "InvalidPlan")), .bl (decide (x = "InvalidState")), .bl (decide (x = "InvalidCount"))])) L1 (.lst [.bl (decide (x = "UnknownPlace")), .bl (decide (x = "UnknownParcel")), .bl (decide (x = "UnknownShelf"))])) (a := D) (o := .lst ([.bl (decide (x = "InvalidPlan")), .bl (decide (x = "InvalidState")), .bl (decide (x = "InvalidCount"))] ++ [.bl (decide (x = "UnknownPlace")), .bl (decide (x = "UnknownParcel")), .bl (decide (x = "UnknownShelf"))]))
    refine ⟨_, rfl, .inl ⟨rfl, _, SqL.of l2⟩, _, rfl, cad mg x, rfl, EC.exc x hx, .ref (cad mg "UnknownCarrier"), .ref (cad mg "UnknownCarrier"), decide (x = "UnknownCarrier"), rfl, hdx _ S2, (fun _ r => r), EC.kit x hx "UnknownCarrier" (memOf (by decide +kernel)), _, rfl, cad mg x, rfl, EC.exc x hx, .ref (cad mg "InvalidEffect"), .ref (cad mg "InvalidEffect"), decide (x = "InvalidEffect"), rfl, hdx _ S2, (fun _ r => r), EC.kit x hx "InvalidEffect" (memOf (by decide +kernel)), _, rfl, cad mg x, rfl, EC.exc x hx, .ref (cad mg "DifferentSizes"), .ref (cad mg "DifferentSizes"), decide (x = "DifferentSizes"), rfl, hdx _ S2, (fun _ r => r), EC.kit x hx "DifferentSizes" (memOf (by decide +kernel)), leLine (show 3 ≤ 100000 by decide), fun L2 hL2 => ?_⟩
    have lk2 := upd_keep (u := .lst [.bl (decide (x = "UnknownCarrier")), .bl (decide (x = "InvalidEffect")), .bl (decide (x = "DifferentSizes"))]) l2 hL2
    have M2 := sNew S2 hL2 (.lst [.bl (decide (x = "UnknownCarrier")), .bl (decide (x = "InvalidEffect")), .bl (decide (x = "DifferentSizes"))])
    refine ⟨D, L2, _, _, rfl, rfl, lk2, upd_same, leLine (show 9 ≤ 100000 by decide), ?_⟩
    have S3 := sWr M2 hD (.lst ([.bl (decide (x = "InvalidPlan")), .bl (decide (x = "InvalidState")), .bl (decide (x = "InvalidCount")), .bl (decide (x = "UnknownPlace")), .bl (decide (x = "UnknownParcel")), .bl (decide (x = "UnknownShelf"))] ++ [.bl (decide (x = "UnknownCarrier")), .bl (decide (x = "InvalidEffect")), .bl (decide (x = "DifferentSizes"))]))
    have l3 := upd_same (H := upd (upd (upd (upd H' D (.lst [.bl (decide (x = "InvalidPlan")), .bl (decide (x = "InvalidState")), .bl (decide (x = "InvalidCount"))])) L1 (.lst [.bl (decide (x = "UnknownPlace")), .bl (decide (x = "UnknownParcel")), .bl (decide (x = "UnknownShelf"))])) D (.lst ([.bl (decide (x = "InvalidPlan")), .bl (decide (x = "InvalidState")), .bl (decide (x = "InvalidCount"))] ++ [.bl (decide (x = "UnknownPlace")), .bl (decide (x = "UnknownParcel")), .bl (decide (x = "UnknownShelf"))]))) L2 (.lst [.bl (decide (x = "UnknownCarrier")), .bl (decide (x = "InvalidEffect")), .bl (decide (x = "DifferentSizes"))])) (a := D) (o := .lst ([.bl (decide (x = "InvalidPlan")), .bl (decide (x = "InvalidState")), .bl (decide (x = "InvalidCount")), .bl (decide (x = "UnknownPlace")), .bl (decide (x = "UnknownParcel")), .bl (decide (x = "UnknownShelf"))] ++ [.bl (decide (x = "UnknownCarrier")), .bl (decide (x = "InvalidEffect")), .bl (decide (x = "DifferentSizes"))]))
    refine ⟨_, rfl, .inl ⟨rfl, _, SqL.of l3⟩, _, rfl, cad mg x, rfl, EC.exc x hx, .ref (cad mg "InvalidParcels"), .ref (cad mg "InvalidParcels"), decide (x = "InvalidParcels"), rfl, hdx _ S3, (fun _ r => r), EC.kit x hx "InvalidParcels" (memOf (by decide +kernel)), _, rfl, cad mg x, rfl, EC.exc x hx, .ref (cad mg "Contradiction"), .ref (cad mg "Contradiction"), decide (x = "Contradiction"), rfl, hdx _ S3, (fun _ r => r), EC.kit x hx "Contradiction" (memOf (by decide +kernel)), leLine (show 2 ≤ 100000 by decide), fun L3 hL3 => ?_⟩
    have lk3 := upd_keep (u := .lst [.bl (decide (x = "InvalidParcels")), .bl (decide (x = "Contradiction"))]) l3 hL3
    have M3 := sNew S3 hL3 (.lst [.bl (decide (x = "InvalidParcels")), .bl (decide (x = "Contradiction"))])
    refine ⟨D, L3, _, _, rfl, rfl, lk3, upd_same, leLine (show 11 ≤ 100000 by decide), ?_⟩
    have S4 := sWr M3 hD (.lst ([.bl (decide (x = "InvalidPlan")), .bl (decide (x = "InvalidState")), .bl (decide (x = "InvalidCount")), .bl (decide (x = "UnknownPlace")), .bl (decide (x = "UnknownParcel")), .bl (decide (x = "UnknownShelf")), .bl (decide (x = "UnknownCarrier")), .bl (decide (x = "InvalidEffect")), .bl (decide (x = "DifferentSizes"))] ++ [.bl (decide (x = "InvalidParcels")), .bl (decide (x = "Contradiction"))]))
    have l4 := upd_same (H := upd (upd (upd (upd (upd (upd H' D (.lst [.bl (decide (x = "InvalidPlan")), .bl (decide (x = "InvalidState")), .bl (decide (x = "InvalidCount"))])) L1 (.lst [.bl (decide (x = "UnknownPlace")), .bl (decide (x = "UnknownParcel")), .bl (decide (x = "UnknownShelf"))])) D (.lst ([.bl (decide (x = "InvalidPlan")), .bl (decide (x = "InvalidState")), .bl (decide (x = "InvalidCount"))] ++ [.bl (decide (x = "UnknownPlace")), .bl (decide (x = "UnknownParcel")), .bl (decide (x = "UnknownShelf"))]))) L2 (.lst [.bl (decide (x = "UnknownCarrier")), .bl (decide (x = "InvalidEffect")), .bl (decide (x = "DifferentSizes"))])) D (.lst ([.bl (decide (x = "InvalidPlan")), .bl (decide (x = "InvalidState")), .bl (decide (x = "InvalidCount")), .bl (decide (x = "UnknownPlace")), .bl (decide (x = "UnknownParcel")), .bl (decide (x = "UnknownShelf"))] ++ [.bl (decide (x = "UnknownCarrier")), .bl (decide (x = "InvalidEffect")), .bl (decide (x = "DifferentSizes"))]))) L3 (.lst [.bl (decide (x = "InvalidParcels")), .bl (decide (x = "Contradiction"))])) (a := D) (o := .lst ([.bl (decide (x = "InvalidPlan")), .bl (decide (x = "InvalidState")), .bl (decide (x = "InvalidCount")), .bl (decide (x = "UnknownPlace")), .bl (decide (x = "UnknownParcel")), .bl (decide (x = "UnknownShelf")), .bl (decide (x = "UnknownCarrier")), .bl (decide (x = "InvalidEffect")), .bl (decide (x = "DifferentSizes"))] ++ [.bl (decide (x = "InvalidParcels")), .bl (decide (x = "Contradiction"))]))
    refine ⟨_, rfl, .inl ⟨rfl, _, SqL.of l4⟩, _, rfl, cad mg x, rfl, EC.exc x hx, .ref (cad mg "InvalidArrangement"), .ref (cad mg "InvalidArrangement"), decide (x = "InvalidArrangement"), rfl, hdx _ S4, (fun _ r => r), EC.kit x hx "InvalidArrangement" (memOf (by decide +kernel)), _, rfl, cad mg x, rfl, EC.exc x hx, .ref (cad mg "ShelfFull"), .ref (cad mg "ShelfFull"), decide (x = "ShelfFull"), rfl, hdx _ S4, (fun _ r => r), EC.kit x hx "ShelfFull" (memOf (by decide +kernel)), _, rfl, cad mg x, rfl, EC.exc x hx, .ref (cad mg "ParcelCarried"), .ref (cad mg "ParcelCarried"), decide (x = "ParcelCarried"), rfl, hdx _ S4, (fun _ r => r), EC.kit x hx "ParcelCarried" (memOf (by decide +kernel)), leLine (show 3 ≤ 100000 by decide), fun L4 hL4 => ?_⟩
    have lk4 := upd_keep (u := .lst [.bl (decide (x = "InvalidArrangement")), .bl (decide (x = "ShelfFull")), .bl (decide (x = "ParcelCarried"))]) l4 hL4
    have M4 := sNew S4 hL4 (.lst [.bl (decide (x = "InvalidArrangement")), .bl (decide (x = "ShelfFull")), .bl (decide (x = "ParcelCarried"))])
    refine ⟨D, L4, _, _, rfl, rfl, lk4, upd_same, leLine (show 14 ≤ 100000 by decide), ?_⟩
    have S5 := sWr M4 hD (.lst ([.bl (decide (x = "InvalidPlan")), .bl (decide (x = "InvalidState")), .bl (decide (x = "InvalidCount")), .bl (decide (x = "UnknownPlace")), .bl (decide (x = "UnknownParcel")), .bl (decide (x = "UnknownShelf")), .bl (decide (x = "UnknownCarrier")), .bl (decide (x = "InvalidEffect")), .bl (decide (x = "DifferentSizes")), .bl (decide (x = "InvalidParcels")), .bl (decide (x = "Contradiction"))] ++ [.bl (decide (x = "InvalidArrangement")), .bl (decide (x = "ShelfFull")), .bl (decide (x = "ParcelCarried"))]))
    have l5 := upd_same (H := upd (upd (upd (upd (upd (upd (upd (upd H' D (.lst [.bl (decide (x = "InvalidPlan")), .bl (decide (x = "InvalidState")), .bl (decide (x = "InvalidCount"))])) L1 (.lst [.bl (decide (x = "UnknownPlace")), .bl (decide (x = "UnknownParcel")), .bl (decide (x = "UnknownShelf"))])) D (.lst ([.bl (decide (x = "InvalidPlan")), .bl (decide (x = "InvalidState")), .bl (decide (x = "InvalidCount"))] ++ [.bl (decide (x = "UnknownPlace")), .bl (decide (x = "UnknownParcel")), .bl (decide (x = "UnknownShelf"))]))) L2 (.lst [.bl (decide (x = "UnknownCarrier")), .bl (decide (x = "InvalidEffect")), .bl (decide (x = "DifferentSizes"))])) D (.lst ([.bl (decide (x = "InvalidPlan")), .bl (decide (x = "InvalidState")), .bl (decide (x = "InvalidCount")), .bl (decide (x = "UnknownPlace")), .bl (decide (x = "UnknownParcel")), .bl (decide (x = "UnknownShelf"))] ++ [.bl (decide (x = "UnknownCarrier")), .bl (decide (x = "InvalidEffect")), .bl (decide (x = "DifferentSizes"))]))) L3 (.lst [.bl (decide (x = "InvalidParcels")), .bl (decide (x = "Contradiction"))])) D (.lst ([.bl (decide (x = "InvalidPlan")), .bl (decide (x = "InvalidState")), .bl (decide (x = "InvalidCount")), .bl (decide (x = "UnknownPlace")), .bl (decide (x = "UnknownParcel")), .bl (decide (x = "UnknownShelf")), .bl (decide (x = "UnknownCarrier")), .bl (decide (x = "InvalidEffect")), .bl (decide (x = "DifferentSizes"))] ++ [.bl (decide (x = "InvalidParcels")), .bl (decide (x = "Contradiction"))]))) L4 (.lst [.bl (decide (x = "InvalidArrangement")), .bl (decide (x = "ShelfFull")), .bl (decide (x = "ParcelCarried"))])) (a := D) (o := .lst ([.bl (decide (x = "InvalidPlan")), .bl (decide (x = "InvalidState")), .bl (decide (x = "InvalidCount")), .bl (decide (x = "UnknownPlace")), .bl (decide (x = "UnknownParcel")), .bl (decide (x = "UnknownShelf")), .bl (decide (x = "UnknownCarrier")), .bl (decide (x = "InvalidEffect")), .bl (decide (x = "DifferentSizes")), .bl (decide (x = "InvalidParcels")), .bl (decide (x = "Contradiction"))] ++ [.bl (decide (x = "InvalidArrangement")), .bl (decide (x = "ShelfFull")), .bl (decide (x = "ParcelCarried"))]))
    refine ⟨_, rfl, .inl ⟨rfl, _, SqL.of l5⟩, _, rfl, cad mg x, rfl, EC.exc x hx, .ref (cad mg "InvalidSwap"), .ref (cad mg "InvalidSwap"), decide (x = "InvalidSwap"), rfl, hdx _ S5, (fun _ r => r), EC.kit x hx "InvalidSwap" (memOf (by decide +kernel)), D, _, _, rfl, rfl, l5, ltLine (show 14 ≤ 100000 by decide), ?_⟩
    have S6 := sWr S5 hD (.lst ((kq x).map V.bl))
    have l6 : upd (upd (upd (upd (upd (upd (upd (upd (upd (upd H' D (.lst [.bl (decide (x = "InvalidPlan")), .bl (decide (x = "InvalidState")), .bl (decide (x = "InvalidCount"))])) L1 (.lst [.bl (decide (x = "UnknownPlace")), .bl (decide (x = "UnknownParcel")), .bl (decide (x = "UnknownShelf"))])) D (.lst ([.bl (decide (x = "InvalidPlan")), .bl (decide (x = "InvalidState")), .bl (decide (x = "InvalidCount"))] ++ [.bl (decide (x = "UnknownPlace")), .bl (decide (x = "UnknownParcel")), .bl (decide (x = "UnknownShelf"))]))) L2 (.lst [.bl (decide (x = "UnknownCarrier")), .bl (decide (x = "InvalidEffect")), .bl (decide (x = "DifferentSizes"))])) D (.lst ([.bl (decide (x = "InvalidPlan")), .bl (decide (x = "InvalidState")), .bl (decide (x = "InvalidCount")), .bl (decide (x = "UnknownPlace")), .bl (decide (x = "UnknownParcel")), .bl (decide (x = "UnknownShelf"))] ++ [.bl (decide (x = "UnknownCarrier")), .bl (decide (x = "InvalidEffect")), .bl (decide (x = "DifferentSizes"))]))) L3 (.lst [.bl (decide (x = "InvalidParcels")), .bl (decide (x = "Contradiction"))])) D (.lst ([.bl (decide (x = "InvalidPlan")), .bl (decide (x = "InvalidState")), .bl (decide (x = "InvalidCount")), .bl (decide (x = "UnknownPlace")), .bl (decide (x = "UnknownParcel")), .bl (decide (x = "UnknownShelf")), .bl (decide (x = "UnknownCarrier")), .bl (decide (x = "InvalidEffect")), .bl (decide (x = "DifferentSizes"))] ++ [.bl (decide (x = "InvalidParcels")), .bl (decide (x = "Contradiction"))]))) L4 (.lst [.bl (decide (x = "InvalidArrangement")), .bl (decide (x = "ShelfFull")), .bl (decide (x = "ParcelCarried"))])) D (.lst ([.bl (decide (x = "InvalidPlan")), .bl (decide (x = "InvalidState")), .bl (decide (x = "InvalidCount")), .bl (decide (x = "UnknownPlace")), .bl (decide (x = "UnknownParcel")), .bl (decide (x = "UnknownShelf")), .bl (decide (x = "UnknownCarrier")), .bl (decide (x = "InvalidEffect")), .bl (decide (x = "DifferentSizes")), .bl (decide (x = "InvalidParcels")), .bl (decide (x = "Contradiction"))] ++ [.bl (decide (x = "InvalidArrangement")), .bl (decide (x = "ShelfFull")), .bl (decide (x = "ParcelCarried"))]))) D (.lst ([.bl (decide (x = "InvalidPlan")), .bl (decide (x = "InvalidState")), .bl (decide (x = "InvalidCount"))] ++ [.bl (decide (x = "UnknownPlace")), .bl (decide (x = "UnknownParcel")), .bl (decide (x = "UnknownShelf"))] ++ [.bl (decide (x = "UnknownCarrier")), .bl (decide (x = "InvalidEffect")), .bl (decide (x = "DifferentSizes"))] ++ [.bl (decide (x = "InvalidParcels")), .bl (decide (x = "Contradiction"))] ++ [.bl (decide (x = "InvalidArrangement")), .bl (decide (x = "ShelfFull")), .bl (decide (x = "ParcelCarried"))] ++ [.bl (decide (x = "InvalidSwap"))])) D = some (.lst ((kq x).map V.bl)) := upd_same
    have S7 : Same H' (upd (upd (upd (upd (upd (upd (upd (upd (upd (upd H' D (.lst [.bl (decide (x = "InvalidPlan")), .bl (decide (x = "InvalidState")), .bl (decide (x = "InvalidCount"))])) L1 (.lst [.bl (decide (x = "UnknownPlace")), .bl (decide (x = "UnknownParcel")), .bl (decide (x = "UnknownShelf"))])) D (.lst ([.bl (decide (x = "InvalidPlan")), .bl (decide (x = "InvalidState")), .bl (decide (x = "InvalidCount"))] ++ [.bl (decide (x = "UnknownPlace")), .bl (decide (x = "UnknownParcel")), .bl (decide (x = "UnknownShelf"))]))) L2 (.lst [.bl (decide (x = "UnknownCarrier")), .bl (decide (x = "InvalidEffect")), .bl (decide (x = "DifferentSizes"))])) D (.lst ([.bl (decide (x = "InvalidPlan")), .bl (decide (x = "InvalidState")), .bl (decide (x = "InvalidCount")), .bl (decide (x = "UnknownPlace")), .bl (decide (x = "UnknownParcel")), .bl (decide (x = "UnknownShelf"))] ++ [.bl (decide (x = "UnknownCarrier")), .bl (decide (x = "InvalidEffect")), .bl (decide (x = "DifferentSizes"))]))) L3 (.lst [.bl (decide (x = "InvalidParcels")), .bl (decide (x = "Contradiction"))])) D (.lst ([.bl (decide (x = "InvalidPlan")), .bl (decide (x = "InvalidState")), .bl (decide (x = "InvalidCount")), .bl (decide (x = "UnknownPlace")), .bl (decide (x = "UnknownParcel")), .bl (decide (x = "UnknownShelf")), .bl (decide (x = "UnknownCarrier")), .bl (decide (x = "InvalidEffect")), .bl (decide (x = "DifferentSizes"))] ++ [.bl (decide (x = "InvalidParcels")), .bl (decide (x = "Contradiction"))]))) L4 (.lst [.bl (decide (x = "InvalidArrangement")), .bl (decide (x = "ShelfFull")), .bl (decide (x = "ParcelCarried"))])) D (.lst ([.bl (decide (x = "InvalidPlan")), .bl (decide (x = "InvalidState")), .bl (decide (x = "InvalidCount")), .bl (decide (x = "UnknownPlace")), .bl (decide (x = "UnknownParcel")), .bl (decide (x = "UnknownShelf")), .bl (decide (x = "UnknownCarrier")), .bl (decide (x = "InvalidEffect")), .bl (decide (x = "DifferentSizes")), .bl (decide (x = "InvalidParcels")), .bl (decide (x = "Contradiction"))] ++ [.bl (decide (x = "InvalidArrangement")), .bl (decide (x = "ShelfFull")), .bl (decide (x = "ParcelCarried"))]))) D (.lst ([.bl (decide (x = "InvalidPlan")), .bl (decide (x = "InvalidState")), .bl (decide (x = "InvalidCount"))] ++ [.bl (decide (x = "UnknownPlace")), .bl (decide (x = "UnknownParcel")), .bl (decide (x = "UnknownShelf"))] ++ [.bl (decide (x = "UnknownCarrier")), .bl (decide (x = "InvalidEffect")), .bl (decide (x = "DifferentSizes"))] ++ [.bl (decide (x = "InvalidParcels")), .bl (decide (x = "Contradiction"))] ++ [.bl (decide (x = "InvalidArrangement")), .bl (decide (x = "ShelfFull")), .bl (decide (x = "ParcelCarried"))] ++ [.bl (decide (x = "InvalidSwap"))]))) := S6
    refine ⟨_, rfl, .inl ⟨rfl, _, SqL.of l6⟩, D, kq x, rfl, rfl, SqL.of l6, rfl, _, rfl, ifF (by rw [k3]; rfl) ?_⟩
    refine ⟨_, rfl, cad mg x, rfl, EC.exc x hx, .ty "ValueError", .type "ValueError", true, rfl, hdx _ S7, (fun _ r => r), EC.kve x hx, _, rfl, ifF rfl ?_⟩
    refine ⟨leLine (show 10 ≤ 100000 by decide), fun N1 hN1 => ?_⟩
    have n1 := upd_same (H := upd (upd (upd (upd (upd (upd (upd (upd (upd (upd H' D (.lst [.bl (decide (x = "InvalidPlan")), .bl (decide (x = "InvalidState")), .bl (decide (x = "InvalidCount"))])) L1 (.lst [.bl (decide (x = "UnknownPlace")), .bl (decide (x = "UnknownParcel")), .bl (decide (x = "UnknownShelf"))])) D (.lst ([.bl (decide (x = "InvalidPlan")), .bl (decide (x = "InvalidState")), .bl (decide (x = "InvalidCount"))] ++ [.bl (decide (x = "UnknownPlace")), .bl (decide (x = "UnknownParcel")), .bl (decide (x = "UnknownShelf"))]))) L2 (.lst [.bl (decide (x = "UnknownCarrier")), .bl (decide (x = "InvalidEffect")), .bl (decide (x = "DifferentSizes"))])) D (.lst ([.bl (decide (x = "InvalidPlan")), .bl (decide (x = "InvalidState")), .bl (decide (x = "InvalidCount")), .bl (decide (x = "UnknownPlace")), .bl (decide (x = "UnknownParcel")), .bl (decide (x = "UnknownShelf"))] ++ [.bl (decide (x = "UnknownCarrier")), .bl (decide (x = "InvalidEffect")), .bl (decide (x = "DifferentSizes"))]))) L3 (.lst [.bl (decide (x = "InvalidParcels")), .bl (decide (x = "Contradiction"))])) D (.lst ([.bl (decide (x = "InvalidPlan")), .bl (decide (x = "InvalidState")), .bl (decide (x = "InvalidCount")), .bl (decide (x = "UnknownPlace")), .bl (decide (x = "UnknownParcel")), .bl (decide (x = "UnknownShelf")), .bl (decide (x = "UnknownCarrier")), .bl (decide (x = "InvalidEffect")), .bl (decide (x = "DifferentSizes"))] ++ [.bl (decide (x = "InvalidParcels")), .bl (decide (x = "Contradiction"))]))) L4 (.lst [.bl (decide (x = "InvalidArrangement")), .bl (decide (x = "ShelfFull")), .bl (decide (x = "ParcelCarried"))])) D (.lst ([.bl (decide (x = "InvalidPlan")), .bl (decide (x = "InvalidState")), .bl (decide (x = "InvalidCount")), .bl (decide (x = "UnknownPlace")), .bl (decide (x = "UnknownParcel")), .bl (decide (x = "UnknownShelf")), .bl (decide (x = "UnknownCarrier")), .bl (decide (x = "InvalidEffect")), .bl (decide (x = "DifferentSizes")), .bl (decide (x = "InvalidParcels")), .bl (decide (x = "Contradiction"))] ++ [.bl (decide (x = "InvalidArrangement")), .bl (decide (x = "ShelfFull")), .bl (decide (x = "ParcelCarried"))]))) D (.lst ([.bl (decide (x = "InvalidPlan")), .bl (decide (x = "InvalidState")), .bl (decide (x = "InvalidCount"))] ++ [.bl (decide (x = "UnknownPlace")), .bl (decide (x = "UnknownParcel")), .bl (decide (x = "UnknownShelf"))] ++ [.bl (decide (x = "UnknownCarrier")), .bl (decide (x = "InvalidEffect")), .bl (decide (x = "DifferentSizes"))] ++ [.bl (decide (x = "InvalidParcels")), .bl (decide (x = "Contradiction"))] ++ [.bl (decide (x = "InvalidArrangement")), .bl (decide (x = "ShelfFull")), .bl (decide (x = "ParcelCarried"))] ++ [.bl (decide (x = "InvalidSwap"))]))) (a := N1) (o := .lst [.str "plan", .str "state", .str "count", .str "place", .str "parcel", .str "shelf", .str "carrier", .str "effect", .str "sizes", .str "parcels"])
    have l7 := upd_keep (u := .lst [.str "plan", .str "state", .str "count", .str "place", .str "parcel", .str "shelf", .str "carrier", .str "effect", .str "sizes", .str "parcels"]) l6 hN1
    have S8 := sNew S7 hN1 (.lst [.str "plan", .str "state", .str "count", .str "place", .str "parcel", .str "shelf", .str "carrier", .str "effect", .str "sizes", .str "parcels"])
    refine ⟨_, rfl, leLine (show 5 ≤ 100000 by decide), fun N2 hN2 => ?_⟩
    have n2 := upd_keep (u := .lst [.str "contradiction", .str "arrangement", .str "full", .str "carried", .str "swap"]) n1 hN2
    have l8 := upd_keep (u := .lst [.str "contradiction", .str "arrangement", .str "full", .str "carried", .str "swap"]) l7 hN2
    have S9 := sNew S8 hN2 (.lst [.str "contradiction", .str "arrangement", .str "full", .str "carried", .str "swap"])
    refine ⟨N1, N2, _, _, rfl, rfl, n2, upd_same, leLine (show 15 ≤ 100000 by decide), fun N3 hN3 => ?_⟩
    have l9 := upd_keep (u := .lst (lawNames.map V.str)) l8 hN3
    have S10 := sNew S9 hN3 (.lst (lawNames.map V.str))
    have i1 : ((kq x).map V.bl)[kIx x]? = some (.bl true) := by rw [List.getElem?_map, k1]; rfl
    have i2 : ∀ (m : Nat) (z' : V), m < kIx x → ((kq x).map V.bl)[m]? = some z' → eqV z' (.bl true) = false := fun m z' hm hz => by
      rw [List.getElem?_map, k2 m hm] at hz
      cases hz
      rfl
    have i3 : (lawNames.map V.str)[kIx x]? = some (.str (wordOf x)) := by rw [List.getElem?_map, k4]; rfl
    refine ⟨_, rfl, .inl ⟨rfl, _, SqL.of l9⟩, D, _, .bl true, kIx x, _, rfl, rfl, SqL.of l9, rfl, blFlat (kq x), i1, rfl, i2, N3, lawNames.map V.str, _, _, rfl, rfl, SqL.of upd_same, atI_nat i3, ?_⟩
    refine ⟨_, rfl, rfl, _, rfl, ifF k5 ?_⟩
    rcases hcase with ⟨hn, ed, kk⟩ | ⟨hs, dd, i, ed, hdd, kk⟩
    · refine ⟨_, rfl, rfl, _, rfl, ifF (by rw [k6, decide_eq_false hn]) ⟨_, rfl, leLine (show 1 ≤ 100000 by decide), fun q hq => ?_⟩⟩
      exact kk _ q (sNew S10 hq _) (S10.free hq) upd_same
    · refine ⟨_, rfl, rfl, _, rfl, ifT (by rw [k6, decide_eq_true hs]) ⟨_, rfl, _, rfl, rfl, by rw [hs], dd, _, _, ed, S10 _ _ hdd, rfl, leLine (show 2 ≤ 100000 by decide), fun q hq => ?_⟩⟩
      refine kk _ q (sNew S10 hq _) (S10.free hq) ?_
      rw [upd_same, hs]
      rfl
end
end K14
/-! ## K14C -/
namespace K14
open PySem PySem.Spec PyProof.Rows L2
/-! ### a list comprehension whose element is told of the state in which the block begins -/
section
variable {X : Cx}
theorem lcX_core {pins : List (Addr × Obj)} {s : Shared} {σ : L2.St} {H : Hp} {Q : VK} {elt tg iter : Expr} {ifs : List Expr} {scope : Scope} {own : List (Str × Nat)} {pos pos' : Pos} {wi : TI} {g : TG} {tt : TT} {te : TE} {use : Option (Value → Sem Unit)} {Qf : Value → Shared → Prop}
    (hc : X.calm = true) (hN : X.N.Nodup) (I : Inv X pins σ H s) (hi : PI X tg iter wi) (ok : BlkOk X.N X.env.scope scope own)
    (hg : ∀ (s : Shared) (H : Hp) (C : Addr) (cl : List (Str × Addr)) (fp : List Addr), PG (X.blk s H scope (compEnvC scope cl C X.env) fp) tg g)
    (ht : ∀ (s : Shared) (H : Hp) (C : Addr) (cl : List (Str × Addr)) (fp : List Addr), PTs (X.blk s H scope (compEnvC scope cl C X.env) fp) ifs tt)
    (he : ∀ (s : Shared) (H : Hp) (C : Addr) (cl : List (Str × Addr)) (fp : List Addr), Inv X pins σ H s → (∀ b ∈ fp, FpOk X pins H b) → PE (X.blk s H scope (compEnvC scope cl C X.env) fp) elt te)
    (hs : ∀ x, foldedSetIterable iter X.env x = pure x) (h : tLc wi g tt te (own.map (·.2)) σ H Q)
    (hRR : ∀ D C s' m H', Inv X pins σ H' s' → Q (.ref D) H' → s'.heap.Ns C m → FpOk X pins H' C → compPost (model X.prog X.w) X.A X.xe use Qf (.ref D) C (.ok .next) s') :
    wpAny (model X.prog X.w) X.A (comprehension (.ListComp elt [⟨tg, iter, ifs, 0⟩] scope pos) scope X.env pos' (newList []) false (eval iter X.env) use) Qf X.xe s := by
  have fr : ∀ y ∈ scope.names, y.2 = .free → ∃ c, X.env.cells.lookup y.1 = some c := fun y hy e => (ok.free y hy e).elim (fun k => I.ok.has _ (.inl k)) (fun k => I.ok.has _ (.inr k))
  refine wpAny_comprehension_free (use := use) rfl hs (closure_ok fr) ok.kind (fun y hy e => by rw [ok.uniq y hy, e]) (thn (hi.run pins s σ H _ I h) fun xv s1 hx => thn hx fun itv s2 ⟨it, fp, tn, J, H2, e, I2, T, st2, f2, q⟩ => ?_)
  subst e
  refine wpAny_newObj_type (newEnv_comp ?_) (by show 0 ≤ sizeLine; decide)
  generalize hD : s2.heap.objs.size = D
  have hDn : H2 D = none := I2.hok.fresh (Nat.le_of_eq hD)
  obtain ⟨W, ⟨m0, w0⟩, turn⟩ := q D hDn
  generalize hs3 : ({ s2 with heap := s2.heap.push { cls := .type "list", data := .seq ([] : List Value).toArray } } : Shared) = s3
  have h3 : s3.heap = s2.heap.push { cls := .type "list", data := .seq ([] : List Value).toArray } := by rw [← hs3]
  have I3 : Inv X pins σ (upd H2 D (.lst [])) s3 := by
    rw [← hs3]
    exact I2.laid (t' := s2.toks) (fun b o e => Heap.get?_push_of_some _ e) (Nat.le_of_eq hD) ⟨Nat.zero_le _, [], 0, .nil, by rw [← hD]; exact Heap.get?_push_size _ rfl⟩
  have f3 : ∀ b ∈ fp, FpOk X pins (upd H2 D (.lst [])) b ∧ b < s3.heap.objs.size := fun b hb => by
    obtain ⟨o, e, _⟩ := T.obj _ _ st2 b hb
    have lt := Heap.lt_size e
    exact ⟨⟨by rw [upd_ne (by rw [← hD]; exact Nat.ne_of_lt lt)]; exact (f2 b hb).1, (f2 b hb).2⟩, by rw [h3, Heap.size_push]; exact Nat.lt_succ_of_lt lt⟩
  have st3 : tn 0 s3.heap := T.keep _ _ _ st2 fun b _ o e => by rw [h3]; exact Heap.get?_push_of_some _ e
  have I4 := block_start I3 ok hN f3
  have pg := hg s3 (upd H2 D (.lst [])) s3.heap.objs.size (cellsFrom (s3.heap.objs.size + 1) scope.names (cloFrom X.env.cells scope.names [])) fp
  have pt := ht s3 (upd H2 D (.lst [])) s3.heap.objs.size (cellsFrom (s3.heap.objs.size + 1) scope.names (cloFrom X.env.cells scope.names [])) fp
  have pe := he s3 (upd H2 D (.lst [])) s3.heap.objs.size (cellsFrom (s3.heap.objs.size + 1) scope.names (cloFrom X.env.cells scope.names [])) fp I3 fun b hb => (f3 b hb).1
  show codeAny _ _ (.compStart (.ListComp elt [⟨tg, iter, ifs, 0⟩] scope pos) 0 (.ref it) (.ref D) (compEnvC scope (cellsFrom (s3.heap.objs.size + 1) scope.names (cloFrom X.env.cells scope.names [])) s3.heap.objs.size X.env)) (compPost (model X.prog X.w) X.A X.xe use Qf (.ref D) s3.heap.objs.size) { s3 with heap := pushCells (s3.heap.push { cls := .type "dict", data := .dict #[] }) scope.names }
  have nfp : ∀ b ∈ fp, (upd H2 D (.lst [])) b = none := fun b hb => (f3 b hb).1.1
  generalize hce : compEnvC scope (cellsFrom (s3.heap.objs.size + 1) scope.names (cloFrom X.env.cells scope.names [])) s3.heap.objs.size X.env = ce at I4 pg pt pe ⊢
  have cL : ce.locals = s3.heap.objs.size := by subst hce; rfl
  generalize hH3 : upd H2 D (.lst []) = H3 at I3 I4 pg pt pe w0 nfp f3
  generalize hs4 : ({ s3 with heap := pushCells (s3.heap.push { cls := .type "dict", data := .dict #[] }) scope.names } : Shared) = s4 at I4 ⊢
  have st4 : tn 0 s4.heap := T.keep _ _ _ st3 fun b _ o e => by rw [← hs4]; exact pushCells_keeps _ _ _ _ (Heap.get?_push_of_some _ e)
  have stat : ∀ {σ' : L2.St} {H' : Hp} {s' : Shared}, Inv (X.blk s3 H3 scope ce fp) [] σ' H' s' → (∀ b ∈ fp, H' b = none) → ∀ b ∈ fp, FpOk (X.blk s3 H3 scope ce fp) [] H' b := fun {σ' H' s'} I' hn b hb =>
    ⟨hn b hb, (I'.ok.exf b hb).1, I'.ok.exfs b hb, .inl hb, fun x c e => (I'.ok.exf b hb).2 x c e, fun p hp => absurd (show p ∈ ([] : List (Addr × Obj)) ++ [] from hp) (by simp)⟩
  refine codeAny_compStart_list ?_ (T.self X.A 0 _ _ _ st4 ?_) <;>
  · refine compLoop_any (fun n s' => ∃ i H', Inv (X.blk s3 H3 scope ce fp) [] (wipe σ (own.map (·.2))) H' s' ∧ tn i s'.heap ∧ (∀ b ∈ fp, H' b = none) ∧ W i n H') ?_ m0 ⟨0, H3, I4, st4, nfp, w0⟩
    rintro n s5 ⟨i, H5, I5, st5, n5, w5⟩
    rcases turn i n H5 w5 with ⟨stop, qq⟩ | ⟨go, Nx, hNx, step⟩
    · refine thnF (T.done (X.blk s3 H3 scope ce fp) rfl rfl rfl hc i [] s5 _ H5 (fun _ _ => False) I5 (stat I5 n5) st5 stop) fun r s6 ⟨hr, I6⟩ => ?_
      subst hr
      have I7 : Inv X pins σ H5 s6 := I3.call' (ch := fp) I6.os I6.base I6.hok I6.bare fun b hb => ⟨(f3 b hb).1.2.2.2.1, (f3 b hb).1.2.1, (f3 b hb).1.2.2.2.2.1, (f3 b hb).1.2.2.2.2.2⟩
      have nC : H5 s3.heap.objs.size = none := cL ▸ (show H5 ce.locals = none from I6.free)
      obtain ⟨m, hn, _⟩ := I6.loc
      exact hRR D s3.heap.objs.size s6 m H5 I7 qq (cL ▸ (show s6.heap.Ns ce.locals m from hn)) (I3.fpOk (Nat.le_refl _) nC)
    · refine thnF (T.item (X.blk s3 H3 scope ce fp) rfl rfl rfl hc i [] s5 _ H5 (fun _ _ => False) I5 (stat I5 n5) st5 go) fun r s6 ⟨u, hr, h6⟩ => ?_
      subst hr
      refine thnF h6 fun _ s7 ⟨x, H7, I7, r7, y7, st7, n7⟩ => ?_
      refine thnF (pg.run _ s7 _ H7 x u _ (I7.pinned (stat I7 n7) (T.obj _ _ st7)) r7 (step x H7 y7)) fun _ s8 ⟨σ8, H8, I8, hw8, q8⟩ => thnF (pt.run _ s8 σ8 H8 _ I8 q8) fun b s9 ⟨H9, I9, q9⟩ => ?_
      have fin : ∀ {s' : Shared} {H' : Hp}, Inv (X.blk s3 H3 scope ce fp) ([] ++ pinsAt fp s7.heap) σ8 H' s' → Nx H' → ∃ m, m < n ∧ ∃ i H', Inv (X.blk s3 H3 scope ce fp) [] (wipe σ (own.map (·.2))) H' s' ∧ tn i s'.heap ∧ (∀ b ∈ fp, H' b = none) ∧ W i m H' := fun {s' H'} I' nx => by
        obtain ⟨m', hm, w'⟩ := hNx H' nx
        have pin' : ∀ b ∈ fp, ∀ o, s7.heap.get? b = some o → s'.heap.get? b = some o ∧ H' b = none := fun b hb o e =>
          let z := I'.pin (b, o) (List.mem_append_right _ (List.mem_append_right _ (mem_pinsAt hb e)))
          ⟨z.1, z.2.1⟩
        refine ⟨m', hm, i + 1, H', (I'.unpinned (pins := [])).weak (by rw [← hw8, wipe_length]) (fun j v e => (wipe_some (hw8 ▸ e)).1), T.keep _ _ _ st7 fun b hb o e => (pin' b hb o e).1, fun b hb => ?_, w'⟩
        obtain ⟨o, e, _⟩ := T.obj _ _ st7 b hb
        exact (pin' b hb o e).2
      cases b with
      | false =>
        simp only [Bool.false_eq_true, if_false] at q9 ⊢
        exact fin I9 q9
      | true =>
        simp only [if_true] at q9 ⊢
        exact thnF (pe.run _ s9 σ8 H9 _ I9 q9) fun z s10 ⟨yv, H10, I10, r10, acc, hD10, hz10, nx⟩ => app_ok (X := X.blk s3 H3 scope ce fp) I10 hD10 hz10 r10 fun s11 I11 => fin I11 nx
theorem pe_lcX {elt tg iter : Expr} {ifs : List Expr} {scope : Scope} {own : List (Str × Nat)} {pos : Pos} {wi : TI} {g : TG} {tt : TT} {te : L2.St → TE} (hc : X.calm = true) (hN : X.N.Nodup) (hi : PI X tg iter wi) (ok : BlkOk X.N X.env.scope scope own)
    (hg : ∀ (s : Shared) (H : Hp) (C : Addr) (cl : List (Str × Addr)) (fp : List Addr), PG (X.blk s H scope (compEnvC scope cl C X.env) fp) tg g)
    (ht : ∀ (s : Shared) (H : Hp) (C : Addr) (cl : List (Str × Addr)) (fp : List Addr), PTs (X.blk s H scope (compEnvC scope cl C X.env) fp) ifs tt)
    (he : ∀ (pins : List (Addr × Obj)) (σ : L2.St) (s : Shared) (H : Hp) (C : Addr) (cl : List (Str × Addr)) (fp : List Addr), Inv X pins σ H s → (∀ b ∈ fp, FpOk X pins H b) → PE (X.blk s H scope (compEnvC scope cl C X.env) fp) elt (te σ)) (hs : ∀ x, foldedSetIterable iter X.env x = pure x := by intro _; rfl) :
    PE X (.ListComp elt [⟨tg, iter, ifs, 0⟩] scope pos) (fun σ => tLc wi g tt (te σ) (own.map (·.2)) σ) := by
  refine ⟨fun pins s σ H Q I h => ?_⟩
  rw [eval_ListComp]
  refine lcX_core hc hN I hi ok hg ht (he pins σ) hs h fun D C s' m H' I' q hn f => ⟨m, hn, fun h'' sb => ?_⟩
  obtain ⟨f0, f1, f2, f3, f4, f5⟩ := f
  exact ⟨.ref D, H', I'.turned (t' := s'.toks) (fun b o hb e => (sb.2 b hb).trans e) f0 f1 f3 f4 f5, rfl, q⟩
end
end K14
/-! ## K14G -/
namespace K14
open PySem PySem.Spec PyProof.Rows L2 LamX NdefX
/-! ### the lambdas of _law_errors_right -/
def exOf : Stmt → Expr
  | .Assign _ v _ => v
  | .Expr v _ => v
  | .If t _ _ _ => t
  | _ => .Constant .none 0 ⟨0, 0, 0, 0⟩
def elOf : Expr → List Expr
  | .List es _ => es
  | .Call _ es _ _ => es
  | .Compare l _ _ _ => [l]
  | _ => []
def forB : Stmt → List Stmt
  | .For _ _ b _ _ => b
  | _ => []
abbrev lStm (i : Nat) : Stmt := (defBody t_law_errors_right).getD i (.Pass ⟨0, 0, 0, 0⟩)
abbrev eD : Expr := .Constant .none 0 ⟨0, 0, 0, 0⟩
def lx : Nat → Expr
  | 1 => (elOf (exOf (lStm 1))).getD 0 eD
  | 2 => (elOf (exOf (lStm 1))).getD 1 eD
  | 3 => (elOf ((elOf (exOf (lStm 2))).getD 0 eD)).getD 0 eD
  | 4 => (elOf ((elOf (exOf (lStm 2))).getD 0 eD)).getD 1 eD
  | 5 => (elOf (exOf (lStm 3))).getD 0 eD
  | _ => (elOf ((elOf (exOf ((forB (lStm 7)).getD 1 (.Pass ⟨0, 0, 0, 0⟩)))).getD 0 eD)).getD 0 eD
def lamP : Expr → Arguments
  | .Lambda p _ _ _ => p
  | _ => ⟨[], [], none, [], [], none, []⟩
def lamB : Expr → Expr
  | .Lambda _ b _ _ => b
  | e => e
def lamS : Expr → Scope
  | .Lambda _ _ s _ => s
  | _ => defScope t_law
abbrev lamQ : Str := ("_law_errors_right" : Str) ++ ".<locals>." ++ "<lambda>"
abbrev lamF (i : Nat) (cl : List (Str × Addr)) (c : Addr) (dv : Option Addr) : LF := ⟨lamP (lx i), lamB (lx i), lamS (lx i), lamQ, cl, c, dv⟩
theorem cut_from1 (xs : List V) (h : 1 ≤ xs.length) : cutV xs (some (1 : Int)) none = xs.drop 1 := by
  have e := HT.sIx_nat xs.length 0 1
  unfold cutV
  rw [show (1 : Int) = ((1 : Nat) : Int) from rfl, e, HT.sIx_none, Nat.min_eq_left h, List.take_of_length_le (by rw [List.length_drop]; omega)]
section
variable {P : Program} {w : World} {K : PySem.W.Frag} {mg : Str → Option Value} {base : Heap} {f c : Addr} {cl : List (Str × Addr)}
structure Cse (K : PySem.W.Frag) (H : Hp) (v u g : V) (sz : List Nat) (rt : Rt) (t : Int) (xs gl : List Int) : Prop where
  hv : Tp K H v (planD sz rt)
  ok : PlanOk sz rt
  hu : Tp K H u (stD sz rt.length t xs)
  so : StOk sz rt t xs
  hg : Tp K H g (intsD gl)
  pm : gl.Perm xs
  t1 : -1000000000000000000 ≤ t
  t2 : t ≤ 1000000000000000000
theorem Cse.keep {H H' : Hp} {v u g : V} {sz : List Nat} {rt : Rt} {t : Int} {xs gl : List Int} (h : Cse K H v u g sz rt t xs gl) (s : Tm H H') : Cse K H' v u g sz rt t xs gl := ⟨tpKeep s h.hv, h.ok, tpKeep s h.hu, h.so, tpKeep s h.hg, h.pm, h.t1, h.t2⟩
theorem Cse.len {H : Hp} {v u g : V} {sz : List Nat} {rt : Rt} {t : Int} {xs gl : List Int} (h : Cse K H v u g sz rt t xs gl) : gl.length = rt.length + sz.sum ∧ 1 ≤ rt.length + sz.sum ∧ rt.length + sz.sum ≤ 114 := by
  have h1 := h.pm.length_eq
  have h2 : xs.length = rt.length + sz.sum := h.so.len
  have h3 : 1 ≤ rt.length + sz.sum := h.ok.n_pos
  have h4 : rt.length + sz.sum ≤ 114 := h.ok.n_le
  omega
/-- an error that is due -/
def spDue (K : PySem.W.Frag) (mg : Str → Option Value) (kind : Str) (more : List (Option V)) : List (Option V) → Hp → VK → XK → Prop := fun ws H _ E => ∃ v u g sz rt t xs gl, ws = [some v, some u, some g] ++ more ∧ Cse K H v u g sz rt t xs gl ∧ ∀ H', Same H H' → E (.ref (cad mg kind)) none H'
def frA : List Str := ["_law_plan_here", "_law_state_here", "_law_goal", "_law_far"]
def frB : List Str := ["_law_plan_here", "_law_state_here", "_law_goal"]
def frC : List Str := ["_law_plan_here", "_law_state_here", "_law_swaps"]
theorem lam1 (T : Txt K mg) (EC : Ecs K mg) : LOk P w K mg base (L2.CX P w) 10 f (lamF 1 cl c none) frA (spDue K mg "InvalidArrangement" [some (.int 1000000000000000001)]) := by
  have C_plan_swaps : Cal P w K mg base (L2.CX P w) 9 _ _ _ := ok_plan_swaps T EC
  refine lok_of (N := frA) (ps := []) (vs := []) (nscope_by (show nscB frA [] frA (lamS (lx 1)) = true by decide +kernel)) rfl (.inl ⟨rfl, rfl, fun pm ctv => rfl⟩) (fun A outer s H ws Q E hr hl h => ?_)
  obtain ⟨v, u, g, sz, rt, t, xs, gl, rfl, cs, k⟩ := h
  obtain ⟨g1, g2, g3⟩ := cs.len
  obtain ⟨ga, gs, rfl, hga, hgs⟩ := tpTup cs.hg
  rw [tpInts hgs] at hga
  have lg : (gl.map V.int).length = gl.length := List.length_map _
  refine ⟨_, (pe_cal C_plan_swaps (hr.mono (by decide)) rfl (passes_call (takes_of rfl rfl rfl rfl) (fun _ _ _ _ h => h)) (pa_cons (pv 0) (pa_cons (pv 1) (pa_cons (pe_slice (k_slT (K := K)) (pv 2) (po_some pe_int) po_none) (pa_cons (pv 3) pa_nil))))), ?_⟩
  refine ⟨_, rfl, _, rfl, _, rfl, _, rfl, ga, _, rfl, hga, fun hw => ?_, fun hw p hp => ?_⟩
  · have e := HT.sIx_nat (gl.map V.int).length 0 1
    rw [show (1 : Int) = ((1 : Nat) : Int) from rfl, e, lg] at hw
    exact absurd hw.1 (by omega)
  · rw [cut_from1 _ (by rw [lg]; omega), ← List.map_drop]
    have S1 := sNew (Same.refl H) hp (.tup ((gl.drop 1).map V.int))
    have c1 := cs.keep (sTm S1)
    refine ⟨_, rfl, v, u, .ref p, sz, rt, t, xs, gl.drop 1, _, rfl, c1.hv, c1.ok, c1.hu, c1.so, .tup (SqT.of upd_same) (tpIntsMk _), by rw [List.length_drop]; omega, c1.t1, c1.t2, .inl ⟨fun z => ?_, fun H' S' => k H' (S1.trans S')⟩⟩
    have := z.length_eq
    rw [List.length_drop, ← cs.pm.length_eq] at this
    omega
theorem lam3 (T : Txt K mg) (EC : Ecs K mg) : LOk P w K mg base (L2.CX P w) 10 f (lamF 3 cl c none) frA (spDue K mg "InvalidCount" [some (.int 1000000000000000001)]) := by
  have C_plan_swaps : Cal P w K mg base (L2.CX P w) 9 _ _ _ := ok_plan_swaps T EC
  refine lok_of (N := frA) (ps := []) (vs := []) (nscope_by (show nscB frA [] frA (lamS (lx 3)) = true by decide +kernel)) rfl (.inl ⟨rfl, rfl, fun pm ctv => rfl⟩) (fun A outer s H ws Q E hr hl h => ?_)
  obtain ⟨v, u, g, sz, rt, t, xs, gl, rfl, cs, k⟩ := h
  obtain ⟨g1, g2, g3⟩ := cs.len
  refine ⟨_, (pe_cal C_plan_swaps (hr.mono (by decide)) rfl (passes_call (takes_of rfl rfl rfl rfl) (fun _ _ _ _ h => h)) (pa_cons (pv 0) (pa_cons (pv 1) (pa_cons (pv 2) (pa_cons (pv 3) pa_nil))))), ?_⟩
  exact ⟨_, rfl, _, rfl, _, rfl, _, rfl, v, u, g, sz, rt, t, xs, gl, _, rfl, cs.hv, cs.ok, cs.hu, cs.so, cs.hg, by omega, cs.t1, cs.t2, .inr (.inl ⟨cs.pm, .inr (by decide), k⟩)⟩
theorem lam2 {D : Addr} (T : Txt K mg) (EC : Ecs K mg) : LOk P w K mg base (L2.CX P w) 10 f (lamF 2 cl c (some D)) frA (spDue K mg "InvalidArrangement" [some (.int 1000000000000000001)]) := by
  have C_fewest_swaps : Cal P w K mg base (L2.CX P w) 9 _ _ _ := ok_fewest_swaps T EC
  refine lok_of (N := "_law_a" :: frA) (ps := ["_law_a"]) (vs := [.int 0]) (nscope_by (show nscB ("_law_a" :: frA) ["_law_a"] frA (lamS (lx 2)) = true by decide +kernel)) rfl (.inr ⟨D, "_law_a", rfl, rfl, rfl, fun pm ctv => ⟨_, rfl, fun v => rfl⟩⟩) (fun A outer s H ws Q E hr hl h => ?_)
  obtain ⟨v, u, g, sz, rt, t, xs, gl, rfl, cs, k⟩ := h
  obtain ⟨g1, g2, g3⟩ := cs.len
  obtain ⟨ga, gs, rfl, hga, hgs⟩ := tpTup cs.hg
  rw [tpInts hgs] at hga
  have lg : (gl.map V.int).length = gl.length := List.length_map _
  refine ⟨_, (pe_cal C_fewest_swaps (hr.mono (by decide)) rfl (passes_call (takes_of rfl rfl rfl rfl) (fun _ _ _ _ h => h)) (pa_cons (pv 1) (pa_cons (pv 2) (pa_cons (pe_op (k_catT (K := K)) (pv 3) (pe_tup (pa_cons pe_int pa_nil))) (pa_cons (pv 4) pa_nil))))), ?_⟩
  refine ⟨_, rfl, _, rfl, _, rfl, leLine (show 1 ≤ 100000 by decide), fun q hq => ⟨ga, q, gl.map V.int, [.int 1], rfl, rfl, sqTm (tmNew hq _) hga, SqT.of upd_same, leLine (by rw [lg]; show gl.length + 1 ≤ 100000; omega), ?_⟩⟩
  have ne : gl.map V.int ≠ [] := fun z => by
    have := congrArg List.length z
    rw [lg, List.length_nil] at this
    omega
  refine ⟨fun z => absurd z ne, fun _ z => absurd z (by simp), fun _ _ p hp => ?_⟩
  have S2 := sNew (sNew (Same.refl H) hq (.tup [.int 1])) hp (.tup (gl.map V.int ++ [.int 1]))
  have c1 := cs.keep (sTm S2)
  have e1 : gl.map V.int ++ [V.int 1] = (gl ++ [1]).map V.int := by rw [List.map_append]; rfl
  refine ⟨_, rfl, v, u, .ref p, sz, rt, t, xs, gl ++ [1], _, rfl, c1.hv, c1.ok, c1.hu, c1.so, .tup (SqT.of (by rw [upd_same, e1])) (tpIntsMk _), by rw [List.length_append, List.length_singleton]; omega, c1.t1, c1.t2, .inl ⟨fun z => ?_, fun H' S' => k H' (S2.trans S')⟩⟩
  have := z.length_eq
  rw [List.length_append, List.length_singleton, ← cs.pm.length_eq] at this
  omega
theorem lam4 {D : Addr} (T : Txt K mg) (EC : Ecs K mg) : LOk P w K mg base (L2.CX P w) 10 f (lamF 4 cl c (some D)) frA (spDue K mg "InvalidCount" [some (.int 1000000000000000001)]) := by
  have C_fewest_swaps : Cal P w K mg base (L2.CX P w) 9 _ _ _ := ok_fewest_swaps T EC
  refine lok_of (N := "_law_a" :: frA) (ps := ["_law_a"]) (vs := [.int 0]) (nscope_by (show nscB ("_law_a" :: frA) ["_law_a"] frA (lamS (lx 4)) = true by decide +kernel)) rfl (.inr ⟨D, "_law_a", rfl, rfl, rfl, fun pm ctv => ⟨_, rfl, fun v => rfl⟩⟩) (fun A outer s H ws Q E hr hl h => ?_)
  obtain ⟨v, u, g, sz, rt, t, xs, gl, rfl, cs, k⟩ := h
  obtain ⟨g1, g2, g3⟩ := cs.len
  refine ⟨_, (pe_cal C_fewest_swaps (hr.mono (by decide)) rfl (passes_call (takes_of rfl rfl rfl rfl) (fun _ _ _ _ h => h)) (pa_cons (pv 1) (pa_cons (pv 2) (pa_cons (pv 3) (pa_cons (pe_op op_sub pe_int (pv 4)) pa_nil))))), ?_⟩
  exact ⟨_, rfl, _, rfl, _, rfl, _, rfl, _, _, rfl, rfl, v, u, g, sz, rt, t, xs, gl, _, rfl, cs.hv, cs.ok, cs.hu, cs.so, cs.hg, by omega, cs.t1, cs.t2, .inr (.inl ⟨cs.pm, .inl (by decide), k⟩)⟩
theorem lam5 (T : Txt K mg) (EC : Ecs K mg) : LOk P w K mg base (L2.CX P w) 10 f (lamF 5 cl c none) frB (spDue K mg "InvalidArrangement" []) := by
  have C_plan_swaps : Cal P w K mg base (L2.CX P w) 9 _ _ _ := ok_plan_swaps T EC
  refine lok_of (N := frB) (ps := []) (vs := []) (nscope_by (show nscB frB [] frB (lamS (lx 5)) = true by decide +kernel)) rfl (.inl ⟨rfl, rfl, fun pm ctv => rfl⟩) (fun A outer s H ws Q E hr hl h => ?_)
  obtain ⟨v, u, g, sz, rt, t, xs, gl, rfl, cs, k⟩ := h
  obtain ⟨g1, g2, g3⟩ := cs.len
  obtain ⟨ga, gs, rfl, hga, hgs⟩ := tpTup cs.hg
  rw [tpInts hgs] at hga
  have lg : (gl.map V.int).length = gl.length := List.length_map _
  have ne : gl.map V.int ≠ [] := fun z => by
    have := congrArg List.length z
    rw [lg, List.length_nil] at this
    omega
  have fin : ∀ (H1 : Hp) (p : Addr) (ys : List Int), Same H H1 → H1 p = some (.tup ((gl ++ ys).map V.int)) → 1 ≤ ys.length → ys.length ≤ 200 → spNeed K mg (isL K) [v, u, .ref p, .int 0] H1 Q E := fun H1 p ys S hp l1 l2 => by
    have c1 := cs.keep (sTm S)
    refine ⟨v, u, .ref p, sz, rt, t, xs, gl ++ ys, _, rfl, c1.hv, c1.ok, c1.hu, c1.so, .tup (SqT.of hp) (tpIntsMk _), by rw [List.length_append]; omega, c1.t1, c1.t2, .inl ⟨fun z => ?_, fun H' S' => k H' (S.trans S')⟩⟩
    have := z.length_eq
    rw [List.length_append, ← cs.pm.length_eq] at this
    omega
  refine ⟨_, (pe_cal C_plan_swaps (hr.mono (by decide)) rfl (passes_call (takes_of rfl rfl rfl rfl) (fun _ _ _ _ h => h)) (pa_cons (pv 0) (pa_cons (pv 1) (pa_cons (pe_op (k_catT (K := K)) (pv 2) (pe_slice (k_slT (K := K)) (pv 2) po_none (po_some pe_int))) (pa_cons pe_int pa_nil))))), ?_⟩
  refine ⟨_, rfl, _, rfl, _, rfl, _, rfl, _, rfl, ga, _, rfl, hga, fun hw => ?_, fun hw p hp => ?_⟩
  · refine ⟨ga, ga, gl.map V.int, gl.map V.int, rfl, rfl, hga, hga, leLine (by rw [lg]; omega), fun z => absurd z ne, fun _ z => absurd z ne, fun _ _ p hp => ?_⟩
    exact fin _ p gl (sNew (Same.refl H) hp _) (by rw [upd_same, List.map_append]) (by omega) (by omega)
  · have cut : cutV (gl.map V.int) none (some (1 : Int)) = (gl.take 1).map V.int := by
      have := cut_take (gl.map V.int) 1 (by rw [lg]; omega)
      rw [List.map_take]
      exact this
    rw [cut]
    have lt1 : (gl.take 1).length = 1 := by rw [List.length_take]; omega
    refine ⟨ga, p, gl.map V.int, (gl.take 1).map V.int, rfl, rfl, sqTm (tmNew hp _) hga, SqT.of upd_same, leLine (by rw [lg, List.length_map, lt1]; omega), fun z => absurd z ne, fun _ z => ?_, fun _ _ p2 hp2 => ?_⟩
    · have := congrArg List.length z
      rw [List.length_map, lt1] at this
      cases this
    · exact fin _ p2 (gl.take 1) (sNew (sNew (Same.refl H) hp _) hp2 _) (by rw [upd_same, List.map_append]) (by omega) (by omega)
def spBad (K : PySem.W.Frag) (mg : Str → Option Value) : List (Option V) → Hp → VK → XK → Prop := fun ws H _ E => ∃ v u g sz rt t xs gl, ∃ (s : Addr) (ys : List V) (kk : Nat) (x : V), ws = [some v, some u, some (.ref s)] ∧ Cse K H v u g sz rt t xs gl ∧ SqL K H s ys ∧ ys[kk]? = some x ∧ (∀ i y, i < kk → ys[i]? = some y → GoodS K H sz rt.length y) ∧ BadS K H sz rt.length x ∧
  ∀ (H' : Hp) (d : Addr), Same H H' → H' d = some (.xd [("index", .int (kk : Nat))]) → E (.ref (cad mg "InvalidSwap")) (some d) H'
theorem lam6 (T : Txt K mg) (EC : Ecs K mg) : LOk P w K mg base (L2.CX P w) 10 f (lamF 6 cl c none) frC (spBad K mg) := by
  have C_swap_all : Cal P w K mg base (L2.CX P w) 4 _ _ _ := ok_swap_all T EC
  refine lok_of (N := frC) (ps := []) (vs := []) (nscope_by (show nscB frC [] frC (lamS (lx 6)) = true by decide +kernel)) rfl (.inl ⟨rfl, rfl, fun pm ctv => rfl⟩) (fun A outer s H ws Q E hr hl h => ?_)
  obtain ⟨v, u, g, sz, rt, t, xs, gl, sw, ys, kk, x, rfl, cs, hs, hx, hgood, hbad, k⟩ := h
  refine ⟨_, (pe_cal C_swap_all (hr.mono (by decide)) rfl (passes_call (takes_of rfl rfl rfl rfl) (fun _ _ _ _ h => h)) (pa_cons (pv 0) (pa_cons (pv 1) (pa_cons (pv 2) pa_nil)))), ?_⟩
  exact ⟨_, rfl, _, rfl, _, rfl, v, u, sw, sz, rt, t, xs, ys, rfl, cs.hv, cs.ok, cs.hu, cs.so, hs, .inr ⟨kk, x, hx, hgood, hbad, k⟩⟩
end
end K14
/-! ## K14H -/
namespace K14
open PySem PySem.Spec PyProof.Rows L2 LamX NdefX
theorem cellsFrom_ge : ∀ {names : List (Str × NameKind)} {n : Nat} {acc : List (Str × Addr)} {p : Str × Addr}, p ∈ cellsFrom n names acc → p ∈ acc ∨ n ≤ p.2
  | [], _, _, _, h => .inl h
  | (m, k) :: r, n, acc, p, h => by
    unfold cellsFrom at h
    split at h
    · rcases cellsFrom_ge h with z | z
      · rcases List.mem_cons.mp z with e | z
        · exact .inr (by rw [e]; exact Nat.le_refl _)
        · exact .inl z
      · exact .inr (by omega)
    · exact cellsFrom_ge h
def ErrRun (P : Program) (w : World) (K : PySem.W.Frag) (mg : Str → Option Value) (base : Heap) (g : Addr) : Prop := mg "_law_error" = some (.ref g) ∧ PySem.W.keepIn K (.ref g) = true ∧
    ∀ {k : Nat} {f : Addr} {F : LF} {fr : List Str} {sp : List (Option V) → Hp → VK → XK → Prop} {A : Around} {outer : List Env} {s : Shared} {H : Hp} {ws : List (Option V)} {Q : VK}, LOk P w K mg base (L2.CX P w) k f F fr sp → Room (k + 1) A →
      Env0 P w K mg base A outer s H → LamAt H f F → CellsAt F.cl fr ws s.heap H → (∀ y c, F.cl.lookup y = some c → c ∉ frs outer) → (∀ (Q' : VK) (E' : XK), (∀ c d H', eOut mg Q c d H' → E' c d H') → sp ws H Q' E') →
      codeAny (model P w) A (.call (.ref g) ⟨[.ref f], []⟩) (CR CX0 outer P w H s Q (fun _ _ _ => False)) s
/-- _law_error(e), e a lambda made in X; the running context is Y -/
def tErr (P : Program) (w : World) (K : PySem.W.Frag) (mg : Str → Option Value) (base : Heap) (X : Cx) (sof : L2.St → L2.St) (te : TE) : TE := fun σ H Q => te σ H fun v H1 => ∃ (f : Addr) (F : LF) (fr : List Str) (sp : List (Option V) → Hp → VK → XK → Prop) (js : List Nat), v = .ref f ∧ LOk P w K mg base (L2.CX P w) 10 f F fr sp ∧ LamAt H1 f F ∧ (X.Ok → Caps X F.cl fr js) ∧
  ∀ (Q' : VK) (E' : XK), (∀ c d H', eOut mg Q c d H' → E' c d H') → sp (js.map (slotAt (sof σ))) H1 Q' E'
theorem pe_err {Y X : Cx} {sof : L2.St → L2.St} {te : TE} {e : Expr} {p pos : Pos} {g : Addr} (ER : ErrRun Y.prog Y.w Y.K Y.mg Y.base g) (okX : ∀ pins s σ H, Inv Y pins σ H s → X.Ok) (hC : ∀ pins s σ H cl fr js, Inv Y pins σ H s → Caps X cl fr js → CellsAt cl fr (js.map (slotAt (sof σ))) s.heap H) (hn : ∀ pins s σ H, Inv Y pins σ H s → ∀ y c, X.env.cells.lookup y = some c → c ∉ frs Y.stack)
    (hr : Room 11 Y.A) (hg : Gl Y "_law_error") (he : PE Y e te) (hs : starEach [e] Y.env = (false, eval e Y.env) :: starEach [] Y.env := by rfl) : PE Y (.Call (.Name "_law_error" p) [e] [] pos) (tErr Y.prog Y.w Y.K Y.mg Y.base X sof te) := by
  obtain ⟨hm, hk, run⟩ := ER
  refine ⟨fun pins s σ H Q I h => ?_⟩
  refine wpAny_Call_Name_kw (ld_glob I hg hm ?_ (by decide))
  refine PySem.W.callWith_K (h₀ := Y.base) I.ok.mod.kin hk (thn ((pa_cons he pa_nil hs).run pos pins s σ H (fun vs H1 => match vs with
    | [v] => ∃ (f : Addr) (F : LF) (fr : List Str) (sp : List (Option V) → Hp → VK → XK → Prop) (js : List Nat), v = .ref f ∧ LOk Y.prog Y.w Y.K Y.mg Y.base (L2.CX Y.prog Y.w) 10 f F fr sp ∧ LamAt H1 f F ∧ (X.Ok → Caps X F.cl fr js) ∧
      ∀ (Q' : VK) (E' : XK), (∀ c d H', eOut Y.mg Q c d H' → E' c d H') → sp (js.map (slotAt (sof σ))) H1 Q' E'
    | _ => False) I h) fun us s1 ⟨vs, H1, I1, r, hh⟩ => ⟨I1.kIn, ?_⟩) hs rfl
  rcases vs with _ | ⟨v, _ | ⟨_, _⟩⟩
  · exact hh.elim
  · obtain ⟨f, F, fr, sp, js, ef, L, la, cp, hsp⟩ := hh
    subst ef
    obtain ⟨u, rfl, ru⟩ := vals1 r
    obtain rfl : u = Value.ref f := ru
    show wpAny _ _ (call (.ref g) [.ref f]) _ _ _
    have cc := cp (okX _ _ _ _ I1)
    refine wpAny_call (codeAny_mono (run L hr I1.env0 la (hC _ _ _ _ _ _ _ I1 cc) (fun y c e => hn _ _ _ _ I1 y c (cc.sub y c e)) hsp) fun r s' hq => ?_)
    cases r with
    | error e => exact (show False from hq).elim
    | ok fl =>
      cases fl with
      | ret u => exact I1.after hq
      | next => exact False.elim hq
      | brk => exact False.elim hq
      | cont => exact False.elim hq
  · exact hh.elim
/-- the cells of a def are no frames -/
theorem cells_nf {X : Cx} {pins : List (Addr × Obj)} {σ : L2.St} {H : Hp} {s : Shared} (I : Inv X pins σ H s) (hge : ∀ y c, X.env.cells.lookup y = some c → X.s_0.heap.objs.size ≤ c) : ∀ y c, X.env.cells.lookup y = some c → c ∉ frs X.stack := fun y c e hm => by
  rcases List.mem_cons.mp (I.stkSub c hm) with z | z
  · exact I.cne y c e z
  · obtain ⟨_, o, ho, _⟩ := I.ok.funs.mem z
    exact absurd (Nat.lt_of_lt_of_le (Heap.lt_size ho) (hge y c e)) (Nat.lt_irrefl _)
theorem tabsUp {T : List (Addr × Str)} {H : Hp} {p : Addr} {xs : List V} {o : HO} (t : Tabs T H) (hp : H p = some (.lst xs)) : Tabs T (upd H p o) := fun q hq => by
  obtain ⟨ps, h1, h2, h3⟩ := t q hq
  refine ⟨ps, by rw [upd_ne (ne_of h1 hp (by intro z; cases z))]; exact h1, h2, fun pos cv hc => ?_⟩
  obtain ⟨c, e1, e2⟩ := h3 pos cv hc
  exact ⟨c, e1, by rw [upd_ne (ne_of e2 hp (codeO_nl xs))]; exact e2⟩
theorem tabsNew {T : List (Addr × Str)} {H : Hp} {p : Addr} {o : HO} (t : Tabs T H) (hp : H p = none) : Tabs T (upd H p o) := t.ext fun b u e => upd_keep e hp
theorem kyUp {H : Hp} {p : Addr} {xs : List V} {o : HO} (hp : H p = some (.lst xs)) : Ky H (upd H p o) := fun b u e n _ => by
  rw [upd_ne (fun z => n xs (by rw [z, hp] at e; exact (Option.some.inj e).symm))]
  exact e
theorem kyNew {H : Hp} {p : Addr} {o : HO} (hp : H p = none) : Ky H (upd H p o) := fun b u e _ _ => upd_keep e hp
theorem extSame {H H' H'' : Hp} (x : ExtN H H') (s : Same H' H'') : ExtN H H'' := fun b u e n => s _ _ (x b u e n)
theorem extLst {H H' : Hp} (x : ExtN H H') {p : Addr} {xs : List V} (h : H p = some (.lst xs)) : H' p = some (.lst xs) := x _ _ h (fun ps z => by cases z)
theorem BadS.ext {K : PySem.W.Frag} {H H' : Hp} {sz : List Nat} {m : Nat} {x : V} (h : BadS K H sz m x) (s : ExtN H H') : BadS K H' sz m x := by
  rcases h with ⟨p, q, h, r⟩ | ⟨p, h⟩ | h | ⟨l, zs, e, h⟩
  · exact .inl ⟨p, q, tpKeep (extTm s) h, r⟩
  · exact .inr (.inl ⟨p, tpKeep (extTm s) h⟩)
  · exact .inr (.inr (.inl h))
  · exact .inr (.inr (.inr ⟨l, zs, e, extLst s h⟩))
end K14
/-! ## K14I -/
namespace K14
open PySem PySem.Spec PyProof.Rows L2 LamX NdefX
abbrev N_law_errors_right : List Str := ["_law_plan_here", "_law_state_here", "_law_every", "_law_goal", "_law_far", "_law_works", "_law_due", "_law_good", "_law_odd", "_law_swaps", "_law_call"]
theorem sc_law_errors_right : FnScope N_law_errors_right ["_law_plan_here", "_law_state_here", "_law_every", "_law_goal"] (defScope t_law_errors_right) := ⟨rfl, rfl, rfl, by decide +kernel, rfl, by decide +kernel, by decide +kernel⟩
abbrev erX (P : Program) (w : World) (K : PySem.W.Frag) (mg : Str → Option Value) (base : Heap) (f c : Addr) (A : Around) (outer : List Env) (st : Shared) (H : Hp) (E : XK) : Cx := (cxOf CX0 P w K mg base N_law_errors_right "_law_errors_right" (defScope t_law_errors_right) f (.ref c) A outer st H E).nox
structure LTab (K : PySem.W.Frag) (mg : Str → Option Value) (base : Heap) (Pt : Addr) : Prop where
  ex : ∃ (f c : Addr) (oc : Value) (od : Option Addr) (dV kV doc pm : Value) (an : Option Addr) (ct : Value) (osl : Array (Option Value)),
    K.lookup f = some ⟨oc, od, .func (PySem.W.fnOf "_law_errors_right" "_law_errors_right" (defArgs t_law_errors_right) (defBody t_law_errors_right) (defScope t_law_errors_right) dV kV doc pm an (.ref c) ct), osl⟩ ∧
    PySem.W.codeIn K (.ref c) "_law_errors_right" = true ∧ mg "_law_errors_right" = some (.ref f) ∧ PySem.W.keepIn K (.ref f) = true ∧ TabB base mg c Pt ∧
    Binds K (PySem.W.fnOf "_law_errors_right" "_law_errors_right" (defArgs t_law_errors_right) (defBody t_law_errors_right) (defScope t_law_errors_right) dV kV doc pm an (.ref c) ct) ["_law_plan_here", "_law_state_here", "_law_every", "_law_goal"] []
abbrev lamT (Pt : Addr) : List (Addr × Str) := [(Pt, lamQ)]
theorem nd1 : ndefB (defScope t_law_errors_right) (lamS (lx 1)) frA = true := by decide +kernel
theorem nd2 : ndefB (defScope t_law_errors_right) (lamS (lx 2)) frA = true := by decide +kernel
theorem nd3 : ndefB (defScope t_law_errors_right) (lamS (lx 3)) frA = true := by decide +kernel
theorem nd4 : ndefB (defScope t_law_errors_right) (lamS (lx 4)) frA = true := by decide +kernel
theorem nd5 : ndefB (defScope t_law_errors_right) (lamS (lx 5)) frB = true := by decide +kernel
theorem nd6 : ndefB (defScope t_law_errors_right) (lamS (lx 6)) frC = true := by decide +kernel
theorem pow18 : (10 : Int) ^ (18 : Int).toNat + 1 = 1000000000000000001 := by decide
def spER (K : PySem.W.Frag) (Pt : Addr) : Sp := fun vs H Q _ => ∃ (v u g : V) (e : Addr) (es : List V) (sz : List Nat) (rt : Rt) (t : Int) (xs gl : List Int), vs = [v, u, .ref e, g] ∧ Cse K H v u g sz rt t xs gl ∧ H e = some (.lst es) ∧ TpAll K H es ((placesL sz rt.length).map plD) ∧ Tabs (lamT Pt) H ∧
  ∀ H', ExtN H H' → Tabs (lamT Pt) H' → Q (.bl true) H'
theorem extTrans {H H1 H2 : Hp} (a : ExtN H H1) (b : ExtN H1 H2) : ExtN H H2 := fun x u e n => b x u (a x u e n) n
theorem extRefl (H : Hp) : ExtN H H := fun _ _ e _ => e
theorem extUp {H H' : Hp} (x : ExtN H H') {q : Addr} (hn : ∀ u, H q = some u → (∀ ps, u ≠ .tbl ps) → False) (o : HO) : ExtN H (upd H' q o) := fun b u e n => by
  rw [upd_ne (fun z => hn u (by rw [← z]; exact e) n)]
  exact x b u e n
theorem newN {H H' : Hp} (x : ExtN H H') {q : Addr} (hq : H' q = none) : ∀ u, H q = some u → (∀ ps, u ≠ .tbl ps) → False := fun u e n => by
  have := x q u e n
  rw [hq] at this
  cases this
def LD (P : Program) (w : World) (K : PySem.W.Frag) (mg : Str → Option Value) (base : Heap) (X : Cx) (σ : L2.St) (H : Hp) (word : Str) (v : V) : Prop := ∃ (f : Addr) (F : LF) (fr : List Str) (sp : List (Option V) → Hp → VK → XK → Prop) (js : List Nat),
  v = .ref f ∧ LOk P w K mg base (L2.CX P w) 10 f F fr sp ∧ LamAt H f F ∧ (X.Ok → Caps X F.cl fr js) ∧
  ∀ (H' : Hp) (Q : VK), Same H H' → (∀ (H'' : Hp) (q : Addr), Same H' H'' → H'' q = some (.tup [.str word]) → Q (.ref q) H'') → ∀ (Q' : VK) (E' : XK), (∀ c d H', eOut mg Q c d H' → E' c d H') → sp (js.map (slotAt σ)) H' Q' E'
theorem atI_last {α : Type} {xs : List α} (h : 1 ≤ xs.length) : atI xs (-1) = xs[xs.length - 1]? := by
  unfold atI ixN
  rw [if_neg (by decide), if_pos (by omega)]
  show xs[((-1 : Int) + (xs.length : Int)).toNat]? = _
  congr 1
  omega
theorem notShf {sz : List Nat} {m : Nat} (h : sz.length ≤ 12) : Pl.shf 12 0 ∉ placesL sz m := fun z => by
  unfold placesL placesP at z
  rcases List.mem_append.mp z with z | z
  · obtain ⟨_, _, e⟩ := List.mem_map.mp z
    cases e
  · obtain ⟨s, hs, z⟩ := List.mem_flatMap.mp z
    unfold shelfP at z
    obtain ⟨_, _, e⟩ := List.mem_map.mp z
    cases e
    have := List.mem_range.mp hs
    omega
structure ErL (K : PySem.W.Frag) (Pt : Addr) (H H' : Hp) (gd O : Addr) (v0 vl : V) (odds : List V) (sz : List Nat) (m : Nat) : Prop where
  x : ExtN H H'
  t : Tabs (lamT Pt) H'
  g : H' gd = some (.tup [v0, vl])
  o : H' O = some (.tup odds)
  b : ∀ y ∈ odds, BadS K H' sz m y
theorem ErL.ext {K : PySem.W.Frag} {Pt : Addr} {H H1 H2 : Hp} {gd O : Addr} {v0 vl : V} {odds : List V} {sz : List Nat} {m : Nat} (E : ErL K Pt H H1 gd O v0 vl odds sz m) (x : ExtN H1 H2) (t : Tabs (lamT Pt) H2) : ErL K Pt H H2 gd O v0 vl odds sz m :=
  ⟨extTrans E.x x, t, x _ _ E.g (fun _ z => nomatch z), x _ _ E.o (fun _ z => nomatch z), fun y hy => (E.b y hy).ext x⟩
theorem ErL.same {K : PySem.W.Frag} {Pt : Addr} {H H1 H2 : Hp} {gd O : Addr} {v0 vl : V} {odds : List V} {sz : List Nat} {m : Nat} (E : ErL K Pt H H1 gd O v0 vl odds sz m) (s : Same H1 H2) : ErL K Pt H H2 gd O v0 vl odds sz m := E.ext (fun b u e _ => s b u e) (E.t.ext s)
theorem good6 {K : PySem.W.Frag} {H : Hp} {sz : List Nat} {m : Nat} {a x : V} (h : GoodS K H sz m a) {i : Nat} {y : V} (hi : i < 6) (hy : [a, a, a, a, a, a, x][i]? = some y) : GoodS K H sz m y := by
  have e : y = a := by
    match i, hi, hy with
    | 0, _, hy => exact (Option.some.inj hy).symm
    | 1, _, hy => exact (Option.some.inj hy).symm
    | 2, _, hy => exact (Option.some.inj hy).symm
    | 3, _, hy => exact (Option.some.inj hy).symm
    | 4, _, hy => exact (Option.some.inj hy).symm
    | 5, _, hy => exact (Option.some.inj hy).symm
  rw [e]
  exact h
theorem dueE {K : PySem.W.Frag} {mg : Str → Option Value} {kind : Str} {more : List (Option V)} {H : Hp} {v u g : V} {sz : List Nat} {rt : Rt} {t : Int} {xs gl : List Int} (hx : kind ∈ raised) (hne : kind ≠ "InvalidSwap") (cs : Cse K H v u g sz rt t xs gl) {Q : VK}
    (hq : ∀ (H'' : Hp) (q : Addr), Same H H'' → H'' q = some (.tup [.str (wordOf kind)]) → Q (.ref q) H'') : ∀ (Q' : VK) (E' : XK), (∀ c d H', eOut mg Q c d H' → E' c d H') → spDue K mg kind more ([some v, some u, some g] ++ more) H Q' E' := fun Q' E' hE =>
  ⟨v, u, g, sz, rt, t, xs, gl, rfl, cs, fun H' S => hE _ _ _ ⟨kind, hx, rfl, .inl ⟨hne, rfl, fun H'' q S2 _ e => hq H'' q (S.trans S2) e⟩⟩⟩
abbrev kw5 : List Str := ["arrangement", "arrangement", "count", "count", "arrangement"]
abbrev strsD (ks : List Str) : List PyData := ks.map fun s => .tuple [.str s]
theorem kw5get {i : Nat} (h : i < 5) : kw5[i]? = some (kw5.getD i "") := some_of_lt _ h
section
variable {P : Program} {w : World} {K : PySem.W.Frag} {mg : Str → Option Value} {base : Heap}
theorem ok_errors_right (T : Txt K mg) (EC : Ecs K mg) {Pt : Addr} (LT : LTab K mg base Pt) : Cal P w K mg base CX0 12 "_law_errors_right" ["_law_plan_here", "_law_state_here", "_law_every", "_law_goal"] (spER K Pt) := by
  obtain ⟨g0, ER⟩ := err_run (P := P) (w := w) (base := base) T EC
  have ER : ErrRun P w K mg base g0 := ER
  obtain ⟨f, c, oc, od, dV, kV, doc, pm, an, ct, osl, lk, hcd, hm, hk, TB, hb⟩ := LT.ex
  refine ⟨f, _, fn_of (N := N_law_errors_right) lk hcd sc_law_errors_right (fun vs H Q E h => ?_) (fun A outer st H vs Q E hr h => ?_), hm, hk, hb⟩
  · obtain ⟨_, _, _, _, _, _, _, _, _, _, rfl, _⟩ := h
    rfl
  · suffices hh : ∃ t, PSs (erX P w K mg base f c A outer st H E) (defBody t_law_errors_right) t ∧ t { nx := fun _ H' => Q .non H', rt := Q } (start N_law_errors_right vs) H by
      obtain ⟨t, ht, q⟩ := hh
      exact ⟨t, ht.nox, q⟩
    obtain ⟨v, u, g, e, es, sz, rt, t, xs, gl, rfl, cs, he, hes, hT, kk⟩ := h
    have hu : ∀ p ∈ lamT Pt, p.1 = Pt → p.2 = lamQ := fun p hp _ => by
      obtain rfl := List.mem_singleton.mp hp
      rfl
    have hge : ∀ y a, (erX P w K mg base f c A outer st H E).env.cells.lookup y = some a → (erX P w K mg base f c A outer st H E).s_0.heap.objs.size ≤ a := fun y a e => by
      rcases cellsFrom_ge (PySem.mem_of_lookup e) with z | z
      · cases z
      · exact Nat.le_trans (Nat.le_succ _) z
    refine ⟨_, ((pss_cons (ps_set (i := 4) sc_law_errors_right.nd rfl (Or.inr rfl) (pe_op op_add (pe_op op_pow pe_int pe_int) pe_int))
    (pss_cons (ps_set (i := 5) sc_law_errors_right.nd rfl (Or.inl rfl) (pe_lst (pa_cons (pe_lamV (T := lamT Pt) TB rfl List.mem_cons_self hu (ndef_free nd1) (x0 := "_law_state_here") (ndef_fr nd1 _ (memOf (by decide +kernel))) rfl) (pa_cons (pe_lamD (T := lamT Pt) TB rfl List.mem_cons_self hu (ndef_free nd2) (x0 := "_law_state_here") (ndef_fr nd2 _ (memOf (by decide +kernel))) rfl rfl pe_int) pa_nil))))
    (pss_cons (ps_expr (k_extend (K := K) (pv 5) (pa_cons (pe_lst (pa_cons (pe_lamV (T := lamT Pt) TB rfl List.mem_cons_self hu (ndef_free nd3) (x0 := "_law_state_here") (ndef_fr nd3 _ (memOf (by decide +kernel))) rfl) (pa_cons (pe_lamD (T := lamT Pt) TB rfl List.mem_cons_self hu (ndef_free nd4) (x0 := "_law_state_here") (ndef_fr nd4 _ (memOf (by decide +kernel))) rfl rfl pe_int) pa_nil))) pa_nil)))
    (pss_cons (ps_expr (k_append (K := K) (pv 5) (pa_cons (pe_lamV (T := lamT Pt) TB rfl List.mem_cons_self hu (ndef_free nd5) (x0 := "_law_state_here") (ndef_fr nd5 _ (memOf (by decide +kernel))) rfl) pa_nil)))
    (pss_cons (ps_set (i := 6) sc_law_errors_right.nd rfl (Or.inl rfl) (pe_op op_cat (pe_op op_cat (pe_op op_rep (pe_lst (pa_cons (pe_tup (pa_cons pe_str pa_nil)) pa_nil)) pe_int) (pe_op op_rep (pe_lst (pa_cons (pe_tup (pa_cons pe_str pa_nil)) pa_nil)) pe_int)) (pe_lst (pa_cons (pe_tup (pa_cons pe_str pa_nil)) pa_nil))))
    (pss_cons (ps_if (pt_cmpR (k_neD (K := K) hr.units) (pe_lcX (own := [("_law_call", 10)]) (g := gName 10) (tt := tYes) (te := fun σ => tErr P w K mg base (erX P w K mg base f c A outer st H E) (fun _ => σ) (tVar 10)) rfl sc_law_errors_right.nd (ki_list (K := K) (pv 5)) (blkOk_by (N := N_law_errors_right) (sc := defScope t_law_errors_right) (by decide +kernel)) (fun _ _ _ _ _ => pg_name (i := 10) sc_law_errors_right.nd rfl (Or.inl rfl)) (fun _ _ _ _ _ => pts_nil) (fun _ σ _ _ _ _ _ I hfp => pe_err (X := erX P w K mg base f c A outer st H E) (sof := fun _ => σ) ER (fun _ _ _ _ _ => I.ok) (fun _ _ _ _ cl fr js I1 cp => CellsAt.later (cells_of I cp) (fun y a e => cells_nf I hge y a (cp.sub y a e)) (fun y a e hin => (hfp a hin).2.2.2.2.1 y a (cp.sub y a e) rfl) I1) (fun _ _ _ _ _ => cells_nf I hge) hr (by rfl) (pv 10))) (pv 6) (nomark _))
    (pss_one (ps_ret pe_bl))
    pss_nil)
    (pss_cons (ps_set (i := 7) sc_law_errors_right.nd rfl (Or.inl rfl) (pe_tup (pa_cons (pe_ix (k_ixL (K := K)) (pv 2) pe_int (fun _ _ => rfl)) (pa_cons (pe_ix (k_ixL (K := K)) (pv 2) (pe_un un_neg pe_int) (fun _ _ => rfl)) pa_nil))))
    (pss_cons (ps_for PassesOwn.never rfl (ki_tup (K := K) (pe_tup (pa_cons (pe_tup (pa_cons (pe_ix (k_ixL (K := K)) (pv 2) pe_int (fun _ _ => rfl)) (pa_cons (pe_ix (k_ixL (K := K)) (pv 2) pe_int (fun _ _ => rfl)) pa_nil))) (pa_cons (pe_tup (pa_cons (pe_ix (k_ixL (K := K)) (pv 2) pe_int (fun _ _ => rfl)) pa_nil)) (pa_cons (pe_lst (pa_cons (pe_ix (k_ixL (K := K)) (pv 2) pe_int (fun _ _ => rfl)) (pa_cons (pe_ix (k_ixL (K := K)) (pv 2) (pe_un un_neg pe_int) (fun _ _ => rfl)) pa_nil))) (pa_cons pe_non (pa_cons (pe_tup (pa_cons (pe_ix (k_ixL (K := K)) (pv 2) pe_int (fun _ _ => rfl)) (pa_cons (pe_tup (pa_cons pe_str (pa_cons pe_int (pa_cons pe_int pa_nil)))) pa_nil))) pa_nil))))))) (pg_name (i := 8) sc_law_errors_right.nd rfl (Or.inl rfl))
    (pss_cons (ps_set (i := 9) sc_law_errors_right.nd rfl (Or.inr rfl) (pe_ifExp (pt_cmpR (k_neD (K := K) hr.units) (pe_ix (k_ixL (K := K)) (pv 2) pe_int (fun _ _ => rfl)) (pe_ix (k_ixL (K := K)) (pv 2) (pe_un un_neg pe_int) (fun _ _ => rfl)) (nomark _)) (pe_op op_cat (pe_op op_rep (pe_lst (pa_cons (pv 7) pa_nil)) pe_int) (pe_lst (pa_cons (pv 8) pa_nil))) (pe_lst (pa_cons (pv 8) pa_nil))))
      (pss_one (ps_if (pt_cmpR (k_neD (K := K) hr.units) (pe_err (X := erX P w K mg base f c A outer st H E) (sof := id) ER (fun _ _ _ _ I => I.ok) (fun _ _ _ _ cl fr js I cp => cells_of I cp) (fun _ _ _ _ I => cells_nf I hge) hr (by rfl) (pe_lamV (T := lamT Pt) TB rfl List.mem_cons_self hu (ndef_free nd6) (x0 := "_law_state_here") (ndef_fr nd6 _ (memOf (by decide +kernel))) rfl)) (pe_tup (pa_cons pe_str (pa_cons (pe_op op_sub (pe_callB (k_len (K := K)) (by rfl) T.f_len b_len (pa_cons (pv 9) pa_nil)) pe_int) pa_nil))) (nomark _))
      (pss_one (ps_ret pe_bl))
      pss_nil))))
    (pss_one (ps_ret pe_bl))))))))))), ?_⟩
    refine ⟨_, _, rfl, rfl, ⟨by decide, by decide, by decide⟩, _, _, rfl, rfl, ?_⟩
    -- the lambdas of the list
    refine ⟨hT, fun f1 c1 dv1 H1 d1 x1 T1 n1 A1 => ⟨T1, fun f2 c2 dv2 H2 d2 x2 T2 n2 A2 => ⟨leLine (show 2 ≤ 100000 by decide), fun W hW => ?_⟩⟩⟩
    have xW := newN (extTrans x1 x2) hW
    have X3 := extNew (extTrans x1 x2) hW (.lst [.ref f1, .ref f2])
    have T3 := tabsNew (o := .lst [.ref f1, .ref f2]) T2 hW
    have W3 : upd H2 W (.lst [.ref f1, .ref f2]) W = some (.lst [.ref f1, .ref f2]) := upd_same
    have A1 := A1.keep ((kyExt x2).trans (kyNew (o := .lst [.ref f1, .ref f2]) hW))
    have A2 := A2.keep (kyNew (o := .lst [.ref f1, .ref f2]) hW)
    refine ⟨_, rfl, .inl ⟨rfl, _, SqL.of W3⟩, T3, fun f3 c3 dv3 H4 d3 x4 T4 n3 A3 => ⟨T4, fun f4 c4 dv4 H5 d4 x5 T5 n4 A4 => ⟨leLine (show 2 ≤ 100000 by decide), fun L hL => ?_⟩⟩⟩
    have W5 := extLst (extTrans x4 x5) W3
    have W6 := upd_keep (u := .lst [.ref f3, .ref f4]) W5 hL
    refine ⟨W, L, _, _, rfl, rfl, W6, upd_same, leLine (show 4 ≤ 100000 by decide), ?_⟩
    have k45 := (kyExt (extTrans x4 x5)).trans ((kyNew (o := .lst [.ref f3, .ref f4]) hL).trans (kyUp (o := .lst ([.ref f1, .ref f2] ++ [.ref f3, .ref f4])) W6))
    have A1 := A1.keep k45
    have A2 := A2.keep k45
    have A3 := A3.keep ((kyExt x5).trans ((kyNew (o := .lst [.ref f3, .ref f4]) hL).trans (kyUp (o := .lst ([.ref f1, .ref f2] ++ [.ref f3, .ref f4])) W6)))
    have A4 := A4.keep ((kyNew (o := .lst [.ref f3, .ref f4]) hL).trans (kyUp (o := .lst ([.ref f1, .ref f2] ++ [.ref f3, .ref f4])) W6))
    have X6 := extUp (extNew (extTrans X3 (extTrans x4 x5)) hL (.lst [.ref f3, .ref f4])) xW (.lst ([.ref f1, .ref f2] ++ [.ref f3, .ref f4]))
    have T6 := tabsUp (o := .lst ([.ref f1, .ref f2] ++ [.ref f3, .ref f4])) (tabsNew (o := .lst [.ref f3, .ref f4]) T5 hL) W6
    have W7 : upd (upd H5 L (.lst [.ref f3, .ref f4])) W (.lst ([.ref f1, .ref f2] ++ [.ref f3, .ref f4])) W = some (.lst ([.ref f1, .ref f2] ++ [.ref f3, .ref f4])) := upd_same
    generalize upd (upd H5 L (.lst [.ref f3, .ref f4])) W (.lst ([.ref f1, .ref f2] ++ [.ref f3, .ref f4])) = H6 at A1 A2 A3 A4 X6 T6 W7 ⊢
    refine ⟨_, rfl, .inl ⟨rfl, _, SqL.of W7⟩, T6, fun f5 c5 dv5 H7 d5 x7 T7 n5 A5 => ?_⟩
    have W8 := extLst x7 W7
    refine ⟨W, _, _, rfl, rfl, W8, ltLine (show 4 ≤ 100000 by decide), ?_⟩
    have k78 := (kyExt x7).trans (kyUp (o := .lst ([V.ref f1, .ref f2] ++ [.ref f3, .ref f4] ++ [.ref f5])) W8)
    have A1 := A1.keep k78
    have A2 := A2.keep k78
    have A3 := A3.keep k78
    have A4 := A4.keep k78
    have A5 := A5.keep (kyUp (o := .lst ([V.ref f1, .ref f2] ++ [.ref f3, .ref f4] ++ [.ref f5])) W8)
    have X8 := extUp (extTrans X6 x7) xW (.lst ([V.ref f1, .ref f2] ++ [.ref f3, .ref f4] ++ [.ref f5]))
    have T8 := tabsUp (o := .lst ([V.ref f1, .ref f2] ++ [.ref f3, .ref f4] ++ [.ref f5])) T7 W8
    have W8 : upd H7 W (.lst ([V.ref f1, .ref f2] ++ [.ref f3, .ref f4] ++ [.ref f5])) W = some (.lst [.ref f1, .ref f2, .ref f3, .ref f4, .ref f5]) := upd_same
    generalize upd H7 W (.lst ([V.ref f1, .ref f2] ++ [.ref f3, .ref f4] ++ [.ref f5])) = H8 at A1 A2 A3 A4 A5 X8 T8 W8 ⊢
    have hL : ∀ (D : Addr) (i : Nat) (x : V), [V.ref f1, .ref f2, .ref f3, .ref f4, .ref f5][i]? = some x → LD P w K mg base (erX P w K mg base f c A outer st H E) [some v, some u, some (.ref e), some g, some (.int 1000000000000000001), some (.ref W), some (.ref D), none, none, none, none] H8 (kw5.getD i "") x := by
      have cs8 := cs.keep (extTm X8)
      intro D i x hx
      cases dv1 with
      | some z => cases d1
      | none =>
      cases dv3 with
      | some z => cases d3
      | none =>
      cases dv5 with
      | some z => cases d5
      | none =>
      cases dv2 with
      | none => cases d2
      | some D2 =>
      cases dv4 with
      | none => cases d4
      | some D4 =>
      match i, hx with
      | 0, hx =>
        cases hx
        exact ⟨f1, lamF 1 _ c1 none, frA, _, [0, 1, 3, 4], rfl, lam1 T EC, A1, fun ok => Caps.made ok (ndef_free nd1) (ndef_fr nd1) rfl, fun H' Q S hq => dueE (more := [some (.int 1000000000000000001)]) (memOf (by decide +kernel)) (by decide) (cs8.keep (sTm S)) hq⟩
      | 1, hx =>
        cases hx
        exact ⟨f2, lamF 2 _ c2 (some D2), frA, _, [0, 1, 3, 4], rfl, lam2 T EC, A2, fun ok => Caps.made ok (ndef_free nd2) (ndef_fr nd2) rfl, fun H' Q S hq => dueE (more := [some (.int 1000000000000000001)]) (memOf (by decide +kernel)) (by decide) (cs8.keep (sTm S)) hq⟩
      | 2, hx =>
        cases hx
        exact ⟨f3, lamF 3 _ c3 none, frA, _, [0, 1, 3, 4], rfl, lam3 T EC, A3, fun ok => Caps.made ok (ndef_free nd3) (ndef_fr nd3) rfl, fun H' Q S hq => dueE (more := [some (.int 1000000000000000001)]) (memOf (by decide +kernel)) (by decide) (cs8.keep (sTm S)) hq⟩
      | 3, hx =>
        cases hx
        exact ⟨f4, lamF 4 _ c4 (some D4), frA, _, [0, 1, 3, 4], rfl, lam4 T EC, A4, fun ok => Caps.made ok (ndef_free nd4) (ndef_fr nd4) rfl, fun H' Q S hq => dueE (more := [some (.int 1000000000000000001)]) (memOf (by decide +kernel)) (by decide) (cs8.keep (sTm S)) hq⟩
      | 4, hx =>
        cases hx
        exact ⟨f5, lamF 5 _ c5 none, frB, _, [0, 1, 3], rfl, lam5 T EC, A5, fun ok => Caps.made ok (ndef_free nd5) (ndef_fr nd5) rfl, fun H' Q S hq => dueE (more := []) (memOf (by decide +kernel)) (by decide) (cs8.keep (sTm S)) hq⟩
      | n + 5, hx => cases hx
    clear A1 A2 A3 A4 A5
    -- the list that is due
    refine ⟨leLine (show 1 ≤ 100000 by decide), fun q1 hq1 => ⟨leLine (show 1 ≤ 100000 by decide), fun m1 hm1 => ⟨m1, 2, _, rfl, rfl, upd_same, by decide, by decide, leLine (show 2 ≤ 100000 by decide), fun r1 hr1 => ?_⟩⟩⟩
    refine ⟨leLine (show 1 ≤ 100000 by decide), fun q2 hq2 => ⟨leLine (show 1 ≤ 100000 by decide), fun m2 hm2 => ⟨m2, 2, _, rfl, rfl, upd_same, by decide, by decide, leLine (show 2 ≤ 100000 by decide), fun r2 hr2 => ?_⟩⟩⟩
    refine ⟨r1, r2, _, _, rfl, rfl, upd_keep (upd_keep (upd_keep upd_same hq2) hm2) hr2, upd_same, leLine (show 4 ≤ 100000 by decide), fun z1 hz1 => ⟨leLine (show 1 ≤ 100000 by decide), fun q3 hq3 => ⟨leLine (show 1 ≤ 100000 by decide), fun m3 hm3 => ⟨z1, m3, _, _, rfl, rfl, upd_keep (upd_keep upd_same hq3) hm3, upd_same, leLine (show 5 ≤ 100000 by decide), fun D hD => ?_⟩⟩⟩⟩
    -- what the works give
    refine ⟨_, rfl, W, rfl, ⟨_, SqL.of (sNew (sNew (sNew (sNew (sNew (sNew (sNew (sNew (sNew (sNew (Same.refl H8) hq1 _) hm1 _) hr1 _) hq2 _) hm2 _) hr2 _) hz1 _) hq3 _) hm3 _) hD _ _ _ W8)⟩, fun D2 hD2 => lc_list (K := K) (a := W) (xs := [V.ref f1, .ref f2, .ref f3, .ref f4, .ref f5])
      (fun i H' => Same H8 H' ∧ H8 D2 = none ∧ D ≠ D2 ∧ H' q1 = some (.tup [.str "arrangement"]) ∧ H' q2 = some (.tup [.str "count"]) ∧ H' q3 = some (.tup [.str "arrangement"]) ∧ H' D = some (.lst [.ref q1, .ref q1, .ref q2, .ref q2, .ref q3]) ∧ ∃ acc, H' D2 = some (.lst acc) ∧ acc.length = i ∧ TpAll K H' acc (strsD (kw5.take i)))
      ⟨sNew (sNew (sNew (sNew (sNew (sNew (sNew (sNew (sNew (sNew (sNew (Same.refl H8) hq1 _) hm1 _) hr1 _) hq2 _) hm2 _) hr2 _) hz1 _) hq3 _) hm3 _) hD _) hD2 _,
        (sNew (sNew (sNew (sNew (sNew (sNew (sNew (sNew (sNew (sNew (Same.refl H8) hq1 _) hm1 _) hr1 _) hq2 _) hm2 _) hr2 _) hz1 _) hq3 _) hm3 _) hD _).free hD2,
        (fun z => by rw [← z] at hD2; exact absurd (upd_same.symm.trans hD2) (fun y => nomatch y)),
        upd_keep (upd_keep (upd_keep (upd_keep (upd_keep (upd_keep (upd_keep (upd_keep (upd_keep (upd_keep upd_same hm1) hr1) hq2) hm2) hr2) hz1) hq3) hm3) hD) hD2,
        upd_keep (upd_keep (upd_keep (upd_keep (upd_keep (upd_keep (upd_keep upd_same hm2) hr2) hz1) hq3) hm3) hD) hD2,
        upd_keep (upd_keep (upd_keep upd_same hm3) hD) hD2,
        upd_keep upd_same hD2, [], upd_same, rfl, .nil⟩
      (fun i H' _ hp' => SqL.of (hp'.1 _ _ W8)) ?_ ?_⟩
    · rintro i x H' hx2 ⟨S1, n2, ne, e1, e2, e3, eD, acc, eA, la, hA⟩
      have li : i < 5 := (List.getElem?_eq_some_iff.mp hx2).1
      obtain ⟨fi, F, fr, sp, js, rfl, L, lam, cp, hsp⟩ := hL D i x hx2
      refine ⟨rfl, yesT ⟨_, rfl, fi, F, fr, sp, js, rfl, L, lam.keep (kySame S1), cp, fun Q' E' hE => hsp H' _ S1 (fun H'' q S2 eq => ?_) Q' E' hE⟩⟩
      have eA2 := S2 _ _ eA
      refine ⟨acc, eA2, ltLine (by omega), sWr (S1.trans S2) n2 _, n2, ne, ?_, ?_, ?_, ?_, _, upd_same, by rw [List.length_append, la]; rfl, ?_⟩
      · exact (tmLst eA2 _).tup _ _ (S2 _ _ e1)
      · exact (tmLst eA2 _).tup _ _ (S2 _ _ e2)
      · exact (tmLst eA2 _).tup _ _ (S2 _ _ e3)
      · rw [upd_ne ne]
        exact S2 _ _ eD
      · have tk : kw5.take (i + 1) = kw5.take i ++ [kw5.getD i ""] := by rw [List.take_add_one, kw5get li]; rfl
        rw [tk, show strsD (kw5.take i ++ [kw5.getD i ""]) = strsD (kw5.take i) ++ strsD [kw5.getD i ""] from List.map_append]
        exact tpApp (tpKeepAll ((sTm S2).trans (tmLst eA2 _)) hA) (.cons (.tup (xs := [.str (kw5.getD i "")]) (SqT.of ((tmLst eA2 _).tup _ _ eq)) (.cons (.str _) .nil)) .nil)
    · rintro H9 ⟨S1, n2, ne, e1, e2, e3, eD, acc, eA, la, hA⟩
      have tA : Tp K H9 (.ref q1) (.tuple [.str "arrangement"]) := .tup (SqT.of e1) (.cons (.str _) .nil)
      have tC : Tp K H9 (.ref q2) (.tuple [.str "count"]) := .tup (SqT.of e2) (.cons (.str _) .nil)
      have tB : Tp K H9 (.ref q3) (.tuple [.str "arrangement"]) := .tup (SqT.of e3) (.cons (.str _) .nil)
      refine ⟨_, rfl, .list (strsD kw5), .list (strsD kw5), .lst (SqL.of eA) (tpDpAll hA), .lst (SqL.of eD) (tpDpAll (.cons tA (.cons tA (.cons tC (.cons tC (.cons tB .nil)))))), by decide +kernel, by decide +kernel, _, rfl, ifF (by decide +kernel) ?_⟩
      have X9 := extSame X8 S1
      have T9 := T8.ext S1
      clear hL hA tA tC tB eA eD e1 e2 e3 ne n2 S1 T8 X8
      have hn1 : 1 ≤ rt.length + sz.sum := cs.len.2.1
      have hn2 := tpLen hes
      rw [List.length_map, placesL_len] at hn2
      obtain ⟨v0, g0, t0⟩ := places_at hes (i := 0) (by omega)
      obtain ⟨vl, gl', tl⟩ := places_at hes (i := rt.length + sz.sum - 1) (by omega)
      have a0 : atI es (0 : Int) = some v0 := (atI_of (by decide) (by omega)).trans g0
      have al : atI es (-1 : Int) = some vl := by rw [atI_last (by omega), hn2]; exact gl'
      have he9 : SqL K H9 e es := SqL.of (extLst X9 he)
      have w0 := tpKeep (extTm X9) t0
      have wl := tpKeep (extTm X9) tl
      have sq9 : ∀ {H'}, Same H9 H' → SqL K H' e es := fun S => SqL.of (S _ _ (extLst X9 he))
      have pq : plAt sz rt.length 0 ∈ placesL sz rt.length := plAt_mem (by omega)
      have pl : plAt sz rt.length (rt.length + sz.sum - 1) ∈ placesL sz rt.length := plAt_mem (by omega)
      refine ⟨_, rfl, e, es, _, v0, rfl, rfl, he9, a0, _, rfl, _, rfl, e, es, _, vl, rfl, rfl, he9, al, leLine (show 2 ≤ 100000 by decide), fun gd hgd => ?_⟩
      have S1 := sNew (Same.refl H9) hgd (.tup [v0, vl])
      have G1 : upd H9 gd (.tup [v0, vl]) gd = some (.tup [v0, vl]) := upd_same
      generalize upd H9 gd (.tup [v0, vl]) = HA at S1 G1 ⊢
      refine ⟨_, rfl, e, es, _, v0, rfl, rfl, sq9 S1, a0, _, rfl, e, es, _, v0, rfl, rfl, sq9 S1, a0, leLine (show 2 ≤ 100000 by decide), fun o1 ho1 => ?_⟩
      have S2 := sNew S1 ho1 (.tup [v0, v0])
      refine ⟨_, rfl, e, es, _, v0, rfl, rfl, sq9 S2, a0, leLine (show 1 ≤ 100000 by decide), fun o2 ho2 => ?_⟩
      have S3 := sNew S2 ho2 (.tup [v0])
      refine ⟨_, rfl, e, es, _, v0, rfl, rfl, sq9 S3, a0, _, rfl, _, rfl, e, es, _, vl, rfl, rfl, sq9 S3, al, leLine (show 2 ≤ 100000 by decide), fun o3 ho3 => ?_⟩
      have S4 := sNew S3 ho3 (.lst [v0, vl])
      refine ⟨_, rfl, e, es, _, v0, rfl, rfl, sq9 S4, a0, leLine (show 3 ≤ 100000 by decide), fun o5 ho5 => ?_⟩
      have S5 := sNew S4 ho5 (.tup [.str "shelf", .int 12, .int 0])
      refine ⟨leLine (show 2 ≤ 100000 by decide), fun o6 ho6 => ?_⟩
      have S6 := sNew S5 ho6 (.tup [v0, .ref o5])
      refine ⟨leLine (show 5 ≤ 100000 by decide), fun O hO => ?_⟩
      have S7 := sNew S6 hO (.tup [.ref o1, .ref o2, .ref o3, .non, .ref o6])
      have EL : ErL K Pt H (upd (upd (upd (upd (upd (upd HA o1 (.tup [v0, v0])) o2 (.tup [v0])) o3 (.lst [v0, vl])) o5 (.tup [.str "shelf", .int 12, .int 0])) o6 (.tup [v0, .ref o5])) O (.tup [.ref o1, .ref o2, .ref o3, .non, .ref o6])) gd O v0 vl [.ref o1, .ref o2, .ref o3, .non, .ref o6] sz rt.length := by
        have k0 := tpKeep (sTm S7) w0
        refine ⟨extSame X9 S7, T9.ext S7, upd_keep (upd_keep (upd_keep (upd_keep (upd_keep (upd_keep G1 ho1) ho2) ho3) ho5) ho6) hO, upd_same, fun y hy => ?_⟩
        rcases List.mem_cons.mp hy with rfl | hy
        · exact .inl ⟨_, _, .tup (SqT.of (upd_keep (upd_keep (upd_keep (upd_keep (upd_keep upd_same ho2) ho3) ho5) ho6) hO)) (.cons k0 (.cons k0 .nil)), fun z => z.2.2 rfl⟩
        rcases List.mem_cons.mp hy with rfl | hy
        · exact .inr (.inl ⟨_, .tup (SqT.of (upd_keep (upd_keep (upd_keep (upd_keep upd_same ho3) ho5) ho6) hO)) (.cons k0 .nil)⟩)
        rcases List.mem_cons.mp hy with rfl | hy
        · exact .inr (.inr (.inr ⟨_, _, rfl, upd_keep (upd_keep (upd_keep upd_same ho5) ho6) hO⟩))
        rcases List.mem_cons.mp hy with rfl | hy
        · exact .inr (.inr (.inl rfl))
        obtain rfl := List.mem_singleton.mp hy
        refine .inl ⟨_, .shf 12 0, .tup (SqT.of (upd_keep upd_same hO)) (.cons k0 (.cons (.tup (xs := [.str "shelf", .int 12, .int 0]) (SqT.of (upd_keep (upd_keep upd_same ho6) hO)) (.cons (.str _) (.cons (.int _) (.cons (.int _) .nil)))) .nil)), fun z => notShf cs.ok.s2 z.2.1⟩
      refine ⟨O, rfl, ⟨_, SqT.of EL.o⟩, for_tup (K := K) (a := O) (xs := [.ref o1, .ref o2, .ref o3, .non, .ref o6]) (fun i σ H' => ∃ u8 u9, σ = [some v, some u, some (.ref e), some g, some (.int 1000000000000000001), some (.ref W), some (.ref D), some (.ref gd), u8, u9, none] ∧ ErL K Pt H H' gd O v0 vl [.ref o1, .ref o2, .ref o3, .non, .ref o6] sz rt.length) ⟨_, _, rfl, EL⟩ (fun i σ H' _ ⟨_, _, _, EL⟩ => SqT.of EL.o) ?_ ?_⟩
      · clear EL S7 S6 S5 S4 S3 S2 S1
        rintro i x σ H' hxi ⟨u8, u9, rfl, EL⟩
        have hxo : x ∈ [V.ref o1, .ref o2, .ref o3, .non, .ref o6] := List.mem_of_getElem? hxi
        have heL : SqL K H' e es := SqL.of (extLst EL.x he)
        have y0 := tpKeep (extTm EL.x) t0
        have yl := tpKeep (extTm EL.x) tl
        refine ⟨_, rfl, e, es, _, v0, rfl, rfl, heL, a0, _, rfl, _, rfl, e, es, _, vl, rfl, rfl, heL, al, _, _, tpDp y0, tpDp yl, shaped_of (plSh _) (by decide), shaped_of (plSh _) (by decide), ?_⟩
        rw [plEqv]
        by_cases hpp : plAt sz rt.length 0 = plAt sz rt.length (rt.length + sz.sum - 1)
        · refine ⟨_, rfl, ifF (by rw [decide_eq_true hpp]; rfl) ⟨_, rfl, leLine (show 1 ≤ 100000 by decide), fun Sw hSw => ?_⟩⟩
          have EL2 := EL.same (sNew (Same.refl H') hSw (.lst [x]))
          have hs : upd H' Sw (.lst [x]) Sw = some (.lst [x]) := upd_same
          refine ⟨EL2.t, fun f6 c6 dv6 H6 d6 x6 T6 n6 A6 => ?_⟩
          cases dv6 with
          | some z => cases d6
          | none =>
          have EL3 := EL2.ext x6 T6
          refine ⟨f6, lamF 6 _ c6 none, frC, _, [0, 1, 9], rfl, lam6 T EC, A6, fun ok => Caps.made ok (ndef_free nd6) (ndef_fr nd6) rfl, fun Q' E' hE => ⟨v, u, g, sz, rt, t, xs, gl, Sw, [x], 0, x, rfl, cs.keep (extTm EL3.x), SqL.of (extLst x6 hs), rfl, ?_, EL3.b x hxo, fun H7 d7 S7 hd7 => hE _ _ _ ⟨"InvalidSwap", memOf (by decide +kernel), rfl, .inr ⟨rfl, d7, (0 : Nat), rfl, hd7, fun H8 q8 S8 hn8 hq8 => ?_⟩⟩⟩⟩
          · exact fun i y hi => absurd hi (Nat.not_lt_zero i)
          · have EL4 := EL3.same (S7.trans S8)
            refine ⟨_, rfl, Sw, [x], rfl, .inl (SqL.of (S8 _ _ (S7 _ _ (extLst x6 hs)))), _, _, rfl, rfl, leLine (show 2 ≤ 100000 by decide), fun q9 hq9 => ?_⟩
            have EL5 := EL4.same (sNew (Same.refl H8) hq9 (.tup [.str "swap", .int (0 : Nat)]))
            refine ⟨.tuple [.str "swap", .int (0 : Nat)], .tuple [.str "swap", .int (0 : Nat)], .tup (SqT.of (upd_keep hq8 hq9)) (.cons (.str _) (.cons (.int _) .nil)), .tup (SqT.of upd_same) (.cons (.str _) (.cons (.int _) .nil)), by decide +kernel, by decide +kernel, _, rfl, ifF (by decide +kernel) ?_⟩
            exact ⟨_, _, rfl, EL5⟩
        · refine ⟨_, rfl, ifT (by rw [decide_eq_false hpp]; rfl) ⟨_, rfl, leLine (show 1 ≤ 100000 by decide), fun b1 hb1 => ⟨b1, 6, _, rfl, rfl, upd_same, by decide, by decide, leLine (show 6 ≤ 100000 by decide), fun b2 hb2 => ⟨_, rfl, leLine (show 1 ≤ 100000 by decide), fun b3 hb3 => ⟨b2, b3, _, _, rfl, rfl, upd_keep upd_same hb3, upd_same, leLine (show 7 ≤ 100000 by decide), fun Sw hSw => ?_⟩⟩⟩⟩⟩
          have EL2 := EL.same (sNew (sNew (sNew (sNew (Same.refl H') hb1 (.lst [.ref gd])) hb2 (.lst [.ref gd, .ref gd, .ref gd, .ref gd, .ref gd, .ref gd])) hb3 (.lst [x])) hSw (.lst [.ref gd, .ref gd, .ref gd, .ref gd, .ref gd, .ref gd, x]))
          have hs : upd (upd (upd (upd H' b1 (.lst [.ref gd])) b2 (.lst [.ref gd, .ref gd, .ref gd, .ref gd, .ref gd, .ref gd])) b3 (.lst [x])) Sw (.lst [.ref gd, .ref gd, .ref gd, .ref gd, .ref gd, .ref gd, x]) Sw = some (.lst [.ref gd, .ref gd, .ref gd, .ref gd, .ref gd, .ref gd, x]) := upd_same
          refine ⟨EL2.t, fun f6 c6 dv6 H6 d6 x6 T6 n6 A6 => ?_⟩
          cases dv6 with
          | some z => cases d6
          | none =>
          have EL3 := EL2.ext x6 T6
          refine ⟨f6, lamF 6 _ c6 none, frC, _, [0, 1, 9], rfl, lam6 T EC, A6, fun ok => Caps.made ok (ndef_free nd6) (ndef_fr nd6) rfl, fun Q' E' hE => ⟨v, u, g, sz, rt, t, xs, gl, Sw, [.ref gd, .ref gd, .ref gd, .ref gd, .ref gd, .ref gd, x], 6, x, rfl, cs.keep (extTm EL3.x), SqL.of (extLst x6 hs), rfl, ?_, EL3.b x hxo, fun H7 d7 S7 hd7 => hE _ _ _ ⟨"InvalidSwap", memOf (by decide +kernel), rfl, .inr ⟨rfl, d7, (6 : Nat), rfl, hd7, fun H8 q8 S8 hn8 hq8 => ?_⟩⟩⟩⟩
          · have GG : GoodS K H6 sz rt.length (.ref gd) := ⟨_, _, .tup (SqT.of EL3.g) (.cons (tpKeep (extTm EL3.x) t0) (.cons (tpKeep (extTm EL3.x) tl) .nil)), pq, pl, hpp⟩
            exact fun i y hi hy => good6 GG hi hy
          · have EL4 := EL3.same (S7.trans S8)
            refine ⟨_, rfl, Sw, [.ref gd, .ref gd, .ref gd, .ref gd, .ref gd, .ref gd, x], rfl, .inl (SqL.of (S8 _ _ (S7 _ _ (extLst x6 hs)))), _, _, rfl, rfl, leLine (show 2 ≤ 100000 by decide), fun q9 hq9 => ?_⟩
            have EL5 := EL4.same (sNew (Same.refl H8) hq9 (.tup [.str "swap", .int (6 : Nat)]))
            refine ⟨.tuple [.str "swap", .int (6 : Nat)], .tuple [.str "swap", .int (6 : Nat)], .tup (SqT.of (upd_keep hq8 hq9)) (.cons (.str _) (.cons (.int _) .nil)), .tup (SqT.of upd_same) (.cons (.str _) (.cons (.int _) .nil)), by decide +kernel, by decide +kernel, _, rfl, ifF (by decide +kernel) ?_⟩
            exact ⟨_, _, rfl, EL5⟩
      · rintro σ H' ⟨u8, u9, rfl, EL⟩
        exact kk H' EL.x EL.t
end
end K14
/-! ## K14J -/
namespace K14
open PySem PySem.Spec PyProof.Rows L2 LamX NdefX
abbrev N_law : List Str := ["_law_script", "_law_h", "_law_turn", "_law_plan_here", "_law_state_here", "_law_every", "_law_count", "_law_later", "_law_goal", "_law_swaps", "_law_hence", "_law_row", "_law_first", "_law_second", "_law_one", "_law_other"]
theorem sc_law : FnScope N_law ["_law_script"] (defScope t_law) := ⟨rfl, rfl, rfl, by decide +kernel, rfl, by decide +kernel, by decide +kernel⟩
theorem tabsDx {T : List (Addr × Str)} {h c : Addr} {H H' : Hp} (t : Tabs T H) (d : DR h c H) (x : Dx h c H H') : Tabs T H' := fun q hq => by
  obtain ⟨m, k, xs, h1, h2, _⟩ := d.ex
  obtain ⟨ps, e1, e2, e3⟩ := t q hq
  refine ⟨ps, x.keep _ _ (ne_of e1 h1 (by intro z; cases z)) (ne_of e1 h2 (by intro z; cases z)) e1, e2, fun pos cv hc => ?_⟩
  obtain ⟨c', y1, y2⟩ := e3 pos cv hc
  exact ⟨c', y1, x.keep _ _ (ne_of y2 h1 (codeO_nl _)) (ne_of y2 h2 (codeO_nl _)) y2⟩
theorem fzDx {h c : Addr} {H H' : Hp} {v : V} (f : FzT H v) (d : DR h c H) (x : Dx h c H H') : FzT H' v := by
  obtain ⟨a, ob, xs, e, e1, n⟩ := f
  exact ⟨a, ob, xs, e, (x.tm d).frz _ _ _ e1, n⟩
theorem DR.ext {h c : Addr} {H H' : Hp} (d : DR h c H) (x : ExtN H H') : DR h c H' := by
  obtain ⟨m, k, xs, h1, h2, h3⟩ := d.ex
  exact ⟨m, k, xs, extLst x h1, extLst x h2, h3⟩
theorem pow17 : (10 : Int) ^ (17 : Int).toNat = 100000000000000000 := by decide
def spLaw (K : PySem.W.Frag) (Pt : Addr) : Sp := fun vs H Q _ => ∃ (s : Addr) (ns : List Int), vs = [.ref s] ∧ SqL K H s (ns.map V.int) ∧ ns.length ≤ 63 ∧ Tabs (lamT Pt) H ∧ ∀ H', Q (.bl true) H'
section
variable {P : Program} {w : World} {K : PySem.W.Frag} {mg : Str → Option Value} {base : Heap}
theorem ok_law (T : Txt K mg) (EC : Ecs K mg) {Pt : Addr} (LT : LTab K mg base Pt) {f : Addr} {fd : FuncData} (FD : FunD K "law" "law" (defArgs t_law) (defBody t_law) (defScope t_law) [] [] f fd) : FnOk P w K mg base CX0 13 f fd ["_law_script"] (spLaw K Pt) := by
  have C_law_mix : Cal P w K mg base CX0 1 _ _ _ := ok_law_mix T
  have C_law_next : Cal P w K mg base CX0 1 _ _ _ := ok_law_next T
  have C_law_plan : Cal P w K mg base CX0 2 _ _ _ := ok_law_plan T
  have C_law_state : Cal P w K mg base CX0 2 _ _ _ := ok_law_state T
  have C_law_mixed : Cal P w K mg base CX0 2 _ _ _ := ok_law_mixed T
  have C_law_wheels : Cal P w K mg base CX0 1 _ _ _ := ok_law_wheels T
  have C_law_alike : Cal P w K mg base CX0 2 _ _ _ := ok_alike T
  have C_law_errors_right : Cal P w K mg base CX0 12 _ _ _ := ok_errors_right T EC LT
  have C_places : Cal P w K mg base CX0 3 _ _ _ := ok_places T
  have C_arrangement : Cal P w K mg base CX0 4 _ _ _ := ok_arrangement T
  have C_advance : Cal P w K mg base CX0 8 _ _ _ := ok_advance T EC
  have C_plan_swaps : Cal P w K mg base (L2.CX P w) 9 _ _ _ := ok_plan_swaps T EC
  have C_fewest_swaps : Cal P w K mg base (L2.CX P w) 9 _ _ _ := ok_fewest_swaps T EC
  have C_swap_all : Cal P w K mg base (L2.CX P w) 4 _ _ _ := ok_swap_all T EC
  refine FD.ok sc_law (fun vs H Q E h => ?_) (fun cdv A outer st H vs Q E hr h => ?_)
  · obtain ⟨_, _, rfl, _⟩ := h
    rfl
  · suffices hh : ∃ t, PSs (cxOf CX0 P w K mg base N_law "law" (defScope t_law) f cdv A outer st H E).nox (defBody t_law) t ∧ t { nx := fun _ H' => Q .non H', rt := Q } (start N_law vs) H by
      obtain ⟨t, ht, q⟩ := hh
      exact ⟨t, ht.nox, q⟩
    obtain ⟨s, ns, rfl, hs, hn, hT, kk⟩ := h
    refine ⟨_, ((pss_cons (ps_set (i := 1) sc_law.nd rfl (Or.inl rfl) (pe_cal C_law_mix (hr.mono (by decide)) rfl pass0 (pa_cons (pv 0) (pa_cons pe_int pa_nil))))
    (pss_cons (ps_for PassesOwn.never rfl (pi_range1 (by rfl) T.f_range (pa_cons pe_int pa_nil)) (pg_name (i := 2) sc_law.nd rfl (Or.inl rfl))
    (pss_cons (ps_set (i := 3) sc_law.nd rfl (Or.inl rfl) (pe_cal C_law_plan (hr.mono (by decide)) rfl pass0 (pa_cons (pv 1) (pa_cons (pe_ix (k_ixL (K := K)) (pe_lst (pa_cons pe_int (pa_cons pe_int pa_nil))) (pe_cal C_law_next (hr.mono (by decide)) rfl pass0 (pa_cons (pv 1) (pa_cons pe_int pa_nil))) (fun _ _ => rfl)) (pa_cons pe_int pa_nil)))))
      (pss_cons (ps_par (i := 4) (j := 5) (by rfl) sc_law.nd rfl rfl (by decide) rfl rfl (pa_cons (pe_cal C_law_state (hr.mono (by decide)) rfl pass0 (pa_cons (pv 1) (pa_cons (pv 3) pa_nil))) (pa_cons (pe_cal C_places (hr.mono (by decide)) rfl pass0 (pa_cons (pv 3) pa_nil)) pa_nil)) (by rfl))
      (pss_cons (ps_set (i := 6) sc_law.nd rfl (Or.inl rfl) (pe_op op_mul (pe_cal C_law_next (hr.mono (by decide)) rfl pass0 (pa_cons (pv 1) (pa_cons (pe_ix (k_ixL (K := K)) (pe_lst (pa_cons pe_int (pa_cons (pe_op op_pow pe_int pe_int) pa_nil))) (pe_cal C_law_next (hr.mono (by decide)) rfl pass0 (pa_cons (pv 1) (pa_cons pe_int pa_nil))) (fun _ _ => rfl)) pa_nil))) (pe_op op_sub pe_int (pe_op op_mul pe_int (pe_cal C_law_next (hr.mono (by decide)) rfl pass0 (pa_cons (pv 1) (pa_cons pe_int pa_nil)))))))
      (pss_cons (ps_set (i := 7) sc_law.nd rfl (Or.inl rfl) (pe_cal C_arrangement (hr.mono (by decide)) rfl pass0 (pa_cons (pv 3) (pa_cons (pe_cal C_advance (hr.mono (by decide)) rfl pass0 (pa_cons (pv 3) (pa_cons (pv 4) (pa_cons (pv 6) pa_nil)))) pa_nil))))
      (pss_cons (ps_set (i := 8) sc_law.nd rfl (Or.inl rfl) (pe_cal C_law_mixed (hr.mono (by decide)) rfl pass0 (pa_cons (pv 1) (pa_cons (pv 7) (pa_cons (pe_cal C_law_next (hr.mono (by decide)) rfl pass0 (pa_cons (pv 1) (pa_cons (pe_ix (k_ixL (K := K)) (pe_lst (pa_cons pe_int (pa_cons pe_int pa_nil))) (pe_cal C_law_next (hr.mono (by decide)) rfl pass0 (pa_cons (pv 1) (pa_cons pe_int pa_nil))) (fun _ _ => rfl)) pa_nil))) pa_nil)))))
      (pss_cons (ps_set (i := 9) sc_law.nd rfl (Or.inl rfl) (pe_cal C_plan_swaps (hr.mono (by decide)) rfl passLL (pa_cons (pv 3) (pa_cons (pv 4) (pa_cons (pv 8) (pa_cons (pv 6) pa_nil))))))
      (pss_cons (ps_set (i := 10) sc_law.nd rfl (Or.inl rfl) (pe_cal C_swap_all (hr.mono (by decide)) rfl passLL (pa_cons (pv 3) (pa_cons (pv 4) (pa_cons (pv 9) pa_nil)))))
      (pss_cons (ps_if (pt_cmpR (k_neD (K := K) hr.units) (pe_cal C_arrangement (hr.mono (by decide)) rfl pass0 (pa_cons (pv 3) (pa_cons (pe_cal C_advance (hr.mono (by decide)) rfl pass0 (pa_cons (pv 3) (pa_cons (pv 10) (pa_cons (pv 6) pa_nil)))) pa_nil))) (pv 8) (nomark _))
      (pss_one (ps_ret pe_bl))
      pss_nil)
      (pss_cons (ps_if (pt_cmpR op_ne (pe_cal C_fewest_swaps (hr.mono (by decide)) rfl passLL (pa_cons (pv 3) (pa_cons (pv 4) (pa_cons (pv 8) (pa_cons (pv 6) pa_nil))))) (pe_callB (k_len (K := K)) (by rfl) T.f_len b_len (pa_cons (pv 9) pa_nil)) (nomark _))
      (pss_one (ps_ret pe_bl))
      pss_nil)
      (pss_cons (ps_if (pt_cmpR op_ne (pe_callB (k_len (K := K)) (by rfl) T.f_len b_len (pa_cons (pv 9) pa_nil)) (pe_op op_sub (pe_callB (k_len (K := K)) (by rfl) T.f_len b_len (pa_cons (pv 5) pa_nil)) (pe_cal C_law_wheels (hr.mono (by decide)) rfl pass0 (pa_cons (pv 7) (pa_cons (pv 8) pa_nil)))) (nomark _))
      (pss_one (ps_ret pe_bl))
      pss_nil)
      (pss_cons (ps_set (i := 11) sc_law.nd rfl (Or.inl rfl) (pe_callTy (k_list (K := K)) (by rfl) T.f_list b_list (pa_cons (pe_cal C_arrangement (hr.mono (by decide)) rfl pass0 (pa_cons (pv 3) (pa_cons (pv 4) pa_nil))) pa_nil)))
      (pss_cons (ps_for PassesOwn.never rfl (ki_list (K := K) (pv 9)) (kg_tup (K := K) rfl (pgs_cons (pg_name (i := 12) sc_law.nd rfl (Or.inl rfl)) (pgs_cons (pg_name (i := 13) sc_law.nd rfl (Or.inl rfl)) pgs_nil)))
      (pss_cons (ps_par (i := 14) (j := 15) (by rfl) sc_law.nd rfl rfl (by decide) rfl rfl (pa_cons (k_bm (K := K) PySem.F.plainAttrs_list PySem.F.slot_list_index PySem.F.type_list_index (k_indexD (K := K) (hu65 hr)) (pv 5) (pa_cons (pv 12) pa_nil)) (pa_cons (k_bm (K := K) PySem.F.plainAttrs_list PySem.F.slot_list_index PySem.F.type_list_index (k_indexD (K := K) (hu65 hr)) (pv 5) (pa_cons (pv 13) pa_nil)) pa_nil)) (by rfl))
        (pss_one (ps_asg (pe_tup (pa_cons (pe_ix (k_ixL (K := K)) (pv 11) (pv 15) (fun _ _ => rfl)) (pa_cons (pe_ix (k_ixL (K := K)) (pv 11) (pv 14) (fun _ _ => rfl)) pa_nil))) (kg_tup (K := K) rfl (pgs_cons (pg_sub (pv 11) (pv 14) set_list) (pgs_cons (pg_sub (pv 11) (pv 15) set_list) pgs_nil)))))))
      (pss_cons (ps_if (PW.pt (pw_or (pt_not (pt_val (pe_cal C_law_alike (hr.mono (by decide)) rfl pass0 (pa_cons (pe_cal C_arrangement (hr.mono (by decide)) rfl pass0 (pa_cons (pv 3) (pa_cons (pv 10) pa_nil))) (pa_cons (pe_callTy (k_tuple (K := K)) (by rfl) T.f_tuple b_tuple (pa_cons (pv 11) pa_nil)) pa_nil))))) (pw_or1 (pt_cmpR op_ne (pe_ix (k_ixT (K := K)) (pv 10) pe_int (fun _ _ => rfl)) (pe_ix (k_ixT (K := K)) (pv 4) pe_int (fun _ _ => rfl)) (nomark _)))))
      (pss_one (ps_ret pe_bl))
      pss_nil)
      (pss_one (ps_if (pt_not (pt_val (pe_cal C_law_errors_right (hr.mono (by decide)) rfl pass0 (pa_cons (pv 3) (pa_cons (pv 4) (pa_cons (pv 5) (pa_cons (pv 8) pa_nil)))))))
      (pss_one (ps_ret pe_bl))
      pss_nil))))))))))))))))
    (pss_one (ps_ret pe_bl))))), ?_⟩
    refine ⟨_, rfl, s, ns, _, rfl, hs, hn, fun H0 h c S0 nh nc d0 => ?_⟩
    refine ⟨_, rfl, by decide, by decide, for_range (lo := 0) (n := (2 : Int).toNat) (fun i σ H' => ∃ u2 u3 u4 u5 u6 u7 u8 u9 ua ub uc ud ue uf, σ = [some (.ref s), some (.ref h), u2, u3, u4, u5, u6, u7, u8, u9, ua, ub, uc, ud, ue, uf] ∧ DR h c H' ∧ Tabs (lamT Pt) H') ⟨_, _, _, _, _, _, _, _, _, _, _, _, _, _, rfl, d0, hT.ext S0⟩ ?_ ?_⟩
    · rintro i σ H' hi ⟨u2, u3, u4, u5, u6, u7, u8, u9, ua, ub, uc, ud, ue, uf, rfl, d0, T0⟩
      -- the plan
      refine ⟨_, rfl, leLine (show 2 ≤ 100000 by decide), fun L hL => ⟨_, rfl, h, c, 2, rfl, d0.new hL _, by decide, by decide, fun H1 r Y1 d1 r0 r1 => ?_⟩⟩
      have hL1 : H1 L = some (.lst [.int 3, .int 8]) := Y1.own (d0.new hL _) (show upd H' L (.lst [.int 3, .int 8]) L = some _ from upd_same) (d0.nh hL) (d0.nc hL)
      obtain ⟨z, ez, hz⟩ := pickB (a := 3) (b := 8) r0 r1
      refine ⟨L, _, _, _, rfl, rfl, SqL.of hL1, ez, h, c, z, 4, rfl, d1, by omega, by omega, by decide, by decide, fun H2 v sz rt Y2 d2 ok hv => ?_⟩
      have X2 := (((Dx.refl h c H').new hL (.lst [.int 3, .int 8])).trans Y1).trans Y2
      clear hL1 ez
      -- the state and the places
      refine ⟨_, rfl, _, rfl, h, c, v, sz, rt, rfl, d2, hv, ok, fun H3 u t xs Y3 d3 so t1 t2 hu => ⟨_, rfl, v, sz, rt, rfl, tpKeep (Y3.tm d2) hv, ok, fun H4 e es S4 ne he hes => ⟨_, _, rfl, ?_⟩⟩⟩
      have X4 := (X2.trans Y3).same S4
      have d4 := d3.same S4
      have eh := d3.nh ne
      have ec := d3.nc ne
      have hv := tpKeep (sTm S4) (tpKeep (Y3.tm d2) hv)
      have hu := tpKeep (sTm S4) hu
      have T4 := tabsDx T0 d0 X4
      clear Y1 Y2 Y3 X2 d1 d2 S4 ne d3 X4 T0
      -- the number of ticks
      refine ⟨_, rfl, _, _, rfl, rfl, ⟨by decide, by decide, by decide⟩, leLine (show 2 ≤ 100000 by decide), fun L2 hL2 => ⟨_, rfl, h, c, 2, rfl, d4.new hL2 _, by decide, by decide, fun H5 q Y5 d5 q0 q1 => ?_⟩⟩
      have hL5 : H5 L2 = some (.lst [.int 9, .int ((10 : Int) ^ (17 : Int).toNat)]) := Y5.own (d4.new hL2 _) (show upd H4 L2 (.lst [.int 9, .int ((10 : Int) ^ (17 : Int).toNat)]) L2 = some _ from upd_same) (d4.nh hL2) (d4.nc hL2)
      obtain ⟨y, ey, hy⟩ := pickB (a := 9) (b := (10 : Int) ^ (17 : Int).toNat) q0 q1
      rw [pow17] at hy
      refine ⟨L2, _, _, _, rfl, rfl, SqL.of hL5, ey, h, c, y, rfl, d5, by omega, by omega, fun H6 r6 Y6 d6 r60 r61 => ?_⟩
      refine ⟨_, rfl, h, c, 2, rfl, d6, by decide, by decide, fun H7 r7 Y7 d7 r70 r71 => ⟨_, _, rfl, rfl, .inl ⟨by decide, by decide⟩, _, _, rfl, rfl, _, _, rfl, rfl, .inr ⟨by omega, by omega⟩, ?_⟩⟩
      have X7 := (((Dx.refl h c H4).new hL2 (.lst [.int 9, .int ((10 : Int) ^ (17 : Int).toNat)])).trans Y5).trans Y6 |>.trans Y7
      have he := X7.own d4 he eh ec
      have hes := tpKeepAll (X7.tm d4) hes
      have hv := tpKeep (X7.tm d4) hv
      have hu := tpKeep (X7.tm d4) hu
      have T7 := tabsDx T4 d4 X7
      obtain ⟨cc, hcc⟩ : ∃ cc, cc = r6 * (1 - 2 * r7) := ⟨_, rfl⟩
      have bc : -100000000000000000 ≤ cc ∧ cc ≤ 100000000000000000 := by
        have : r7 = 0 ∨ r7 = 1 := by omega
        rcases this with rfl | rfl <;> omega
      dsimp only
      rw [← hcc]
      clear Y5 Y6 Y7 X7 d4 d5 d6 hL5 ey T4
      -- the later arrangement
      have nle : rt.length + sz.sum ≤ 114 := ok.n_le
      have npos : 1 ≤ rt.length + sz.sum := ok.n_pos
      have lx : xs.length = nn sz rt := so.len
      have Ep := effM_perm eqsR ok t cc
      have Mp := movM_perm Ep lx
      have soOf : ∀ (t' : Int) (ys : List Int), ys.Perm xs → -2000000000000000000 ≤ t' → t' ≤ 2000000000000000000 → StOk sz rt t' ys := fun t' ys pm a1 a2 =>
        ⟨by rw [pm.length_eq]; exact lx, pm.nodup_iff.mpr so.nd, fun x hx => so.rg x (pm.mem_iff.mp hx), by omega, by omega⟩
      refine ⟨_, rfl, _, rfl, _, rfl, _, rfl, v, u, sz, rt, t, cc, xs, rfl, hv, ok, hu, so, by omega, by omega, by omega, by omega, fun H8 r8 S8 hr8 => ?_⟩
      have hv := tpKeep (sTm S8) hv
      refine ⟨v, r8, sz, rt, t + cc, _, rfl, hv, ok, hr8, soOf _ _ Mp (by omega) (by omega), fun H9 la ob S9 hla hob => ?_⟩
      have S79 := S8.trans S9
      have d9 := d7.same S79
      have he := S79 _ _ he
      have hes := tpKeepAll (sTm S79) hes
      have hv := tpKeep (sTm S9) hv
      have hu := tpKeep (sTm S79) hu
      have T9 := T7.ext S79
      have hlt : Tp K H9 (.ref la) (intsD (movM (effM eqsR sz rt t cc) xs)) := .tup (.inl (.inr ⟨ob, hla⟩)) (tpIntsMk _)
      have hlf : FzT H9 (.ref la) := ⟨la, ob, _, rfl, hla, hob⟩
      clear S8 S9 S79 d7 T7 hr8 hla
      -- the goal
      refine ⟨_, rfl, _, rfl, _, rfl, leLine (show 2 ≤ 100000 by decide), fun L3 hL3 => ⟨_, rfl, h, c, 2, rfl, d9.new hL3 _, by decide, by decide, fun H10 r10 Y10 d10 r100 r101 => ?_⟩⟩
      have hLa : H10 L3 = some (.lst [.int 3, .int 200]) := Y10.own (d9.new hL3 _) (show upd H9 L3 (.lst [.int 3, .int 200]) L3 = some _ from upd_same) (d9.nh hL3) (d9.nc hL3)
      obtain ⟨yy, eyy, hyy⟩ := pickB (a := 3) (b := 200) r100 r101
      refine ⟨L3, _, _, _, rfl, rfl, SqL.of hLa, eyy, h, c, yy, rfl, d10, by omega, by omega, fun H11 n11 Y11 d11 n110 n111 => ?_⟩
      have X11 := ((Dx.refl h c H9).new hL3 (.lst [.int 3, .int 200])).trans Y10 |>.trans Y11
      have lm : (movM (effM eqsR sz rt t cc) xs).length = rt.length + sz.sum := Mp.length_eq.trans lx
      refine ⟨h, c, .ref la, n11, _, rfl, d11, tpKeep (X11.tm d9) hlt, Mp.nodup_iff.mpr so.nd, by omega, by omega, n110, by omega, fun H12 g gl Y12 d12 pm hg => ?_⟩
      have X12 := X11.trans Y12
      have he := X12.own d9 he eh ec
      have hes := tpKeepAll (X12.tm d9) hes
      have hv := tpKeep (X12.tm d9) hv
      have hu := tpKeep (X12.tm d9) hu
      have T12 := tabsDx T9 d9 X12
      have hlt := tpKeep (X12.tm d9) hlt
      have hlf := fzDx hlf d9 X12
      have gp : gl.Perm xs := pm.trans Mp
      have lg : gl.length = rt.length + sz.sum := gp.length_eq.trans lx
      clear Y10 Y11 Y12 X11 X12 d9 d10 d11 hLa eyy T9
      -- the swaps
      have M := mate_tgt Ep lx so.nd gp
      have hq : foldSw xs (swpL sz rt t xs gl cc) = tgtM (effM eqsR sz rt t cc) gl := (swaps_end M).2.1
      have lgn : gl.length = nn sz rt := lg
      have tp := (tgtM_perm Ep lgn).trans gp
      have shG : SeqAt.shaped (intsD gl) = true := shaped_of (shTup (shInts 0 gl)) (by decide)
      refine ⟨_, rfl, _, rfl, _, rfl, _, rfl, v, u, g, sz, rt, t, xs, gl, cc, rfl, hv, ok, hu, so, hg, by omega, by omega, by omega, .inr (.inr ⟨gp, by omega, by omega, fun H13 r S13 hR => ?_⟩)⟩
      obtain ⟨sp, ys, rfl, nsp, hsp, hys⟩ := hR
      have ly := tpLen hys
      rw [List.length_map] at ly
      refine ⟨_, rfl, _, rfl, _, rfl, v, u, sp, sz, rt, t, xs, ys, rfl, tpKeep (sTm S13) hv, ok, tpKeep (sTm S13) hu, so, SqL.of hsp, .inl ⟨swpL sz rt t xs gl cc, hys, fun q hq => (swaps_end M).2.2.2 q hq, fun H14 hn S14 hhn => ?_⟩⟩
      rw [hq] at hhn
      have S24 := S13.trans S14
      -- they lead to the goal
      refine ⟨_, rfl, _, rfl, _, rfl, _, rfl, v, hn, sz, rt, t, cc, _, rfl, tpKeep (sTm S24) hv, ok, hhn, soOf _ _ tp (by omega) (by omega), by omega, by omega, by omega, by omega, fun H15 r15 S15 hr15 => ?_⟩
      rw [mov_tgt Ep lgn] at hr15
      have S25 := S24.trans S15
      refine ⟨v, r15, sz, rt, t + cc, gl, rfl, tpKeep (sTm S25) hv, ok, hr15, soOf _ _ gp (by omega) (by omega), fun H16 la2 ob2 S16 hla2 _ => ?_⟩
      have S26 := S25.trans S16
      have S46 := S15.trans S16
      refine ⟨_, rfl, intsD gl, intsD gl, tpDp (.tup (.inl (.inr ⟨ob2, hla2⟩)) (tpIntsMk _)), tpDp (tpKeep (sTm S26) hg), shG, shG, _, rfl, ifF (by unfold intsD; rw [eqvTupInts, decide_eq_true rfl]; rfl) ?_⟩
      -- their number
      refine ⟨_, rfl, _, rfl, _, rfl, _, rfl, v, u, g, sz, rt, t, xs, gl, cc, rfl, tpKeep (sTm S26) hv, ok, tpKeep (sTm S26) hu, so, tpKeep (sTm S26) hg, by omega, by omega, by omega, .inr (.inr ⟨gp, by omega, by omega, fun H17 r17 S17 hR => ?_⟩)⟩
      obtain rfl : r17 = .int (((swpL sz rt t xs gl cc).map (swD sz rt.length)).length : Nat) := hR
      have S37 := (S14.trans S46).trans S17
      have S27 := S26.trans S17
      refine ⟨_, rfl, sp, ys, rfl, .inl (SqL.of (S37 _ _ hsp)), rfl, _, rfl, ifF (by rw [List.length_map, ly]; simp) ?_⟩
      have hn2 := tpLen hes
      rw [List.length_map, placesL_len] at hn2
      have num := law_num Ep lx so.nd gp
      refine ⟨_, rfl, sp, ys, rfl, .inl (SqL.of (S37 _ _ hsp)), _, rfl, e, es, rfl, .inl (SqL.of (S27 _ _ he)), _, rfl, _, rfl, .ref la, g, _, gl, nn sz rt, rfl, tpKeep (sTm S27) hlt, ?_, tpKeep (sTm S27) hg, mate_goal Ep lx so.nd gp, nle, fun H18 S18 => ⟨_, _, rfl, rfl, rfl, _, rfl, ifF ?_ ?_⟩⟩
      · obtain ⟨fa, fob, fxs, e1, e2, e3⟩ := hlf
        exact ⟨fa, fob, fxs, e1, S27 _ _ e2, e3⟩
      · have e1 : (ys.length : Int) = (es.length : Int) - ((cnt (Rel (tau (nn sz rt) gl (movM (effM eqsR sz rt t cc) xs))) (List.range (nn sz rt)) : Nat) : Int) := by
          have e2 : (swpL sz rt t xs gl cc).length + cnt (Rel (tau (nn sz rt) gl (movM (effM eqsR sz rt t cc) xs))) (List.range (nn sz rt)) = nn sz rt := num
          have e3 : es.length = nn sz rt := hn2
          omega
        rw [e1]
        simp
      have S28 := S27.trans S18
      -- the row
      refine ⟨_, rfl, _, rfl, v, u, sz, rt, t, xs, rfl, tpKeep (sTm S28) hv, ok, tpKeep (sTm S28) hu, so, fun H19 la3 ob3 S19 hla3 _ => ⟨la3, _, rfl, .inr (.inl (.inr ⟨ob3, hla3⟩)), fun D hD => ?_⟩⟩
      have S29 := S28.trans S19
      have S39 := (S37.trans S18).trans S19
      have hes9 := tpKeepAll (sTm S29) hes
      have he9 := S29 _ _ he
      have hys9 := tpKeepAll (sTm (((S14.trans S46).trans S17).trans (S18.trans S19))) hys
      have hsp9 := S39 _ _ hsp
      have hv9 := tpKeep (sTm S29) hv
      have hu9 := tpKeep (sTm S29) hu
      have hg9 := tpKeep (sTm S29) hg
      have hh9 := tpKeep (sTm ((S46.trans S17).trans (S18.trans S19))) hhn
      have T9 := T12.ext S29
      have d9 := d12.same S29
      clear S13 S14 S15 S16 S17 S18 S19 S24 S25 S26 S27 S28 S29 S39 S37 S46 hla2 hr15 hla3 T12 d12 hes he hv hu hg hhn hsp hys hlt hlf
      have ys_ : ∀ {H''}, Same H19 H'' → SqL K H'' sp ys := fun S => SqL.of (S _ _ hsp9)
      have lf : ∀ j, (foldSw xs ((swpL sz rt t xs gl cc).take j)).length = rt.length + sz.sum := fun j => by rw [foldSw_length, lx]
      refine ⟨_, rfl, sp, rfl, ⟨_, ys_ (sNew (Same.refl H19) hD _)⟩, for_list (K := K) (a := sp) (xs := ys) (fun j σ H'' => ∃ uc ud ue uf, σ = [some (.ref s), some (.ref h), some (.int (0 + (i : Nat))), some v, some u, some (.ref e), some (.int cc), some (.ref la), some g, some (.ref sp), some hn, some (.ref D), uc, ud, ue, uf] ∧ Same H19 H'' ∧ H'' D = some (.lst ((foldSw xs ((swpL sz rt t xs gl cc).take j)).map V.int)))
        ⟨_, _, _, _, rfl, sNew (Same.refl H19) hD _, upd_same⟩ (fun j σ H'' _ hp' => ys_ hp'.choose_spec.choose_spec.choose_spec.choose_spec.2.1) ?_ ?_⟩
      · rintro j x σ H'' hx2 ⟨uc, ud, ue, uf, rfl, s6, hl6⟩
        obtain ⟨d, hd, hxd⟩ := tpGetV hys9 hx2
        rw [List.getElem?_map] at hd
        cases eq : (swpL sz rt t xs gl cc)[j]? with
        | none => rw [eq] at hd; cases hd
        | some q =>
          rw [eq] at hd
          cases hd
          obtain ⟨q1, q2, q3⟩ := (swaps_end M).2.2.2 q (List.mem_of_getElem? eq)
          have q1' : q.1 < rt.length + sz.sum := q1
          have q2' : q.2 < rt.length + sz.sum := q2
          obtain ⟨ta, tv, rfl, hta, hall⟩ := tpTup hxd
          cases hall with
          | cons h1 h2 =>
            cases h2 with
            | cons h2 h3 =>
              cases h3
              have he6 := s6 _ _ he9
              have dl : Dp K H'' (.ref e) (.list ((placesL sz rt.length).map plD)) := .lst (SqL.of he6) (tpDpAll (tpKeepAll (sTm s6) hes9))
              have sl : SeqAt.shaped (.list ((placesL sz rt.length).map plD)) = true := shaped_of (shLst (shPls _)) (by decide)
              have shp : ∀ p : Pl, SeqAt.shaped (plD p) = true := fun p => shaped_of (plSh p) (by decide)
              have at_ : ∀ j, j < rt.length + sz.sum → ((placesL sz rt.length).map plD)[j]? = some (plD (plAt sz rt.length j)) := fun j hj => by
                rw [List.getElem?_map, some_of_lt (.car 0) (by rw [placesL_len]; exact hj)]
                rfl
              have bef : ∀ j, j < rt.length + sz.sum → ∀ (m : Nat) (z' : PyData), m < j → ((placesL sz rt.length).map plD)[m]? = some z' → PyData.eqv z' (plD (plAt sz rt.length j)) = false := fun j hj m z' hm hz => by
                rw [at_ m (by omega)] at hz
                cases hz
                rw [plEqv, decide_eq_false]
                intro z
                have := plAt_inj (by omega) hj z
                omega
              have self : ∀ j, PyData.eqv (plD (plAt sz rt.length j)) (plD (plAt sz rt.length j)) = true := fun j => by rw [plEqv]; simp
              refine ⟨ta, _, rfl, sqTm (sTm s6) hta, rfl, _, _, rfl, _, _, rfl, rfl, ?_⟩
              refine ⟨_, rfl, .inl ⟨rfl, _, SqL.of he6⟩, _, rfl, e, _, plD (plAt sz rt.length q.1), _, q.1, _, rfl, rfl, dl, tpDp (tpKeep (sTm s6) h1), sl, shp _, at_ _ q1', self _, bef _ q1', ?_⟩
              refine ⟨_, rfl, .inl ⟨rfl, _, SqL.of he6⟩, _, rfl, e, _, plD (plAt sz rt.length q.2), _, q.2, _, rfl, rfl, dl, tpDp (tpKeep (sTm s6) h2), sl, shp _, at_ _ q2', self _, bef _ q2', ⟨_, _, rfl, ?_⟩⟩
              generalize hxx : foldSw xs ((swpL sz rt t xs gl cc).take j) = xx at hl6
              have lxx : xx.length = rt.length + sz.sum := by rw [← hxx]; exact lf j
              have a1 : (xx.map V.int)[q.1]? = some (.int (xx.getD q.1 0)) := by rw [List.getElem?_map, some_of_lt 0 (by rw [lxx]; exact q1')]; rfl
              have a2 : (xx.map V.int)[q.2]? = some (.int (xx.getD q.2 0)) := by rw [List.getElem?_map, some_of_lt 0 (by rw [lxx]; exact q2')]; rfl
              refine ⟨_, rfl, _, rfl, D, _, _, _, rfl, rfl, SqL.of hl6, atI_nat a2, _, rfl, _, rfl, D, _, _, _, rfl, rfl, SqL.of hl6, atI_nat a1, leLine (show 2 ≤ 100000 by decide), fun T2 hT2 => ?_⟩
              have hl7 := upd_keep (u := .tup [.int (xx.getD q.2 0), .int (xx.getD q.1 0)]) hl6 hT2
              have s7 := sNew s6 hT2 (.tup [.int (xx.getD q.2 0), .int (xx.getD q.1 0)])
              have lmm : (xx.map V.int).length = rt.length + sz.sum := by rw [List.length_map, lxx]
              refine ⟨T2, _, rfl, SqT.of upd_same, rfl, _, _, rfl, ⟨_, rfl, _, rfl, D, _, _, q.1, rfl, rfl, hl7, ixNat (by rw [lmm]; exact q1'), _, _, rfl, ⟨_, rfl, _, rfl, D, _, _, q.2, rfl, rfl, upd_same, ixNat (by rw [List.length_set, lmm]; exact q2'), rfl, ?_⟩⟩⟩
              refine ⟨_, _, _, _, rfl, sWr (sWr s7 hD _) hD _, ?_⟩
              rw [upd_same]
              have esw : ((xx.map V.int).set q.1 (.int (xx.getD q.2 0))).set q.2 (.int (xx.getD q.1 0)) = (foldSw xs ((swpL sz rt t xs gl cc).take (j + 1))).map V.int := by
                rw [take_more eq]
                unfold foldSw
                rw [List.foldl_append]
                show _ = (swapAt (foldSw xs ((swpL sz rt t xs gl cc).take j)) q.1 q.2).map V.int
                rw [hxx]
                unfold swapAt
                rw [List.map_set, List.map_set]
              rw [esw]
      · rintro σ H'' ⟨uc, ud, ue, uf, rfl, s6, hl6⟩
        rw [ly, List.take_length, hq] at hl6
        -- the row is what the swaps make, the time stands
        refine ⟨_, rfl, _, rfl, v, hn, sz, rt, t, _, rfl, tpKeep (sTm s6) hv9, ok, tpKeep (sTm s6) hh9, soOf _ _ tp (by omega) (by omega), fun H20 la4 ob4 S20 hla4 _ => ⟨_, rfl, D, _, rfl, .inl ⟨SqL.of (S20 _ _ hl6), fun q5 hq5 => ?_⟩⟩⟩
        have S21 := sNew (s6.trans S20) hq5 (.tup ((tgtM (effM eqsR sz rt t cc) gl).map V.int))
        refine ⟨.ref la4, .ref q5, tgtM (effM eqsR sz rt t cc) gl, rfl, .tup (.inl (.inr ⟨ob4, upd_keep hla4 hq5⟩)) (tpIntsMk _), .tup (SqT.of upd_same) (tpIntsMk _), by rw [tp.length_eq]; omega, fun H21 S22 => ?_⟩
        have S23 := S21.trans S22
        obtain ⟨b1, b2, b3, b4, SA⟩ := stInv (tpKeep (sTm S23) hh9)
        obtain ⟨c1, c2, c3, c4, SB⟩ := stInv (tpKeep (sTm S23) hu9)
        obtain rfl := SA.ev
        obtain rfl := SB.ev
        refine ⟨_, rfl, ifF rfl ⟨_, rfl, b1, _, _, _, rfl, rfl, SA.top, rfl, _, rfl, c1, _, _, _, rfl, rfl, SB.top, rfl, rfl, _, rfl, ifF (by simp) ?_⟩⟩
        -- the errors
        refine ⟨_, rfl, _, rfl, _, rfl, _, rfl, v, _, g, e, es, sz, rt, t, xs, gl, rfl, ⟨tpKeep (sTm S23) hv9, ok, tpKeep (sTm S23) hu9, so, tpKeep (sTm S23) hg9, gp, by omega, by omega⟩, S23 _ _ he9, tpKeepAll (sTm S23) hes9, T9.ext S23, fun H22 X22 T22 => ⟨_, rfl, ifF rfl ?_⟩⟩
        exact ⟨_, _, _, _, _, _, _, _, _, _, _, _, _, _, rfl, (d9.same S23).ext X22, T22⟩
    · rintro σ H' ⟨u2, u3, u4, u5, u6, u7, u8, u9, ua, ub, uc, ud, ue, uf, rfl, d0, T0⟩
      exact kk H'
end
end K14
/-! ## K14N -/
namespace K14
open PySem PySem.Spec PyProof.Rows L2 LamX NdefX
/-! ### the head: what the top has written -/
def looseA : List Str := ["ShelfError", "InvalidPlan", "InvalidState", "InvalidCount", "UnknownPlace", "UnknownParcel", "UnknownShelf", "UnknownCarrier", "InvalidEffect", "DifferentSizes", "InvalidParcels", "Contradiction", "InvalidArrangement", "InvalidSwap", "ShelfFull", "ParcelCarried", "MAX_SHELVES", "MAX_SIZE", "MAX_CARRIERS", "MAX_ENTRIES", "MAX_TICKS", "CARRIER", "SHELF"]
def looseB : List Str := ["is_route", "first_invalid", "validate_plan", "validate_count", "all_places", "first_on", "greatest_common_divisor", "least_common_multiple", "route_period", "pattern_of", "visits_of", "places", "exchange", "run_tick", "inverse_of", "combined", "cycles_of", "repeated", "ticks_effect", "pattern_effect", "effect_between"]
def looseC : List Str := ["MAX_PARCEL", "MAX_TIME", "contents_of", "state_of", "fits", "validate_state", "moved", "arrangement", "needed_swaps", "plan_swaps", "fewest_swaps", "is_swap", "swap_all", "advance", "_law_mix", "_law_next", "_law_alike", "_law_error", "_law_plan", "_law_state", "_law_step", "_law_begun", "_law_seen", "_law_spots", "_law_mixed", "_law_wheels", "_law_errors_right"]
def loose : List Str := looseA ++ (looseB ++ looseC)
abbrev dn (x : Str) (t : Stmt) : He.DefD := ⟨(x, none), x, x, defArgs t, defBody t, defScope t, [], []⟩
def fnA : List He.DefD := [dn "is_route" t_is_route, dn "first_invalid" t_first_invalid, dn "validate_plan" t_validate_plan, dn "validate_count" t_validate_count, dn "all_places" t_all_places, dn "first_on" t_first_on, dn "greatest_common_divisor" t_greatest_common_divisor, dn "least_common_multiple" t_least_common_multiple, dn "route_period" t_route_period, dn "pattern_of" t_pattern_of, dn "visits_of" t_visits_of, dn "places" t_places, dn "exchange" t_exchange, dn "run_tick" t_run_tick, dn "inverse_of" t_inverse_of, dn "combined" t_combined, dn "cycles_of" t_cycles_of, dn "repeated" t_repeated, dn "ticks_effect" t_ticks_effect, dn "pattern_effect" t_pattern_effect, dn "effect_between" t_effect_between, dn "contents_of" t_contents_of]
def fnB : List He.DefD := [dn "state_of" t_state_of, dn "fits" t_fits, dn "validate_state" t_validate_state, dn "moved" t_moved, dn "arrangement" t_arrangement, dn "needed_swaps" t_needed_swaps, dn "plan_swaps" t_plan_swaps, dn "fewest_swaps" t_fewest_swaps, dn "is_swap" t_is_swap, dn "swap_all" t_swap_all, dn "advance" t_advance, dn "_law_mix" t_law_mix, dn "_law_next" t_law_next, dn "_law_alike" t_law_alike, dn "_law_error" t_law_error, dn "_law_plan" t_law_plan, dn "_law_state" t_law_state, dn "_law_mixed" t_law_mixed, dn "_law_wheels" t_law_wheels, dn "_law_errors_right" t_law_errors_right, dn "law" t_law, ⟨("InvalidSwap", some "__init__"), "__init__", "InvalidSwap.__init__", defArgs t_swap_init, defBody t_swap_init, defScope t_swap_init, [], []⟩]
def fns : List He.DefD := fnA ++ fnB
def fa0 : List He.Fa := [.glo "is_route", .glo "first_invalid", .glo "validate_plan", .glo "validate_count", .glo "all_places", .glo "first_on", .glo "greatest_common_divisor", .glo "least_common_multiple", .glo "route_period", .glo "pattern_of", .glo "visits_of", .glo "places", .glo "exchange", .glo "run_tick", .glo "inverse_of", .glo "combined", .glo "cycles_of", .glo "repeated", .glo "ticks_effect", .glo "pattern_effect", .glo "effect_between", .glo "contents_of"]
def fa1 : List He.Fa := [.glo "state_of", .glo "fits", .glo "validate_state", .glo "moved", .glo "arrangement", .glo "needed_swaps", .glo "plan_swaps", .glo "fewest_swaps", .glo "is_swap", .glo "swap_all", .glo "advance", .glo "_law_mix", .glo "_law_next", .glo "_law_alike", .glo "_law_error", .glo "_law_plan", .glo "_law_state", .glo "_law_mixed", .glo "_law_wheels", .glo "_law_errors_right", .glo "law", .glo "ShelfError"]
def fa2 : List He.Fa := [.glo "InvalidPlan", .glo "InvalidState", .glo "InvalidCount", .glo "UnknownPlace", .glo "UnknownParcel", .glo "UnknownShelf", .glo "UnknownCarrier", .glo "InvalidEffect", .glo "DifferentSizes", .glo "InvalidParcels", .glo "Contradiction", .glo "InvalidArrangement", .glo "ShelfFull", .glo "ParcelCarried", .glo "InvalidSwap", .free "all", .free "len", .free "range", .free "enumerate", .free "sum", .free "int", .free "list"]
def fa3 : List He.Fa := [.free "tuple", .free "sorted", .free "set", .free "isinstance", .free "max", .free "dict", .free "str", .free "bool", .free "ValueError", .int "MAX_SHELVES" 12, .int "MAX_SIZE" 9, .int "MAX_CARRIERS" 6, .int "MAX_ENTRIES" 6, .int "MAX_TICKS" 1000000000000000000, .int "MAX_PARCEL" 999, .int "MAX_TIME" 1000000000000000000000000000000, .str "CARRIER" "carrier", .str "SHELF" "shelf"]
def fas : List He.Fa := fa0 ++ (fa1 ++ (fa2 ++ (fa3)))
def oexB (K : PySem.W.Frag) (C : Addr) : Bool := match K.lookup C with
  | some ⟨.type t, _, .cls cd, sl⟩ => (match cd.mro, sl.toList with
    | .ref D :: bm, [_, _, _, _, some (.builtin n), _] => decide (t = "type") && (decide (D = C) && (decide (n = "ValueError.__new__") && (!cd.hasDel && (cd.hasDict && PySem.HandSPX.refsVE bm))))
    | _, _ => false)
  | _ => false
def initB (K : PySem.W.Frag) (C : Addr) : Bool := match PySem.W.findCls K (.ref C) (.type "type") "__init__" with
  | some (.val (.builtin n)) => decide (n = "ValueError.__init__")
  | _ => false
def excB (K : PySem.W.Frag) (D : Addr) : Bool :=
  He.eqO (PySem.W.findIn K (.ref D) "__getattribute__") (some (some (.builtin "BaseException.__getattribute__"))) && (He.eqO (PySem.W.findIn K (.ref D) "__getattr__") (some none) && (decide (PySem.W.subIn K (.ref D) (.type "BaseException") = some true) && (PySem.W.hasDictIn K D &&
  (He.eqO (PySem.W.findIn K (.ref D) "__class__") (some (some (.builtin "object.__class__"))) && (He.eqO (PySem.W.specialIn K (.builtin "object.__class__") "__get__") (some (some (.builtin "getset_descriptor.__get__"))) && (decide (PySem.W.takesIn K (.builtin "object.__class__") = some true) && decide (PySem.W.mroIn K D (.type "object") = some true)))))))
def kitB (K : PySem.W.Frag) : Bool := raised.all fun x => exNames.all fun y => decide (PySem.W.kitOne K (.ref (He.ga K x)) (.ref (He.ga K y)) = some (decide (x = y)))
def bxB (K : PySem.W.Frag) (C S : Addr) : Bool := PySem.W.keepIn K (.ref C) && (decide (PySem.W.subIn K (.ref C) (.type "BaseException") = some true) && (decide (PySem.W.typeIn K (.ref C) = some (.type "type")) && (excB K C && (decide (PySem.W.kitOne K (.ref C) (.type "ValueError") = some true) && decide (PySem.W.exmOne K (.ref C) (.ref S) = some true)))))
def swB (K : PySem.W.Frag) (C : Addr) : Bool := oexB K C && (He.eqO (PySem.W.findIn K (.ref C) "__setattr__") (some (some (.builtin "object.__setattr__"))) && (xfB K C && (He.eqO (PySem.W.findIn K (.ref C) "index") (some none) &&
  (He.eqO (PySem.W.findIn K (.ref C) "__init__") (some (some (.ref (He.ma K C "__init__")))) && decide (PySem.W.typeIn K (.ref (He.ma K C "__init__")) = some (.type "function"))))))
def seB (K : PySem.W.Frag) (C : Addr) : Bool := He.eqO (PySem.W.specialIn K (.ref C) "__getattribute__") (some (some (.builtin "type.__getattribute__"))) && (PySem.W.readsIn K C (.type "type") && initB K C)
def ecsB (K : PySem.W.Frag) : Bool := (([("InvalidCount" : Str), "InvalidArrangement"] : List Str).all fun x => PySem.W.excIn K (He.ga K x) PySem.HandSPX.veTail "ValueError.__new__") && ((raised.all fun x => bxB K (He.ga K x) (He.ga K "ShelfError")) && (kitB K && (swB K (He.ga K "InvalidSwap") && seB K (He.ga K "ShelfError"))))
/-! the facts of the head, the statics among them -/
def asY (g : Addr → Option Obj) (n : Nat) : List Addr := He.asD g n ++ [cStatics]
def obsY (n : Nat) (fa : List He.Fa) (fn : List He.DefD) (tf : List He.Defn) (ex : PySem.W.Frag → Bool) (g : Addr → Option Obj) : He.AlX := (He.obsT fa fn [] (He.frT g (asY g n)), ex (He.frT g (asY g n)) && He.tabsB g tf (He.frT g (asY g n)))
theorem saysY_of {n : Nat} {fa : List He.Fa} {fn : List He.DefD} {tf : List He.Defn} {ex : PySem.W.Frag → Bool} {w : World} {h : Heap} (e : obsY n fa fn tf ex h.get? = He.valX fn [] w) : He.SaysX fa fn [] tf ex w h (He.frT h.get? (asY h.get? n)) := by
  have e1 : He.obsT fa fn [] (He.frT h.get? (asY h.get? n)) = He.valT fn [] w := congrArg (fun z : He.AlX => z.1) e
  have e2 : (ex (He.frT h.get? (asY h.get? n)) && He.tabsB h.get? tf (He.frT h.get? (asY h.get? n))) = true := congrArg (fun z : He.AlX => z.2) e
  obtain ⟨h1, h2⟩ := He.ba e2
  have key : ∀ p ∈ tf, PySem.W.codeHdIn (He.frT h.get? (asY h.get? n)) (He.cT (He.frT h.get? (asY h.get? n)) p).1 (He.cT (He.frT h.get? (asY h.get? n)) p).2 = true ∧ ∃ o, h.get? (He.cT (He.frT h.get? (asY h.get? n)) p).2 = some o ∧ He.emptyTab o = true := fun p hp => by
    obtain ⟨h3, h4⟩ := He.ba (List.all_eq_true.mp h2 p hp)
    refine ⟨h3, ?_⟩
    cases q : h.get? (He.cT (He.frT h.get? (asY h.get? n)) p).2 with
    | none =>
      rw [q] at h4
      cases h4
    | some o =>
      rw [q] at h4
      exact ⟨o, rfl, h4⟩
  exact ⟨e1, h1, fun p hp => (key p hp).1, fun p hp => by
    obtain ⟨_, o, q, z⟩ := key p hp
    exact He.frT_none q z, fun p hp => by
    obtain ⟨_, o, q, z⟩ := key p hp
    rw [q, He.emptyTab_eq z]⟩
def hookY (n : Nat) (fa : List He.Fa) (fn : List He.DefD) (tf : List He.Defn) (ex : PySem.W.Frag → Bool) : PySem.W.Hook where
  α := He.AlX
  obs := fun s => obsY n fa fn tf ex s.heap.get?
  val := fun w => He.valX fn [] w
  says := fun w h => ∃ K : PySem.W.Frag, K.In h ∧ He.SaysX fa fn [] tf ex w h K
  of := fun _ _ e => ⟨_, He.frT_in, saysY_of e⟩
  keeps := fun _ _ _ ⟨K, hK, c⟩ k => ⟨K, PySem.W.Frag.In.keeps hK k, ⟨c.t, c.more, c.hd, c.out, fun p hp => k _ _ (c.empty p hp)⟩⟩
theorem obsY_eq {n : Nat} {fa : List He.Fa} {fn : List He.DefD} {tf : List He.Defn} {ex : PySem.W.Frag → Bool} {g : Addr → Option Obj} {s : Shared} (h : ∀ a, g a = s.heap.get? a) : obsY n fa fn tf ex g = (hookY n fa fn tf ex).obs s := by
  have e : g = s.heap.get? := funext h
  rw [e] <;> rfl
abbrev R : PySem.W.OpenRow := PySem.W.OpenLaw.row PySem.Challenge.rw_swapshelves_k14_whole_swaps
abbrev pER : He.Defn := ("_law_errors_right", none)
abbrev hk : PySem.W.Hook := hookY 5 fas fns [pER] ecsB
def ob (s : PySem.W.SharedT) : He.AlX := obsY 5 fas fns [pER] ecsB (HandSHeadRun.getT s)
theorem ob_eq (s : PySem.W.SharedT) : ob s = hk.obs s.abs := obsY_eq (HandSHeadRun.getT_eq s)
theorem run (w : World) : HandSHeadRun.RunEq R (PySem.W.view R.prog [78]) hk ob 8000 loose w := by
  intro os
  kernel_rfl
end K14
/-! ## K14O -/
namespace K14
open PySem PySem.Spec PyProof.Rows L2 LamX NdefX
section
variable {w : World} {K : PySem.W.Frag} {h : Heap} {mg : Str → Option Value}
theorem txt_of (X : K.In h) (G : h.Ns mainGlobals mg) (c : He.SaysX fas fns [] [pER] ecsB w h K) : Txt K mg where
  d_is_route := by
    obtain ⟨fd, F⟩ := c.t.d.def_ 0 (d := dn "is_route" t_is_route) rfl
    exact ⟨_, fd, F, He.glo_ok X G (c.t.d.fact 0 (f := .glo "is_route") rfl)⟩
  d_first_invalid := by
    obtain ⟨fd, F⟩ := c.t.d.def_ 1 (d := dn "first_invalid" t_first_invalid) rfl
    exact ⟨_, fd, F, He.glo_ok X G (c.t.d.fact 1 (f := .glo "first_invalid") rfl)⟩
  d_validate_plan := by
    obtain ⟨fd, F⟩ := c.t.d.def_ 2 (d := dn "validate_plan" t_validate_plan) rfl
    exact ⟨_, fd, F, He.glo_ok X G (c.t.d.fact 2 (f := .glo "validate_plan") rfl)⟩
  d_validate_count := by
    obtain ⟨fd, F⟩ := c.t.d.def_ 3 (d := dn "validate_count" t_validate_count) rfl
    exact ⟨_, fd, F, He.glo_ok X G (c.t.d.fact 3 (f := .glo "validate_count") rfl)⟩
  d_all_places := by
    obtain ⟨fd, F⟩ := c.t.d.def_ 4 (d := dn "all_places" t_all_places) rfl
    exact ⟨_, fd, F, He.glo_ok X G (c.t.d.fact 4 (f := .glo "all_places") rfl)⟩
  d_first_on := by
    obtain ⟨fd, F⟩ := c.t.d.def_ 5 (d := dn "first_on" t_first_on) rfl
    exact ⟨_, fd, F, He.glo_ok X G (c.t.d.fact 5 (f := .glo "first_on") rfl)⟩
  d_greatest_common_divisor := by
    obtain ⟨fd, F⟩ := c.t.d.def_ 6 (d := dn "greatest_common_divisor" t_greatest_common_divisor) rfl
    exact ⟨_, fd, F, He.glo_ok X G (c.t.d.fact 6 (f := .glo "greatest_common_divisor") rfl)⟩
  d_least_common_multiple := by
    obtain ⟨fd, F⟩ := c.t.d.def_ 7 (d := dn "least_common_multiple" t_least_common_multiple) rfl
    exact ⟨_, fd, F, He.glo_ok X G (c.t.d.fact 7 (f := .glo "least_common_multiple") rfl)⟩
  d_route_period := by
    obtain ⟨fd, F⟩ := c.t.d.def_ 8 (d := dn "route_period" t_route_period) rfl
    exact ⟨_, fd, F, He.glo_ok X G (c.t.d.fact 8 (f := .glo "route_period") rfl)⟩
  d_pattern_of := by
    obtain ⟨fd, F⟩ := c.t.d.def_ 9 (d := dn "pattern_of" t_pattern_of) rfl
    exact ⟨_, fd, F, He.glo_ok X G (c.t.d.fact 9 (f := .glo "pattern_of") rfl)⟩
  d_visits_of := by
    obtain ⟨fd, F⟩ := c.t.d.def_ 10 (d := dn "visits_of" t_visits_of) rfl
    exact ⟨_, fd, F, He.glo_ok X G (c.t.d.fact 10 (f := .glo "visits_of") rfl)⟩
  d_places := by
    obtain ⟨fd, F⟩ := c.t.d.def_ 11 (d := dn "places" t_places) rfl
    exact ⟨_, fd, F, He.glo_ok X G (c.t.d.fact 11 (f := .glo "places") rfl)⟩
  d_exchange := by
    obtain ⟨fd, F⟩ := c.t.d.def_ 12 (d := dn "exchange" t_exchange) rfl
    exact ⟨_, fd, F, He.glo_ok X G (c.t.d.fact 12 (f := .glo "exchange") rfl)⟩
  d_run_tick := by
    obtain ⟨fd, F⟩ := c.t.d.def_ 13 (d := dn "run_tick" t_run_tick) rfl
    exact ⟨_, fd, F, He.glo_ok X G (c.t.d.fact 13 (f := .glo "run_tick") rfl)⟩
  d_inverse_of := by
    obtain ⟨fd, F⟩ := c.t.d.def_ 14 (d := dn "inverse_of" t_inverse_of) rfl
    exact ⟨_, fd, F, He.glo_ok X G (c.t.d.fact 14 (f := .glo "inverse_of") rfl)⟩
  d_combined := by
    obtain ⟨fd, F⟩ := c.t.d.def_ 15 (d := dn "combined" t_combined) rfl
    exact ⟨_, fd, F, He.glo_ok X G (c.t.d.fact 15 (f := .glo "combined") rfl)⟩
  d_cycles_of := by
    obtain ⟨fd, F⟩ := c.t.d.def_ 16 (d := dn "cycles_of" t_cycles_of) rfl
    exact ⟨_, fd, F, He.glo_ok X G (c.t.d.fact 16 (f := .glo "cycles_of") rfl)⟩
  d_repeated := by
    obtain ⟨fd, F⟩ := c.t.d.def_ 17 (d := dn "repeated" t_repeated) rfl
    exact ⟨_, fd, F, He.glo_ok X G (c.t.d.fact 17 (f := .glo "repeated") rfl)⟩
  d_ticks_effect := by
    obtain ⟨fd, F⟩ := c.t.d.def_ 18 (d := dn "ticks_effect" t_ticks_effect) rfl
    exact ⟨_, fd, F, He.glo_ok X G (c.t.d.fact 18 (f := .glo "ticks_effect") rfl)⟩
  d_pattern_effect := by
    obtain ⟨fd, F⟩ := c.t.d.def_ 19 (d := dn "pattern_effect" t_pattern_effect) rfl
    exact ⟨_, fd, F, He.glo_ok X G (c.t.d.fact 19 (f := .glo "pattern_effect") rfl)⟩
  d_effect_between := by
    obtain ⟨fd, F⟩ := c.t.d.def_ 20 (d := dn "effect_between" t_effect_between) rfl
    exact ⟨_, fd, F, He.glo_ok X G (c.t.d.fact 20 (f := .glo "effect_between") rfl)⟩
  d_contents_of := by
    obtain ⟨fd, F⟩ := c.t.d.def_ 21 (d := dn "contents_of" t_contents_of) rfl
    exact ⟨_, fd, F, He.glo_ok X G (c.t.d.fact 21 (f := .glo "contents_of") rfl)⟩
  d_state_of := by
    obtain ⟨fd, F⟩ := c.t.d.def_ 22 (d := dn "state_of" t_state_of) rfl
    exact ⟨_, fd, F, He.glo_ok X G (c.t.d.fact 22 (f := .glo "state_of") rfl)⟩
  d_fits := by
    obtain ⟨fd, F⟩ := c.t.d.def_ 23 (d := dn "fits" t_fits) rfl
    exact ⟨_, fd, F, He.glo_ok X G (c.t.d.fact 23 (f := .glo "fits") rfl)⟩
  d_validate_state := by
    obtain ⟨fd, F⟩ := c.t.d.def_ 24 (d := dn "validate_state" t_validate_state) rfl
    exact ⟨_, fd, F, He.glo_ok X G (c.t.d.fact 24 (f := .glo "validate_state") rfl)⟩
  d_moved := by
    obtain ⟨fd, F⟩ := c.t.d.def_ 25 (d := dn "moved" t_moved) rfl
    exact ⟨_, fd, F, He.glo_ok X G (c.t.d.fact 25 (f := .glo "moved") rfl)⟩
  d_arrangement := by
    obtain ⟨fd, F⟩ := c.t.d.def_ 26 (d := dn "arrangement" t_arrangement) rfl
    exact ⟨_, fd, F, He.glo_ok X G (c.t.d.fact 26 (f := .glo "arrangement") rfl)⟩
  d_needed_swaps := by
    obtain ⟨fd, F⟩ := c.t.d.def_ 27 (d := dn "needed_swaps" t_needed_swaps) rfl
    exact ⟨_, fd, F, He.glo_ok X G (c.t.d.fact 27 (f := .glo "needed_swaps") rfl)⟩
  d_plan_swaps := by
    obtain ⟨fd, F⟩ := c.t.d.def_ 28 (d := dn "plan_swaps" t_plan_swaps) rfl
    exact ⟨_, fd, F, He.glo_ok X G (c.t.d.fact 28 (f := .glo "plan_swaps") rfl)⟩
  d_fewest_swaps := by
    obtain ⟨fd, F⟩ := c.t.d.def_ 29 (d := dn "fewest_swaps" t_fewest_swaps) rfl
    exact ⟨_, fd, F, He.glo_ok X G (c.t.d.fact 29 (f := .glo "fewest_swaps") rfl)⟩
  d_is_swap := by
    obtain ⟨fd, F⟩ := c.t.d.def_ 30 (d := dn "is_swap" t_is_swap) rfl
    exact ⟨_, fd, F, He.glo_ok X G (c.t.d.fact 30 (f := .glo "is_swap") rfl)⟩
  d_swap_all := by
    obtain ⟨fd, F⟩ := c.t.d.def_ 31 (d := dn "swap_all" t_swap_all) rfl
    exact ⟨_, fd, F, He.glo_ok X G (c.t.d.fact 31 (f := .glo "swap_all") rfl)⟩
  d_advance := by
    obtain ⟨fd, F⟩ := c.t.d.def_ 32 (d := dn "advance" t_advance) rfl
    exact ⟨_, fd, F, He.glo_ok X G (c.t.d.fact 32 (f := .glo "advance") rfl)⟩
  d_law_mix := by
    obtain ⟨fd, F⟩ := c.t.d.def_ 33 (d := dn "_law_mix" t_law_mix) rfl
    exact ⟨_, fd, F, He.glo_ok X G (c.t.d.fact 33 (f := .glo "_law_mix") rfl)⟩
  d_law_next := by
    obtain ⟨fd, F⟩ := c.t.d.def_ 34 (d := dn "_law_next" t_law_next) rfl
    exact ⟨_, fd, F, He.glo_ok X G (c.t.d.fact 34 (f := .glo "_law_next") rfl)⟩
  d_law_alike := by
    obtain ⟨fd, F⟩ := c.t.d.def_ 35 (d := dn "_law_alike" t_law_alike) rfl
    exact ⟨_, fd, F, He.glo_ok X G (c.t.d.fact 35 (f := .glo "_law_alike") rfl)⟩
  d_law_error := by
    obtain ⟨fd, F⟩ := c.t.d.def_ 36 (d := dn "_law_error" t_law_error) rfl
    exact ⟨_, fd, F, He.glo_ok X G (c.t.d.fact 36 (f := .glo "_law_error") rfl)⟩
  d_law_plan := by
    obtain ⟨fd, F⟩ := c.t.d.def_ 37 (d := dn "_law_plan" t_law_plan) rfl
    exact ⟨_, fd, F, He.glo_ok X G (c.t.d.fact 37 (f := .glo "_law_plan") rfl)⟩
  d_law_state := by
    obtain ⟨fd, F⟩ := c.t.d.def_ 38 (d := dn "_law_state" t_law_state) rfl
    exact ⟨_, fd, F, He.glo_ok X G (c.t.d.fact 38 (f := .glo "_law_state") rfl)⟩
  d_law_mixed := by
    obtain ⟨fd, F⟩ := c.t.d.def_ 39 (d := dn "_law_mixed" t_law_mixed) rfl
    exact ⟨_, fd, F, He.glo_ok X G (c.t.d.fact 39 (f := .glo "_law_mixed") rfl)⟩
  d_law_wheels := by
    obtain ⟨fd, F⟩ := c.t.d.def_ 40 (d := dn "_law_wheels" t_law_wheels) rfl
    exact ⟨_, fd, F, He.glo_ok X G (c.t.d.fact 40 (f := .glo "_law_wheels") rfl)⟩
  d_law_errors_right := by
    obtain ⟨fd, F⟩ := c.t.d.def_ 41 (d := dn "_law_errors_right" t_law_errors_right) rfl
    exact ⟨_, fd, F, He.glo_ok X G (c.t.d.fact 41 (f := .glo "_law_errors_right") rfl)⟩
  d_law := by
    obtain ⟨fd, F⟩ := c.t.d.def_ 42 (d := dn "law" t_law) rfl
    exact ⟨_, fd, F, He.glo_ok X G (c.t.d.fact 42 (f := .glo "law") rfl)⟩
  f_all := He.free_ok X G (c.t.d.fact 59 (f := .free "all") rfl)
  f_len := He.free_ok X G (c.t.d.fact 60 (f := .free "len") rfl)
  f_range := He.free_ok X G (c.t.d.fact 61 (f := .free "range") rfl)
  f_enumerate := He.free_ok X G (c.t.d.fact 62 (f := .free "enumerate") rfl)
  f_sum := He.free_ok X G (c.t.d.fact 63 (f := .free "sum") rfl)
  f_int := He.free_ok X G (c.t.d.fact 64 (f := .free "int") rfl)
  f_list := He.free_ok X G (c.t.d.fact 65 (f := .free "list") rfl)
  f_tuple := He.free_ok X G (c.t.d.fact 66 (f := .free "tuple") rfl)
  f_sorted := He.free_ok X G (c.t.d.fact 67 (f := .free "sorted") rfl)
  f_set := He.free_ok X G (c.t.d.fact 68 (f := .free "set") rfl)
  f_isinstance := He.free_ok X G (c.t.d.fact 69 (f := .free "isinstance") rfl)
  f_max := He.free_ok X G (c.t.d.fact 70 (f := .free "max") rfl)
  f_dict := He.free_ok X G (c.t.d.fact 71 (f := .free "dict") rfl)
  f_str := He.free_ok X G (c.t.d.fact 72 (f := .free "str") rfl)
  f_bool := He.free_ok X G (c.t.d.fact 73 (f := .free "bool") rfl)
  f_ValueError := He.free_ok X G (c.t.d.fact 74 (f := .free "ValueError") rfl)
  i_MAX_SHELVES := He.int_ok X G (c.t.d.fact 75 (f := .int "MAX_SHELVES" 12) rfl)
  i_MAX_SIZE := He.int_ok X G (c.t.d.fact 76 (f := .int "MAX_SIZE" 9) rfl)
  i_MAX_CARRIERS := He.int_ok X G (c.t.d.fact 77 (f := .int "MAX_CARRIERS" 6) rfl)
  i_MAX_ENTRIES := He.int_ok X G (c.t.d.fact 78 (f := .int "MAX_ENTRIES" 6) rfl)
  i_MAX_TICKS := He.int_ok X G (c.t.d.fact 79 (f := .int "MAX_TICKS" 1000000000000000000) rfl)
  i_MAX_PARCEL := He.int_ok X G (c.t.d.fact 80 (f := .int "MAX_PARCEL" 999) rfl)
  i_MAX_TIME := He.int_ok X G (c.t.d.fact 81 (f := .int "MAX_TIME" 1000000000000000000000000000000) rfl)
  s_CARRIER := He.str_ok X G (c.t.d.fact 82 (f := .str "CARRIER" "carrier") rfl)
  s_SHELF := He.str_ok X G (c.t.d.fact 83 (f := .str "SHELF" "shelf") rfl)
theorem cad_of {x : Str} {a : Addr} (e : mg x = some (.ref a)) : cad mg x = a := by
  unfold cad
  rw [e]
theorem oexB_ok {C : Addr} (q : oexB K C = true) : ∃ nm qn N bs bm sn sub ab col dd k0 k1 k2 k3 k5, K.lookup C = some (excClassObj nm qn C N bs bm true sn sub ab col dd k0 k1 k2 k3 k5 "ValueError.__new__") ∧ PySem.HandSPX.refsVE bm = true := by
  unfold oexB at q
  split at q
  · rename_i t dd cd sl ho
    split at q
    · rename_i D bm k0 k1 k2 k3 n k5 hm hs
      obtain ⟨q1, q⟩ := He.ba q
      obtain ⟨q2, q⟩ := He.ba q
      obtain ⟨q3, q⟩ := He.ba q
      obtain ⟨q4, q⟩ := He.ba q
      obtain ⟨q5, q6⟩ := He.ba q
      have e1 := of_decide_eq_true q1
      have e2 := of_decide_eq_true q2
      have e3 := of_decide_eq_true q3
      obtain ⟨nm, bs, mro, ns, qn, hd, sn, sub, ab, col, del⟩ := cd
      dsimp only at hm q4 q5
      have e4 : del = false := by
        cases del with
        | false => rfl
        | true => cases q4
      subst e1 e2 e3 hm e4 q5
      have hsl : sl = #[k0, k1, k2, k3, some (.builtin "ValueError.__new__"), k5] := by
        obtain ⟨l⟩ := sl
        simp only at hs
        rw [hs]
      subst hsl
      exact ⟨nm, qn, ns, bs, bm, sn, sub, ab, col, dd, k0, k1, k2, k3, k5, ho, q6⟩
    · cases q
  · cases q
theorem excB_ok {D : Addr} (q : excB K D = true) : ExcC K D := by
  obtain ⟨q1, q⟩ := He.ba q
  obtain ⟨q2, q⟩ := He.ba q
  obtain ⟨q3, q⟩ := He.ba q
  obtain ⟨q4, q⟩ := He.ba q
  obtain ⟨q5, q⟩ := He.ba q
  obtain ⟨q6, q⟩ := He.ba q
  obtain ⟨q7, q8⟩ := He.ba q
  exact ⟨He.eqO_ok q1, He.eqO_ok q2, of_decide_eq_true q3, q4, He.eqO_ok q5, He.eqO_ok q6, of_decide_eq_true q7, of_decide_eq_true q8⟩
theorem initB_ok {C : Addr} (q : initB K C = true) : PySem.W.findCls K (.ref C) (.type "type") "__init__" = some (.val (.builtin "ValueError.__init__")) := by
  unfold initB at q
  split at q
  · rename_i n e
    rw [e, of_decide_eq_true q]
  · cases q
theorem gcl_of (X : K.In h) (G : h.Ns mainGlobals mg) (c : He.SaysX fas fns [] [pER] ecsB w h K) : ∀ x ∈ ("ShelfError" : Str) :: exNames, mg x = some (.ref (He.ga K x)) := by
  have all : (("ShelfError" : Str) :: exNames).all (fun x => (He.Fa.glo x).ok K) = true := by
    have e : ∀ x : Str, ∀ i : Nat, fas[i]? = some (.glo x) → (He.Fa.glo x).ok K = true := fun x i hx => c.t.d.fact i hx
    unfold exNames
    simp only [List.all_cons, List.all_nil, Bool.and_true]
    rw [e "ShelfError" 43 rfl, e "InvalidPlan" 44 rfl, e "InvalidState" 45 rfl, e "InvalidCount" 46 rfl, e "UnknownPlace" 47 rfl, e "UnknownParcel" 48 rfl, e "UnknownShelf" 49 rfl, e "UnknownCarrier" 50 rfl, e "InvalidEffect" 51 rfl, e "DifferentSizes" 52 rfl, e "InvalidParcels" 53 rfl, e "Contradiction" 54 rfl, e "InvalidArrangement" 55 rfl, e "ShelfFull" 56 rfl, e "ParcelCarried" 57 rfl, e "InvalidSwap" 58 rfl]
    rfl
  intro x hx
  exact He.glo_ok X G (List.all_eq_true.mp all x hx)
theorem ecs_of (X : K.In h) (G : h.Ns mainGlobals mg) (c : He.SaysX fas fns [] [pER] ecsB w h K) : Ecs K mg := by
  have gl := gcl_of X G c
  have cd : ∀ x ∈ ("ShelfError" : Str) :: exNames, cad mg x = He.ga K x := fun x hx => cad_of (gl x hx)
  have sub : ∀ x ∈ raised, x ∈ ("ShelfError" : Str) :: exNames := fun x hx => by
    have : raised.all (fun x => (("ShelfError" : Str) :: exNames).contains x) = true := by decide +kernel
    exact memOf (List.all_eq_true.mp this x hx)
  have sub2 : ∀ x ∈ ([("InvalidCount" : Str), "InvalidArrangement"] : List Str), x ∈ ("ShelfError" : Str) :: exNames := fun x hx => by
    have : ([("InvalidCount" : Str), "InvalidArrangement"] : List Str).all (fun x => (("ShelfError" : Str) :: exNames).contains x) = true := by decide +kernel
    exact memOf (List.all_eq_true.mp this x hx)
  have m : ecsB K = true := c.more
  obtain ⟨m1, m⟩ := He.ba m
  obtain ⟨m2, m⟩ := He.ba m
  obtain ⟨m3, m⟩ := He.ba m
  obtain ⟨m4, m5⟩ := He.ba m
  have bx : ∀ x ∈ raised, bxB K (He.ga K x) (He.ga K "ShelfError") = true := fun x hx => List.all_eq_true.mp m2 x hx
  have eS := cd "InvalidSwap" (sub _ (memOf (by decide +kernel)))
  have eE := cd "ShelfError" List.mem_cons_self
  obtain ⟨s1, s⟩ := He.ba m4
  obtain ⟨s2, s⟩ := He.ba s
  obtain ⟨s3, s⟩ := He.ba s
  obtain ⟨s4, s⟩ := He.ba s
  obtain ⟨s5, s6⟩ := He.ba s
  obtain ⟨r1, r⟩ := He.ba m5
  obtain ⟨r2, r3⟩ := He.ba r
  have bxs := bx "InvalidSwap" (memOf (by decide +kernel))
  obtain ⟨b1, b⟩ := He.ba bxs
  obtain ⟨b2, b⟩ := He.ba b
  obtain ⟨b3, b⟩ := He.ba b
  refine ⟨fun x hx => by rw [cd x hx]; exact gl x hx, fun x hx => by rw [cd x (sub2 x hx)]; exact List.all_eq_true.mp m1 x hx, fun x hx => ?_, fun x hx => ?_, fun x hx y hy => ?_, fun x hx => ?_, fun x hx => ?_, ?_, ?_, ?_, ?_, ?_, ?_, trivial⟩
  · rw [cd x (sub x hx)]
    obtain ⟨b1, b⟩ := He.ba (bx x hx)
    obtain ⟨b2, b⟩ := He.ba b
    obtain ⟨b3, b⟩ := He.ba b
    exact ⟨b1, of_decide_eq_true b2, of_decide_eq_true b3⟩
  · rw [cd x (sub x hx)]
    obtain ⟨b1, b⟩ := He.ba (bx x hx)
    obtain ⟨b2, b⟩ := He.ba b
    obtain ⟨b3, b⟩ := He.ba b
    exact excB_ok (He.ba b).1
  · rw [cd x (sub x hx), cd y (List.mem_cons_of_mem _ hy)]
    exact of_decide_eq_true (List.all_eq_true.mp (List.all_eq_true.mp m3 x hx) y hy)
  · rw [cd x (sub x hx)]
    obtain ⟨b1, b⟩ := He.ba (bx x hx)
    obtain ⟨b2, b⟩ := He.ba b
    obtain ⟨b3, b⟩ := He.ba b
    exact of_decide_eq_true (He.ba (He.ba b).2).1
  · rw [cd x (sub x hx), eE]
    obtain ⟨b1, b⟩ := He.ba (bx x hx)
    obtain ⟨b2, b⟩ := He.ba b
    obtain ⟨b3, b⟩ := He.ba b
    exact of_decide_eq_true (He.ba (He.ba b).2).2
  · rw [eS]
    exact ⟨oexB_ok s1, He.eqO_ok s2, of_decide_eq_true b2, of_decide_eq_true b3, b1⟩
  · rw [eS]
    exact xfB_ok s3
  · rw [eS]
    exact He.eqO_ok s4
  · rw [eS]
    obtain ⟨fd, F⟩ := c.t.d.def_ 43 (d := ⟨("InvalidSwap", some "__init__"), "__init__", "InvalidSwap.__init__", defArgs t_swap_init, defBody t_swap_init, defScope t_swap_init, [], []⟩) rfl
    exact ⟨_, fd, He.eqO_ok s5, of_decide_eq_true s6, F⟩
  · rw [eE]
    exact He.eqO_ok r1
  · rw [eE]
    exact ⟨_, r2, initB_ok r3⟩
end
end K14
/-! ## K14Q -/
namespace K14
open PySem PySem.Spec PyProof.Rows L2 LamX NdefX
section
variable {P : Program} {w : World} {K : PySem.W.Frag} {h : Heap} {mg : Str → Option Value} {base : Heap}
theorem ltab_of (X : K.In h) (G : h.Ns mainGlobals mg) (c : He.SaysX fas fns [] [pER] ecsB w h K) (TB : TabB base mg (He.cT K pER).1 (He.cT K pER).2) : LTab K mg base (He.cT K pER).2 := by
  obtain ⟨fd, F⟩ := c.t.d.def_ 41 (d := dn "_law_errors_right" t_law_errors_right) rfl
  have hm : mg "_law_errors_right" = some (.ref (He.ga K "_law_errors_right")) := He.glo_ok X G (c.t.d.fact 41 (f := .glo "_law_errors_right") rfl)
  have hb := F.bindsN (ps := ["_law_plan_here", "_law_state_here", "_law_every", "_law_goal"]) (fun kV doc pm an cdv ct us hl => match us, hl with | [_, _, _, _], _ => rfl)
  have kp := F.kp
  obtain ⟨oc, od, dV, kV, doc, pm, an, cdv, ct, osl, rfl, lk, hcd, hD, hK⟩ := F.ex
  obtain ⟨cc, rfl⟩ := He.codeIn_ref hcd
  have ec : He.codeOf K pER = cc := He.codeOf_eq lk rfl
  have e1 : (He.cT K pER).1 = cc := ec
  rw [e1] at TB
  exact ⟨_, cc, oc, od, dV, kV, doc, pm, an, ct, osl, lk, hcd, hm, kp, TB, hb⟩
theorem tabs_start {Pt : Addr} {H : Hp} (h : H Pt = some (.tbl #[])) : Tabs (lamT Pt) H := fun p hp => by
  obtain rfl := List.mem_singleton.mp hp
  refine ⟨#[], h, trivial, fun pos cv hc => ?_⟩
  cases hc
theorem law_at {w : World} {fa : Addr} (X : K.In h) (G : h.Ns mainGlobals mg) (c : He.SaysX fas fns [] [pER] ecsB w h K) (hfa : mg ("law" : Str) = some (.ref fa)) : LawAtS PySem.Challenge.rw_swapshelves_k14_whole_swaps w K CX0 13 63 "_law_script" mg fa h := by
  have T := txt_of X G c
  have EC := ecs_of X G c
  obtain ⟨fd, F⟩ := c.t.d.def_ 42 (d := dn "law" t_law) rfl
  have e := hfa.symm.trans (He.glo_ok X G (c.t.d.fact 42 (f := .glo "law") rfl))
  cases e
  have b := FunD.bindsA (ps := ["_law_script"]) F fun _ _ _ _ _ _ us hl => match us, hl with | [_], _ => rfl
  refine ⟨fd, [He.cT K pER], spLaw K (He.cT K pER).2, fun p hp => ?_, fun p hp => ?_, fun p hp => ?_, fun s v => b s [v] rfl, fun H a ns hl _ hT hS => ?_, fun base KB GB hTB => ?_⟩
  · obtain rfl := List.mem_singleton.mp hp
    exact c.empty pER List.mem_cons_self
  · obtain rfl := List.mem_singleton.mp hp
    exact c.out pER List.mem_cons_self
  · obtain rfl := List.mem_singleton.mp hp
    exact PySem.W.codeHd_of_K X (c.hd pER List.mem_cons_self)
  · exact ⟨a, ns, rfl, hS, hl, tabs_start (hT _ List.mem_cons_self), fun _ => rfl⟩
  · exact ok_law (P := PySem.Challenge.rw_swapshelves_k14_whole_swaps.prog) (w := w) (base := base) T EC (ltab_of X G c (hTB _ List.mem_cons_self)) F
end
end K14
open PySem PySem.W PySem.Calls PyProof.Rows
theorem PySem.Challenge.cw_swapshelves_k14_whole_swaps_holds : PySem.Challenge.rw_swapshelves_k14_whole_swaps.Holds := by
  w_on; o_law
  refine HandSHeadRun.head_any (r := OpenLaw.row PySem.Challenge.rw_swapshelves_k14_whole_swaps) (q := view (OpenLaw.row PySem.Challenge.rw_swapshelves_k14_whole_swaps).prog [78]) (H := K14.hk) (ob := K14.ob) (M := 8000) (loose := K14.loose) (d := HandSHeadRun.topDef (OpenLaw.row PySem.Challenge.rw_swapshelves_k14_whole_swaps).prog 78) (kwd := []) K14.ob_eq
    (by kernel_rfl) (fun s => by kernel_rfl) K14.run (by kernel_rfl) (by kernel_rfl) (by kernel_rfl) (by rfl) (by first | assumption | decide +kernel) (by decide +kernel) ⟨rfl, rfl, rfl, rfl, rfl, by decide +kernel⟩ ?hw ?hc
  case hw => w_witness2
  case hc =>
    refine LamX.walk_ofTsE (l := PySem.Challenge.rw_swapshelves_k14_whole_swaps) (n := 63) (k := 13) (x := "_law_script") (CX := fun _ => L2.CX0) rfl (by decide) (by kernel_rfl) ⟨rfl, by decide, by decide⟩ ?F (fun _ _ _ _ _ z => z)
    intro w mg fa h Y G hmg0
    obtain ⟨K, KX, c⟩ := Y
    have hmg : mg ("law" : PySem.Str) = some (.ref fa) := by
      have e : (HandSHeadRun.topDef (OpenLaw.row PySem.Challenge.rw_swapshelves_k14_whole_swaps).prog 78).name = ("law" : PySem.Str) := by kernel_rfl
      rw [← e]
      exact hmg0
    exact ⟨K, KX, K14.law_at KX G c hmg⟩
