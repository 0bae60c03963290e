import PyProof.Rows.All
import Wide.All
import OpenK.AllK
import Wide.FinOn
import HandS.ForMost
import HandS.Deep
import KE.SortData
import PyProof.ReprRoads
import PyProof.ReprLen
import HandS.Zip
import HandS.Walk
import KE.GoesMore
import HandS.DictComp
import HandS.Conv
import HandS.TupLen
import KE.KDictKeyed
import KE.KDictDisplayH
import HandS.TupMul
import HandS.Flow
import HandS.IsInst
import HandS.SetKeys
import HandS.TupAny
import KE.DataMinMax
import PySem.Challenge.RW_keptpartings_k05_whole_kept_partings
set_option Elab.async false
set_option linter.all false
namespace Kp
/-! ### snoc induction, small things about lists -/
theorem snoc_ind {α : Type} {P : List α → Prop} (h0 : P []) (hs : ∀ l x, P l → P (l ++ [x])) (l : List α) : P l := by
  have g : ∀ m : List α, P m.reverse := by
    intro m
    induction m with
    | nil => exact h0
    | cons x m ih =>
      rw [List.reverse_cons]
      exact hs _ _ ih
  have := g l.reverse
  rwa [List.reverse_reverse] at this
theorem nodup_sub {α : Type} [DecidableEq α] : ∀ {l m : List α}, l.Nodup → (∀ x ∈ l, x ∈ m) → l.length ≤ m.length
  | [], _, _, _ => Nat.zero_le _
  | a :: l, m, hn, hs => by
    obtain ⟨h1, h2⟩ := List.nodup_cons.mp hn
    have hm : a ∈ m := hs a List.mem_cons_self
    have ih := nodup_sub (l := l) (m := m.erase a) h2 fun x hx => by
      refine (List.mem_erase_of_ne ?_).mpr (hs x (List.mem_cons_of_mem _ hx))
      rintro rfl
      exact h1 hx
    have e := List.length_erase_of_mem hm
    have : 0 < m.length := List.length_pos_of_mem hm
    rw [List.length_cons]
    omega
abbrev at0 (p : List Nat) (i : Nat) : Nat := p.getD i 0
theorem at0_get {p : List Nat} {i : Nat} (h : i < p.length) : at0 p i = p[i] := by
  unfold at0
  rw [List.getD_eq_getElem?_getD, List.getElem?_eq_getElem h]
  rfl
theorem at0_mem {p : List Nat} {i : Nat} (h : i < p.length) : at0 p i ∈ p := by
  rw [at0_get h]
  exact List.getElem_mem h
theorem get_at0 {p : List Nat} {i : Nat} (h : i < p.length) : p[i]? = some (at0 p i) := by
  rw [at0_get h]
  exact List.getElem?_eq_getElem h
theorem at0_map {p : List Nat} {f : Nat → Nat} {i : Nat} (h : i < p.length) : at0 (p.map f) i = f (at0 p i) := by
  rw [at0_get h, at0_get (by rwa [List.length_map]), List.getElem_map]
theorem at0_left {p q : List Nat} {i : Nat} (h : i < p.length) : at0 (p ++ q) i = at0 p i := by
  rw [at0_get h, at0_get (by rw [List.length_append]; omega), List.getElem_append_left h]
theorem at0_last (p : List Nat) (x : Nat) : at0 (p ++ [x]) p.length = x := by
  rw [at0_get (by simp)]
  simp
theorem at0_range {n i : Nat} (h : i < n) : at0 (List.range n) i = i := by
  rw [at0_get (by simpa using h), List.getElem_range]
theorem mem_at0 {p : List Nat} {x : Nat} (h : x ∈ p) : ∃ i, i < p.length ∧ at0 p i = x := by
  obtain ⟨i, hi, e⟩ := List.getElem_of_mem h
  exact ⟨i, hi, by rw [at0_get hi]; exact e⟩
theorem ext_at0 {p q : List Nat} (hl : p.length = q.length) (h : ∀ i, i < p.length → at0 p i = at0 q i) : p = q := by
  refine List.ext_getElem hl fun i h1 h2 => ?_
  have := h i h1
  rwa [at0_get h1, at0_get h2] at this

/-! ### numbered -/
def firsts (p : List Nat) : List Nat := p.foldl (fun s x => if x ∈ s then s else s ++ [x]) []
def num (p : List Nat) : List Nat := p.map (fun x => (firsts p).idxOf x)
theorem firsts_snoc (p : List Nat) (x : Nat) : firsts (p ++ [x]) = if x ∈ firsts p then firsts p else firsts p ++ [x] := by
  unfold firsts
  rw [List.foldl_append]
  rfl
theorem mem_firsts (p : List Nat) : ∀ x, x ∈ firsts p ↔ x ∈ p := by
  induction p using snoc_ind with
  | h0 => intro x; rfl
  | hs l y ih =>
    intro x
    rw [firsts_snoc]
    by_cases h : y ∈ firsts l
    · rw [if_pos h, ih x, List.mem_append, List.mem_singleton]
      refine ⟨Or.inl, fun q => q.elim id ?_⟩
      rintro rfl
      exact (ih _).mp h
    · rw [if_neg h, List.mem_append, List.mem_append, ih x]
theorem nodup_firsts (p : List Nat) : (firsts p).Nodup := by
  induction p using snoc_ind with
  | h0 => exact List.nodup_nil
  | hs l y ih =>
    rw [firsts_snoc]
    by_cases h : y ∈ firsts l
    · rw [if_pos h]; exact ih
    · rw [if_neg h]
      rw [List.nodup_append]
      refine ⟨ih, by simp, fun a ha b hb e => ?_⟩
      rw [List.mem_singleton] at hb
      subst hb; subst e
      exact h ha
theorem firsts_len (p : List Nat) : (firsts p).length ≤ p.length := nodup_sub (nodup_firsts p) fun x hx => (mem_firsts p x).mp hx
theorem num_len (p : List Nat) : (num p).length = p.length := List.length_map _
theorem at0_num {p : List Nat} {i : Nat} (h : i < p.length) : at0 (num p) i = (firsts p).idxOf (at0 p i) := at0_map h
theorem idx_lt {p : List Nat} {x : Nat} (h : x ∈ p) : (firsts p).idxOf x < (firsts p).length := List.idxOf_lt_length_iff.mpr ((mem_firsts p x).mpr h)
theorem num_lt {p : List Nat} {x : Nat} (h : x ∈ num p) : x < (firsts p).length := by
  obtain ⟨y, hy, rfl⟩ := List.mem_map.mp h
  exact idx_lt hy
theorem idx_inj {p : List Nat} {x y : Nat} (hx : x ∈ p) (hy : y ∈ p) (e : (firsts p).idxOf x = (firsts p).idxOf y) : x = y := by
  have h1 := List.getElem_idxOf (idx_lt hx)
  have h2 := List.getElem_idxOf (idx_lt hy)
  have h3 : (firsts p)[(firsts p).idxOf x]? = (firsts p)[(firsts p).idxOf y]? := by rw [e]
  rw [List.getElem?_eq_getElem (idx_lt hx), List.getElem?_eq_getElem (idx_lt hy), h1, h2] at h3
  exact Option.some.inj h3
theorem num_rel {p : List Nat} {i j : Nat} (hi : i < p.length) (hj : j < p.length) : at0 (num p) i = at0 (num p) j ↔ at0 p i = at0 p j := by
  rw [at0_num hi, at0_num hj]
  exact ⟨fun e => idx_inj (at0_mem hi) (at0_mem hj) e, fun e => by rw [e]⟩
theorem num_snoc (p : List Nat) (x : Nat) : num (p ++ [x]) = num p ++ [(firsts (p ++ [x])).idxOf x] := by
  unfold num
  rw [List.map_append, List.map_singleton]
  congr 1
  refine List.map_congr_left fun y hy => ?_
  have hy' := (mem_firsts p y).mpr hy
  rw [firsts_snoc]
  by_cases h : x ∈ firsts p
  · rw [if_pos h]
  · rw [if_neg h, List.idxOf_append, if_pos hy']
theorem idx_new {l : List Nat} {x : Nat} (h : x ∉ l) : (l ++ [x]).idxOf x = l.length := by
  rw [List.idxOf_append, if_neg h]
  simp
def SameRel (n : Nat) (p q : List Nat) : Prop := ∀ i j, i < n → j < n → (at0 p i = at0 p j ↔ at0 q i = at0 q j)
theorem num_congr' : ∀ (p q : List Nat), p.length = q.length → SameRel p.length p q → num p = num q ∧ (firsts p).length = (firsts q).length := by
  intro p
  induction p using snoc_ind with
  | h0 =>
    intro q hl _
    have : q = [] := List.eq_nil_of_length_eq_zero hl.symm
    subst this
    exact ⟨rfl, rfl⟩
  | hs p x ih =>
    intro q hl hr
    have hq : q ≠ [] := by
      rintro rfl
      simp at hl
    obtain ⟨q, y, rfl⟩ : ∃ q' y, q = q' ++ [y] := ⟨q.dropLast, q.getLast hq, (List.dropLast_concat_getLast hq).symm⟩
    have hl' : p.length = q.length := by simpa using hl
    have hn : (p ++ [x]).length = p.length + 1 := by simp
    have hr' : SameRel p.length p q := fun i j hi hj => by
      have := hr i j (by omega) (by omega)
      rwa [at0_left hi, at0_left hj, at0_left (hl' ▸ hi), at0_left (hl' ▸ hj)] at this
    obtain ⟨e1, e2⟩ := ih q hl' hr'
    have last : ∀ i, i < p.length → (at0 p i = x ↔ at0 q i = y) := fun i hi => by
      have := hr i p.length (by omega) (by omega)
      rw [at0_left hi, at0_last, at0_left (hl' ▸ hi)] at this
      rw [hl', at0_last] at this
      exact this
    have mem : x ∈ firsts p ↔ y ∈ firsts q := by
      rw [mem_firsts, mem_firsts]
      constructor
      · intro h
        obtain ⟨i, hi, e⟩ := mem_at0 h
        rw [← (last i hi).mp e]
        exact at0_mem (hl' ▸ hi)
      · intro h
        obtain ⟨i, hi, e⟩ := mem_at0 h
        rw [← (last i (hl' ▸ hi)).mpr e]
        exact at0_mem (hl' ▸ hi)
    rw [num_snoc, num_snoc, e1, firsts_snoc, firsts_snoc]
    by_cases h : x ∈ firsts p
    · rw [if_pos h, if_pos (mem.mp h)]
      refine ⟨?_, e2⟩
      congr 2
      obtain ⟨i, hi, e⟩ := mem_at0 ((mem_firsts p x).mp h)
      have hi' : i < q.length := hl' ▸ hi
      have e' := (last i hi).mp e
      have a1 := at0_num hi
      have a2 := at0_num hi'
      rw [e] at a1
      rw [e'] at a2
      rw [← a1, ← a2, e1]
    · rw [if_neg h, if_neg (fun z => h (mem.mpr z))]
      refine ⟨?_, by simp [e2]⟩
      rw [idx_new h, idx_new (fun z => h (mem.mpr z)), e2]
theorem num_congr {p q : List Nat} (hl : p.length = q.length) (hr : SameRel p.length p q) : num p = num q := (num_congr' p q hl hr).1
theorem num_num (p : List Nat) : num (num p) = num p :=
  num_congr (num_len p) fun i j hi hj => num_rel (by rwa [num_len] at hi) (by rwa [num_len] at hj)
theorem rgs_ext {p q : List Nat} (hp : num p = p) (hq : num q = q) (hl : p.length = q.length) (hr : SameRel p.length p q) : p = q := by
  rw [← hp, ← hq]
  exact num_congr hl hr
/-- the values of a parting: 0 .. below the number of its blocks -/
theorem rgs_firsts : ∀ p : List Nat, num p = p → firsts p = List.range (firsts p).length := by
  intro p
  induction p using snoc_ind with
  | h0 => intro _; rfl
  | hs p x ih =>
    intro h
    rw [num_snoc] at h
    obtain ⟨h1, h2⟩ := List.append_inj' h rfl
    have h3 : (firsts (p ++ [x])).idxOf x = x := by simpa using h2
    have ih := ih h1
    rw [firsts_snoc] at h3 ⊢
    by_cases hx : x ∈ firsts p
    · rw [if_pos hx]; exact ih
    · rw [if_neg hx] at h3 ⊢
      rw [idx_new hx] at h3
      rw [List.length_append, List.length_singleton, List.range_succ, ← ih, h3]
theorem rgs_mem {p : List Nat} (h : num p = p) (x : Nat) : x ∈ p ↔ x < (firsts p).length := by
  rw [← mem_firsts, rgs_firsts p h, List.mem_range, List.length_range]
theorem rgs_snoc (p : List Nat) (x : Nat) : num (p ++ [x]) = p ++ [x] ↔ num p = p ∧ x ≤ (firsts p).length := by
  rw [num_snoc]
  constructor
  · intro h
    obtain ⟨h1, h2⟩ := List.append_inj' h rfl
    have h3 : (firsts (p ++ [x])).idxOf x = x := by simpa using h2
    refine ⟨h1, ?_⟩
    rw [firsts_snoc] at h3
    by_cases hx : x ∈ firsts p
    · have := (rgs_mem h1 x).mp ((mem_firsts p x).mp hx)
      omega
    · rw [if_neg hx, idx_new hx] at h3
      omega
  · rintro ⟨h1, h2⟩
    rw [h1]
    congr 2
    rw [firsts_snoc]
    by_cases hx : x ∈ firsts p
    · rw [if_pos hx]
      have e := rgs_firsts p h1
      have hlt := (rgs_mem h1 x).mp ((mem_firsts p x).mp hx)
      have g := List.getElem_idxOf (idx_lt ((mem_firsts p x).mp hx))
      have hr : ∀ (i : Nat) (hi : i < (firsts p).length), (firsts p)[i] = i := fun i hi => by
        have : (firsts p)[i]? = (List.range (firsts p).length)[i]? := by rw [← e]
        rw [List.getElem?_eq_getElem hi, List.getElem?_range hi] at this
        exact Option.some.inj this
      rw [hr _ _] at g
      exact g
    · rw [if_neg hx, idx_new hx]
      have : ¬ x < (firsts p).length := fun z => hx ((mem_firsts p x).mpr ((rgs_mem h1 x).mpr z))
      omega
theorem rgs_max {p : List Nat} {m : Nat} (h : num p = p) (hm : m ∈ p) (hu : ∀ y ∈ p, y ≤ m) : m + 1 = (firsts p).length := by
  have h1 := (rgs_mem h m).mp hm
  have h2 : (firsts p).length - 1 ∈ p := (rgs_mem h _).mpr (by omega)
  have := hu _ h2
  omega
theorem rgs_lt {p : List Nat} (h : num p = p) {x : Nat} (hx : x ∈ p) : x < p.length := Nat.lt_of_lt_of_le ((rgs_mem h x).mp hx) (firsts_len p)
theorem num_range (n : Nat) : num (List.range n) = List.range n := by
  refine ext_at0 (num_len _) fun i hi => ?_
  have hi' : i < (List.range n).length := by rwa [num_len] at hi
  rw [at0_num hi']
  have e : ∀ n, firsts (List.range n) = List.range n := by
    intro n
    induction n with
    | zero => rfl
    | succ n ih =>
      rw [List.range_succ, firsts_snoc, ih, if_neg (by simp)]
  rw [e, at0_get hi']
  rw [List.getElem_range]
  have := List.Nodup.idxOf_getElem (List.nodup_range (n := n)) i hi'
  rwa [List.getElem_range] at this

/-! ### all partings, ascending -/
def sheets : Nat → List (List Nat)
  | 0 => [[0]]
  | k + 1 => (sheets k).flatMap fun r => (List.range ((firsts r).length + 1)).map fun h => r ++ [h]
theorem mem_sheets : ∀ (k : Nat) (p : List Nat), p ∈ sheets k ↔ num p = p ∧ p.length = k + 1
  | 0, p => by
    show p ∈ [[0]] ↔ _
    rw [List.mem_singleton]
    constructor
    · rintro rfl
      exact ⟨rfl, rfl⟩
    · rintro ⟨h1, h2⟩
      obtain ⟨a, rfl⟩ := List.length_eq_one_iff.mp h2
      have : num [a] = [0] := by simp [num, firsts]
      rw [← h1, this]
  | k + 1, p => by
    show p ∈ (sheets k).flatMap _ ↔ _
    rw [List.mem_flatMap]
    constructor
    · rintro ⟨r, hr, hp⟩
      obtain ⟨h, hh, rfl⟩ := List.mem_map.mp hp
      obtain ⟨h1, h2⟩ := (mem_sheets k r).mp hr
      refine ⟨(rgs_snoc r h).mpr ⟨h1, ?_⟩, by simp [h2]⟩
      have := List.mem_range.mp hh
      omega
    · rintro ⟨h1, h2⟩
      have hne : p ≠ [] := by
        rintro rfl
        simp at h2
      obtain ⟨q, y, rfl⟩ : ∃ q' y, p = q' ++ [y] := ⟨p.dropLast, p.getLast hne, (List.dropLast_concat_getLast hne).symm⟩
      obtain ⟨h3, h4⟩ := (rgs_snoc q y).mp h1
      refine ⟨q, (mem_sheets k q).mpr ⟨h3, by simpa using h2⟩, List.mem_map.mpr ⟨y, List.mem_range.mpr (by omega), rfl⟩⟩
abbrev toZ (p : List Nat) : List Int := p.map Int.ofNat
theorem toZ_lt : ∀ {p q : List Nat} {a b : List Nat}, p.length = q.length → toZ p < toZ q → toZ (p ++ a) < toZ (q ++ b)
  | [], [], _, _, _, h => absurd h (List.lt_irrefl _)
  | [], _ :: _, _, _, hl, _ => by simp at hl
  | _ :: _, [], _, _, hl, _ => by simp at hl
  | x :: p, y :: q, a, b, hl, h => by
    have hl' : p.length = q.length := by simpa using hl
    simp only [toZ, List.map_cons, List.cons_append, List.cons_lt_cons_iff] at h ⊢
    rcases h with h | ⟨h1, h2⟩
    · exact Or.inl h
    · exact Or.inr ⟨h1, toZ_lt hl' h2⟩
theorem toZ_lt_last (p : List Nat) {x y : Nat} (h : x < y) : toZ (p ++ [x]) < toZ (p ++ [y]) := by
  induction p with
  | nil =>
    simp only [toZ, List.nil_append, List.map_cons, List.map_nil, List.cons_lt_cons_iff]
    exact Or.inl (Int.ofNat_lt.mpr h)
  | cons z p ih =>
    rw [List.cons_append, List.cons_append, toZ, toZ, List.map_cons, List.map_cons, List.cons_lt_cons_iff]
    exact Or.inr ⟨rfl, ih⟩
theorem sheets_sorted : ∀ k, (sheets k).Pairwise fun p q => toZ p < toZ q
  | 0 => by simp [sheets]
  | k + 1 => by
    show List.Pairwise _ ((sheets k).flatMap _)
    rw [List.pairwise_flatMap]
    refine ⟨fun r hr => ?_, ?_⟩
    · rw [List.pairwise_map]
      exact List.Pairwise.imp (fun {x y} h => toZ_lt_last r h) List.pairwise_lt_range
    · refine List.Pairwise.imp_of_mem ?_ (sheets_sorted k)
      intro r s hr hs h p hp q hq
      obtain ⟨x, _, rfl⟩ := List.mem_map.mp hp
      obtain ⟨y, _, rfl⟩ := List.mem_map.mp hq
      exact toZ_lt (by rw [((mem_sheets k r).mp hr).2, ((mem_sheets k s).mp hs).2]) h

/-! ### machines, kept partings -/
def dl (t : List (List Nat)) (k l : Nat) : Nat := at0 (t.getD k []) l
structure Mach (t : List (List Nat)) (n L : Nat) : Prop where
  len : t.length = n
  n1 : 1 ≤ n
  n8 : n ≤ 8
  l1 : 1 ≤ L
  l4 : L ≤ 4
  row : ∀ r ∈ t, r.length = L
  low : ∀ r ∈ t, ∀ x ∈ r, x < n
theorem Mach.dl_lt {t : List (List Nat)} {n L k l : Nat} (M : Mach t n L) (hk : k < n) (hl : l < L) : dl t k l < n := by
  have hk' : k < t.length := by rw [M.len]; exact hk
  have e : t.getD k [] = t[k] := by rw [List.getD_eq_getElem?_getD, List.getElem?_eq_getElem hk']; rfl
  unfold dl
  rw [e]
  have hm := List.getElem_mem hk'
  exact M.low _ hm _ (at0_mem (by rw [M.row _ hm]; exact hl))
abbrev Rel (p : List Nat) : Nat → Nat → Prop := fun i j => at0 p i = at0 p j
theorem rel_eqv (p : List Nat) : Equivalence (Rel p) := ⟨fun _ => rfl, fun h => h.symm, fun h h' => h.trans h'⟩
/-- closed under the letters -/
def Cl (t : List (List Nat)) (n L : Nat) (R : Nat → Nat → Prop) : Prop := ∀ i j l, i < n → j < n → l < L → R i j → R (dl t i l) (dl t j l)
abbrev Kept (t : List (List Nat)) (n L : Nat) (p : List Nat) : Prop := Cl t n L (Rel p)
def keptB (t : List (List Nat)) (n L : Nat) (p : List Nat) : Bool :=
  (List.range n).all fun i => (List.range n).all fun j => if at0 p i = at0 p j then (List.range L).all fun l => at0 p (dl t i l) == at0 p (dl t j l) else true
theorem keptB_iff {t : List (List Nat)} {n L : Nat} {p : List Nat} : keptB t n L p = true ↔ Kept t n L p := by
  unfold keptB
  rw [List.all_eq_true]
  constructor
  · intro h i j l hi hj hl e
    have h1 := List.all_eq_true.mp (h i (List.mem_range.mpr hi)) j (List.mem_range.mpr hj)
    rw [if_pos e] at h1
    exact beq_iff_eq.mp (List.all_eq_true.mp h1 l (List.mem_range.mpr hl))
  · intro h i hi
    rw [List.all_eq_true]
    intro j hj
    by_cases e : at0 p i = at0 p j
    · rw [if_pos e, List.all_eq_true]
      intro l hl
      exact beq_iff_eq.mpr (h i j l (List.mem_range.mp hi) (List.mem_range.mp hj) (List.mem_range.mp hl) e)
    · rw [if_neg e]
def allKept (t : List (List Nat)) (n L : Nat) : List (List Nat) := (sheets (n - 1)).filter (keptB t n L)
theorem mem_allKept {t : List (List Nat)} {n L : Nat} (h1 : 1 ≤ n) {p : List Nat} : p ∈ allKept t n L ↔ num p = p ∧ p.length = n ∧ Kept t n L p := by
  unfold allKept
  rw [List.mem_filter, mem_sheets, keptB_iff, Nat.sub_add_cancel h1, and_assoc]
theorem allKept_sorted (t : List (List Nat)) (n L : Nat) : (allKept t n L).Pairwise fun p q => toZ p < toZ q := List.Pairwise.filter _ (sheets_sorted _)
/-- the least parting of a kind that has together what G has -/
structure Lub (n : Nat) (C : (Nat → Nat → Prop) → Prop) (G : Nat → Nat → Prop) (c : List Nat) : Prop where
  len : c.length = n
  rgs : num c = c
  cl : C (Rel c)
  ge : ∀ i j, i < n → j < n → G i j → Rel c i j
  least : ∀ R, Equivalence R → C R → (∀ i j, i < n → j < n → G i j → R i j) → ∀ i j, i < n → j < n → Rel c i j → R i j
section
variable {n : Nat} {C : (Nat → Nat → Prop) → Prop} {G G' : Nat → Nat → Prop} {c d : List Nat}
theorem Lub.uniq (a : Lub n C G c) (b : Lub n C G d) : c = d := by
  refine rgs_ext a.rgs b.rgs (a.len.trans b.len.symm) fun i j hi hj => ?_
  rw [a.len] at hi hj
  exact ⟨fun e => a.least _ (rel_eqv d) b.cl b.ge i j hi hj e, fun e => b.least _ (rel_eqv c) a.cl a.ge i j hi hj e⟩
theorem Lub.congr (a : Lub n C G c) (h : ∀ R, Equivalence R → C R → ((∀ i j, i < n → j < n → G i j → R i j) ↔ ∀ i j, i < n → j < n → G' i j → R i j)) : Lub n C G' c :=
  ⟨a.len, a.rgs, a.cl, (h _ (rel_eqv c) a.cl).mp a.ge, fun R e k g => a.least R e k ((h R e k).mpr g)⟩
end

/-! ### merging -/
def mrg (p : List Nat) (a b : Nat) : List Nat := p.map fun x => if x = at0 p b then at0 p a else x
theorem mrg_len (p : List Nat) (a b : Nat) : (mrg p a b).length = p.length := List.length_map _
theorem at0_mrg {p : List Nat} {a b i : Nat} (h : i < p.length) : at0 (mrg p a b) i = if at0 p i = at0 p b then at0 p a else at0 p i := at0_map h
theorem mrg_mono {p : List Nat} {a b i j : Nat} (hi : i < p.length) (hj : j < p.length) (e : Rel p i j) : Rel (mrg p a b) i j := by
  unfold Rel at e ⊢
  rw [at0_mrg hi, at0_mrg hj, e]
theorem mrg_both {p : List Nat} {a b : Nat} (ha : a < p.length) (hb : b < p.length) : Rel (mrg p a b) a b := by
  unfold Rel
  rw [at0_mrg ha, at0_mrg hb, if_pos rfl]
  split <;> rfl
theorem mrg_least {p : List Nat} {a b : Nat} {R : Nat → Nat → Prop} (hR : Equivalence R) (ha : a < p.length) (hb : b < p.length) (hp : ∀ i j, i < p.length → j < p.length → Rel p i j → R i j) (hab : R a b) :
    ∀ i j, i < p.length → j < p.length → Rel (mrg p a b) i j → R i j := by
  intro i j hi hj e
  have to_a : ∀ i, i < p.length → ∀ v, at0 (mrg p a b) i = v → ∃ k, k < p.length ∧ at0 p k = v ∧ R i k := by
    intro i hi v e
    rw [at0_mrg hi] at e
    by_cases h : at0 p i = at0 p b
    · rw [if_pos h] at e
      exact ⟨a, ha, e, hR.trans (hp i b hi hb h) (hR.symm hab)⟩
    · rw [if_neg h] at e
      exact ⟨i, hi, e, hR.refl i⟩
  obtain ⟨k, hk, e1, r1⟩ := to_a i hi _ rfl
  obtain ⟨m, hm, e2, r2⟩ := to_a j hj _ rfl
  have : Rel p k m := by
    show at0 p k = at0 p m
    rw [e1, e2]
    exact e
  exact hR.trans r1 (hR.trans (hp k m hk hm this) (hR.symm r2))
/-- fewer blocks -/
theorem mrg_fewer {p : List Nat} {a b : Nat} (ha : a < p.length) (hb : b < p.length) (h : at0 p a ≠ at0 p b) : (firsts (mrg p a b)).length < (firsts p).length := by
  have hbm : at0 p b ∈ firsts p := (mem_firsts p _).mpr (at0_mem hb)
  have e := List.length_erase_of_mem hbm
  have h0 := List.length_pos_of_mem hbm
  have : (firsts (mrg p a b)).length ≤ ((firsts p).erase (at0 p b)).length := by
    refine nodup_sub (nodup_firsts _) fun x hx => ?_
    obtain ⟨i, hi, ex⟩ := mem_at0 ((mem_firsts _ x).mp hx)
    rw [mrg_len] at hi
    rw [at0_mrg hi] at ex
    by_cases hi2 : at0 p i = at0 p b
    · rw [if_pos hi2] at ex
      subst ex
      exact (List.mem_erase_of_ne h).mpr ((mem_firsts p _).mpr (at0_mem ha))
    · rw [if_neg hi2] at ex
      subst ex
      exact (List.mem_erase_of_ne hi2).mpr ((mem_firsts p _).mpr (at0_mem hi))
  omega
def mrgs (p : List Nat) (ps : List (Nat × Nat)) : List Nat := ps.foldl (fun f ab => mrg f ab.1 ab.2) p
theorem mrgs_len : ∀ (ps : List (Nat × Nat)) (p : List Nat), (mrgs p ps).length = p.length
  | [], _ => rfl
  | q :: ps, p => by
    show (mrgs (mrg p q.1 q.2) ps).length = _
    rw [mrgs_len ps, mrg_len]
theorem mrgs_mono : ∀ (ps : List (Nat × Nat)) (p : List Nat) {i j : Nat}, i < p.length → j < p.length → Rel p i j → Rel (mrgs p ps) i j
  | [], _, _, _, _, _, e => e
  | q :: ps, p, i, j, hi, hj, e => by
    show Rel (mrgs (mrg p q.1 q.2) ps) i j
    exact mrgs_mono ps _ (by rwa [mrg_len]) (by rwa [mrg_len]) (mrg_mono hi hj e)
theorem mrgs_all : ∀ (ps : List (Nat × Nat)) (p : List Nat), (∀ q ∈ ps, q.1 < p.length ∧ q.2 < p.length) → ∀ q ∈ ps, Rel (mrgs p ps) q.1 q.2
  | [], _, _, _, h => absurd h List.not_mem_nil
  | r :: ps, p, hb, q, hq => by
    show Rel (mrgs (mrg p r.1 r.2) ps) q.1 q.2
    rcases List.mem_cons.mp hq with rfl | hq
    · obtain ⟨h1, h2⟩ := hb q List.mem_cons_self
      exact mrgs_mono ps _ (by rwa [mrg_len]) (by rwa [mrg_len]) (mrg_both h1 h2)
    · exact mrgs_all ps _ (fun z hz => by rw [mrg_len]; exact hb z (List.mem_cons_of_mem _ hz)) q hq
theorem mrgs_least {R : Nat → Nat → Prop} (hR : Equivalence R) : ∀ (ps : List (Nat × Nat)) (p : List Nat), (∀ q ∈ ps, q.1 < p.length ∧ q.2 < p.length ∧ R q.1 q.2) → (∀ i j, i < p.length → j < p.length → Rel p i j → R i j) →
    ∀ i j, i < p.length → j < p.length → Rel (mrgs p ps) i j → R i j
  | [], _, _, h => h
  | r :: ps, p, hb, h => by
    obtain ⟨h1, h2, h3⟩ := hb r List.mem_cons_self
    have := mrgs_least hR ps (mrg p r.1 r.2) (fun z hz => by rw [mrg_len]; exact hb z (List.mem_cons_of_mem _ hz)) (by
      rw [mrg_len]
      exact mrg_least hR h1 h2 h h3)
    rwa [mrg_len] at this
theorem mrgs_app (p : List Nat) (a b : List (Nat × Nat)) : mrgs p (a ++ b) = mrgs (mrgs p a) b := List.foldl_append
/-! ### blocks -/
def blk (p : List Nat) (b : Nat) : List Nat := (List.range p.length).filter fun i => at0 p i == b
theorem mem_blk {p : List Nat} {b i : Nat} : i ∈ blk p b ↔ i < p.length ∧ at0 p i = b := by
  unfold blk
  rw [List.mem_filter, List.mem_range, beq_iff_eq]
def bp1 (l : List Nat) : List (Nat × Nat) := l.tail.map fun s => (l.headD 0, s)
def bpairs (p : List Nat) (k : Nat) : List (Nat × Nat) := (List.range k).flatMap fun b => bp1 (blk p b)
theorem mem_bp1 {l : List Nat} {q : Nat × Nat} (h : q ∈ bp1 l) : q.1 ∈ l ∧ q.2 ∈ l := by
  obtain ⟨s, hs, rfl⟩ := List.mem_map.mp h
  cases l with
  | nil => simp at hs
  | cons a l => exact ⟨List.mem_cons_self, List.mem_cons_of_mem _ hs⟩
theorem bp1_all {l : List Nat} {R : Nat → Nat → Prop} (hR : Equivalence R) (h : ∀ q ∈ bp1 l, R q.1 q.2) : ∀ i ∈ l, ∀ j ∈ l, R i j := by
  cases l with
  | nil => intro i hi; simp at hi
  | cons a l =>
    have to_ : ∀ i ∈ a :: l, R a i := by
      intro i hi
      rcases List.mem_cons.mp hi with rfl | hi
      · exact hR.refl _
      · exact h (a, i) (List.mem_map.mpr ⟨i, hi, rfl⟩)
    intro i hi j hj
    exact hR.trans (hR.symm (to_ i hi)) (to_ j hj)
theorem bpairs_in {p : List Nat} {k : Nat} {q : Nat × Nat} (h : q ∈ bpairs p k) : q.1 < p.length ∧ q.2 < p.length ∧ Rel p q.1 q.2 := by
  obtain ⟨b, hb, hq⟩ := List.mem_flatMap.mp h
  obtain ⟨h1, h2⟩ := mem_bp1 hq
  obtain ⟨a1, a2⟩ := mem_blk.mp h1
  obtain ⟨b1, b2⟩ := mem_blk.mp h2
  exact ⟨a1, b1, a2.trans b2.symm⟩
theorem bpairs_all {p : List Nat} {k : Nat} {R : Nat → Nat → Prop} (hk : ∀ x ∈ p, x < k) (hR : Equivalence R) (h : ∀ q ∈ bpairs p k, R q.1 q.2) : ∀ i j, i < p.length → j < p.length → Rel p i j → R i j := by
  intro i j hi hj e
  refine bp1_all (l := blk p (at0 p i)) hR (fun q hq => h q (List.mem_flatMap.mpr ⟨at0 p i, List.mem_range.mpr (hk _ (at0_mem hi)), hq⟩)) i (mem_blk.mpr ⟨hi, rfl⟩) j (mem_blk.mpr ⟨hj, e.symm⟩)
/-! ### joins -/
def joinP (p q : List Nat) : List Nat := num (mrgs p (bpairs q (firsts q).length))
abbrev Any : (Nat → Nat → Prop) → Prop := fun _ => True
theorem joinP_lub {n : Nat} {p q : List Nat} (hp : p.length = n) (hq : q.length = n) (rq : num q = q) : Lub n Any (fun i j => Rel p i j ∨ Rel q i j) (joinP p q) := by
  have hl : (mrgs p (bpairs q (firsts q).length)).length = n := by rw [mrgs_len, hp]
  have hb : ∀ z ∈ bpairs q (firsts q).length, z.1 < p.length ∧ z.2 < p.length := fun z hz => by
    obtain ⟨h1, h2, _⟩ := bpairs_in hz
    rw [hq] at h1 h2
    rw [hp]
    exact ⟨h1, h2⟩
  have rel : ∀ i j, i < n → j < n → (Rel (joinP p q) i j ↔ Rel (mrgs p (bpairs q (firsts q).length)) i j) := fun i j hi hj => num_rel (by rw [hl]; exact hi) (by rw [hl]; exact hj)
  have hk : ∀ x ∈ q, x < (firsts q).length := fun x hx => (rgs_mem rq x).mp hx
  refine ⟨by unfold joinP; rw [num_len, hl], num_num _, True.intro, fun i j hi hj g => (rel i j hi hj).mpr ?_, fun R hR _ hg i j hi hj e => ?_⟩
  · rcases g with g | g
    · exact mrgs_mono _ _ (by rw [hp]; exact hi) (by rw [hp]; exact hj) g
    · exact bpairs_all hk (rel_eqv _) (fun z hz => mrgs_all _ p hb z hz) i j (by rw [hq]; exact hi) (by rw [hq]; exact hj) g
  · refine mrgs_least hR _ p (fun z hz => ?_) (fun i j hi hj e => hg i j (by rw [← hp]; exact hi) (by rw [← hp]; exact hj) (Or.inl e)) i j (by rw [hp]; exact hi) (by rw [hp]; exact hj) ((rel i j hi hj).mp e)
    obtain ⟨h1, h2, h3⟩ := bpairs_in hz
    rw [hq] at h1 h2
    exact ⟨by rw [hp]; exact h1, by rw [hp]; exact h2, hg _ _ h1 h2 (Or.inr h3)⟩
theorem joinP_kept {t : List (List Nat)} {n L : Nat} (M : Mach t n L) {p q : List Nat} (hp : p.length = n) (hq : q.length = n) (rq : num q = q) (kp : Kept t n L p) (kq : Kept t n L q) : Kept t n L (joinP p q) := by
  have J := joinP_lub hp hq rq
  intro i j l hi hj hl e
  refine (J.least (fun i j => Rel (joinP p q) i j ∧ ∀ l, l < L → Rel (joinP p q) (dl t i l) (dl t j l)) ?_ True.intro ?_ i j hi hj e).2 l hl
  · refine ⟨fun _ => ⟨rfl, fun _ _ => rfl⟩, fun h => ⟨h.1.symm, fun l hl => (h.2 l hl).symm⟩, fun h h' => ⟨h.1.trans h'.1, fun l hl => (h.2 l hl).trans (h'.2 l hl)⟩⟩
  · intro i j hi hj g
    refine ⟨J.ge i j hi hj g, fun l hl => ?_⟩
    have h1 := M.dl_lt hi hl
    have h2 := M.dl_lt hj hl
    rcases g with g | g
    · exact J.ge _ _ h1 h2 (Or.inl (kp i j l hi hj hl g))
    · exact J.ge _ _ h1 h2 (Or.inr (kq i j l hi hj hl g))
theorem or3 {a b c : Prop} : (a ∨ c) ∨ b ↔ (a ∨ b) ∨ c := ⟨fun h => h.elim (fun h => h.elim (fun h => .inl (.inl h)) .inr) fun h => .inl (.inr h), fun h => h.elim (fun h => h.elim (fun h => .inl (.inl h)) .inr) fun h => .inl (.inr h)⟩
theorem or4 {a b c : Prop} : (a ∨ c) ∨ (b ∨ c) ↔ (a ∨ b) ∨ c := ⟨fun h => h.elim (fun h => h.elim (fun h => .inl (.inl h)) .inr) fun h => h.elim (fun h => .inl (.inr h)) .inr, fun h => h.elim (fun h => h.elim (fun h => .inl (.inl h)) fun h => .inr (.inl h)) fun h => .inl (.inr h)⟩
/-- what kept_in holds between two turns -/
structure Found (t : List (List Nat)) (n L : Nat) (f : List (List Nat)) : Prop where
  nd : f.Nodup
  ok : ∀ p ∈ f, num p = p ∧ p.length = n ∧ Kept t n L p
  one : List.range n ∈ f
  join : ∀ p ∈ f, ∀ q ∈ f, joinP p q ∈ f
theorem found_start {t : List (List Nat)} {n L : Nat} (M : Mach t n L) : Found t n L [List.range n] where
  nd := by simp
  ok := fun p hp => by
    rw [List.mem_singleton] at hp
    subst hp
    refine ⟨num_range n, List.length_range, fun i j l hi hj _ e => ?_⟩
    have : i = j := by
      have e' : at0 (List.range n) i = at0 (List.range n) j := e
      rwa [at0_range hi, at0_range hj] at e'
    rw [this]
  one := List.mem_singleton.mpr rfl
  join := fun p hp q hq => by
    rw [List.mem_singleton] at hp hq ⊢
    subst hp; subst hq
    have J := joinP_lub (n := n) (p := List.range n) (q := List.range n) List.length_range List.length_range (num_range n)
    refine rgs_ext J.rgs (num_range n) (by rw [J.len, List.length_range]) fun i j hi hj => ?_
    rw [J.len] at hi hj
    exact ⟨fun e => J.least (Rel (List.range n)) (rel_eqv _) True.intro (fun i j _ _ g => g.elim id id) i j hi hj e, fun e => J.ge i j hi hj (Or.inl e)⟩
theorem found_step {t : List (List Nat)} {n L : Nat} (M : Mach t n L) {f g : List (List Nat)} {d : List Nat} (F : Found t n L f) (hd : num d = d ∧ d.length = n ∧ Kept t n L d) (nd : g.Nodup) (hg : ∀ p, p ∈ g ↔ p ∈ f ∨ ∃ q ∈ f, p = joinP q d) : Found t n L g ∧ d ∈ g := by
  obtain ⟨d1, d2, d3⟩ := hd
  have okg : ∀ p ∈ g, num p = p ∧ p.length = n ∧ Kept t n L p := fun p hp => by
    rcases (hg p).mp hp with h | ⟨q, hq, rfl⟩
    · exact F.ok p h
    · obtain ⟨q1, q2, q3⟩ := F.ok q hq
      have J := joinP_lub (n := n) q2 d2 d1
      exact ⟨J.rgs, J.len, joinP_kept M q2 d2 d1 q3 d3⟩
  -- joins of the members, by what they are least of
  have lub2 : ∀ {p q : List Nat} {A B : Nat → Nat → Prop}, Lub n Any A p → Lub n Any B q → Lub n Any (fun i j => A i j ∨ B i j) (joinP p q) := fun {p q A B} a b => by
    refine (joinP_lub a.len b.len b.rgs).congr fun R hR _ => ⟨fun h i j hi hj g => ?_, fun h i j hi hj g => ?_⟩
    · exact g.elim (fun g => h i j hi hj (Or.inl (a.ge i j hi hj g))) fun g => h i j hi hj (Or.inr (b.ge i j hi hj g))
    · exact g.elim (fun g => a.least R hR True.intro (fun i j hi hj z => h i j hi hj (Or.inl z)) i j hi hj g) fun g => b.least R hR True.intro (fun i j hi hj z => h i j hi hj (Or.inr z)) i j hi hj g
  have self : ∀ {p : List Nat}, num p = p → p.length = n → Lub n Any (Rel p) p := fun {p} h1 h2 => ⟨h2, h1, True.intro, fun _ _ _ _ z => z, fun R _ _ h => h⟩
  have same : ∀ {A B : Nat → Nat → Prop} {p q : List Nat}, (∀ i j, A i j ↔ B i j) → Lub n Any A p → Lub n Any B q → p = q := fun {A B p q} h a b => (a.congr fun R _ _ => ⟨fun k i j hi hj g => k i j hi hj ((h i j).mpr g), fun k i j hi hj g => k i j hi hj ((h i j).mp g)⟩).uniq b
  have sd := self d1 d2
  have sf : ∀ {p : List Nat}, p ∈ f → Lub n Any (Rel p) p := fun {p} hp => self (F.ok p hp).1 (F.ok p hp).2.1
  refine ⟨⟨nd, okg, (hg _).mpr (Or.inl F.one), fun p hp q hq => (hg _).mpr ?_⟩, (hg _).mpr (Or.inr ⟨_, F.one, ?_⟩)⟩
  · rcases (hg p).mp hp with hp | ⟨p', hp', rfl⟩
    · rcases (hg q).mp hq with hq | ⟨q', hq', rfl⟩
      · exact Or.inl (F.join p hp q hq)
      · refine Or.inr ⟨joinP p q', F.join p hp q' hq', ?_⟩
        exact same (fun i j => by rw [or_assoc]) (lub2 (sf hp) (lub2 (sf hq') sd)) (lub2 (lub2 (sf hp) (sf hq')) sd)
    · rcases (hg q).mp hq with hq | ⟨q', hq', rfl⟩
      · refine Or.inr ⟨joinP p' q, F.join p' hp' q hq, ?_⟩
        exact same (fun i j => or3) (lub2 (lub2 (sf hp') sd) (sf hq)) (lub2 (lub2 (sf hp') (sf hq)) sd)
      · refine Or.inr ⟨joinP p' q', F.join p' hp' q' hq', ?_⟩
        exact same (fun i j => or4) (lub2 (lub2 (sf hp') sd) (lub2 (sf hq') sd)) (lub2 (lub2 (sf hp') (sf hq')) sd)
  · refine same (fun i j => ?_) (sd.congr (G' := fun i j => Rel (List.range n) i j ∨ Rel d i j) fun R hR _ => ⟨fun h i j hi hj g => ?_, fun h i j hi hj g => h i j hi hj (Or.inr g)⟩) (lub2 (self (num_range n) List.length_range) sd)
    · exact Iff.rfl
    · rcases g with g | g
      · have : i = j := by
          have g' : at0 (List.range n) i = at0 (List.range n) j := g
          rwa [at0_range hi, at0_range hj] at g'
        rw [this]
        exact hR.refl j
      · exact h i j hi hj g
theorem found_end {t : List (List Nat)} {n L : Nat} (M : Mach t n L) {f : List (List Nat)} (F : Found t n L f) (hd : ∀ a b, a < b → b < n → ∃ d ∈ f, Lub n (Cl t n L) (fun i j => i = a ∧ j = b) d) : ∀ p, p ∈ f ↔ p ∈ allKept t n L := by
  intro p
  rw [mem_allKept M.n1]
  refine ⟨fun h => F.ok p h, fun ⟨h1, h2, h3⟩ => ?_⟩
  have go : ∀ ps : List (Nat × Nat), (∀ z ∈ ps, z.1 < z.2 ∧ z.2 < n) → ∃ q ∈ f, (∀ i j, i < n → j < n → Rel q i j → Rel p i j) ∧ ∀ z ∈ ps, Rel p z.1 z.2 → Rel q z.1 z.2 := by
    intro ps
    induction ps with
    | nil =>
      intro _
      refine ⟨_, F.one, fun i j hi hj e => ?_, fun z hz => absurd hz List.not_mem_nil⟩
      have : i = j := by
        have e' : at0 (List.range n) i = at0 (List.range n) j := e
        rwa [at0_range hi, at0_range hj] at e'
      rw [this]
    | cons z ps ih =>
      intro hb
      obtain ⟨q, hq, a1, a2⟩ := ih fun z hz => hb z (List.mem_cons_of_mem _ hz)
      obtain ⟨b1, b2⟩ := hb z List.mem_cons_self
      by_cases e : Rel p z.1 z.2
      · obtain ⟨d, hdm, D⟩ := hd z.1 z.2 b1 b2
        obtain ⟨q1, q2, _⟩ := F.ok q hq
        have J := joinP_lub (n := n) q2 D.len D.rgs
        refine ⟨joinP q d, F.join q hq d hdm, J.least _ (rel_eqv p) True.intro fun i j hi hj g => ?_, fun y hy ey => ?_⟩
        · rcases g with g | g
          · exact a1 i j hi hj g
          · refine D.least _ (rel_eqv p) h3 (fun i j _ _ g => ?_) i j hi hj g
            rw [g.1, g.2]
            exact e
        · obtain ⟨y1, y2⟩ := hb y hy
          rcases List.mem_cons.mp hy with rfl | hy
          · exact J.ge _ _ (by omega) y2 (Or.inr (D.ge _ _ (by omega) y2 ⟨rfl, rfl⟩))
          · exact J.ge _ _ (by omega) y2 (Or.inl (a2 y hy ey))
      · refine ⟨q, hq, a1, fun y hy ey => ?_⟩
        rcases List.mem_cons.mp hy with rfl | hy
        · exact absurd ey e
        · exact a2 y hy ey
  obtain ⟨q, hq, a1, a2⟩ := go ((List.range n).flatMap fun b => (List.range b).map fun a => (a, b)) fun z hz => by
    obtain ⟨b, hb, hz⟩ := List.mem_flatMap.mp hz
    obtain ⟨a, ha, rfl⟩ := List.mem_map.mp hz
    exact ⟨List.mem_range.mp ha, List.mem_range.mp hb⟩
  have up : ∀ a b, a < b → b < n → Rel p a b → Rel q a b := fun a b h1 h2 e =>
    a2 (a, b) (List.mem_flatMap.mpr ⟨b, List.mem_range.mpr h2, List.mem_map.mpr ⟨a, List.mem_range.mpr h1, rfl⟩⟩) e
  obtain ⟨q1, q2, _⟩ := F.ok q hq
  have : q = p := rgs_ext q1 h1 (q2.trans h2.symm) fun i j hi hj => by
    rw [q2] at hi hj
    refine ⟨a1 i j hi hj, fun e => ?_⟩
    rcases Nat.lt_trichotomy i j with h | h | h
    · exact up i j h hj e
    · rw [h]
    · exact (up j i h hi e.symm).symm
  rw [← this]
  exact hq
/-- a list sorted upwards that has the members of the kept ones is theirs -/
theorem sorted_one {l m : List (List Nat)} (hl : l.Pairwise fun p q => ¬ toZ q < toZ p) (nl : l.Nodup) (hm : m.Pairwise fun p q => toZ p < toZ q) (h : ∀ p, p ∈ l ↔ p ∈ m) : l = m := by
  have inj : ∀ p q : List Nat, toZ p = toZ q → p = q := fun p q e => by
    exact (List.map_inj_right (f := Int.ofNat) fun a b h => Int.ofNat.inj h).mp e
  induction m generalizing l with
  | nil =>
    cases l with
    | nil => rfl
    | cons a l => exact absurd ((h a).mp List.mem_cons_self) List.not_mem_nil
  | cons b m ih =>
    cases l with
    | nil => exact absurd ((h b).mpr List.mem_cons_self) List.not_mem_nil
    | cons a l =>
      obtain ⟨l1, l2⟩ := List.pairwise_cons.mp hl
      obtain ⟨m1, m2⟩ := List.pairwise_cons.mp hm
      obtain ⟨n1, n2⟩ := List.nodup_cons.mp nl
      have e : a = b := by
        rcases List.mem_cons.mp ((h a).mp List.mem_cons_self) with e | e
        · exact e
        · rcases List.mem_cons.mp ((h b).mpr List.mem_cons_self) with e' | e'
          · exact e'.symm
          · exact absurd (m1 a e) (l1 b e')
      subst e
      congr 1
      refine ih l2 n2 m2 fun p => ⟨fun hp => ?_, fun hp => ?_⟩
      · rcases List.mem_cons.mp ((h p).mp (List.mem_cons_of_mem _ hp)) with e | e
        · subst e
          exact absurd hp n1
        · exact e
      · rcases List.mem_cons.mp ((h p).mpr (List.mem_cons_of_mem _ hp)) with e | e
        · subst e
          exact absurd (m1 p hp) (List.lt_irrefl _)
        · exact e
end Kp
set_option Elab.async false
set_option linter.all false
set_option maxRecDepth 100000
set_option maxHeartbeats 4000000
namespace Kp
open PySem PySem.Spec PyProof.Rows L2
/-! ### data of numbers -/
abbrev nV (n : Nat) : V := .int (n : Int)
abbrev dI (n : Nat) : PyData := .int (n : Int)
/-- a tuple, a list of numbers; of rows -/
abbrev dT (p : List Nat) : PyData := .tuple (p.map dI)
abbrev dL (p : List Nat) : PyData := .list (p.map dI)
abbrev dTT (t : List (List Nat)) : PyData := .tuple (t.map dT)
abbrev dLT (t : List (List Nat)) : PyData := .list (t.map dT)
abbrev dLL (t : List (List Nat)) : PyData := .list (t.map dL)
/-! ### what was tracked stays -/
theorem Same.tup {K : PySem.W.Frag} {H H' : Hp} {a : Addr} {xs : List V} (e : Same H H') (h : SqT K H a xs) : SqT K H' a xs := by
  rcases h with (h | ⟨o, h⟩) | h
  · exact .inl (.inl (e _ _ h))
  · exact .inl (.inr ⟨o, e _ _ h⟩)
  · exact .inr h
theorem Same.new {H : Hp} {p : Addr} {o : HO} (h : H p = none) : Same H (upd H p o) := fun b x e => by
  rw [upd_ne (ne_of_none e h)]
  exact e
/-- a new thing may change -/
theorem Same.mut {H H' : Hp} {p : Addr} {o : HO} (e : Same H H') (h : H p = none) : Same H (upd H' p o) := fun a u ha => by
  rw [upd_ne (ne_of_none ha h)]
  exact e a u ha
mutual
theorem Dp.same {K : PySem.W.Frag} {H H' : Hp} (s : Same H H') : ∀ (d : PyData) (v : V), Dp K H v d → Dp K H' v d
  | .none, _, h => by cases h; exact .non
  | .bool b, _, h => by cases h; exact .bl b
  | .int i, _, h => by cases h; exact .int i
  | .str x, _, h => by cases h; exact .str x
  | .list ds, _, h => by
    cases h with
    | lst a b => exact .lst (s.seq a) (DpAll.same s ds _ b)
  | .tuple ds, _, h => by
    cases h with
    | tup a b => exact .tup (Same.tup s a) (DpAll.same s ds _ b)
  | .dict _, _, h => by cases h
theorem DpAll.same {K : PySem.W.Frag} {H H' : Hp} (s : Same H H') : ∀ (ds : List PyData) (vs : List V), DpAll K H vs ds → DpAll K H' vs ds
  | [], _, h => by cases h; exact .nil
  | d :: ds, _, h => by
    cases h with
    | cons a b => exact .cons (Dp.same s d _ a) (DpAll.same s ds _ b)
end
section
variable {K : PySem.W.Frag} {H : Hp} {v : V} {xs ys : List V} {d : PyData} {ds es : List PyData}
theorem dp_int {i : Int} (h : Dp K H v (.int i)) : v = .int i := by cases h; rfl
theorem dp_bl {b : Bool} (h : Dp K H v (.bool b)) : v = .bl b := by cases h; rfl
theorem dp_lst (h : Dp K H v (.list ds)) : ∃ a xs, v = .ref a ∧ SqL K H a xs ∧ DpAll K H xs ds := by
  cases h with
  | lst a b => exact ⟨_, _, rfl, a, b⟩
theorem dp_tup (h : Dp K H v (.tuple ds)) : ∃ a xs, v = .ref a ∧ SqT K H a xs ∧ DpAll K H xs ds := by
  cases h with
  | tup a b => exact ⟨_, _, rfl, a, b⟩
theorem dpa_len : ∀ {xs : List V} {ds : List PyData}, DpAll K H xs ds → xs.length = ds.length
  | _, _, .nil => rfl
  | _, _, .cons _ t => by rw [List.length_cons, List.length_cons, dpa_len t]
theorem dpa_get : ∀ {xs : List V} {ds : List PyData} {i : Nat} {d : PyData}, DpAll K H xs ds → ds[i]? = some d → ∃ v, xs[i]? = some v ∧ Dp K H v d
  | _, _, _, _, .nil, e => by simp at e
  | _, _, 0, _, .cons a _, e => by simp at e; subst e; exact ⟨_, rfl, a⟩
  | _, _, i + 1, d, .cons _ t, e => by
    obtain ⟨v, h1, h2⟩ := dpa_get (i := i) (d := d) t (by simpa using e)
    exact ⟨v, by simpa using h1, h2⟩
theorem dpa_get' : ∀ {xs : List V} {ds : List PyData} {i : Nat} {v : V}, DpAll K H xs ds → xs[i]? = some v → ∃ d, ds[i]? = some d ∧ Dp K H v d
  | _, _, _, _, .nil, e => by simp at e
  | _, _, 0, _, .cons a _, e => by simp at e; subst e; exact ⟨_, rfl, a⟩
  | _, _, i + 1, v, .cons _ t, e => by
    obtain ⟨d, h1, h2⟩ := dpa_get' (i := i) (v := v) t (by simpa using e)
    exact ⟨d, by simpa using h1, h2⟩
theorem dpa_app : ∀ {xs : List V} {ds : List PyData}, DpAll K H xs ds → DpAll K H ys es → DpAll K H (xs ++ ys) (ds ++ es)
  | _, _, .nil, h => h
  | _, _, .cons a t, h => .cons a (dpa_app t h)
theorem dpa_snoc (h : DpAll K H xs ds) (g : Dp K H v d) : DpAll K H (xs ++ [v]) (ds ++ [d]) := dpa_app h (.cons g .nil)
theorem dpa_nums : ∀ p : List Nat, DpAll K H (p.map nV) (p.map dI)
  | [] => .nil
  | x :: p => .cons (.int _) (dpa_nums p)
theorem dpa_nums_inv : ∀ {p : List Nat} {xs : List V}, DpAll K H xs (p.map dI) → xs = p.map nV
  | [], _, h => by cases h; rfl
  | x :: p, _, h => by
    cases h with
    | cons a t => rw [dp_int a, dpa_nums_inv t]; rfl
/-- a row of numbers -/
theorem dp_row {p : List Nat} (h : Dp K H v (dT p)) : ∃ a, v = .ref a ∧ SqT K H a (p.map nV) := by
  obtain ⟨a, xs, e, hs, ha⟩ := dp_tup h
  rw [dpa_nums_inv ha] at hs
  exact ⟨a, e, hs⟩
theorem dp_of_row {p : List Nat} {a : Addr} (h : SqT K H a (p.map nV)) : Dp K H (.ref a) (dT p) := .tup h (dpa_nums p)
theorem dp_line {p : List Nat} (h : Dp K H v (dL p)) : ∃ a, v = .ref a ∧ SqL K H a (p.map nV) := by
  obtain ⟨a, xs, e, hs, ha⟩ := dp_lst h
  rw [dpa_nums_inv ha] at hs
  exact ⟨a, e, hs⟩
theorem dp_of_line {p : List Nat} {a : Addr} (h : SqL K H a (p.map nV)) : Dp K H (.ref a) (dL p) := .lst h (dpa_nums p)
theorem dp_new_lst {a : Addr} (h : DpAll K H xs ds) (n : H a = none) : Dp K (upd H a (.lst xs)) (.ref a) (.list ds) := .lst (.of upd_same) (DpAll.same (Same.new n) _ _ h)
theorem dp_new_tup {a : Addr} (h : DpAll K H xs ds) (n : H a = none) : Dp K (upd H a (.tup xs)) (.ref a) (.tuple ds) := .tup (.of upd_same) (DpAll.same (Same.new n) _ _ h)
end
/-- a promise's result: some value that is such data, what stood stands -/
def Ret (K : PySem.W.Frag) (d : PyData) (H : Hp) (Q : VK) : Prop := ∀ v H', Same H H' → Dp K H' v d → Q v H'
theorem Same.lst {K : PySem.W.Frag} {H H' : Hp} {a : Addr} {xs : List V} (e : Same H H') (h : SqL K H a xs) : SqL K H' a xs := by
  rcases h with (h | ⟨o, h⟩) | h
  · exact .inl (.inl (e _ _ h))
  · exact .inl (.inr ⟨o, e _ _ h⟩)
  · exact .inr h
/-- what is new in H' -/
def nu (H H' : Hp) : Hp := fun a => if H a = none then H' a else none
theorem nu_new {H H' : Hp} {a : Addr} (h : H a = none) : nu H H' a = H' a := if_pos h
theorem nu_same (H H' : Hp) : Same (nu H H') H' := fun a o e => by
  unfold nu at e
  by_cases c : H a = none
  · rwa [if_pos c] at e
  · rw [if_neg c] at e; cases e
/-- new data, all through -/
def RetF (K : PySem.W.Frag) (d : PyData) (H : Hp) (Q : VK) : Prop := ∀ v H', Same H H' → Dp K (nu H H') v d → Q v H'
theorem RetF.of {K : PySem.W.Frag} {d : PyData} {H : Hp} {Q : VK} (r : Ret K d H Q) : RetF K d H Q := fun v H' s h => r v H' s (Dp.same (nu_same H H') _ _ h)
/-- a new row -/
def RetN (p : List Nat) (H : Hp) (Q : VK) : Prop := ∀ a H', Same H H' → H' a = some (.tup (p.map nV)) → Q (.ref a) H'
theorem RetN.of {K : PySem.W.Frag} {p : List Nat} {H : Hp} {Q : VK} (r : Ret K (dT p) H Q) : RetN p H Q := fun a H' s h => r _ H' s (dp_of_row (.of h))
theorem Ret.go {K : PySem.W.Frag} {d : PyData} {H H1 H' : Hp} {Q : VK} {v : V} (r : Ret K d H Q) (s : Same H H1) (s' : Same H1 H') (h : Dp K H' v d) : Q v H' := r v H' (s.trans s') h
/-! ### items -/
section
variable {K : PySem.W.Frag} {H : Hp} {Q : VK} {v : V} {ds : List PyData} {d : PyData} {i : Nat}
theorem ixT_of (h : Dp K H v (.tuple ds)) (e : ds[i]? = some d) (q : ∀ u, Dp K H u d → Q u H) : rIxT K v (.int (i : Int)) H Q := by
  obtain ⟨a, xs, rfl, hs, ha⟩ := dp_tup h
  obtain ⟨u, hu, hd⟩ := dpa_get ha e
  exact ⟨a, xs, _, u, rfl, rfl, hs, atI_nat hu, q u hd⟩
theorem ixL_of (h : Dp K H v (.list ds)) (e : ds[i]? = some d) (q : ∀ u, Dp K H u d → Q u H) : rIxL K v (.int (i : Int)) H Q := by
  obtain ⟨a, xs, rfl, hs, ha⟩ := dp_lst h
  obtain ⟨u, hu, hd⟩ := dpa_get ha e
  exact ⟨a, xs, _, u, rfl, rfl, hs, atI_nat hu, q u hd⟩
theorem ixT_num {p : List Nat} (h : Dp K H v (dT p)) (e : i < p.length) (q : Q (nV (at0 p i)) H) : rIxT K v (.int (i : Int)) H Q :=
  ixT_of (d := dI (at0 p i)) h (by rw [List.getElem?_map, get_at0 e]; rfl) fun u hu => by rw [dp_int hu]; exact q
theorem ixL_num {p : List Nat} (h : Dp K H v (dL p)) (e : i < p.length) (q : Q (nV (at0 p i)) H) : rIxL K v (.int (i : Int)) H Q :=
  ixL_of (d := dI (at0 p i)) h (by rw [List.getElem?_map, get_at0 e]; rfl) fun u hu => by rw [dp_int hu]; exact q
end
/-! ### x in t, t a tuple of data -/
section
variable {X : Cx}
def rInT (K : PySem.W.Frag) : R2 := fun x y H Q => ∃ d ds, Dp K H x d ∧ Dp K H y (.tuple ds) ∧ SeqAt.shaped d = true ∧ SeqAt.shaped (.tuple ds) = true ∧ Q (.bl (ds.any fun z => PyData.eqv z d)) H
def rNotInT (K : PySem.W.Frag) : R2 := fun x y H Q => ∃ d ds, Dp K H x d ∧ Dp K H y (.tuple ds) ∧ SeqAt.shaped d = true ∧ SeqAt.shaped (.tuple ds) = true ∧ Q (.bl (!ds.any fun z => PyData.eqv z d)) H
theorem op_inTD (hu : X.A.units + 65 < cLine) : OpR X (compareOp .In) (rInT X.K) := by
  intro pins s σ H x y v u Q I rx ry h
  obtain ⟨d, ds, hd, he, sd, se, q⟩ := h
  obtain ⟨as, r1⟩ := Dp.reads I d x v hd rx
  obtain ⟨bs, r2⟩ := Dp.reads I (.tuple ds) y u he ry
  exact SeqAt.in_tuple_reads r2 r1 (SeqAt.canLay_of_shaped se) (SeqAt.canLay_of_shaped sd) (room_in_shaped sd hu) ⟨.bl _, H, I, rfl, q⟩
theorem op_notInTD (hu : X.A.units + 65 < cLine) : OpR X (compareOp .NotIn) (rNotInT X.K) := by
  intro pins s σ H x y v u Q I rx ry h
  obtain ⟨d, ds, hd, he, sd, se, q⟩ := h
  obtain ⟨as, r1⟩ := Dp.reads I d x v hd rx
  obtain ⟨bs, r2⟩ := Dp.reads I (.tuple ds) y u he ry
  exact SeqAt.notIn_tuple_reads r2 r1 (SeqAt.canLay_of_shaped se) (SeqAt.canLay_of_shaped sd) (room_in_shaped sd hu) ⟨.bl _, H, I, rfl, q⟩
/-! ### repr -/
def rRepr (K : PySem.W.Frag) : List V → Hp → VK → Prop := fun xs H Q => ∃ v d, xs = [v] ∧ Dp K H v d ∧ (∃ a, v = .ref a) ∧ d.showable = true ∧ d.hasDict = false ∧ d.depth ≤ 60 ∧ d.shown.length ≤ sizeLine ∧ Q (.str d.shown) H
theorem cr_repr (hu : X.A.units + 64 < cLine) (hg : X.A.guards = some []) : CallR X (.builtin "repr") (rRepr X.K) := by
  intro pins s σ H xs us Q I r h
  obtain ⟨v, d, rfl, hd, ⟨a, rfl⟩, hs, hn, hp, hz, q⟩ := h
  obtain ⟨u, rfl, ru⟩ := Vals.one r
  obtain rfl : u = Value.ref a := ru
  obtain ⟨as, rd⟩ := Dp.reads I d _ _ hd rfl
  refine repr_of_reads' rd hs (fun z => by rw [hn] at z; cases z) hg (by omega) (fun _ _ e => e) (fun h' u tk k => ?_) hz
  exact ⟨.str d.shown, H, I.kept k, ⟨u, rfl⟩, q⟩
end
/-! ### sorted rows -/
section
variable {X : Cx}
def rSortR (K : PySem.W.Frag) : List V → Hp → VK → Prop := fun vs H Q => ∃ (v : V) (ps : List (List Nat)), vs = [v] ∧ Dp K H v (dLT ps) ∧ (∀ p ∈ ps, p ≠ []) ∧
  ∀ (l : Addr) (xs : List V) (qs : List (List Nat)), H l = none → DpAll K H xs (qs.map dT) → qs.Perm ps → qs.Pairwise (fun p q => ¬ toZ q < toZ p) → Q (.ref l) (upd H l (.lst xs))
theorem alike_nums : ∀ p q : List Nat, PySem.W.alikeAll (p.map dI) (q.map dI) = true
  | [], _ => by simp [PySem.W.alikeAll]
  | _ :: _, [] => by simp [PySem.W.alikeAll]
  | x :: p, y :: q => by simp [PySem.W.alikeAll, PySem.W.alike, alike_nums p q]
end
end Kp
set_option Elab.async false
set_option linter.all false
set_option maxRecDepth 100000
set_option maxHeartbeats 4000000
namespace Kp
open PySem PySem.Spec PyProof.Rows L2
theorem each_zip {K : PySem.W.Frag} {H : Hp} : ∀ {xs : List V} {us : List Value} {ps : List (List Nat)}, Vals xs us → DpAll K H xs (ps.map dT) → PySem.W.EachIs (fun u (b : V × List Nat) => RelV b.1 u) us (xs.zip ps) ∧ ∀ b ∈ xs.zip ps, Dp K H b.1 (dT b.2)
  | _, _, [], r, h => by
    cases h
    cases r
    exact ⟨.nil, fun b hb => absurd hb List.not_mem_nil⟩
  | _, _, p :: ps, r, h => by
    cases h with
    | cons a t =>
      cases r with
      | cons r1 r2 =>
        obtain ⟨h1, h2⟩ := each_zip r2 t
        refine ⟨.cons r1 h1, fun b hb => ?_⟩
        rcases List.mem_cons.mp hb with rfl | hb
        · exact a
        · exact h2 b hb
theorem each_reads {X : Cx} {pins : List (Addr × Obj)} {σ : L2.St} {H : Hp} {s : Shared} (I : Inv X pins σ H s) : ∀ {us : List Value} {bs : List (V × List Nat)}, PySem.W.EachIs (fun u (b : V × List Nat) => RelV b.1 u) us bs → (∀ b ∈ bs, Dp X.K H b.1 (dT b.2)) →
    PySem.W.EachIs (fun u (b : V × List Nat) => ∃ as, Reads s.heap u (dT b.2) as) us bs
  | _, _, .nil, _ => .nil
  | _, _, .cons r t, h => .cons (Dp.reads I _ _ _ (h _ List.mem_cons_self) r) (each_reads I t fun b hb => h b (List.mem_cons_of_mem _ hb))
theorem each_vals : ∀ {us : List Value} {bs : List (V × List Nat)}, PySem.W.EachIs (fun u (b : V × List Nat) => RelV b.1 u) us bs → Vals (bs.map (·.1)) us
  | _, _, .nil => .nil
  | _, _, .cons r t => .cons r (each_vals t)
theorem dpa_of_all {K : PySem.W.Frag} {H : Hp} : ∀ {bs : List (V × List Nat)}, (∀ b ∈ bs, Dp K H b.1 (dT b.2)) → DpAll K H (bs.map (·.1)) ((bs.map (·.2)).map dT)
  | [], _ => .nil
  | b :: bs, h => .cons (h b List.mem_cons_self) (dpa_of_all fun b hb => h b (List.mem_cons_of_mem _ hb))
theorem zip_fst : ∀ {xs : List V} {ps : List (List Nat)}, xs.length = ps.length → (xs.zip ps).map (·.2) = ps
  | [], [], _ => rfl
  | x :: xs, p :: ps, h => by
    show p :: (xs.zip ps).map (·.2) = p :: ps
    rw [zip_fst (by simpa using h)]
  | [], _ :: _, h => by simp at h
  | _ :: _, [], h => by simp at h
theorem dI_ints (p : List Nat) : p.map dI = (toZ p).map PyData.int := by rw [toZ, List.map_map]; rfl
theorem cr_sortR {X : Cx} (hu : X.A.units + 64 < cLine) : CallR X (.builtin "sorted") (rSortR X.K) := by
  intro pins s σ H vs us Q I r h
  obtain ⟨v, ps, rfl, hd, hne, q⟩ := h
  obtain ⟨u, rfl, ru⟩ := Vals.one r
  obtain ⟨a, xs, rfl, hs, ha⟩ := dp_lst hd
  obtain rfl : u = Value.ref a := ru
  obtain ⟨its, rv, hl, hz⟩ := I.list hs
  have hlen : xs.length = ps.length := by rw [dpa_len ha, List.length_map]
  obtain ⟨e1, e2⟩ := each_zip rv ha
  have hzl : (xs.zip ps).length = xs.length := by rw [List.length_zip]; omega
  have al : PySem.W.AllAlike ((xs.zip ps).map fun b => dT b.2) := PySem.W.AllAlike.of fun b b' => by
    show PySem.W.alike (dT b.2) (dT b'.2) = true
    unfold PySem.W.alike
    exact alike_nums b.2 b'.2
  refine PySem.W.sorted_data (R := fun u (b : V × List Nat) => RelV b.1 u) (enc := fun b => dT b.2) hl.isList e1 (each_reads I e1 e2) al ?_ (by rw [hzl]; exact hz) (fun b hb => ?_) fun out ho eo => ?_
  · refine Or.inl fun d hd => ?_
    obtain ⟨b, hb, rfl⟩ := List.mem_map.mp hd
    have hb2 : b.2 ∈ ps := by
      have := List.mem_map_of_mem (f := (·.2)) hb
      rwa [zip_fst hlen] at this
    have := hne _ hb2
    cases hp : b.2 with
    | nil => exact absurd hp this
    | cons x p => exact ⟨dI x, p.map dI, by simp [hp]⟩
  · have : ∀ p : List Nat, PyData.depth (dT p) ≤ 1 := fun p => by
      have h0 : ∀ l : List Nat, PyData.depthAll (l.map dI) = 0 := by
        intro l
        induction l with
        | nil => simp [PyData.depthAll]
        | cons y l ih => simp [PyData.depthAll, PyData.depth, ih]
      simp [PyData.depth, h0 p]
    have := this b.2
    omega
  · have tot := PySem.W.sortLe_total (listOrd itemOrd) false fun b : V × List Nat => PySem.W.keyToks (dT b.2)
    have hperm := List.mergeSort_perm (xs.zip ps) (PySem.W.dataLe false fun b => dT b.2)
    have hsort : ((xs.zip ps).mergeSort (PySem.W.dataLe false fun b => dT b.2)).Pairwise (fun b b' => PySem.W.dataLe false (fun b : V × List Nat => dT b.2) b b' = true) := PySem.W.sort_pairwise tot (xs.zip ps)
    generalize hm : (xs.zip ps).mergeSort (PySem.W.dataLe false fun b => dT b.2) = bs at eo hperm hsort
    have hbs : ∀ b ∈ bs, Dp X.K H b.1 (dT b.2) := fun b hb => e2 b (hperm.mem_iff.mp hb)
    have hvals := each_vals eo
    obtain ⟨c, hc⟩ := sortedAll_at s.heap its out.toArray
    have hl2 : (bs.map (·.1)).length ≤ sizeLine := by
      rw [List.length_map, hperm.length_eq, hzl]
      exact hz
    refine ⟨.ref (s.heap.objs.size + 1), upd H (s.heap.objs.size + 1) (.lst (bs.map (·.1))), I.laid (t' := s.toks) (fun _ _ => sortedAll_old) (Nat.le_succ _) ⟨hl2, out, c, hvals, hc⟩, rfl, ?_⟩
    refine q _ _ (bs.map (·.2)) (I.hok.fresh (Nat.le_succ _)) (dpa_of_all hbs) ?_ ?_
    · have := hperm.map (·.2)
      rwa [zip_fst hlen] at this
    · rw [List.pairwise_map]
      refine List.Pairwise.imp (S := fun b b' : V × List Nat => ¬ toZ b'.2 < toZ b.2) ?_ hsort
      intro b b' hle hlt
      have e : PySem.W.dataLe false (fun b : V × List Nat => dT b.2) b b' = !PySem.W.dataLt (dT b'.2) (dT b.2) := rfl
      have e' : PySem.W.dataLe false (fun b : V × List Nat => dT b.2) b b' = true := hle
      rw [e, PySem.W.dataLt_tuple] at e'
      have g := PySem.W.dataLt_ints (toZ b'.2) (toZ b.2)
      unfold PySem.W.rowLt at g
      rw [← dI_ints, ← dI_ints] at g
      rw [g, decide_eq_true hlt] at e'
      cases e'
end Kp
set_option Elab.async false
set_option linter.all false
set_option maxRecDepth 100000
set_option maxHeartbeats 4000000
namespace Kp
open PySem PySem.Spec PyProof.Rows L2
/-! ### len(set(numbers)) -/
theorem dedup_fold : ∀ (p acc : List Nat), (toZ p).foldl step_dedup (toZ acc) = toZ (p.foldl (fun s x => if x ∈ s then s else s ++ [x]) acc)
  | [], _ => rfl
  | x :: p, acc => by
    show (toZ p).foldl step_dedup (step_dedup (toZ acc) (Int.ofNat x)) = toZ (p.foldl _ (if x ∈ acc then acc else acc ++ [x]))
    rw [← dedup_fold p]
    congr 1
    unfold step_dedup
    by_cases h : x ∈ acc
    · have : ((toZ acc).any fun y => y == Int.ofNat x) = true := List.any_eq_true.mpr ⟨Int.ofNat x, List.mem_map_of_mem h, beq_self_eq_true _⟩
      rw [if_pos h, this]
      rfl
    · have : ((toZ acc).any fun y => y == Int.ofNat x) = false := by
        rw [List.any_eq_false]
        intro y hy e
        obtain ⟨z, hz, rfl⟩ := List.mem_map.mp hy
        have e' := eq_of_beq e
        rw [Int.ofNat.inj e'] at hz
        exact h hz
      rw [if_neg h, this]
      show toZ acc ++ [Int.ofNat x] = toZ (acc ++ [x])
      rw [toZ, toZ, List.map_append]
      rfl
theorem firstMet_nums (p : List Nat) : firstMet (fun i => (toZ p).getD i 0) p.length = toZ (firsts p) := by
  have e : (List.range p.length).map (fun i => (toZ p).getD i 0) = toZ p := by
    refine List.ext_getElem (by simp) fun i h1 h2 => ?_
    rw [List.getElem_map, List.getElem_range, List.getD_eq_getElem?_getD, List.getElem?_eq_getElem h2]
    rfl
  unfold firstMet
  rw [e]
  exact dedup_fold p []
def tLenSetN (K : PySem.W.Frag) (ta : TE) : TE := fun σ H Q => ta σ H fun x H1 => ∃ (p : List Nat), Dp K H1 x (dL p) ∧ p.length ≤ 4000 ∧ Q (nV (firsts p).length) H1
theorem pe_lenSetN {X : Cx} {a : Expr} {ta : TE} {p p2 q pos : Pos} (hm : X.mg "len" = none) (hm2 : X.mg "set" = none) (ha : PE X a ta) (hg : Gl X "len" := by rfl) (hg2 : Gl X "set" := by rfl) (hc : X.calm = true := by rfl)
    (na : starEach [a] X.env = (false, eval a X.env) :: starEach [] X.env := by rfl) : PE X (.Call (.Name "len" p) [.Call (.Name "set" p2) [a] [] q] [] pos) (tLenSetN X.K ta) := by
  refine ⟨fun pins s σ H Q I h => ?_⟩
  refine Call_ (ld_blt I hg hm boot_len ?_)
  refine callWith_builtin1 (args_cons ?_ rfl) rfl rfl
  refine Call_ (ld_blt I hg2 hm2 boot_set ?_)
  refine callWith_type1 (args_cons (thn (ha.run pins s σ H _ I h) fun v s1 ⟨x, H1, I1, r1, q1⟩ => args_nil ?_) na) na rfl
  obtain ⟨ns, hd, hl, q1⟩ := q1
  obtain ⟨l, rfl, hq⟩ := dp_line hd
  obtain rfl : v = Value.ref l := r1
  obtain ⟨its, r, pl, hz⟩ := I1.list hq
  have hlen : its.toArray.size = ns.length := by rw [List.size_toArray, ← r.length, List.length_map]
  have ei : ns.map nV = (toZ ns).map V.int := by rw [toZ, List.map_map]; rfl
  rw [ei] at r
  refine call_set_list (I1.ok.hd hc) pl.isList (by simpa using RZ.intsAre_vals r) (by rw [hlen]; unfold scanBound; omega) fun h' tk hS hk => ?_
  refine args_nil ?_
  rw [hlen, firstMet_nums] at hS
  obtain ⟨o, es, ep, t, ho, hex, hd', _, _, _, hf, hn⟩ := hS
  have I2 : Inv X pins σ H1 { s1 with heap := h', toks := tk } := I1.kept fun b o e => hk b o (Heap.lt_size e) e
  have hle := firsts_len ns
  rw [List.length_map] at hn
  exact call_len_set ho hex hd' hf (by rw [hn]; omega) ⟨nV (firsts ns).length, H1, I2.tok _, ⟨_, by rw [hn]⟩, q1⟩
end Kp
set_option Elab.async false
set_option linter.all false
set_option maxRecDepth 100000
set_option maxHeartbeats 4000000
namespace Kp
open PySem PySem.Spec PyProof.Rows L2
/-! ### for i, x in enumerate(t), t a tuple -/
theorem enumNew_tuple (l : Addr) (its : Array Value) :
    Meets (Builtin.«enumerate.__new__» ⟨[.type "enumerate", .ref l], []⟩) (fun _ R s => s.heap.IsTuple l its ∧
      R (.ok (.ret (.ref (s.heap.push { cls := .type "tuple_iterator", data := .fields #[.ref l, .int 0 0] }).objs.size)))
        { s with heap := (s.heap.push { cls := .type "tuple_iterator", data := .fields #[.ref l, .int 0 0] }).push { cls := .type "enumerate", data := .fields #[.none, .bool false, .ref s.heap.objs.size, rawInt 0, .none, .none] } }) :=
  .of_wp fun prog w A R s h => by
    obtain ⟨hp, g, d, tk, os⟩ := s
    obtain ⟨h1, h⟩ := h
    have hsub := sub_enumerate
    have q1 : ∀ {A' : Around} {E : Value → Shared → Prop} {Q : Value → Shared → Prop}, Q (.ref hp.objs.size) ⟨hp.push { cls := .type "tuple_iterator", data := .fields #[.ref l, .int 0 0] }, g, d, tk, os⟩ → wpAny (model prog w) A' (pyIter (.ref l)) Q E ⟨hp, g, d, tk, os⟩ :=
      fun q => wpAny_pyIter_tuple h1 q
    wp_walk using q1
    refine wpAny_stack_any fun st => wpAny_pure ?_
    split
    · rename_i c _ _ _ _ _
      cases (c == Value.type "enumerate")
      · wp_walk using q1
        exact ⟨_, rfl, h⟩
      · wp_walk using q1
        exact ⟨_, rfl, h⟩
    · wp_walk using q1
      exact ⟨_, rfl, h⟩
section
variable {prog : Program} {w : World} {A : Around} {E : Value → Shared → Prop} {s : Shared}
theorem call_enumT {l : Addr} {its : Array Value} {Q : Value → Shared → Prop} (hT : s.heap.IsTuple l its)
    (h : ∀ h', IsEnum h' (s.heap.objs.size + 1) s.heap.objs.size 0 .none → h'.IsTupleIter s.heap.objs.size l 0 → (∀ b o, s.heap.get? b = some o → h'.get? b = some o) → Q (.ref (s.heap.objs.size + 1)) { s with heap := h' }) :
    wpAny (model prog w) A (call (.type "enumerate") [.ref l]) Q E s := by
  refine callType_new F.called_enumerate (by decide) (F.typeCall_enumerate_1 _) (F.newCall_enumerate_1 _) (fun obj => F.args_object_init_2 obj _) F.entry_enumerate_new (enumNew_tuple l its) ⟨hT, ?_⟩
  generalize hi : ({ cls := .type "tuple_iterator", data := .fields #[.ref l, .int 0 0] } : Obj) = oi
  have hf : oi.isFreed = false := by rw [← hi]; rfl
  have hz : (s.heap.push oi).objs.size = s.heap.objs.size + 1 := Heap.size_push ..
  show _ ∧ _
  rw [hz]
  have he : IsEnum ((s.heap.push oi).push { cls := .type "enumerate", data := .fields #[.none, .bool false, .ref s.heap.objs.size, rawInt 0, .none, .none] }) (s.heap.objs.size + 1) s.heap.objs.size 0 .none := by
    have q := Heap.get?_push_size (s.heap.push oi) (o := { cls := .type "enumerate", data := .fields #[.none, .bool false, .ref s.heap.objs.size, rawInt 0, .none, .none] }) rfl
    rw [hz] at q
    exact q
  have hit : ((s.heap.push oi).push { cls := .type "enumerate", data := .fields #[.none, .bool false, .ref s.heap.objs.size, rawInt 0, .none, .none] }).get? s.heap.objs.size = some oi := Heap.get?_push_of_some _ (Heap.get?_push_size _ hf)
  refine ⟨⟨_, he, rfl⟩, h _ he ⟨_, hit, ?_, ?_⟩ fun b o x => Heap.get?_push_of_some _ (Heap.get?_push_of_some _ x)⟩
  · rw [← hi]
  · rw [← hi]; rfl
end
/-- the tuple at a, each item in a new pair -/
def IteT (K : PySem.W.Frag) (a : Addr) : It :=
  ⟨fun i H => ∃ (xs : List V) (x : V), SqT K H a xs ∧ xs[i]? = some x,
    fun i H v H' => ∃ T x, v = .ref T ∧ H T = none ∧ H' = upd H T (.tup [.int (i : Nat), x]) ∧ ∀ xs, SqT K H a xs → xs[i]? = some x,
    fun i H => ∃ xs : List V, SqT K H a xs ∧ xs.length ≤ i⟩
theorem turn_enumT {P : Program} {w : World} {K : PySem.W.Frag} {elts : List Expr} {kk : Nat} {tpos : Pos} (a e it : Addr) :
    Turn P w K (.Tuple elts kk tpos) (IteT K a) [e, it] e (fun i h => (∃ old, IsEnum h e it ((i : Nat) : Int) old) ∧ h.IsTupleIter it a i ∧ e ≠ it) where
  mem := by simp
  obj := fun i h st b hb => by
    obtain ⟨⟨old, he⟩, ⟨o, ho, hc, hd⟩, _⟩ := st
    rcases List.mem_cons.mp hb with rfl | hb
    · exact ⟨_, he, fun v q => nomatch q⟩
    · obtain rfl := List.mem_singleton.mp hb
      exact ⟨o, ho, fun v q => by rw [hd] at q; cases q⟩
  keep := fun i h h' st k => let ⟨⟨old, he⟩, hi, hne⟩ := st; ⟨⟨old, k e (by simp) _ he⟩, hi.at fun o q => k it (by simp) o q, hne⟩
  item := by
    intro X hP hw hK hc i pins s σ H E I hf st hg
    subst hP hw hK
    obtain ⟨⟨old, he⟩, hit, hne⟩ := st
    obtain ⟨xs, x, hq, hx⟩ := hg
    obtain ⟨its, rv, p, hz⟩ := I.tuple hq
    obtain ⟨u, hu, ru⟩ := rv.get hx
    have hel : e < s.heap.objs.size := Heap.lt_size he
    have hil : it < s.heap.objs.size := by obtain ⟨_, q, _⟩ := hit; exact Heap.lt_size q
    have hat : a ≠ it := by
      rintro rfl
      obtain ⟨o, ho, hoc, _⟩ := p
      obtain ⟨o2, ho2, ho2c, _⟩ := hit
      rw [ho] at ho2; cases ho2
      rw [hoc] at ho2c; injection ho2c with e9; exact absurd e9 (by decide)
    have hae : a ≠ e := by
      rintro rfl
      obtain ⟨o, ho, hoc, _⟩ := p
      have he' : s.heap.get? a = some _ := he
      rw [ho] at he'; cases he'
      injection hoc with e9; exact absurd e9 (by decide)
    have hlt : i < its.toArray.size := by
      have := (List.getElem?_eq_some_iff.mp hu).1
      simpa using this
    have D := Draws.tuple (prog := X.prog) (w := X.w) (A := X.A.in1) (I.ok.hd hc) it a hat its.toArray
    refine wpAny_pyNext_enum_itemD D he ⟨hit, p⟩ hlt hne (by simp [hne, Ne.symm hae]) fun x' h' tk hP ho hst hT hsz hk => ?_
    have hxu : x' = u := by
      have e2 : its.toArray[i]? = some x' := hP
      rw [List.getElem?_toArray, hu] at e2
      exact (Option.some.inj e2).symm
    subst hxu
    refine ⟨_, rfl, wpAny_letOwnedTupleGo_enum (s := { s with heap := h', toks := tk + 1 }) ho fun h'' he' sb => ?_⟩
    have hT2 : h''.get? s.heap.objs.size = some { cls := .type "tuple", data := .seq #[.int i tk, x'] } := (sb.2 _ (Nat.ne_of_gt hel)).trans hT
    have new : ObjOk X.prog X.w (upd H s.heap.objs.size (.tup [.int (i : Nat), x])) h'' s.heap.objs.size (.tup [.int (i : Nat), x]) :=
      ⟨by show 2 ≤ sizeLine; decide, [.int i tk, x'], .cons ⟨_, rfl⟩ (.cons ru .nil), ⟨_, hT2, rfl, _, rfl⟩⟩
    have I1 : Inv X pins σ (upd H s.heap.objs.size (.tup [.int (i : Nat), x])) { s with heap := h'', toks := tk + 1 } :=
      I.turnedNew (ch := [e, it]) (fun b ob hb q => (sb.2 b (fun z => hb (by simp [z]))).trans (hk b ob (fun z => hb (by simp [z])) (fun z => hb (by simp [z])) q)) hf (Nat.le_refl _) new
    refine ⟨.ref s.heap.objs.size, _, I1, rfl, ⟨_, x, rfl, I.hok.fresh (Nat.le_refl _), rfl, fun ys hy => by rw [I.tuple_inj hy hq]; exact hx⟩, ⟨⟨x', ?_⟩, hst.1.at fun o q => (sb.2 it (Ne.symm hne)).trans q, hne⟩, fun b hb => ?_⟩
    · have e1 : ((i + 1 : Nat) : Int) = (i : Int) + 1 := by omega
      rw [e1]
      exact he'
    · have hb' : b < s.heap.objs.size := by
        rcases List.mem_cons.mp hb with rfl | hb
        · exact hel
        · obtain rfl := List.mem_singleton.mp hb
          exact hil
      rw [upd_ne (Nat.ne_of_lt hb')]
      exact (hf b hb).1
  done := by
    intro X hP hw hK hc i pins s σ H E I hf st hg
    subst hP hw hK
    obtain ⟨⟨old, he⟩, hit, hne⟩ := st
    obtain ⟨xs, hq, hx⟩ := hg
    obtain ⟨its, rv, p, hz⟩ := I.tuple hq
    obtain ⟨f0, f1, f2, f3, f4, f5⟩ := hf it (by simp)
    have hl := rv.length
    have hat : a ≠ it := by
      rintro rfl
      obtain ⟨o, ho, hoc, _⟩ := p
      obtain ⟨o2, ho2, ho2c, _⟩ := hit
      rw [ho] at ho2; cases ho2
      rw [hoc] at ho2c; injection ho2c with e9; exact absurd e9 (by decide)
    have hT : s.TypeIs (.ref e) "enumerate" := ⟨_, he, rfl⟩
    unfold pyNext
    refine wpAny_bind (wpAny_attempt (wpAny_callSpecial?_slot (name := Str.ofString "__next__") hT F.slot_enumerate_next
      (wpAny_call_entry F.slot_enumerate_next hT F.entry_enumerate_next ?_ (F.args_enumerate_next_1 _))))
    show wpAny _ _ (field (.ref e) 2 >>= _) _ _ _
    refine wpAny_bind (wpAny_field he rfl (x := .ref it) rfl ?_)
    refine wpAny_bind (wpAny_nextOf_tuple_end (I.ok.hd hc) hit p (by simp; omega) fun h' x he' hx' => ?_)
    obtain ⟨o, ho, hoc⟩ := hx'
    refine wpAny_bind (wpAny_isInstance (T := "StopIteration") (b := true) ⟨o, ho, hoc⟩ isSubtype_stop ?_)
    exact wpAny_pure ⟨rfl, I.turned (t' := s.toks) (fun b o hb q => he' b o hb q) f0 f1 f3 f4 f5⟩
  self := fun A i s Q E st h => let ⟨⟨_, he⟩, _⟩ := st; wpAny_pyIter_enum he h
def iEnumT (K : PySem.W.Frag) (te : TE) : TI := fun σ H R => te σ H fun v H1 => ∃ a xs, [v] = [V.ref a] ∧ SqT K H1 a xs ∧ R (IteT K a) H1
theorem pi_enumT {X : Cx} {e : Expr} {te : TE} {p pos tpos : Pos} {elts : List Expr} {kk : Nat} (hm : X.mg "enumerate" = none) (he : PE X e te) (hg : Gl X "enumerate" := by rfl) (hs : starEach [e] X.env = [(false, eval e X.env)] := by rfl) :
    PI X (.Tuple elts kk tpos) (.Call (.Name "enumerate" p) [e] [] pos) (iEnumT X.K te) := by
  refine ⟨fun pins s σ H R I h => ?_⟩
  have pa : PA X [e] (tCons te tNil) := pa_cons he pa_nil hs
  refine Call_ (ld_blt I hg hm boot_enumerate (PyProof.Rows.callWith_type1 (thn (pa.run pos pins s σ H (fun vs H1 => ∃ a xs, vs = [V.ref a] ∧ SqT X.K H1 a xs ∧ R (IteT X.K a) H1) I h) fun us s1 ⟨vs, H1, I1, r1, q1⟩ => ?_) hs rfl))
  obtain ⟨a, xs, ex, hq, q⟩ := q1
  subst ex
  obtain ⟨u, rfl, r⟩ := Vals.one r1
  cases r
  obtain ⟨its, rv, p', hz⟩ := I1.tuple hq
  refine call_enumT p' fun h' he hit hk => wpAny_pyIter_enum he ?_
  have I2 : Inv X pins σ H1 { s1 with heap := h' } := I1.kept (t' := s1.toks) hk
  refine ⟨s1.heap.objs.size + 1, [s1.heap.objs.size + 1, s1.heap.objs.size], _, _, H1, rfl, I2, turn_enumT a (s1.heap.objs.size + 1) s1.heap.objs.size, ⟨⟨.none, he⟩, hit, Nat.succ_ne_self _⟩, fun b hb => ?_, q⟩
  have hle : s1.heap.objs.size ≤ b := by
    rcases List.mem_cons.mp hb with rfl | hb
    · exact Nat.le_add_right _ _
    · obtain rfl := List.mem_singleton.mp hb
      exact Nat.le_refl _
  exact I1.fpOk hle (I1.hok.fresh hle)
theorem walk_enumT {K : PySem.W.Frag} {a : Addr} {xs : List V} : Walk (IteT K a) xs.length (fun H => SqT K H a xs) (YPair (fun i => some (.int (i : Nat))) (fun i => xs[i]?)) := by
  refine ⟨fun i _ hi q => ⟨xs, xs[i], q, by simp [hi]⟩, fun _ q => ⟨xs, q, Nat.le_refl _⟩, fun i H v H' _ q y => ?_⟩
  obtain ⟨T, x, h1, h2, h3, h4⟩ := y
  exact ⟨T, .int (i : Nat), x, h1, h2, h3, rfl, h4 xs q⟩
end Kp
set_option Elab.async false
set_option linter.all false
set_option maxRecDepth 100000
set_option maxHeartbeats 4000000
namespace Kp
open PySem PySem.Spec PyProof.Rows L2
/-! ### dicts whose keys are tuples: a display, a comprehension, update -/
abbrev KVT := List (List L2.Key × V)
abbrev tkn (P : Program) (w : World) := tupleKind (mixKind P w)
theorem dt_made {P : Program} {w : World} {H : Hp} {h : Heap} {D : Addr} {kvs : KVT} {xs : List (List L2.Key × Addr × Value)} (z : kvs.length ≤ sizeLine) (hd : (D == sysModules) = false) (r : KT H kvs xs) (x : h.DictOfH (tkn P w) D xs) : ObjOk P w H h D (.dT kvs) := by
  obtain ⟨o, es, ep, h1, h2, h3, h4, _, h5⟩ := x
  exact ⟨z, hd, xs, r, o, es, ep, h1, h2, h3, h4, h5⟩
theorem kt_upd {H : Hp} {D : Addr} {kvs kvs0 : KVT} {o : HO} {xs : List (List L2.Key × Addr × Value)} (e : H D = some (.dT kvs0)) (r : KT H kvs xs) : KT (upd H D o) kvs xs :=
  r.keeps fun c ys ec => by
    rw [upd_ne (ne_of ec e (fun z => nomatch z))]
    exact ec
section
variable {X : Cx} {pins : List (Addr × Obj)} {σ : L2.St} {H : Hp} {s : Shared} {E : Value → Shared → Prop} {D : Addr} {kvs : KVT}
/-- what stands at D is a dict after the same cell was written -/
theorem dt_wrote {h' : Heap} {t' : Nat} {kvs' : KVT} {xs : List (List L2.Key × Addr × Value)} (I : Inv X pins σ H s) (e : H D = some (.dT kvs)) (z : kvs'.length ≤ sizeLine) (r : KT H kvs' xs) (x : h'.DictOfH (tkn X.prog X.w) D xs) (sb : Heap.SameBut D s.heap h') :
    Inv X pins σ (upd H D (.dT kvs')) { s with heap := h', toks := t' } := by
  obtain ⟨_, hd, _⟩ := dt_of I.hok e
  obtain ⟨o, _, _, ho, _⟩ := id x
  exact d_write I (by rw [e]; exact True.intro) sb ⟨o, ho⟩ (dt_made z hd (kt_upd e r) x)
/-- D[b] = r within a comprehension -/
theorem dt_set {b : Addr} {k : List L2.Key} {v : V} {r : Value} {Q : Unit → Shared → Prop} (hu : X.A.units + 1 < cLine) (I : Inv X pins σ H s) (e : H D = some (.dT kvs)) (z : kvs.length < sizeLine) (eb : H b = some (.tup (k.map kV))) (rv : RelV v r)
    (h : ∀ s', Inv X pins σ (upd H D (.dT (putK kvs k v))) s' → Q () s') : wpAny (model X.prog X.w) X.A (dictSet D (.ref b) r) Q E s := by
  obtain ⟨_, hd, xs, rel, dd⟩ := dt_of I.hok e
  have hz : xs.length ≤ sizeLine := by
    rw [← Paired.length rel]
    omega
  have hl := length_putK kvs k v
  exact wpAny_dictSet_heap (hsz := hz) (show X.A.units < cLine by omega) (key_of I.hok eb) dd fun h' dd' sb => h _ (dt_wrote I e (by omega) (rel.put k eb rv) dd' sb)
end
/-! a display -/
/-- the keys, each a tuple that stands, with their values -/
def KeysAt (H : Hp) (ps : List (V × V)) (kvs : KVT) : Prop := Paired (fun p q => (∃ b, p.1 = .ref b ∧ H b = some (.tup (q.1.map kV))) ∧ p.2 = q.2) ps kvs
theorem keys_carry {P : Program} {w : World} {H : Hp} {h : Heap} (ok : HOk P w H h) : ∀ {ps : List (V × V)} {kvs : KVT} {ws : List (Value × Value)}, KeysAt H ps kvs → VV ps ws →
    ∃ xs, CarriesH (tkn P w) h ws xs ∧ KT H kvs xs
  | _, _, _, .nil, .nil => ⟨[], True.intro, .nil⟩
  | _, _, _, .cons ⟨⟨b, e1, e2⟩, e3⟩ t, .cons ⟨r1, r2⟩ t' => by
    obtain ⟨xs, c, kt⟩ := keys_carry ok t t'
    rw [e1] at r1
    rw [e3] at r2
    exact ⟨(_, b, _) :: xs, ⟨r1, rfl, key_of ok e2, c⟩, .cons ⟨rfl, e2, r2⟩ kt⟩
def mergeT (kvs more : KVT) : KVT := more.foldl (fun acc kv => putK acc kv.1 kv.2) kvs
theorem kt_merge {H : Hp} : ∀ {more : KVT} {ys : List (List L2.Key × Addr × Value)} {kvs : KVT} {xs : List (List L2.Key × Addr × Value)}, KT H more ys → KT H kvs xs → KT H (mergeT kvs more) (storedAllH xs ys) := by
  intro more ys kvs xs r
  induction r generalizing kvs xs with
  | nil => exact fun h => h
  | @cons p q ps qs h t ih =>
    intro r'
    have g := r'.put p.1 (b := q.2.1) (y := p.2) (u := q.2.2) h.2.1 h.2.2
    have e : storedAllH xs (q :: qs) = storedAllH (storedH xs p.1 q.2.1 q.2.2) qs := by
      rw [h.1]
      rfl
    rw [e]
    exact ih g
theorem mergeT_len : ∀ (more kvs : KVT), (mergeT kvs more).length ≤ kvs.length + more.length
  | [], kvs => by simp [mergeT]
  | p :: r, kvs => by
    have h1 := mergeT_len r (putK kvs p.1 p.2)
    have h2 := length_putK kvs p.1 p.2
    show (mergeT (putK kvs p.1 p.2) r).length ≤ _
    rw [List.length_cons]
    omega
def tDispT (trs : List (TE × TE)) : TE := fun σ H Q => ∀ p, H p = none → tPairs trs σ (upd H p (.dT [])) fun ps H2 => H2 p = some (.dT []) ∧ ∃ kvs : KVT, KeysAt H2 ps kvs ∧ kvs.length ≤ 15 ∧ Q (.ref p) (upd H2 p (.dT (mergeT [] kvs)))
theorem pe_dispT {X : Cx} {pos : Pos} {keys : List (Option Expr)} {values : List Expr} {trs : List (TE × TE)} (hu : X.A.units + 1 < cLine) (h : PPs X pos keys values trs) (hall : keys.all (·.isSome) = true := by rfl) (hl : keys.length = values.length := by rfl)
    (h0 : keys ≠ [] := by (intro z; cases z)) (h15 : keys.length ≤ 15 := by decide) : PE X (.Dict keys values pos) (tDispT trs) := by
  refine ⟨fun pins s σ H Q I q => ?_⟩
  have hn := I.hok.fresh (Nat.le_refl s.heap.objs.size)
  have I1 := I.laid (a := s.heap.objs.size) (o := .dT []) (h' := s.heap.push { cls := .type "dict", data := .dict #[] }) (t' := s.toks) (fun _ _ q => Heap.get?_push_of_some _ q) (Nat.le_refl _) (dt_empty s.heap I.big)
  have hlen := pairTrees_length keys values X.env pos hall hl
  rw [arm_eval_Dict, zip_pairTrees keys values X.env pos hall hl, dictDisplay_pairs (pairTrees keys values X.env pos) (by
    intro z
    rw [z] at hlen
    exact h0 (List.length_eq_zero_iff.mp hlen.symm)) (by omega)]
  refine wpAny_bind (wpAny_standAt (wpAny_bind (wpAny_subDictH (knd := tkn X.prog X.w) (show X.A.units < cLine by omega) (by omega) (thn (h.run pins _ σ _ _ I1 (q _ hn)) fun ws s2 ⟨ps, H2, I2, rel, e, kvs, ke, lk, q2⟩ => ?_))))
  obtain ⟨xs, c, kt⟩ := keys_carry I2.hok ke rel
  obtain ⟨_, _, ys, r0, dd⟩ := dt_of I2.hok e
  obtain rfl : ys = [] := by cases r0; rfl
  refine ⟨xs, c, dd, fun h' tk dd' sb => wpAny_pure ⟨.ref s.heap.objs.size, _, dt_wrote I2 e ?_ (kt_merge kt .nil) dd' sb, rfl, q2⟩⟩
  have := mergeT_len kvs []
  rw [sizeLine_eq]
  simp only [List.length_nil] at this
  omega
/-! update -/
def rUpdT : V → List V → Hp → VK → Prop := fun x xs H Q => ∃ (a b : Addr) (kvs more : KVT), x = .ref a ∧ xs = [.ref b] ∧ H a = some (.dT kvs) ∧ H b = some (.dT more) ∧ a ≠ b ∧ kvs ≠ [] ∧ kvs.length + more.length ≤ sizeLine ∧
  Q .non (upd H a (.dT (mergeT kvs more)))
theorem mt_updT {X : Cx} (hu : X.A.units + 2 < cLine) : MtR X "dict.update" rUpdT := by
  intro pins s σ H x xs v us Q I rx rxs h
  obtain ⟨a, b, kvs, more, rfl, rfl, ea, eb, hab, hne, hz, q⟩ := h
  obtain rfl : v = Value.ref a := rx
  obtain ⟨u, rfl, ru⟩ := Vals.one rxs
  obtain rfl : u = Value.ref b := ru
  obtain ⟨_, _, xs, r1, d1⟩ := dt_of I.hok ea
  obtain ⟨_, hb, ys, r2, d2⟩ := dt_of I.hok eb
  have hx : xs ≠ [] := by
    rintro rfl
    cases r1
    exact hne rfl
  have l1 := Paired.length r1
  have l2 := Paired.length r2
  refine call_update_dictH (show X.A.units + 1 < cLine by omega) hab hb d1 d2 (.inl hx) (by omega) fun h' d1' d2' sb => ⟨.non, _, dt_wrote (t' := s.toks) I ea ?_ (kt_merge r2 r1) d1' sb, rfl, q⟩
  have := mergeT_len more kvs
  omega
/-! a comprehension -/
section
variable {X : Cx}
def tDcT (wi : TI) (g : TG) (tk tv : TE) (vs : List Nat) : TE := fun σ H Q => wi σ H fun J H1 => ∀ D, H1 D = none → ∃ W : Nat → Nat → Hp → Prop, (∃ m, W 0 m (upd H1 D (.dT []))) ∧ ∀ i m H, W i m H →
  (J.stop i H ∧ Q (.ref D) H) ∨ (J.go i H ∧ ∃ Nx : Hp → Prop, (∀ H', Nx H' → ∃ m', m' < m ∧ W (i + 1) m' H') ∧ ∀ x H', J.yld i H x H' → g x (wipe σ vs) H' fun σ2 H2 => wipe σ2 vs = wipe σ vs ∧
    tk σ2 H2 fun y H4 => tv σ2 H4 fun z H5 => ∃ (kvs : KVT) (k : List L2.Key) (b : Addr), y = .ref b ∧ H5 b = some (.tup (k.map kV)) ∧ H5 D = some (.dT kvs) ∧ kvs.length < sizeLine ∧ Nx (upd H5 D (.dT (putK kvs k z))))
theorem dcT_core {pins : List (Addr × Obj)} {s : Shared} {σ : L2.St} {H : Hp} {Q : VK} {kx vx tg iter : Expr} {scope : Scope} {own : List (Str × Nat)} {pos pos' : Pos} {wi : TI} {g : TG} {tk tv : TE} {use : Option (Value → Sem Unit)} {Qf : Value → Shared → Prop}
    (hu : X.A.units + 1 < cLine) (hc : X.calm = true) (hN : X.N.Nodup) (I : Inv X pins σ H s) (hi : PI X tg iter wi) (ok : BlkOk X.N X.env.scope scope own)
    (hg : ∀ s H C cl fp, PG (X.blk s H scope (compEnvC scope cl C X.env) fp) tg g) (hk : ∀ s H C cl fp, PE (X.blk s H scope (compEnvC scope cl C X.env) fp) kx tk) (he : ∀ s H C cl fp, PE (X.blk s H scope (compEnvC scope cl C X.env) fp) vx tv) (hs : ∀ x, foldedSetIterable iter X.env x = pure x)
    (h : tDcT wi g tk tv (own.map (·.2)) σ H Q)
    (hRR : ∀ D C s' m H', Inv X pins σ H' s' → Q (.ref D) H' → s'.heap.Ns C m → FpOk X pins H' C → compPost (model X.prog X.w) X.A X.xe use Qf (.ref D) C (.ok .next) s') :
    wpAny (model X.prog X.w) X.A (comprehension (.DictComp kx vx [⟨tg, iter, [], 0⟩] scope pos) scope X.env pos' newDict false (eval iter X.env) use) Qf X.xe s := by
  have hfree : ∀ y ∈ scope.names, y.2 = .free → ∃ c, X.env.cells.lookup y.1 = some c := fun y hy e => (ok.free y hy e).elim (fun k => I.ok.has _ (.inl k)) fun k => I.ok.has _ (.inr k)
  refine wpAny_comprehension_free (use := use) rfl hs (closure_ok hfree) ok.kind (fun y hy e => by rw [ok.uniq y hy, e]) (thn (hi.run pins s σ H _ I h) fun xv s1 hx => thn hx fun itv s2 h2 => ?_)
  obtain ⟨it, fp, tn, J, H2, e, I2, T, st2, f2, q⟩ := h2
  subst e
  refine wpAny_newObj_type (newEnv_comp ?_)
  generalize hD : s2.heap.objs.size = D
  have hDn : H2 D = none := I2.hok.fresh (Nat.le_of_eq hD)
  obtain ⟨W, ⟨m0, w0⟩, turn⟩ := q D hDn
  generalize hs3 : ({ s2 with heap := s2.heap.push { cls := .type "dict", data := .dict #[] } } : Shared) = s3
  have I3 : Inv X pins σ (upd H2 D (.dT [])) s3 := by
    rw [← hs3]
    refine I2.laid (t' := s2.toks) (fun b o e => Heap.get?_push_of_some _ e) (Nat.le_of_eq hD) ?_
    rw [← hD]
    exact dt_empty s2.heap I2.big
  have h3 : s3.heap = s2.heap.push { cls := .type "dict", data := .dict #[] } := by rw [← hs3]
  have f3 : ∀ b ∈ fp, FpOk X pins (upd H2 D (.dT [])) b ∧ b < s3.heap.objs.size := fun b hb => by
    obtain ⟨o, eo, _⟩ := T.obj _ _ st2 b hb
    have hlt := Heap.lt_size eo
    refine ⟨⟨?_, (f2 b hb).2⟩, by rw [h3, Heap.size_push]; exact Nat.lt_succ_of_lt hlt⟩
    rw [upd_ne (by rw [← hD]; exact Nat.ne_of_lt hlt)]
    exact (f2 b hb).1
  have st3 : tn 0 s3.heap := T.keep _ _ _ st2 fun b _ o e => by rw [h3]; exact Heap.get?_push_of_some _ e
  have I4 := block_start I3 ok hN f3
  have pg := hg s3 (upd H2 D (.dT [])) s3.heap.objs.size (cellsFrom (s3.heap.objs.size + 1) scope.names (cloFrom X.env.cells scope.names [])) fp
  have pk := hk s3 (upd H2 D (.dT [])) s3.heap.objs.size (cellsFrom (s3.heap.objs.size + 1) scope.names (cloFrom X.env.cells scope.names [])) fp
  have pe := he s3 (upd H2 D (.dT [])) s3.heap.objs.size (cellsFrom (s3.heap.objs.size + 1) scope.names (cloFrom X.env.cells scope.names [])) fp
  show codeAny _ _ (.compStart (.DictComp kx vx [⟨tg, iter, [], 0⟩] scope pos) 0 (.ref it) (.ref D) (compEnvC scope (cellsFrom (s3.heap.objs.size + 1) scope.names (cloFrom X.env.cells scope.names [])) s3.heap.objs.size X.env))
    (compPost (model X.prog X.w) X.A X.xe use Qf (.ref D) s3.heap.objs.size) { s3 with heap := pushCells (s3.heap.push { cls := .type "dict", data := .dict #[] }) scope.names }
  have nfp : ∀ b ∈ fp, (upd H2 D (.dT [])) b = none := fun b hb => (f3 b hb).1.1
  generalize hce : compEnvC scope (cellsFrom (s3.heap.objs.size + 1) scope.names (cloFrom X.env.cells scope.names [])) s3.heap.objs.size X.env = ce at I4 pg pk pe ⊢
  have cL : ce.locals = s3.heap.objs.size := by subst hce; rfl
  generalize hH3 : upd H2 D (.dT []) = H3 at I3 I4 pg pk pe w0 nfp f3
  generalize hs4 : ({ s3 with heap := pushCells (s3.heap.push { cls := .type "dict", data := .dict #[] }) scope.names } : Shared) = s4 at I4 ⊢
  have st4 : tn 0 s4.heap := T.keep _ _ _ st3 fun b _ o e => by rw [← hs4]; exact pushCells_keeps _ _ _ _ (Heap.get?_push_of_some _ e)
  have stat : ∀ {σ' : L2.St} {H' : Hp} {s' : Shared}, Inv (X.blk s3 H3 scope ce fp) [] σ' H' s' → (∀ b ∈ fp, H' b = none) → ∀ b ∈ fp, FpOk (X.blk s3 H3 scope ce fp) [] H' b := fun {σ' H' s'} I' hn b hb =>
    ⟨hn b hb, (I'.ok.exf b hb).1, I'.ok.exfs b hb, .inl hb, fun x c e => (I'.ok.exf b hb).2 x c e, fun p hp => absurd hp List.not_mem_nil⟩
  have loop : codeAny (model X.prog X.w) X.A (.compLoop (.DictComp kx vx [⟨tg, iter, [], 0⟩] scope pos) 0 (.ref it) (.ref D) ce) (compPost (model X.prog X.w) X.A X.xe use Qf (.ref D) s3.heap.objs.size) s4 := by
    refine compLoop_anyD (fun n s' => ∃ i H', Inv (X.blk s3 H3 scope ce fp) [] (wipe σ (own.map (·.2))) H' s' ∧ tn i s'.heap ∧ (∀ b ∈ fp, H' b = none) ∧ W i n H') ?_ m0 ⟨0, H3, I4, st4, nfp, w0⟩
    rintro n s5 ⟨i, H5, I5, st5, n5, w5⟩
    rcases turn i n H5 w5 with ⟨stop, qq⟩ | ⟨go, Nx, hNx, step⟩
    · refine thnF (T.done (X.blk s3 H3 scope ce fp) rfl rfl rfl hc i [] s5 _ H5 (fun _ _ => False) I5 (stat I5 n5) st5 stop) fun r s6 ⟨hr, I6⟩ => ?_
      subst hr
      have I7 : Inv X pins σ H5 s6 := I3.call' (ch := fp) I6.os I6.base I6.hok I6.bare fun b hb => ⟨(f3 b hb).1.2.2.2.1, (f3 b hb).1.2.1, (f3 b hb).1.2.2.2.2.1, (f3 b hb).1.2.2.2.2.2⟩
      have nC : H5 s3.heap.objs.size = none := by
        rw [← cL]
        exact I6.free
      obtain ⟨m, hn, _⟩ := I6.loc
      have hn' : s6.heap.Ns ce.locals m := hn
      rw [cL] at hn'
      exact hRR D s3.heap.objs.size s6 m H5 I7 qq hn' (I3.fpOk (Nat.le_refl _) nC)
    · refine thnF (T.item (X.blk s3 H3 scope ce fp) rfl rfl rfl hc i [] s5 _ H5 (fun _ _ => False) I5 (stat I5 n5) st5 go) fun r s6 ⟨u, hr, h6⟩ => ?_
      subst hr
      refine thnF h6 fun _ s7 ⟨x, H7, I7, r7, y7, st7, n7⟩ => ?_
      have I7' := I7.pinned (stat I7 n7) (T.obj _ _ st7)
      refine thnF (pg.run _ s7 _ H7 x u _ I7' r7 (step x H7 y7)) fun _ s8 ⟨σ8, H8, I8, hw8, q8⟩ => ?_
      refine thnF ((pts_nil (X := X.blk s3 H3 scope ce fp)).run _ s8 σ8 H8 (fun b H => b = true ∧ H = H8) I8 ⟨rfl, rfl⟩) fun b s9 ⟨H9, I9, eb, eH⟩ => ?_
      subst eb; subst eH
      simp only [if_true]
      refine thnF (pk.run _ s9 σ8 _ _ I9 q8) fun z s10 ⟨yk, H10, I10, r10, q10⟩ => ?_
      refine thnF (pe.run _ s10 σ8 H10 _ I10 q10) fun z2 s11 ⟨yv, H11, I11, r11, kvs, k, b, ek, hb11, hD11, hz11, nx⟩ => ?_
      subst ek
      obtain rfl : z = Value.ref b := r10
      refine dt_set (X := X.blk s3 H3 scope ce fp) hu I11 hD11 hz11 hb11 r11 fun s12 I12 => ?_
      obtain ⟨m', hm, w'⟩ := hNx _ nx
      have pin' : ∀ b ∈ fp, ∀ o, s7.heap.get? b = some o → s12.heap.get? b = some o ∧ _ := fun b hb o e =>
        let z := I12.pin (b, o) (List.mem_append_right _ (List.mem_append_right _ (mem_pinsAt hb e)))
        ⟨z.1, z.2.1⟩
      have hl : (wipe σ (own.map (·.2))).length = σ8.length := by rw [← hw8, wipe_length]
      refine ⟨m', hm, i + 1, _, (I12.unpinned (pins := [])).weak hl (fun j v e => ?_), T.keep _ _ _ st7 fun b hb o e => (pin' b hb o e).1, fun b hb => ?_, w'⟩
      · rw [← hw8] at e
        exact (wipe_some e).1
      · obtain ⟨o, e, _⟩ := T.obj _ _ st7 b hb
        exact (pin' b hb o e).2
  exact codeAny_compStart_dict loop (T.self X.A 0 _ _ _ st4 loop)
theorem pe_dcT {kx vx tg iter : Expr} {scope : Scope} {own : List (Str × Nat)} {pos : Pos} {wi : TI} {g : TG} {tk tv : TE} (hu : X.A.units + 1 < cLine) (hc : X.calm = true) (hN : X.N.Nodup) (hi : PI X tg iter wi) (ok : BlkOk X.N X.env.scope scope own)
    (hg : ∀ s H C cl fp, PG (X.blk s H scope (compEnvC scope cl C X.env) fp) tg g) (hk : ∀ s H C cl fp, PE (X.blk s H scope (compEnvC scope cl C X.env) fp) kx tk) (he : ∀ s H C cl fp, PE (X.blk s H scope (compEnvC scope cl C X.env) fp) vx tv) (hs : ∀ x, foldedSetIterable iter X.env x = pure x := by intro _; rfl) :
    PE X (.DictComp kx vx [⟨tg, iter, [], 0⟩] scope pos) (tDcT wi g tk tv (own.map (·.2))) := by
  refine ⟨fun pins s σ H Q I h => ?_⟩
  rw [arm_eval_DictComp]
  refine dcT_core hu hc hN I hi ok hg hk he hs h fun D C s' m H' I' q hn f => ⟨m, hn, fun h'' sb => ?_⟩
  obtain ⟨f0, f1, f2, f3, f4, f5⟩ := f
  exact ⟨.ref D, H', I'.turned (t' := s'.toks) (fun b o hb e => (sb.2 b hb).trans e) f0 f1 f3 f4 f5, rfl, q⟩
end
end Kp
set_option Elab.async false
set_option linter.all false
set_option maxRecDepth 100000
set_option maxHeartbeats 4000000
namespace Kp
open PySem PySem.Spec PyProof.Rows L2
/-! ### a tuple times one: itself -/
theorem tuple_once (l : Addr) (items : Array Value) (n : Nat) (dd : Option Addr) (sl : Array (Option Value)) (u : Tok) :
    Meets (Builtin.«tuple.__mul__» ⟨[.ref l, .int 1 u], []⟩) (fun _ R s => s.heap.get? l = some { cls := .type "tuple", dict := dd, data := .seq items n, slots := sl } ∧ R (.ok (.ret (Value.ref l))) s) :=
  .of_wp fun prog w A R s h => by
    obtain ⟨hp, g, d, tk, os⟩ := s
    obtain ⟨hl, h⟩ := h
    have f1 := AutoSeq1.idx_int
    have c0 : (decide ((1 : Int) < -(2 ^ 63)) || decide ((1 : Int) ≥ 2 ^ 63)) = false := by decide
    have c1 : (items.isEmpty || (1 : Int) == 1) = true := by simp
    wp_walk using wpAny_loadPart' hl
    repeat (first
      | (refine wpAny_ite_false (decide_eq_false (by rw [c0]; exact Bool.false_ne_true)) ?_; wp_walk using wpAny_loadPart' hl)
      | (refine wpAny_ite_true (decide_eq_true c1) ?_; wp_walk using wpAny_loadPart' hl))
    exact ⟨_, rfl, h⟩
/-- t * k, k one or more -/
def rTimes (K : PySem.W.Frag) : R2 := fun x y H Q => (∃ l xs, x = .ref l ∧ y = .int 1 ∧ SqT K H l xs ∧ Q (.ref l) H) ∨ rRepT K x y H Q
theorem op_times {X : Cx} : OpR X (binaryOp .Mult) (rTimes X.K) := by
  intro pins s σ H x y v u Q I rx ry h
  rcases h with ⟨l, xs, rfl, rfl, hT, q⟩ | h
  · cases rx
    obtain ⟨t, rfl⟩ := ry
    obtain ⟨its, r, ⟨o, ho, hc, n, hd⟩, hs⟩ := I.tuple hT
    obtain ⟨cls, dd, data, sl⟩ := o
    obtain rfl : cls = .type "tuple" := hc
    obtain rfl : data = .seq its.toArray n := hd
    refine wpAny_binaryOp_repeat_ref (T := "tuple") (U := "int") (by decide) ⟨_, ho, rfl⟩ (fun s' => typeIs_int s' 1 t) noFill_tuple_mul F.fills_int_mul F.slot_int_rmul repeat_tuple F.slot_int_index.lookup ?_
    refine call_meets F.slot_int_rmul (typeIs_int s 1 t) F.entry_int_rmul (F.args_int_rmul_2 _ _) (int_rmul_tuple 1 t l its.toArray n dd sl) ⟨ho, rfl, ⟨_, ho, rfl⟩, ?_⟩
    exact call_meets F.slot_tuple_mul ⟨_, ho, rfl⟩ F.entry_tuple_mul (F.args_tuple_mul_2 _ _) (tuple_once l its.toArray n dd sl t) ⟨ho, .ref l, H, I, rfl, q⟩
  · exact op_repT pins s σ H x y v u Q I rx ry h
/-- (0,) * n and the like -/
theorem times_of {K : PySem.W.Frag} {H : Hp} {Q : VK} {l : Addr} {xs : List V} {n : Nat} (h : SqT K H l xs) (hne : xs ≠ []) (h1 : 1 ≤ n) (h2 : n ≤ 1000) (h3 : xs.length ≤ 1000)
    (q : ∀ a H', SqT K H' a (List.replicate n xs).flatten → (H' = H ∨ ∃ p, H p = none ∧ H' = upd H p (.tup (List.replicate n xs).flatten)) → Q (.ref a) H') : rTimes K (.ref l) (.int (n : Int)) H Q := by
  by_cases e : n = 1
  · subst e
    refine .inl ⟨l, xs, rfl, rfl, h, q l H ?_ (.inl rfl)⟩
    have : (List.replicate 1 xs).flatten = xs := by simp
    rw [this]
    exact h
  · exact .inr ⟨l, n, xs, rfl, rfl, h, hne, by omega, by omega, h3, fun p hp => q p _ (.of (by rw [upd_same]; rfl)) (.inr ⟨p, hp, rfl⟩)⟩
end Kp
set_option Elab.async false
set_option linter.all false
set_option maxRecDepth 100000
set_option maxHeartbeats 4000000
namespace Kp
open PySem PySem.Spec PyProof.Rows L2
/-! ### the text -/
def topS (i : Nat) : Stmt := PySem.Challenge.pw_keptpartings_k05_whole_kept_partings.main.body.getD i (.Pass ⟨0, 0, 0, 0⟩)
/-! ### a def as its callers know it -/
structure Cal (P : Program) (w : World) (K : PySem.W.Frag) (mg : Str → Option Value) (base : Heap) (k : Nat) (name : Str) (ps : List Str) (sp : Sp) : Prop where
  ex : ∃ f fd, FnOk P w K mg base CX0 k f fd ps sp ∧ mg name = some (.ref f) ∧ PySem.W.keepIn K (.ref f) = true ∧ Binds K fd ps []
/-- a def as it stands behind the top -/
structure Def (K : PySem.W.Frag) (mg : Str → Option Value) (name : Str) (st : Stmt) (ps : List Str) : Prop where
  ex : ∃ f fd, Fun K name name st f fd ∧ mg name = some (.ref f) ∧ Binds K fd ps []
section
variable {P : Program} {w : World} {K : PySem.W.Frag} {mg : Str → Option Value} {base : Heap}
theorem Def.cal {name : Str} {st : Stmt} {N ps : List Str} {k : Nat} {sp : Sp} (D : Def K mg name st ps) (S : FnScope N ps (defScope st)) (len : ∀ vs H Q E, sp vs H Q E → vs.length = ps.length)
    (body : ∀ (f : Addr) (cdv : Value) (A : Around) (outer : List Env) (s : Shared) (H : Hp) (vs : List V) (Q : VK) (E : XK), Room k (A.deeper (envOfC name (defScope st) s.heap.objs.size f cdv)) → sp vs H Q E →
      ∃ t, PSs (cxOf CX0 P w K mg base N name (defScope st) f cdv A outer s H E).nox (defBody st) t ∧ t { nx := fun _ H' => Q .non H', rt := Q } (start N vs) H) : Cal P w K mg base (k + 1) name ps sp := by
  obtain ⟨f, fd, F, g, b⟩ := D.ex
  exact ⟨f, fd, F.ok S len fun cdv A outer s H vs Q E hr h => body f cdv A outer s H vs Q E hr h, g, F.kp, b⟩
theorem Cal.mono {name : Str} {ps : List Str} {j k : Nat} {sp : Sp} (C : Cal P w K mg base j name ps sp) (h : j ≤ k) : Cal P w K mg base k name ps sp := by
  obtain ⟨f, fd, F, r⟩ := C.ex
  exact ⟨f, fd, F.mono h, r⟩
end
/-! ### calls in short -/
/-- the names of built-ins that the text leaves alone -/
structure Bn (K : PySem.W.Frag) (mg : Str → Option Value) : Prop where
  len : mg "len" = none
  range : mg "range" = none
  tuple : mg "tuple" = none
  list : mg "list" = none
  max : mg "max" = none
  min : mg "min" = none
  int : mg "int" = none
  bool : mg "bool" = none
  isinstance : mg "isinstance" = none
  all : mg "all" = none
  sorted : mg "sorted" = none
  enumerate : mg "enumerate" = none
  set : mg "set" = none
  repr : mg "repr" = none
abbrev rLen (K : PySem.W.Frag) : List V → Hp → VK → Prop := fun xs H Q => ∃ p ys, xs = [.ref p] ∧ (SqL K H p ys ∨ SqT K H p ys) ∧ Q (.int ys.length) H
abbrev rInt : List V → Hp → VK → Prop := fun xs H Q => (∃ i, xs = [.int i] ∧ Q (.int i) H) ∨ ∃ k, xs = [.bl k] ∧ Q (.int (if k then 1 else 0)) H
abbrev rMin2 : List V → Hp → VK → Prop := fun xs H Q => ∃ i j, xs = [.int i, .int j] ∧ Q (.int (if j < i then j else i)) H
abbrev rMax2 : List V → Hp → VK → Prop := fun xs H Q => ∃ i j, xs = [.int i, .int j] ∧ Q (.int (if j > i then j else i)) H
abbrev rTup (K : PySem.W.Frag) : List V → Hp → VK → Prop := fun xs H Q => ∃ p ys, xs = [.ref p] ∧ ((SqL K H p ys ∧ ∀ l, H l = none → Q (.ref l) (upd H l (.tup ys))) ∨ (SqT K H p ys ∧ Q (.ref p) H))
/-- the greatest of a tuple or list of numbers -/
def rMaxN (K : PySem.W.Frag) : List V → Hp → VK → Prop := fun vs H Q => ∃ v p, vs = [v] ∧ (Dp K H v (dT p) ∨ Dp K H v (dL p)) ∧ p ≠ [] ∧ ∀ m, m ∈ p → (∀ y ∈ p, y ≤ m) → Q (nV m) H
section
variable {X : Cx}
theorem fold_max : ∀ (p : List Nat) (x : Nat), ∃ m : Nat, (p.map fun y : Nat => (y : Int)).foldl max (x : Int) = (m : Int) ∧ m ∈ x :: p ∧ ∀ y ∈ x :: p, y ≤ m
  | [], x => ⟨x, rfl, List.mem_cons_self, fun y hy => by rcases List.mem_cons.mp hy with rfl | h; exact Nat.le_refl _; exact absurd h List.not_mem_nil⟩
  | z :: p, x => by
    obtain ⟨m, h1, h2, h3⟩ := fold_max p (max x z)
    refine ⟨m, ?_, ?_, fun y hy => ?_⟩
    · rw [← h1]
      show (p.map _).foldl max (max (x : Int) (z : Int)) = (p.map _).foldl max (((max x z : Nat)) : Int)
      congr 1
      omega
    · rcases List.mem_cons.mp h2 with h | h
      · rw [h]
        by_cases c : x ≤ z
        · rw [Nat.max_eq_right c]; exact List.mem_cons_of_mem _ List.mem_cons_self
        · rw [Nat.max_eq_left (by omega)]; exact List.mem_cons_self
      · exact List.mem_cons_of_mem _ (List.mem_cons_of_mem _ h)
    · have hm := h3 (max x z) List.mem_cons_self
      rcases List.mem_cons.mp hy with rfl | hy
      · omega
      · rcases List.mem_cons.mp hy with rfl | hy
        · omega
        · exact h3 y (List.mem_cons_of_mem _ hy)
theorem cr_maxN (hc : X.calm = true) (hu : X.A.units + 64 < cLine) : CallR X (.builtin "max") (rMaxN X.K) := by
  intro pins s σ H vs us Q I r h
  obtain ⟨v, p, rfl, hd, hne, q⟩ := h
  obtain ⟨u, rfl, ru⟩ := Vals.one r
  cases p with
  | nil => exact absurd rfl hne
  | cons x p =>
    obtain ⟨m, e1, e2, e3⟩ := fold_max p x
    have al : PySem.W.AlikeAll ((x :: p).map dI) := by
      refine ⟨fun a ha b hb => ?_, fun a ha => ?_⟩
      · obtain ⟨i, _, rfl⟩ := List.mem_map.mp ha
        obtain ⟨j, _, rfl⟩ := List.mem_map.mp hb
        simp [PySem.W.alike]
      · obtain ⟨i, _, rfl⟩ := List.mem_map.mp ha
        exact fun z => nomatch z
    have dep : PyData.depthAll ((x :: p).map dI) = 0 := by
      generalize (x :: p) = l
      induction l with
      | nil => simp [PyData.depthAll]
      | cons y l ih => simp [PyData.depthAll, PyData.depth, ih]
    have md : PySem.W.maxD (dI x) (p.map dI) = .int (m : Int) := by
      have := PySem.W.maxD_ints (x : Int) (p.map fun y : Nat => (y : Int))
      rw [List.map_map] at this
      rw [← e1]
      exact this
    have hu2 : X.A.units + 1 + PyData.depthAll ((x :: p).map dI) < cLine := by rw [dep]; omega
    rcases hd with hd | hd
    · obtain ⟨a, xs, rfl, hs, ha⟩ := dp_tup hd
      obtain rfl : u = Value.ref a := ru
      obtain ⟨its, rv, hl, hz⟩ := I.tuple hs
      obtain ⟨as, rs⟩ := Dp.readsAll I _ _ _ ha rv
      refine PySem.W.max_tuple_data (x := dI x) (xs := p.map dI) (I.ok.hd hc) hl (by simpa using rs) al hu2 fun i v h' tk bs hi hr hk => ?_
      rw [md] at hr
      cases hr
      exact ⟨.int (m : Int), H, I.kept hk, ⟨_, rfl⟩, q m e2 e3⟩
    · obtain ⟨a, xs, rfl, hs, ha⟩ := dp_lst hd
      obtain rfl : u = Value.ref a := ru
      obtain ⟨its, rv, hl, hz⟩ := I.list hs
      obtain ⟨as, rs⟩ := Dp.readsAll I _ _ _ ha rv
      refine PySem.W.max_list_data (x := dI x) (xs := p.map dI) (I.ok.hd hc) hl.isList (by simpa using rs) al hu2 fun i v h' tk bs hi hr hk => ?_
      rw [md] at hr
      cases hr
      exact ⟨.int (m : Int), H, I.kept hk, ⟨_, rfl⟩, q m e2 e3⟩
end
section
variable {X : Cx} {k : Nat} {name : Str} {ps : List Str} {sp : Sp} {e f g : Expr} {es : List Expr} {t : TA} {te ta tb tf : TE} {p p2 pos : Pos} {P : Program} {w : World} {K : PySem.W.Frag} {mg : Str → Option Value} {base : Heap} {A : Around}
theorem e_call (C : Cal P w K mg base k name ps sp) (hr : Room k A) (ha : PA X (e :: es) t) (hX : X.prog = P ∧ X.w = w ∧ X.K = K ∧ X.mg = mg ∧ X.base = base ∧ X.A = A := by exact ⟨rfl, rfl, rfl, rfl, rfl, rfl⟩) (hg : Gl X name := by rfl) (hdb : (name == ("__debug__" : Str)) = false := by decide)
    (he : starEach (e :: es) X.env = (false, eval e X.env) :: starEach es X.env := by rfl) (hpl : (backTo pos (starEach es X.env)).any (·.1) = false := by rfl) :
    PE X (.Call (.Name name p) (e :: es) [] pos) (tCall sp [] E0 t) := by
  obtain ⟨rfl, rfl, rfl, rfl, rfl, rfl⟩ := hX
  obtain ⟨f, fd, F, g, kp, b⟩ := C.ex
  exact pe_call F hr hg g kp b .nil pass0 ha hdb he hpl
theorem e_call0 (C : Cal P w K mg base k name ps sp) (hr : Room k A) (hX : X.prog = P ∧ X.w = w ∧ X.K = K ∧ X.mg = mg ∧ X.base = base ∧ X.A = A := by exact ⟨rfl, rfl, rfl, rfl, rfl, rfl⟩) (hg : Gl X name := by rfl) (hdb : (name == ("__debug__" : Str)) = false := by decide) :
    PE X (.Call (.Name name p) [] [] pos) (tCall sp [] E0 tNil) := by
  obtain ⟨rfl, rfl, rfl, rfl, rfl, rfl⟩ := hX
  obtain ⟨f, fd, F, g, kp, b⟩ := C.ex
  exact pe_call0 F hr hg g kp b .nil pass0 hdb
theorem e_len (B : Bn K mg) (he : PE X e te) (hX : X.mg = mg ∧ X.K = K := by exact ⟨rfl, rfl⟩) (hg : Gl X "len" := by rfl) (hs : starEach [e] X.env = (false, eval e X.env) :: starEach [] X.env := by rfl) : PE X (.Call (.Name "len" p) [e] [] pos) (tCB (rLen K) (tCons te tNil)) := by
  obtain ⟨rfl, rfl⟩ := hX
  exact pe_callB call_len_seq hg B.len PySem.boot_len (pa_cons he pa_nil hs) (by decide) (by decide) hs
theorem e_int (B : Bn K mg) (he : PE X e te) (hX : X.mg = mg := by rfl) (hg : Gl X "int" := by rfl) (hs : starEach [e] X.env = (false, eval e X.env) :: starEach [] X.env := by rfl) : PE X (.Call (.Name "int" p) [e] [] pos) (tCB rInt (tCons te tNil)) :=
  pe_callTy call_int1 hg (by rw [hX]; exact B.int) (by decide +kernel) (pa_cons he pa_nil hs) (by decide) (by decide) hs
theorem e_tuple (B : Bn K mg) (he : PE X e te) (hX : X.mg = mg ∧ X.K = K := by exact ⟨rfl, rfl⟩) (hg : Gl X "tuple" := by rfl) (hs : starEach [e] X.env = (false, eval e X.env) :: starEach [] X.env := by rfl) : PE X (.Call (.Name "tuple" p) [e] [] pos) (tCB (rTup K) (tCons te tNil)) := by
  obtain ⟨rfl, rfl⟩ := hX
  exact pe_callTy call_tuple_of hg B.tuple (by decide +kernel) (pa_cons he pa_nil hs) (by decide) (by decide) hs
theorem e_all (B : Bn K mg) (he : PE X e te) (hX : X.mg = mg ∧ X.K = K := by exact ⟨rfl, rfl⟩) (hg : Gl X "all" := by rfl) (hs : starEach [e] X.env = (false, eval e X.env) :: starEach [] X.env := by rfl) (hc : X.calm = true := by rfl) : PE X (.Call (.Name "all" p) [e] [] pos) (tCB (rAll K) (tCons te tNil)) := by
  obtain ⟨rfl, rfl⟩ := hX
  exact pe_callB (cr_all hc) hg B.all (by decide +kernel) (pa_cons he pa_nil hs) (by decide) (by decide) hs
theorem e_maxN (B : Bn K mg) (hr : Room k A) (he : PE X e te) (hX : X.mg = mg ∧ X.A = A ∧ X.K = K := by exact ⟨rfl, rfl, rfl⟩) (hg : Gl X "max" := by rfl) (hs : starEach [e] X.env = (false, eval e X.env) :: starEach [] X.env := by rfl) (hc : X.calm = true := by rfl) : PE X (.Call (.Name "max" p) [e] [] pos) (tCB (rMaxN K) (tCons te tNil)) := by
  obtain ⟨rfl, rfl, rfl⟩ := hX
  exact pe_callB (cr_maxN hc hr.units) hg B.max (by decide +kernel) (pa_cons he pa_nil hs) (by decide) (by decide) hs
theorem e_max2 (B : Bn K mg) (he : PE X e te) (hf : PE X f tf) (hX : X.mg = mg := by rfl) (hg : Gl X "max" := by rfl) (hs : starEach [e, f] X.env = (false, eval e X.env) :: starEach [f] X.env := by rfl) (hs2 : starEach [f] X.env = (false, eval f X.env) :: starEach [] X.env := by rfl) (hc : X.calm = true := by rfl)
    (hpl : (backTo pos (starEach [f] X.env)).any (·.1) = false := by rfl) : PE X (.Call (.Name "max" p) [e, f] [] pos) (tCB rMax2 (tCons te (tCons tf tNil))) :=
  pe_callB (call_max2 hc) hg (by rw [hX]; exact B.max) (by decide +kernel) (pa_cons he (pa_cons hf pa_nil hs2) hs) (by decide) (by decide) hs hpl
theorem e_min2 (B : Bn K mg) (he : PE X e te) (hf : PE X f tf) (hX : X.mg = mg := by rfl) (hg : Gl X "min" := by rfl) (hs : starEach [e, f] X.env = (false, eval e X.env) :: starEach [f] X.env := by rfl) (hs2 : starEach [f] X.env = (false, eval f X.env) :: starEach [] X.env := by rfl) (hc : X.calm = true := by rfl)
    (hpl : (backTo pos (starEach [f] X.env)).any (·.1) = false := by rfl) : PE X (.Call (.Name "min" p) [e, f] [] pos) (tCB rMin2 (tCons te (tCons tf tNil))) :=
  pe_callB (call_min2 hc) hg (by rw [hX]; exact B.min) (by decide +kernel) (pa_cons he (pa_cons hf pa_nil hs2) hs) (by decide) (by decide) hs hpl
/-- isinstance(x, T), T a built-in class -/
theorem e_isi {T : String} {x : Str} (B : Bn K mg) (he : PE X e te) (hmx : mg x = none) (hv : bootBuiltins x = some (.type T)) (hX : X.mg = mg ∧ X.K = K := by exact ⟨rfl, rfl⟩) (hn : x ≠ "__name__" := by decide) (hdx : (x == ("__debug__" : Str)) = false := by decide) (hg : Gl X "isinstance" := by rfl) (hgx : Gl X x := by rfl)
    (hs : starEach [e, .Name x p2] X.env = (false, eval e X.env) :: starEach [.Name x p2] X.env := by rfl) (hs2 : starEach [.Name x p2] X.env = (false, eval (.Name x p2) X.env) :: starEach [] X.env := by rfl)
    (hpl : (backTo pos (starEach [.Name x p2] X.env)).any (·.1) = false := by rfl) : PE X (.Call (.Name "isinstance" p) [e, .Name x p2] [] pos) (tCB (rIsi K) (tCons te (tCons (tC (.ty T)) tNil))) := by
  obtain ⟨rfl, rfl⟩ := hX
  exact pe_callB call_isi hg B.isinstance (by decide +kernel) (pa_cons he (pa_cons (pe_bltn (v := .ty T) hgx hmx hv rfl hn hdx) pa_nil hs2) hs) (by decide) (by decide) hs hpl
/-- a call of a built-in by its rule -/
theorem e_blt {x : Str} {id : String} {r : List V → Hp → VK → Prop} (hc : CallR X (.builtin id) r) (hm : mg x = none) (hv : bootBuiltins x = some (.builtin id)) (he : PE X e te) (hX : X.mg = mg := by rfl) (hg : Gl X x := by rfl) (hn : x ≠ "__name__" := by decide) (hdx : (x == ("__debug__" : Str)) = false := by decide)
    (hs : starEach [e] X.env = (false, eval e X.env) :: starEach [] X.env := by rfl) : PE X (.Call (.Name x p) [e] [] pos) (tCB r (tCons te tNil)) :=
  pe_callB hc hg (by rw [hX]; exact hm) hv (pa_cons he pa_nil hs) hn hdx hs
theorem e_btT {x : Str} {T : String} {r : List V → Hp → VK → Prop} (hc : CallR X (.type T) r) (hm : mg x = none) (hv : bootBuiltins x = some (.type T)) (he : PE X e te) (hX : X.mg = mg := by rfl) (hg : Gl X x := by rfl) (hn : x ≠ "__name__" := by decide) (hdx : (x == ("__debug__" : Str)) = false := by decide)
    (hs : starEach [e] X.env = (false, eval e X.env) :: starEach [] X.env := by rfl) : PE X (.Call (.Name x p) [e] [] pos) (tCB r (tCons te tNil)) :=
  pe_callTy hc hg (by rw [hX]; exact hm) hv (pa_cons he pa_nil hs) hn hdx hs
theorem e_dget (hr : Room k A) (ho : PE X e te) (hi : PE X f tf) (hX : X.A = A := by rfl) (hs : NoSl f := by exact fun _ _ => rfl) : PE X (.Subscript e f pos) (tDGet te tf) := pe_dget (by rw [hX]; exact hu_of hr) ho hi hs
theorem o_eqD (B : Bn K mg) (hr : Room k A) (hX : X.A = A ∧ X.K = K := by exact ⟨rfl, rfl⟩) : OpR X (compareOp .Eq) (rEqD K) := by
  obtain ⟨rfl, rfl⟩ := hX
  exact op_eqD hr.units
theorem o_neD (B : Bn K mg) (hr : Room k A) (hX : X.A = A ∧ X.K = K := by exact ⟨rfl, rfl⟩) : OpR X (compareOp .NotEq) (rNeD K) := by
  obtain ⟨rfl, rfl⟩ := hX
  exact op_neD hr.units
theorem o_inD (B : Bn K mg) (hr : Room k A) (hX : X.A = A ∧ X.K = K := by exact ⟨rfl, rfl⟩) : OpR X (compareOp .In) (rInD K) := by
  obtain ⟨rfl, rfl⟩ := hX
  exact op_inD (by have := hr.un; omega)
theorem o_notInD (B : Bn K mg) (hr : Room k A) (hX : X.A = A ∧ X.K = K := by exact ⟨rfl, rfl⟩) : OpR X (compareOp .NotIn) (rNotInD K) := by
  obtain ⟨rfl, rfl⟩ := hX
  exact op_notInD (by have := hr.un; omega)
theorem o_inTD (B : Bn K mg) (hr : Room k A) (hX : X.A = A ∧ X.K = K := by exact ⟨rfl, rfl⟩) : OpR X (compareOp .In) (rInT K) := by
  obtain ⟨rfl, rfl⟩ := hX
  exact op_inTD (by have := hr.un; omega)
theorem o_notInTD (B : Bn K mg) (hr : Room k A) (hX : X.A = A ∧ X.K = K := by exact ⟨rfl, rfl⟩) : OpR X (compareOp .NotIn) (rNotInT K) := by
  obtain ⟨rfl, rfl⟩ := hX
  exact op_notInTD (by have := hr.un; omega)
theorem i_range1 (B : Bn K mg) {tg : Expr} (he : PE X e te) (hX : X.mg = mg := by rfl) (hg : Gl X "range" := by rfl) (hs : starEach [e] X.env = (false, eval e X.env) :: starEach [] X.env := by rfl) (hs1 : starEach [e] X.env = [(false, eval e X.env)] := by rfl) : PI X tg (.Call (.Name "range" p) [e] [] pos) (iRng1 (tCons te tNil)) :=
  pi_range1 hg (by rw [hX]; exact B.range) (pa_cons he pa_nil hs) hs1
theorem i_range2 (B : Bn K mg) {tg : Expr} (he : PE X e te) (hf : PE X f tf) (hX : X.mg = mg := by rfl) (hg : Gl X "range" := by rfl) (hs : starEach [e, f] X.env = (false, eval e X.env) :: starEach [f] X.env := by rfl) (hs0 : starEach [f] X.env = (false, eval f X.env) :: starEach [] X.env := by rfl)
    (hs1 : starEach [e, f] X.env = [(false, eval e X.env), (false, eval f X.env)] := by rfl) (hs2 : starEach [f] X.env = [(false, eval f X.env)] := by rfl) : PI X tg (.Call (.Name "range" p) [e, f] [] pos) (iRng2 (tCons te (tCons tf tNil))) :=
  pi_range2 hg (by rw [hX]; exact B.range) (pa_cons he (pa_cons hf pa_nil hs0) hs) hs1 hs2
theorem i_enum (B : Bn K mg) {elts : List Expr} {kk : Nat} {tpos : Pos} (he : PE X e te) (hX : X.mg = mg ∧ X.K = K := by exact ⟨rfl, rfl⟩) (hg : Gl X "enumerate" := by rfl) (hs : starEach [e] X.env = (false, eval e X.env) :: starEach [] X.env := by rfl) (hs1 : starEach [e] X.env = [(false, eval e X.env)] := by rfl) :
    PI X (.Tuple elts kk tpos) (.Call (.Name "enumerate" p) [e] [] pos) (iEnum K (tCons te tNil)) := by
  obtain ⟨rfl, rfl⟩ := hX
  exact pi_enum hg B.enumerate (pa_cons he pa_nil hs) hs1
theorem i_enumT (B : Bn K mg) {elts : List Expr} {kk : Nat} {tpos : Pos} (he : PE X e te) (hX : X.mg = mg ∧ X.K = K := by exact ⟨rfl, rfl⟩) (hg : Gl X "enumerate" := by rfl) (hs1 : starEach [e] X.env = [(false, eval e X.env)] := by rfl) :
    PI X (.Tuple elts kk tpos) (.Call (.Name "enumerate" p) [e] [] pos) (iEnumT K te) := by
  obtain ⟨rfl, rfl⟩ := hX
  exact pi_enumT B.enumerate he hg hs1
theorem e_lenSet (B : Bn K mg) {q : Pos} {a : Expr} (ha : PE X a ta) (hX : X.mg = mg ∧ X.K = K := by exact ⟨rfl, rfl⟩) (hg : Gl X "len" := by rfl) (hg2 : Gl X "set" := by rfl) (hc : X.calm = true := by rfl)
    (na : starEach [a] X.env = (false, eval a X.env) :: starEach [] X.env := by rfl) : PE X (.Call (.Name "len" p) [.Call (.Name "set" p2) [a] [] q] [] pos) (tLenSetN K ta) := by
  obtain ⟨rfl, rfl⟩ := hX
  exact pe_lenSetN B.len B.set ha hg hg2 hc na
theorem o_ixT (B : Bn K mg) (hX : X.K = K := by rfl) : IxR X (rIxT K) := by rw [← hX]; exact ix_tup
theorem o_ixL (B : Bn K mg) (hX : X.K = K := by rfl) : IxR X (rIxL K) := by rw [← hX]; exact ix_list
theorem o_in (B : Bn K mg) (hX : X.K = K := by rfl) : OpR X (compareOp .In) (rIn K false) := by rw [← hX]; exact op_in_seq
theorem o_notIn (B : Bn K mg) (hX : X.K = K := by rfl) : OpR X (compareOp .NotIn) (rIn K true) := by rw [← hX]; exact op_notIn_seq
theorem o_catA (B : Bn K mg) (hX : X.K = K := by rfl) : OpR X (binaryOp .Add) (rCatA K) := by rw [← hX]; exact op_catA
theorem o_repT (B : Bn K mg) (hX : X.K = K := by rfl) : OpR X (binaryOp .Mult) (rTimes K) := by rw [← hX]; exact op_times
theorem o_slT (B : Bn K mg) (hX : X.K = K := by rfl) : SlR X (rSlA K) := by rw [← hX]; exact sl_tupA
theorem o_slL (B : Bn K mg) (hX : X.K = K := by rfl) : SlR X (rSlL K) := by rw [← hX]; exact sl_list
theorem i_list (B : Bn K mg) {tg l : Expr} {tl : TE} (h : PE X l tl) (hX : X.K = K := by rfl) : PI X tg l (iList K tl) := by rw [← hX]; exact pi_list h
theorem i_tup (B : Bn K mg) {tg l : Expr} {tl : TE} (h : PE X l tl) (hX : X.K = K := by rfl) : PI X tg l (iTup K tl) := by rw [← hX]; exact pi_tup h
theorem g_tup (B : Bn K mg) {es : List Expr} {kk : Nat} {t : TGs} {n : Nat} (hc : X.calm = true) (h : PGs X es t) (hX : X.K = K := by rfl) (hn : (assignEach es X.env).length = n := by rfl) (hst : (assignEach es X.env).findIdx? (·.1) = none := by rfl) : PG X (.Tuple es kk pos) (gTup K n t) := by rw [← hX]; exact pg_tup hc h hn hst
theorem m_index (B : Bn K mg) (hX : X.K = K := by rfl) : MtR X "list.index" (rIndex K) := by rw [← hX]; exact mt_index
theorem e_bm (B : Bn K mg) {o : Expr} {to : TE} {nm : Str} {apos cpos : Pos} {T id : String} {r : V → List V → Hp → VK → Prop} (pa : PlainAttrs T) (slot : Slot T nm id) (hty : typeOf (.builtin id) = pure (.type "method_descriptor")) (hm : MtR X id r) (ho : PE X o to) (ha : PA X (e :: es) t) (hX : X.K = K := by rfl)
    (hbase : attributeBase o nm X.env (eval o X.env) = eval o X.env := by rfl)
    (hfew : ((backTo cpos (starEach (e :: es) X.env)).all (fun x => !x.1) && (backToKw cpos (keywordEach [] X.env)).all (fun x => x.1.isSome)
      && decide ((e :: es).length + ([] : List Keyword).length + (if ([] : List Keyword).isEmpty then 0 else 1) < 30)) = true := by rfl)
    (hline : (apos.endLine == cpos.line) = true := by rfl) (hs : starEach (e :: es) X.env = (false, eval e X.env) :: starEach es X.env := by rfl) (hplain : (backTo cpos (starEach es X.env)).any (·.1) = false := by rfl) :
    PE X (.Call (.Attribute o nm apos) (e :: es) [] cpos) (tBM K T r to t) := by
  rw [← hX]
  exact pe_bm pa slot hty hm ho ha hbase hfew hline hs hplain
theorem r_sortD (B : Bn K mg) (hX : X.K = K := by rfl) : CallR X (.builtin "sorted") (rSorted K) := by rw [← hX]; exact cr_sorted
end
/-! ### answers to the questions -/
section
variable {K : PySem.W.Frag} {H : Hp} {Q : VK} {v : V} {ds : List PyData}
theorem lenT_of (h : Dp K H v (.tuple ds)) (q : Q (nV ds.length) H) : rLen K [v] H Q := by
  obtain ⟨a, xs, rfl, hs, ha⟩ := dp_tup h
  exact ⟨a, xs, rfl, .inr hs, by rw [dpa_len ha]; exact q⟩
theorem lenL_of (h : Dp K H v (.list ds)) (q : Q (nV ds.length) H) : rLen K [v] H Q := by
  obtain ⟨a, xs, rfl, hs, ha⟩ := dp_lst h
  exact ⟨a, xs, rfl, .inl hs, by rw [dpa_len ha]; exact q⟩
theorem tup_of {p : Addr} {xs : List V} (h : H p = some (.lst xs)) (ha : DpAll K H xs ds) (q : Ret K (.tuple ds) H Q) : rTup K [.ref p] H Q :=
  ⟨p, xs, rfl, .inl ⟨.of h, fun l hl => q _ _ (Same.new hl) (dp_new_tup ha hl)⟩⟩
theorem tupN_of {p : Addr} {ns : List Nat} (h : H p = some (.lst (ns.map nV))) (q : RetN ns H Q) : rTup K [.ref p] H Q :=
  ⟨p, _, rfl, .inl ⟨.of h, fun l hl => q _ _ (Same.new hl) upd_same⟩⟩
theorem all_of {v : V} {bs : List Bool} (h : Dp K H v (.list (bs.map PyData.bool))) (q : Q (.bl (bs.all id)) H) : rAll K [v] H Q := by
  obtain ⟨a, xs, rfl, hs, ha⟩ := dp_lst h
  have : ∀ (bs : List Bool) (xs : List V), DpAll K H xs (bs.map PyData.bool) → xs = bs.map V.bl := by
    intro bs
    induction bs with
    | nil => intro xs h; cases h; rfl
    | cons b bs ih =>
      intro xs h
      cases h with
      | cons a t => rw [dp_bl a, ih _ t]; rfl
  rw [this bs xs ha] at hs
  exact ⟨a, bs, rfl, hs, q⟩
/-- a value of a kind -/
theorem ty_tup (h : Dp K H v (.tuple ds)) : TyX K H v (.type "tuple") := by
  obtain ⟨a, xs, rfl, (h | ⟨o, h⟩) | ⟨o, its, n, h, hc, _⟩, _⟩ := dp_tup h
  · exact .base (.tup h)
  · exact .fTuple h
  · exact .kTuple h hc
end
/-! ### comprehensions and loops over data -/
/-- the heap without one thing -/
def hide (H : Hp) (D : Addr) : Hp := fun b => if b = D then none else H b
theorem hide_ne {H : Hp} {D b : Addr} (h : b ≠ D) : hide H D b = H b := if_neg h
theorem hide_at {H : Hp} {D : Addr} : hide H D D = none := if_pos rfl
theorem hide_same (H : Hp) (D : Addr) : Same (hide H D) H := fun b o e => by
  by_cases h : b = D
  · subst h; rw [hide_at] at e; cases e
  · rwa [hide_ne h] at e
theorem hide_upd {H : Hp} {D : Addr} {o : HO} : hide (upd H D o) D = hide H D := by
  funext b
  by_cases h : b = D
  · subst h; rw [hide_at, hide_at]
  · rw [hide_ne h, hide_ne h, upd_ne h]
theorem Same.hide {H H' : Hp} (s : Same H H') (D : Addr) : Same (Kp.hide H D) (Kp.hide H' D) := fun b o e => by
  by_cases h : b = D
  · subst h; rw [hide_at] at e; cases e
  · rw [hide_ne h] at e ⊢
    exact s _ _ e
/-- how a heap may go on where data are made -/
structure HR (K : PySem.W.Frag) (R : Hp → Hp → Prop) : Prop where
  refl : ∀ H, R H H
  trans : ∀ {H H1 H2}, R H H1 → R H1 H2 → R H H2
  lst : ∀ {H H' a xs}, R H H' → H a = some (.lst xs) → H' a = some (.lst xs)
  dph : ∀ {H H'} {ds : List PyData} {xs : List V} (D : Addr), R H H' → DpAll K (hide H D) xs ds → DpAll K (hide H' D) xs ds
  wr : ∀ {H H' a o}, R H H' → H a = none → R H (upd H' a o)
theorem hr_same (K : PySem.W.Frag) : HR K Same :=
  { refl := Same.refl, trans := Same.trans, lst := fun s h => s _ _ h, dph := fun D s h => DpAll.same (Same.hide s D) _ _ h, wr := fun s h => Same.mut s h }
/-- data that do not lean on the thing at D -/
abbrev Ap (K : PySem.W.Frag) (H : Hp) (D : Addr) (v : V) (d : PyData) : Prop := Dp K (hide H D) v d
section
variable {K : PySem.W.Frag} {H : Hp} {D : Addr} {v : V}
theorem ap_row {p : List Nat} {acc : List V} (h : Dp K H v (dT p)) (hD : H D = some (.lst acc)) : Ap K H D v (dT p) := by
  obtain ⟨a, rfl, hs⟩ := dp_row h
  refine dp_of_row ?_
  have ne : ∀ {o : HO}, H a = some o → (∀ xs, o ≠ .lst xs) → a ≠ D := fun {o} e n z => by
    subst z
    rw [hD] at e
    cases e
    exact n _ rfl
  rcases hs with (h | ⟨o, h⟩) | h
  · exact .inl (.inl (by rw [hide_ne (ne h fun xs z => nomatch z)]; exact h))
  · exact .inl (.inr ⟨o, by rw [hide_ne (ne h fun xs z => nomatch z)]; exact h⟩)
  · exact .inr h
theorem ap_lst {l : Addr} {xs : List V} {ds : List PyData} (h : H l = some (.lst xs)) (n : l ≠ D) (ha : DpAll K (hide H D) xs ds) : Ap K H D (.ref l) (.list ds) :=
  .lst (.of (by rw [hide_ne n]; exact h)) ha
end
section
variable {K : PySem.W.Frag} {R : Hp → Hp → Prop} {J : It} {n : Nat} {G : Hp → Prop} {Y : Nat → Hp → V → Hp → Prop}
/-- [e for .. if ..], each item told as data -/
theorem lcD (hR : HR K R) (w : Walk J n G Y) {g : TG} {tt : TT} {te : TE} {vs : List Nat} {σ : L2.St} {H1 : Hp} {D : Addr} {Qd : Hp → Prop} (f : Nat → Option PyData) (hD : H1 D = none) (hn : n ≤ 100000) (hG : ∀ H', R H1 H' → G H')
    (hs : ∀ i x H' H'' (Q1 : V → Hp → Prop) (Q0 : Hp → Prop) (acc : List V), i < n → R H1 H' → H' D = some (.lst acc) → Y i H' x H'' → (∀ y H4 d, R H' H4 → f i = some d → Ap K H4 D y d → Q1 y H4) → (∀ H3, R H' H3 → f i = none → Q0 H3) →
      g x (wipe σ vs) H'' fun σ2 H2 => wipe σ2 vs = wipe σ vs ∧ tt σ2 H2 fun b H3 => if b = true then te σ2 H3 Q1 else Q0 H3)
    (hd : ∀ H' xs, R H1 H' → H' D = some (.lst xs) → DpAll K H' xs ((List.range n).filterMap f) → DpAll K (hide H' D) xs ((List.range n).filterMap f) → Qd H') :
    ∃ W : Nat → Nat → Hp → Prop, (∃ m, W 0 m (upd H1 D (.lst []))) ∧ ∀ i m H, W i m H →
      (J.stop i H ∧ Qd H) ∨ (J.go i H ∧ ∃ Nx : Hp → Prop, (∀ H', Nx H' → ∃ m', m' < m ∧ W (i + 1) m' H') ∧ ∀ x H', J.yld i H x H' → g x (wipe σ vs) H' fun σ2 H2 => wipe σ2 vs = wipe σ vs ∧ tt σ2 H2 fun b H3 =>
        if b = true then te σ2 H3 fun y H4 => ∃ acc, H4 D = some (.lst acc) ∧ acc.length < sizeLine ∧ Nx (upd H4 D (.lst (acc ++ [y]))) else Nx H3) := by
  have flen : ∀ i, ((List.range i).filterMap f).length ≤ i := fun i => by
    have := List.length_filterMap_le f (List.range i)
    rwa [List.length_range] at this
  refine lc_it w (fun i H' => i ≤ n ∧ R H1 H' ∧ ∃ xs, H' D = some (.lst xs) ∧ DpAll K (hide H' D) xs ((List.range i).filterMap f)) ⟨Nat.zero_le _, hR.wr (hR.refl _) hD, [], upd_same, .nil⟩ (fun i H' _ p => hG H' p.2.1) (fun i x H' H'' hi p y => ?_) (fun H' p => ?_)
  · obtain ⟨_, r, xs, hx, ha⟩ := p
    refine hs i x H' H'' _ _ xs hi r hx y (fun y H4 d r4 e hd => ?_) (fun H3 r3 e => ?_)
    · refine ⟨xs, hR.lst r4 hx, ?_, hi, hR.wr (hR.trans r r4) hD, xs ++ [y], upd_same, ?_⟩
      · rw [dpa_len ha]
        have := flen i
        rw [sizeLine_eq]
        omega
      · rw [List.range_succ, List.filterMap_append, show [i].filterMap f = [d] by simp [e], hide_upd]
        exact dpa_snoc (hR.dph D r4 ha) hd
    · refine ⟨hi, hR.trans r r3, xs, hR.lst r3 hx, ?_⟩
      rw [List.range_succ, List.filterMap_append, show [i].filterMap f = [] by simp [e], List.append_nil]
      exact hR.dph D r3 ha
  · obtain ⟨_, r, xs, hx, ha⟩ := p
    exact hd H' xs r hx (DpAll.same (hide_same H' D) _ _ ha) ha
theorem fm_map {α : Type} (n : Nat) (f : Nat → α) : (List.range n).filterMap (fun i => some (f i)) = (List.range n).map f := by
  induction n with
  | zero => rfl
  | succ n ih => rw [List.range_succ, List.filterMap_append, List.map_append, ih]; rfl
theorem fm_filter (n : Nat) (t : Nat → Bool) (f : Nat → PyData) : (List.range n).filterMap (fun i => if t i = true then some (f i) else none) = ((List.range n).filter t).map f := by
  induction n with
  | zero => rfl
  | succ n ih =>
    rw [List.range_succ, List.filterMap_append, List.filter_append, List.map_append, ih]
    congr 1
    by_cases h : t n = true
    · simp [h]
    · simp [h]
end
end Kp
set_option Elab.async false
set_option linter.all false
set_option maxRecDepth 100000
set_option maxHeartbeats 4000000
namespace Kp
open PySem PySem.Spec PyProof.Rows L2
/-! ### the questions, one step at a time -/
section
variable {σ : L2.St} {H : Hp} {Q : VK} {v x y : V} {ta tb tc te : TE} {t u c : TT} {s1 s2 : TS} {D : Ends} {i j : Nat} {r r' : R2} {vs : List V} {tr : TA} {K : PySem.W.Frag} {g : TG} {QB : Bool → Hp → Prop}
theorem q_var (h : σ[i]? = some (some v)) (q : Q v H) : tVar i σ H Q := ⟨v, h, q⟩
theorem q_c (q : Q v H) : tC v σ H Q := q
theorem q_op (h : ta σ H fun x H1 => tb σ H1 fun y H2 => r x y H2 Q) : tOp r ta tb σ H Q := h
theorem q_un {r : V → Hp → VK → Prop} (h : ta σ H fun x H1 => r x H1 Q) : tUn r ta σ H Q := h
theorem q_cb {rr : List V → Hp → VK → Prop} (h : tr σ H fun vs H1 => rr vs H1 Q) : tCB rr tr σ H Q := h
theorem q_cons {tr : TA} {QL : List V → Hp → Prop} (h : ta σ H fun x H1 => tr σ H1 fun xs H2 => QL (x :: xs) H2) : tCons ta tr σ H QL := h
theorem q_nil {QL : List V → Hp → Prop} (h : QL [] H) : tNil σ H QL := h
theorem q_call {sp : Sp} {E : XK} (h : tr σ H fun vs H1 => sp (vs ++ []) H1 Q E) : tCall sp [] E tr σ H Q := h
theorem q_test {t : TE} (h : t σ H fun x H' => ∃ k, x = .bl k ∧ QB k H') : tTest t σ H QB := h
theorem q_B {t : TE} (h : t σ H fun x H' => ∃ k, x = .bl k ∧ QB k H') : tB t σ H QB := h
theorem q_not (h : t σ H fun c H1 => QB (!c) H1) : tNot t σ H QB := h
theorem q_and (h : t σ H fun c H1 => if c = true then u σ H1 QB else QB false H1) : tAnd t u σ H QB := h
theorem q_or (h : t σ H fun c H1 => if c = true then QB true H1 else u σ H1 QB) : tOr t u σ H QB := h
theorem q_andV (h : ta σ H fun x H1 => ∃ c, x = .bl c ∧ if c = true then tb σ H1 Q else Q (.bl false) H1) : tAndV ta tb σ H Q := h
theorem q_orV (h : ta σ H fun x H1 => ∃ c, x = .bl c ∧ if c = true then Q (.bl true) H1 else tb σ H1 Q) : tOrV ta tb σ H Q := h
theorem q_notV (h : ta σ H fun x H1 => ∃ c, x = .bl c ∧ Q (.bl (!c)) H1) : tNotV ta σ H Q := h
theorem q_ifx (h : t σ H fun c H1 => if c = true then ta σ H1 Q else tb σ H1 Q) : tIf t ta tb σ H Q := h
theorem q_chain (h : ta σ H fun x H1 => tb σ H1 fun y H2 => r x y H2 fun z H3 => ∃ k, z = .bl k ∧ (if k = true then tc σ H3 fun w' H4 => r' y w' H4 Q else Q (.bl false) H3)) : tChain r r' ta tb tc σ H Q := h
theorem q_tup (h : tr σ H fun xs H1 => xs.length ≤ sizeLine ∧ ∀ p, H1 p = none → Q (.ref p) (upd H1 p (.tup xs))) : tTup tr σ H Q := h
theorem q_lst (h : tr σ H fun xs H1 => xs.length ≤ sizeLine ∧ ∀ p, H1 p = none → Q (.ref p) (upd H1 p (.lst xs))) : tLst tr σ H Q := h
theorem q_bm {T : String} {rr : V → List V → Hp → VK → Prop} (h : ta σ H fun x H1 => tyV K T x H1 ∧ tr σ H1 fun xs H2 => rr x xs H2 Q) : tBM K T rr ta tr σ H Q := h
theorem q_bm0 {T : String} {rr : V → List V → Hp → VK → Prop} (h : ta σ H fun x H1 => tyV K T x H1 ∧ rr x [] H1 Q) : tBM0 K T rr ta σ H Q := h
theorem q_seq (h : s1 { D with nx := s2 D } σ H) : tSeq s1 s2 D σ H := h
theorem q_asg (h : te σ H fun x H1 => g x σ H1 D.nx) : tAsg te g D σ H := h
theorem q_name {QS : L2.St → Hp → Prop} (h : QS (σ.set i (some v)) H) : gName i v σ H QS := h
theorem q_ret (h : te σ H D.rt) : tRet te D σ H := h
theorem q_drop (h : te σ H fun _ H1 => D.nx σ H1) : tDrop te D σ H := h
theorem q_ifs (h : c σ H fun b H1 => if b = true then s1 D σ H1 else s2 D σ H1) : tIfS c s1 s2 D σ H := h
theorem q_next (h : D.nx σ H) : tNext D σ H := h
theorem q_par (h : tr σ H fun vs H1 => ∃ v w, vs = [v, w] ∧ D.nx ((σ.set i (some v)).set j (some w)) H1) : tPar i j tr D σ H := h
theorem q_yes (h : QB true H) : tYes σ H QB := h
theorem q_bl {b : Bool} {P : Bool → Prop} (q : P b) : ∃ k, V.bl b = .bl k ∧ P k := ⟨b, rfl, q⟩
theorem q_I0 {f : Int → Int → V} {a b : Int} (q : Q (f a b) H) : rI0 f (.int a) (.int b) H Q := ⟨a, b, rfl, rfl, q⟩
theorem q_I {C : Int → Int → Prop} {f : Int → Int → V} {a b : Int} (h : C a b) (q : Q (f a b) H) : rI C f (.int a) (.int b) H Q := ⟨a, b, rfl, rfl, h, q⟩
theorem q_int {a : Int} (q : Q (.int a) H) : rInt [.int a] H Q := .inl ⟨a, rfl, q⟩
theorem q_eqI {a b : Int} (q : Q (.bl (decide (V.int a = V.int b))) H) : rEq (.int a) (.int b) H Q := ⟨rfl, q⟩
theorem q_neI {a b : Int} (q : Q (.bl (!decide (V.int a = V.int b))) H) : rNe (.int a) (.int b) H Q := ⟨rfl, q⟩
theorem q_nt {A B : Prop} (h : B) : if (!true) = true then A else B := by rw [if_neg (by decide)]; exact h
theorem q_nf {A B : Prop} (h : A) : if (!false) = true then A else B := by rw [if_pos (by decide)]; exact h
theorem q_nnt {A B : Prop} (h : A) : if (!!true) = true then A else B := by rw [if_pos (by decide)]; exact h
/-- an open test -/
theorem q_dec {p : Prop} [Decidable p] {A B : Prop} (h1 : p → A) (h2 : ¬ p → B) : if decide p = true then A else B := by
  by_cases h : p
  · rw [decide_eq_true h]; exact iteT (h1 h)
  · rw [decide_eq_false h]; exact iteF (h2 h)
theorem q_ndec {p : Prop} [Decidable p] {A B : Prop} (h1 : ¬ p → A) (h2 : p → B) : if (!decide p) = true then A else B := by
  by_cases h : p
  · rw [decide_eq_true h]; exact iteF (h2 h)
  · rw [decide_eq_false h]; exact iteT (h1 h)
theorem q_isN (q : Q (.bl (decide (x = .non))) H) : (fun x y H Q => y = V.non ∧ Q (V.bl (decide (x = .non))) H : R2) x .non H Q := ⟨rfl, q⟩
theorem q_lstRg (h : te σ H fun x H1 => ∃ n, x = .int n ∧ RgOk 0 n ∧ ∀ q, H1 q = none → Q (.ref q) (upd H1 q (.lst (rgV 0 n)))) : tLstRg (tRg1 te) σ H Q := h
theorem q_tupRg (h : te σ H fun x H1 => ∃ n, x = .int n ∧ RgOk 0 n ∧ ∀ q, H1 q = none → Q (.ref q) (upd H1 q (.tup (rgV 0 n)))) : tTupRg (tRg1 te) σ H Q := h
theorem q_isi {K : PySem.W.Frag} {T S : String} {b : Bool} (ty : TyX K H x (.type T)) (k : kitB T S = some b) (q : Q (.bl b) H) : rIsi K [x, .ty S] H Q := ⟨x, .ty S, .type T, .type S, b, rfl, .ty S, ty, kit_ty k, q⟩
end
/-! loops -/
section
variable {K : PySem.W.Frag} {σ : L2.St} {H : Hp} {te tl : TE} {ta : TA} {R : It → Hp → Prop} {g : TG} {tb : TS} {D : Ends} {wi : TI} {v x y : V} {i j : Nat} {QS : L2.St → Hp → Prop} {Q : VK}
theorem q_for (h : wi σ H fun J H1 => ∃ W : Nat → Nat → L2.St → Hp → Prop, (∃ m, W 0 m σ H1) ∧ ∀ i m σ H, W i m σ H →
  (J.stop i H ∧ D.nx σ H) ∨ (J.go i H ∧ ∃ N : L2.St → Hp → Prop, (∀ σ' H', N σ' H' → ∃ m', m' < m ∧ W (i + 1) m' σ' H') ∧ ∀ x H', J.yld i H x H' → g x σ H' fun σ2 H2 => tb { D with nx := N, ct := N, bk := D.nx } σ2 H2)) : tFor wi g tb D σ H := h
theorem q_iTup (h : tl σ H fun x H1 => ∃ a, x = .ref a ∧ (∃ xs, SqT K H1 a xs) ∧ R (Itt K a) H1) : iTup K tl σ H R := h
theorem q_iList (h : tl σ H fun x H1 => ∃ a, x = .ref a ∧ (∃ xs, SqL K H1 a xs) ∧ R (Itl K a) H1) : iList K tl σ H R := h
theorem q_iEnumT (h : te σ H fun v H1 => ∃ a xs, [v] = [V.ref a] ∧ SqT K H1 a xs ∧ R (IteT K a) H1) : iEnumT K te σ H R := h
theorem q_iEnum (h : ta σ H fun vs H1 => ∃ a xs, vs = [.ref a] ∧ SqL K H1 a xs ∧ R (Ite K a) H1) : iEnum K ta σ H R := h
theorem q_iRng1 (h : ta σ H fun vs H1 => ∃ j : Int, vs = [.int j] ∧ -(2 ^ 62) ≤ j ∧ j < 2 ^ 62 ∧ R (Itr 0 j.toNat) H1) : iRng1 ta σ H R := h
theorem q_iRng2 (h : ta σ H fun vs H1 => ∃ i j : Int, vs = [.int i, .int j] ∧ (-(2 ^ 62) ≤ i ∧ i < 2 ^ 62 ∧ -(2 ^ 62) ≤ j ∧ j < 2 ^ 62) ∧ R (Itr i (j - i).toNat) H1) : iRng2 ta σ H R := h
theorem q_lc {tt : TT} {vs : List Nat} (h : wi σ H fun J H1 => ∀ D, H1 D = none → ∃ W : Nat → Nat → Hp → Prop, (∃ m, W 0 m (upd H1 D (.lst []))) ∧ ∀ i m H, W i m H →
  (J.stop i H ∧ Q (.ref D) H) ∨ (J.go i H ∧ ∃ Nx : Hp → Prop, (∀ H', Nx H' → ∃ m', m' < m ∧ W (i + 1) m' H') ∧ ∀ x H', J.yld i H x H' → g x (wipe σ vs) H' fun σ2 H2 => wipe σ2 vs = wipe σ vs ∧ tt σ2 H2 fun b H3 =>
    if b = true then te σ2 H3 fun y H4 => ∃ acc, H4 D = some (.lst acc) ∧ acc.length < sizeLine ∧ Nx (upd H4 D (.lst (acc ++ [y]))) else Nx H3)) : tLc wi g tt te vs σ H Q := h
/-- i, x = a new pair -/
theorem q_pair {T : Addr} (h : H T = some (.tup [x, y])) (q : QS ((σ.set i (some x)).set j (some y)) H) : gTup K 2 (gCons (gName i) (gCons (gName j) gNil)) (.ref T) σ H QS :=
  ⟨T, [x, y], rfl, .of h, rfl, x, [y], rfl, y, [], rfl, rfl, q⟩
theorem q_dsetd {td ty tx : TE} (h : td σ H fun x H1 => ∃ a, x = .ref a ∧ IsD H1 a ∧ ty σ H1 fun y H2 => tx σ H2 fun z H3 => ∃ (kvs : List (Key × V)) (k : Key), H3 a = some (.dK kvs) ∧ y = kV k ∧ kvs.length < sizeLine ∧
  (∀ v, valV kvs k = some v → Q v H3) ∧ (valV kvs k = none → Q z (upd H3 a (.dK (putK kvs k z))))) : tDSetd td ty tx σ H Q := h
theorem q_dget {td ty : TE} (h : td σ H fun x H1 => ty σ H1 fun y H2 => ∃ a v, x = .ref a ∧ DGet H2 a y (some v) ∧ Q v H2) : tDGet td ty σ H Q := h
theorem q_din {td ty : TE} (h : ty σ H fun y H1 => td σ H1 fun x H2 => ∃ a o, x = .ref a ∧ DGet H2 a y o ∧ Q (.bl o.isSome) H2) : tDIn ty td σ H Q := h
theorem q_dnotin {td ty : TE} (h : ty σ H fun y H1 => td σ H1 fun x H2 => ∃ a o, x = .ref a ∧ DGet H2 a y o ∧ Q (.bl (!o.isSome)) H2) : tDNotIn ty td σ H Q := h
theorem q_dput {td ty tv : TE} (h : tv σ H fun v H1 => td σ H1 fun x H2 => ty σ H2 fun y H3 => ∃ a H4, x = .ref a ∧ DPut H3 a y v H4 ∧ D.nx σ H4) : sDPut td ty tv D σ H := h
theorem q_sl {r : V → Option Int → Option Int → Hp → VK → Prop} {t1 t2 : TO} (h : te σ H fun x H1 => t1 σ H1 fun l H2 => t2 σ H2 fun u H3 => r x l u H3 Q) : tSl r te t1 t2 σ H Q := h
theorem q_nopart {QO : Option Int → Hp → Prop} (h : QO none H) : tNoPart σ H QO := h
theorem q_part {QO : Option Int → Hp → Prop} (h : te σ H fun x H1 => ∃ i, x = .int i ∧ QO (some i) H1) : tPart te σ H QO := h
theorem q_exI {a : Int} {P : Int → Prop} (q : P a) : ∃ i, V.int a = .int i ∧ P i := ⟨a, rfl, q⟩
theorem q_dnewK (h : ∀ p, H p = none → Q (.ref p) (upd H p (.dK []))) : tDNewK σ H Q := h
end
/-! ### answers -/
section
variable {K : PySem.W.Frag} {σ : L2.St} {H : Hp} {Q : VK}
/-- xs.append(v) -/
theorem app_of {l : Addr} {xs : List V} {v : V} (h : H l = some (.lst xs)) (hz : xs.length < 100000) (q : Q .non (upd H l (.lst (xs ++ [v])))) : rAppend (.ref l) [v] H Q :=
  ⟨l, xs, v, rfl, rfl, h, Nat.lt_of_lt_of_le hz (by rw [sizeLine_eq]; omega), q⟩
theorem ty_of {l : Addr} {xs : List V} (h : H l = some (.lst xs)) : tyV K "list" (.ref l) H := .inl ⟨rfl, _, .of h⟩
theorem tail_of {a : Addr} {xs : List V} (h : SqL K H a xs) (q : ∀ p, H p = none → Q (.ref p) (upd H p (.lst xs.tail))) : rSlL K (.ref a) (some 1) none H Q := by
  refine ⟨a, xs, rfl, h, fun p hp => ?_⟩
  have e : cutV xs (some 1) none = xs.tail := by
    unfold cutV
    rw [show HT.sIx xs.length 0 (some 1) = min 1 xs.length from HT.sIx_nat xs.length 0 1, HT.sIx_none]
    cases xs with
    | nil => rfl
    | cons x r =>
      have : min 1 (x :: r).length = 1 := by rw [List.length_cons]; omega
      rw [this, List.length_cons, Nat.add_sub_cancel]
      exact List.take_length
  rw [e]
  exact q p hp
theorem shaped_nums : ∀ p : List Nat, PyData.canLayAll0 (p.map dI) = true ∧ PyData.depthAll (p.map dI) = 0
  | [] => ⟨by simp [PyData.canLayAll0], by simp [PyData.depthAll]⟩
  | x :: p => ⟨by simp [PyData.canLayAll0, PyData.canLay0, (shaped_nums p).1], by simp [PyData.depthAll, PyData.depth, (shaped_nums p).2]⟩
theorem shaped_dT (p : List Nat) : SeqAt.shaped (dT p) = true := by
  show ((dT p).canLay0 && decide ((dT p).depth ≤ 64)) = true
  simp [PyData.canLay0, PyData.depth, shaped_nums p]
theorem shaped_dL (p : List Nat) : SeqAt.shaped (dL p) = true := by
  show ((dL p).canLay0 && decide ((dL p).depth ≤ 64)) = true
  simp [PyData.canLay0, PyData.depth, shaped_nums p]
theorem eqv_nums : ∀ p q : List Nat, PyData.eqvAll (p.map dI) (q.map dI) = decide (p = q)
  | [], [] => by simp [PyData.eqvAll]
  | [], _ :: _ => by simp [PyData.eqvAll]
  | _ :: _, [] => by simp [PyData.eqvAll]
  | x :: p, y :: q => by
    simp only [List.map_cons, PyData.eqvAll, PyData.eqv, eqv_nums p q]
    by_cases h1 : x = y
    · subst h1
      by_cases h2 : p = q <;> simp [h2]
    · have : ((x : Int) == (y : Int)) = false := beq_eq_false_iff_ne.mpr (by omega)
      rw [this]
      simp [h1]
theorem eqv_dT (p q : List Nat) : PyData.eqv (dT p) (dT q) = decide (p = q) := by simp only [PyData.eqv, eqv_nums]
theorem eqv_dL (p q : List Nat) : PyData.eqv (dL p) (dL q) = decide (p = q) := by simp only [PyData.eqv, eqv_nums]
end
end Kp
set_option Elab.async false
set_option linter.all false
set_option maxRecDepth 100000
set_option maxHeartbeats 4000000
namespace Kp
open PySem PySem.Spec PyProof.Rows L2
local macro_rules | `(tactic| walk_at "q") => `(tactic| repeat (with_reducible first
  | refine q_seq ?_ | refine q_asg ?_ | refine q_name ?_ | refine q_ret ?_ | refine q_drop ?_ | refine q_ifs ?_ | refine q_next ?_ | refine q_par ?_
  | refine q_var (by with_unfolding_all exact rfl) ?_ | refine q_c ?_ | refine q_op ?_ | refine q_un ?_ | refine q_cb ?_ | refine q_cons ?_ | refine q_nil ?_ | refine q_call ?_
  | refine q_test ?_ | refine q_B ?_ | refine q_not ?_ | refine q_and ?_ | refine q_or ?_ | refine q_andV ?_ | refine q_orV ?_ | refine q_notV ?_ | refine q_ifx ?_ | refine q_chain ?_
  | refine q_tup ?_ | refine q_lst ?_ | refine q_bm ?_ | refine q_bm0 ?_ | refine q_yes ?_ | refine q_bl ?_ | refine q_I0 ?_ | refine q_int ?_ | refine q_eqI ?_ | refine q_neI ?_
  | refine q_dsetd ?_ | refine q_dget ?_ | refine q_din ?_ | refine q_dnotin ?_ | refine q_dput ?_ | refine q_sl ?_ | refine q_nopart ?_ | refine q_part ?_ | refine q_exI ?_ | refine q_dnewK ?_
  | refine q_for ?_ | refine q_lc ?_ | refine q_iTup ?_ | refine q_iList ?_ | refine q_iEnumT ?_ | refine q_iEnum ?_ | refine q_iRng1 ?_ | refine q_iRng2 ?_ | refine q_lstRg ?_ | refine q_tupRg ?_
  | refine iteT ?_ | refine iteF ?_ | refine q_nt ?_ | refine q_nf ?_))
abbrev s_is_whole : Stmt := topS 9
theorem sc_is_whole : FnScope ["value", "least", "most"] ["value", "least", "most"] (defScope s_is_whole) := ⟨rfl, rfl, rfl, by decide +kernel, rfl, by decide +kernel, by decide +kernel⟩
abbrev s_is_line : Stmt := topS 10
theorem sc_is_line : FnScope ["value", "letters"] ["value", "letters"] (defScope s_is_line) := ⟨rfl, rfl, rfl, by decide +kernel, rfl, by decide +kernel, by decide +kernel⟩
abbrev s_wrong_in_table : Stmt := topS 11
theorem sc_wrong_in_table : FnScope ["value", "letters", "number", "line", "letter", "goal"] ["value"] (defScope s_wrong_in_table) := ⟨rfl, rfl, rfl, by decide +kernel, rfl, by decide +kernel, by decide +kernel⟩
abbrev s_wrong_place : Stmt := topS 12
theorem sc_wrong_place : FnScope ["thing", "wrong", "number", "shown"] ["thing"] (defScope s_wrong_place) := ⟨rfl, rfl, rfl, by decide +kernel, rfl, by decide +kernel, by decide +kernel⟩
abbrev s_need_machine : Stmt := topS 13
theorem sc_need_machine : FnScope ["thing", "place"] ["thing"] (defScope s_need_machine) := ⟨rfl, rfl, rfl, by decide +kernel, rfl, by decide +kernel, by decide +kernel⟩
abbrev s_size_of : Stmt := topS 14
theorem sc_size_of : FnScope ["machine"] ["machine"] (defScope s_size_of) := ⟨rfl, rfl, rfl, by decide +kernel, rfl, by decide +kernel, by decide +kernel⟩
abbrev s_letters_of : Stmt := topS 15
theorem sc_letters_of : FnScope ["machine"] ["machine"] (defScope s_letters_of) := ⟨rfl, rfl, rfl, by decide +kernel, rfl, by decide +kernel, by decide +kernel⟩
abbrev s_need_standing : Stmt := topS 16
theorem sc_need_standing : FnScope ["machine", "standing"] ["machine", "standing"] (defScope s_need_standing) := ⟨rfl, rfl, rfl, by decide +kernel, rfl, by decide +kernel, by decide +kernel⟩
section
variable {P : Program} {w : World} {K : PySem.W.Frag} {mg : Str → Option Value} {base : Heap}
def spWhole : Sp := fun vs H Q _ => ∃ x lo hi : Int, vs = [.int x, .int lo, .int hi] ∧ Q (.bl (decide (lo ≤ x ∧ x ≤ hi))) H
theorem ok_is_whole (B : Bn K mg) (D : Def K mg "is_whole" s_is_whole ["value", "least", "most"]) : Cal P w K mg base 1 "is_whole" ["value", "least", "most"] spWhole := by
  refine D.cal sc_is_whole (fun vs H Q E h => ?_) (fun f cdv A outer s H vs Q E hr h => ?_)
  · obtain ⟨x, lo, hi, rfl, _⟩ := h
    rfl
  · obtain ⟨x, lo, hi, rfl, q⟩ := h
    refine ⟨_, (pss_one (ps_ret (pe_and (e_isi (T := "int") B (pv 0) B.int (by decide +kernel)) (pe_and (pe_not (e_isi (T := "bool") B (pv 0) B.bool (by decide +kernel))) (pe_one (pe_chain op_le op_le (pv 1) (pv 0) (pv 2))))))), ?_⟩
    refine ⟨_, rfl, .int x, .ty "int", .type "int", .type "int", true, rfl, .ty "int", .base (.int x), kit_ty (by decide +kernel), true, rfl, iteT ?_⟩
    refine ⟨_, rfl, .int x, .ty "bool", .type "int", .type "bool", false, rfl, .ty "bool", .base (.int x), kit_ty (by decide +kernel), false, rfl, true, rfl, iteT ?_⟩
    refine ⟨_, rfl, _, rfl, lo, x, rfl, rfl, _, rfl, ?_⟩
    by_cases h1 : lo ≤ x
    · rw [decide_eq_true h1]
      refine iteT ⟨_, rfl, x, hi, rfl, rfl, ?_⟩
      have e : decide (lo ≤ x ∧ x ≤ hi) = decide (x ≤ hi) := by simp [h1]
      rw [e] at q
      exact q
    · rw [decide_eq_false h1]
      have e : decide (lo ≤ x ∧ x ≤ hi) = false := by simp [h1]
      rw [e] at q
      exact iteF q
/-- a machine that is right, as a value -/
abbrev dM (t : List (List Nat)) (sh : List Nat) : PyData := .tuple [dTT t, dT sh]
structure Frm (t : List (List Nat)) (sh : List Nat) (n L : Nat) : Prop where
  m : Mach t n L
  slen : sh.length = n
  slow : ∀ x ∈ sh, x ≤ 9
theorem Frm.t0 {t : List (List Nat)} {sh : List Nat} {n L : Nat} (F : Frm t sh n L) : 0 < t.length := by
  have := F.m.len
  have := F.m.n1
  omega
/-- the rows, the i-th row of a table's value -/
theorem dm_rows {H : Hp} {v : V} {t : List (List Nat)} {sh : List Nat} {Q : VK} (h : Dp K H v (dM t sh)) (q : ∀ u, Dp K H u (dTT t) → Q u H) : rIxT K v (.int 0) H Q := ixT_of (i := 0) h rfl q
theorem dm_shown {H : Hp} {v : V} {t : List (List Nat)} {sh : List Nat} {Q : VK} (h : Dp K H v (dM t sh)) (q : ∀ u, Dp K H u (dT sh) → Q u H) : rIxT K v (.int 1) H Q := ixT_of (i := 1) h rfl q
theorem dtt_row {H : Hp} {v : V} {t : List (List Nat)} {i : Nat} {Q : VK} (h : Dp K H v (dTT t)) (hi : i < t.length) (q : ∀ u, Dp K H u (dT (t.getD i [])) → Q u H) : rIxT K v (nV i) H Q := by
  refine ixT_of (i := i) h (d := dT (t.getD i [])) ?_ q
  rw [List.getElem?_map, List.getElem?_eq_getElem hi, List.getD_eq_getElem?_getD, List.getElem?_eq_getElem hi]
  rfl
def spLine (K : PySem.W.Frag) : Sp := fun vs H Q _ => ∃ v p l, vs = [v, nV l] ∧ Dp K H v (dT p) ∧ 1 ≤ p.length ∧ p.length ≤ 4 ∧ (l = 0 ∨ p.length = l) ∧ Q (.bl true) H
theorem ok_is_line (B : Bn K mg) (g4 : ∃ t, mg "MOST_LETTERS" = some (.int 4 t)) (D : Def K mg "is_line" s_is_line ["value", "letters"]) : Cal P w K mg base 1 "is_line" ["value", "letters"] (spLine K) := by
  obtain ⟨t4, m_MOST_LETTERS⟩ := g4
  refine D.cal sc_is_line (fun vs H Q E h => ?_) (fun f cdv A outer s H vs Q E hr h => ?_)
  · obtain ⟨v, p, l, rfl, _⟩ := h
    rfl
  · obtain ⟨v, p, l, rfl, hd, h1, h4, hl, q⟩ := h
    refine ⟨_, (pss_cons (ps_if (PW.pt (pw_or (pt_not (pt_val (e_isi (T := "tuple") B (pv 0) B.tuple (by decide +kernel)))) (pw_or1 (pt_not (pt_chain op_le op_le pe_int (e_len B (pv 0)) (pe_glob (v := .int 4) rfl m_MOST_LETTERS ⟨_, rfl⟩)))))) (pss_one (ps_ret pe_bl)) pss_nil)
      (pss_one (ps_ret (pe_or (pe_cmpR op_eq (pv 1) pe_int (nomark _)) (pe_one (pe_cmpR op_eq (e_len B (pv 0)) (pv 1) (nomark _))))))), ?_⟩
    walk_at "q"
    refine q_isi (ty_tup hd) (b := true) (by decide +kernel) ?_
    walk_at "q"
    refine lenT_of hd ?_
    rw [List.length_map]
    walk_at "q"
    refine q_dec (fun _ => ?_) (fun z => (z (by omega)).elim)
    walk_at "q"
    refine q_ndec (fun z => (z (by omega)).elim) (fun _ => ?_)
    walk_at "q"
    refine q_dec (fun _ => q) (fun z => ?_)
    walk_at "q"
    refine lenT_of hd ?_
    rw [List.length_map]
    walk_at "q"
    have e : p.length = l := hl.resolve_left fun z2 => z (by rw [z2]; rfl)
    rw [decide_eq_true (by rw [e])]
    exact q
def spSize (K : PySem.W.Frag) : Sp := fun vs H Q _ => ∃ v t sh, vs = [v] ∧ Dp K H v (dM t sh) ∧ Q (nV t.length) H
theorem ok_size_of (B : Bn K mg) (D : Def K mg "size_of" s_size_of ["machine"]) : Cal P w K mg base 1 "size_of" ["machine"] (spSize K) := by
  refine D.cal sc_size_of (fun vs H Q E h => ?_) (fun f cdv A outer s H vs Q E hr h => ?_)
  · obtain ⟨v, t, sh, rfl, _⟩ := h
    rfl
  · obtain ⟨v, t, sh, rfl, hd, q⟩ := h
    refine ⟨_, (pss_one (ps_ret (e_len B (pe_ix (o_ixT B) (pv 0) pe_int (fun _ _ => rfl))))), ?_⟩
    refine ⟨_, rfl, dm_rows hd fun u hu => lenT_of hu ?_⟩
    rw [List.length_map]
    exact q
def spWrong (K : PySem.W.Frag) : Sp := fun vs H Q _ => ∃ v t n L, vs = [v] ∧ Dp K H v (dTT t) ∧ Mach t n L ∧ ∀ H', Same H H' → Q .non H'
theorem ok_wrong_in_table (B : Bn K mg) (g8 : ∃ t, mg "MOST_STANDINGS" = some (.int 8 t)) (Cis_line : Cal P w K mg base 1 "is_line" ["value", "letters"] (spLine K)) (Cis_whole : Cal P w K mg base 1 "is_whole" ["value", "least", "most"] spWhole)
    (D : Def K mg "wrong_in_table" s_wrong_in_table ["value"]) : Cal P w K mg base 2 "wrong_in_table" ["value"] (spWrong K) := by
  obtain ⟨t8, m_MOST_STANDINGS⟩ := g8
  refine D.cal sc_wrong_in_table (fun vs H Q E h => ?_) (fun f cdv A outer s H vs Q E hr h => ?_)
  · obtain ⟨v, t, n, L, rfl, _⟩ := h
    rfl
  · obtain ⟨v, t, n, L, rfl, hd, M, q⟩ := h
    have len := M.len
    have h1 := M.n1
    have h8 := M.n8
    have l1 := M.l1
    have l4 := M.l4
    refine ⟨_, (pss_cons (ps_if (PW.pt (pw_or (pt_not (pt_val (e_isi (T := "tuple") B (pv 0) B.tuple (by decide +kernel)))) (pw_or1 (pt_not (pt_chain op_le op_le pe_int (e_len B (pv 0)) (pe_glob (v := .int 8) rfl m_MOST_STANDINGS ⟨_, rfl⟩)))))) (pss_one (ps_ret (pe_lst pa_nil))) pss_nil)
      (pss_cons (ps_set (i := 1) sc_wrong_in_table.nd rfl (.inl rfl) pe_int)
      (pss_cons (ps_for PassesOwn.never rfl (i_enumT B (pv 0)) (g_tup (n := 2) B rfl (pgs_cons (pg_name (i := 2) sc_wrong_in_table.nd rfl (Or.inl rfl)) (pgs_cons (pg_name (i := 3) sc_wrong_in_table.nd rfl (Or.inl rfl)) pgs_nil)))
      (pss_cons (ps_if (pt_not (pt_val (e_call Cis_line (hr.mono (by decide)) (pa_cons (pv 3) (pa_cons (pv 1) pa_nil))))) (pss_one (ps_ret (pe_lst (pa_cons (pv 2) pa_nil)))) pss_nil)
      (pss_one (ps_set (i := 1) sc_wrong_in_table.nd rfl (.inl rfl) (e_len B (pv 3))))))
      (pss_cons (ps_for PassesOwn.never rfl (i_enumT B (pv 0)) (g_tup (n := 2) B rfl (pgs_cons (pg_name (i := 2) sc_wrong_in_table.nd rfl (Or.inl rfl)) (pgs_cons (pg_name (i := 3) sc_wrong_in_table.nd rfl (Or.inl rfl)) pgs_nil)))
      (pss_one (ps_for PassesOwn.never rfl (i_enumT B (pv 3)) (g_tup (n := 2) B rfl (pgs_cons (pg_name (i := 4) sc_wrong_in_table.nd rfl (Or.inl rfl)) (pgs_cons (pg_name (i := 5) sc_wrong_in_table.nd rfl (Or.inl rfl)) pgs_nil)))
      (pss_one (ps_if (pt_not (pt_val (e_call Cis_whole (hr.mono (by decide)) (pa_cons (pv 5) (pa_cons pe_int (pa_cons (pe_op op_sub (e_len B (pv 0)) pe_int) pa_nil)))))) (pss_one (ps_ret (pe_lst (pa_cons (pv 2) (pa_cons (pv 4) pa_nil))))) pss_nil)))))
      (pss_one (ps_ret pe_non)))))), ?_⟩
    walk_at "q"
    refine q_isi (ty_tup hd) (b := true) (by decide +kernel) ?_
    walk_at "q"
    refine lenT_of hd ?_
    rw [List.length_map]
    walk_at "q"
    refine q_dec (fun _ => ?_) (fun z => (z (by omega)).elim)
    walk_at "q"
    refine q_ndec (fun z => (z (by omega)).elim) (fun _ => ?_)
    walk_at "q"
    obtain ⟨a, xs, rfl, hs, ha⟩ := dp_tup hd
    have hxl : xs.length = n := by rw [dpa_len ha, List.length_map, len]
    have rowAt : ∀ (i : Nat) (y : V), xs[i]? = some y → ∃ p, p ∈ t ∧ Dp K H y (dT p) := fun i y e => by
      obtain ⟨d, hd1, hd2⟩ := dpa_get' ha e
      rw [List.getElem?_map] at hd1
      cases et : t[i]? with
      | none => rw [et] at hd1; cases hd1
      | some p =>
        rw [et] at hd1
        cases hd1
        exact ⟨p, List.mem_of_getElem? et, hd2⟩
    refine ⟨a, xs, rfl, hs, for_it (walk_enumT (xs := xs)) (fun i σ H' => ∃ y2 y3, σ = [some (.ref a), some (nV (if i = 0 then 0 else L)), y2, y3, none, none] ∧ Same H H') ⟨none, none, rfl, Same.refl H⟩ (fun i σ H' _ p => ?_) (fun i x σ H' H'' hi p y => ?_) (fun σ H' p => ?_)⟩
    · obtain ⟨_, _, _, sm⟩ := p
      exact Same.tup sm hs
    · obtain ⟨y2, y3, rfl, sm⟩ := p
      obtain ⟨T, x1, y, rfl, nT, rfl, e1, e2⟩ := y
      cases e1
      refine q_pair upd_same ?_
      walk_at "q"
      obtain ⟨p, hp, hpd⟩ := rowAt i y e2
      have sT : Same H (upd H' T (.tup [nV i, y])) := sm.trans (Same.new nT)
      have hpl := M.row p hp
      refine ⟨y, p, _, rfl, Dp.same sT _ _ hpd, by omega, by omega, ?_, ?_⟩
      · by_cases hz : i = 0
        · exact Or.inl (if_pos hz)
        · rw [if_neg hz]
          exact Or.inr hpl
      · walk_at "q"
        refine lenT_of (Dp.same sT _ _ hpd) ?_
        walk_at "q"
        refine ⟨some (nV i), some y, ?_, sT⟩
        show [some (V.ref a), some (nV (p.map dI).length), some (nV i), some y, none, none] = _
        rw [List.length_map, hpl, if_neg (Nat.succ_ne_zero i)]
    · obtain ⟨y2, y3, rfl, sm⟩ := p
      walk_at "q"
      refine ⟨a, xs, rfl, Same.tup sm hs, for_it (walk_enumT (xs := xs)) (fun i σ H' => ∃ y1 y2 y3 y4 y5, σ = [some (.ref a), y1, y2, y3, y4, y5] ∧ Same H H') ⟨_, _, _, _, _, rfl, sm⟩ (fun i σ H' _ p => ?_) (fun i x σ H' H'' hi p y => ?_) (fun σ H' p => ?_)⟩
      · obtain ⟨_, _, _, _, _, _, sm⟩ := p
        exact Same.tup sm hs
      · obtain ⟨y1, y2, y3, y4, y5, rfl, sm⟩ := p
        obtain ⟨T, x1, y, rfl, nT, rfl, e1, e2⟩ := y
        cases e1
        refine q_pair upd_same ?_
        walk_at "q"
        obtain ⟨p, hp, hpd⟩ := rowAt i y e2
        have sT : Same H (upd H' T (.tup [nV i, y])) := sm.trans (Same.new nT)
        obtain ⟨b, rfl, hb⟩ := dp_row hpd
        refine ⟨b, _, rfl, Same.tup sT hb, for_it (walk_enumT (xs := p.map nV)) (fun i σ H' => ∃ y1 y2 y3 y4 y5, σ = [some (.ref a), y1, y2, y3, y4, y5] ∧ Same H H') ⟨_, _, _, _, _, rfl, sT⟩ (fun i σ H' _ p => ?_) (fun i x σ H' H'' hi p y => ?_) (fun σ H' p => ?_)⟩
        · obtain ⟨_, _, _, _, _, _, sm⟩ := p
          exact Same.tup sm hb
        · obtain ⟨y1, y2, y3, y4, y5, rfl, sm2⟩ := p
          obtain ⟨T2, x1, y, rfl, nT2, rfl, e1, e2⟩ := y
          cases e1
          refine q_pair upd_same ?_
          have sT2 := sm2.trans (Same.new (o := .tup [nV i, y]) nT2)
          walk_at "q"
          refine lenT_of (Dp.same sT2 _ _ (.tup hs ha)) ?_
          rw [List.length_map, len]
          walk_at "q"
          have e2 : (p.map nV)[i]? = some y := e2
          rw [List.getElem?_map] at e2
          cases ep : p[i]? with
          | none => rw [ep] at e2; cases e2
          | some z =>
            rw [ep] at e2
            cases e2
            have hz := M.low p hp z (List.mem_of_getElem? ep)
            refine ⟨z, 0, (n : Int) - 1, rfl, ?_⟩
            walk_at "q"
            refine q_ndec (fun c => (c ⟨by omega, by omega⟩).elim) (fun _ => ?_)
            walk_at "q"
            exact ⟨_, _, _, _, _, rfl, sT2⟩
        · exact p
      · obtain ⟨y1, y2, y3, y4, y5, rfl, sm⟩ := p
        walk_at "q"
        exact q H' sm
def spPlace (K : PySem.W.Frag) : Sp := fun vs H Q _ => ∃ v t sh n L, vs = [v] ∧ Dp K H v (dM t sh) ∧ Frm t sh n L ∧ ∀ H', Same H H' → Q .non H'
theorem ok_wrong_place (B : Bn K mg) (g9 : ∃ t, mg "MOST_SHOWN" = some (.int 9 t)) (Cwrong_in_table : Cal P w K mg base 2 "wrong_in_table" ["value"] (spWrong K)) (Cis_whole : Cal P w K mg base 1 "is_whole" ["value", "least", "most"] spWhole)
    (D : Def K mg "wrong_place" s_wrong_place ["thing"]) : Cal P w K mg base 3 "wrong_place" ["thing"] (spPlace K) := by
  obtain ⟨t9, m_MOST_SHOWN⟩ := g9
  refine D.cal sc_wrong_place (fun vs H Q E h => ?_) (fun f cdv A outer s H vs Q E hr h => ?_)
  · obtain ⟨v, t, sh, n, L, rfl, _⟩ := h
    rfl
  · obtain ⟨v, t, sh, n, L, rfl, hd, F, q⟩ := h
    have len := F.m.len
    refine ⟨_, (pss_cons (ps_if (PW.pt (pw_or (pt_not (pt_val (e_isi (T := "tuple") B (pv 0) B.tuple (by decide +kernel)))) (pw_or1 (pt_cmpR op_ne (e_len B (pv 0)) pe_int (nomark _))))) (pss_one ps_never) pss_nil)
      (pss_cons (ps_set (i := 1) sc_wrong_place.nd rfl (.inl rfl) (e_call Cwrong_in_table (hr.mono (by decide)) (pa_cons (pe_ix (o_ixT B) (pv 0) pe_int (fun _ _ => rfl)) pa_nil)))
      (pss_cons (ps_if (pt_cmpR op_notN (pv 1) pe_non (nomark _)) (pss_one ps_never) pss_nil)
      (pss_cons (ps_if (PW.pt (pw_or (pt_not (pt_val (e_isi (T := "tuple") B (pe_ix (o_ixT B) (pv 0) pe_int (fun _ _ => rfl)) B.tuple (by decide +kernel)))) (pw_or1 (pt_cmpR op_ne (e_len B (pe_ix (o_ixT B) (pv 0) pe_int (fun _ _ => rfl))) (e_len B (pe_ix (o_ixT B) (pv 0) pe_int (fun _ _ => rfl))) (nomark _))))) (pss_one (ps_ret (pe_tup (pa_cons pe_int pa_nil)))) pss_nil)
      (pss_cons (ps_for PassesOwn.never rfl (i_enumT B (pe_ix (o_ixT B) (pv 0) pe_int (fun _ _ => rfl))) (g_tup (n := 2) B rfl (pgs_cons (pg_name (i := 2) sc_wrong_place.nd rfl (Or.inl rfl)) (pgs_cons (pg_name (i := 3) sc_wrong_place.nd rfl (Or.inl rfl)) pgs_nil)))
      (pss_one (ps_if (pt_not (pt_val (e_call Cis_whole (hr.mono (by decide)) (pa_cons (pv 3) (pa_cons pe_int (pa_cons (pe_glob (v := .int 9) rfl m_MOST_SHOWN ⟨_, rfl⟩) pa_nil)))))) (pss_one (ps_ret (pe_tup (pa_cons pe_int (pa_cons (pv 2) pa_nil))))) pss_nil)))
      (pss_one (ps_ret pe_non))))))), ?_⟩
    walk_at "q"
    refine q_isi (ty_tup hd) (b := true) (by decide +kernel) ?_
    walk_at "q"
    refine lenT_of hd ?_
    walk_at "q"
    refine q_ndec (fun z => (z rfl).elim) (fun _ => ?_)
    walk_at "q"
    refine dm_rows hd fun u hu => ?_
    walk_at "q"
    refine ⟨u, t, n, L, rfl, hu, F.m, fun H1 sm => ?_⟩
    walk_at "q"
    refine ⟨rfl, ?_⟩
    walk_at "q"
    refine q_ndec (fun z => (z rfl).elim) (fun _ => ?_)
    walk_at "q"
    have hd1 := Dp.same sm _ _ hd
    refine dm_shown hd1 fun u1 hu1 => ?_
    walk_at "q"
    refine q_isi (ty_tup hu1) (b := true) (by decide +kernel) ?_
    walk_at "q"
    refine dm_shown hd1 fun u2 hu2 => ?_
    walk_at "q"
    refine lenT_of hu2 ?_
    walk_at "q"
    refine dm_rows hd1 fun u3 hu3 => ?_
    walk_at "q"
    refine lenT_of hu3 ?_
    walk_at "q"
    refine q_ndec (fun z => (z ?_).elim) (fun _ => ?_)
    · rw [List.length_map, List.length_map, len, F.slen]
    walk_at "q"
    refine dm_shown hd1 fun u4 hu4 => ?_
    obtain ⟨b, rfl, hb⟩ := dp_row hu4
    refine ⟨b, _, rfl, hb, for_it (walk_enumT (xs := sh.map nV)) (fun i σ H' => ∃ y1 y2 y3, σ = [some v, y1, y2, y3] ∧ Same H1 H') ⟨_, _, _, rfl, Same.refl _⟩ (fun i σ H' _ p => ?_) (fun i x σ H' H'' hi p y => ?_) (fun σ H' p => ?_)⟩
    · obtain ⟨_, _, _, _, sm⟩ := p
      exact Same.tup sm hb
    · obtain ⟨y1, y2, y3, rfl, sm2⟩ := p
      obtain ⟨T2, x1, y, rfl, nT2, rfl, e1, e2⟩ := y
      cases e1
      refine q_pair upd_same ?_
      have sT2 := sm2.trans (Same.new (o := .tup [nV i, y]) nT2)
      have e2 : (sh.map nV)[i]? = some y := e2
      rw [List.getElem?_map] at e2
      cases ep : sh[i]? with
      | none => rw [ep] at e2; cases e2
      | some z =>
        rw [ep] at e2
        cases e2
        have hz := F.slow z (List.mem_of_getElem? ep)
        walk_at "q"
        refine ⟨z, 0, 9, rfl, ?_⟩
        walk_at "q"
        refine q_ndec (fun c => (c ⟨by omega, by omega⟩).elim) (fun _ => ?_)
        walk_at "q"
        exact ⟨_, _, _, rfl, sT2⟩
    · obtain ⟨y1, y2, y3, rfl, sm2⟩ := p
      walk_at "q"
      exact q H' (sm.trans sm2)
def spNeed (K : PySem.W.Frag) : Sp := fun vs H Q _ => ∃ v t sh n L, vs = [v] ∧ Dp K H v (dM t sh) ∧ Frm t sh n L ∧ ∀ H', Same H H' → Q v H'
theorem ok_need_machine (B : Bn K mg) (Cwrong_place : Cal P w K mg base 3 "wrong_place" ["thing"] (spPlace K)) (D : Def K mg "need_machine" s_need_machine ["thing"]) : Cal P w K mg base 4 "need_machine" ["thing"] (spNeed K) := by
  refine D.cal sc_need_machine (fun vs H Q E h => ?_) (fun f cdv A outer s H vs Q E hr h => ?_)
  · obtain ⟨v, t, sh, n, L, rfl, _⟩ := h
    rfl
  · obtain ⟨v, t, sh, n, L, rfl, hd, F, q⟩ := h
    refine ⟨_, (pss_cons (ps_set (i := 1) sc_need_machine.nd rfl (.inl rfl) (e_call Cwrong_place (hr.mono (by decide)) (pa_cons (pv 0) pa_nil)))
      (pss_cons (ps_if (pt_cmpR op_notN (pv 1) pe_non (nomark _)) (pss_one ps_never) pss_nil)
      (pss_one (ps_ret (pv 0))))), ?_⟩
    walk_at "q"
    refine ⟨v, t, sh, n, L, rfl, hd, F, fun H1 sm => ?_⟩
    walk_at "q"
    refine ⟨rfl, ?_⟩
    walk_at "q"
    refine q_ndec (fun z => (z rfl).elim) (fun _ => ?_)
    walk_at "q"
    exact q H1 sm
def spLetters (K : PySem.W.Frag) : Sp := fun vs H Q _ => ∃ v t sh n L, vs = [v] ∧ Dp K H v (dM t sh) ∧ Frm t sh n L ∧ Ret K (dL (List.range L)) H Q
theorem rg_nums (n : Nat) : rgV 0 (n : Int) = (List.range n).map nV := by
  unfold rgV
  rw [Int.sub_zero, Int.toNat_natCast]
  exact List.map_congr_left fun i _ => by rw [Int.zero_add]
theorem frm_row {t : List (List Nat)} {sh : List Nat} {n L : Nat} (F : Frm t sh n L) {i : Nat} (hi : i < n) : t.getD i [] ∈ t ∧ (t.getD i []).length = L := by
  have hi' : i < t.length := by rw [F.m.len]; exact hi
  have e : t.getD i [] = t[i] := by rw [List.getD_eq_getElem?_getD, List.getElem?_eq_getElem hi']; rfl
  rw [e]
  exact ⟨List.getElem_mem hi', F.m.row _ (List.getElem_mem hi')⟩
theorem ok_letters_of (B : Bn K mg) (D : Def K mg "letters_of" s_letters_of ["machine"]) : Cal P w K mg base 1 "letters_of" ["machine"] (spLetters K) := by
  refine D.cal sc_letters_of (fun vs H Q E h => ?_) (fun f cdv A outer s H vs Q E hr h => ?_)
  · obtain ⟨v, t, sh, n, L, rfl, _⟩ := h
    rfl
  · obtain ⟨v, t, sh, n, L, rfl, hd, F, q⟩ := h
    refine ⟨_, (pss_one (ps_ret (pe_listRg rfl (by rfl) B.list (prg_1 (by rfl) B.range (e_len B (pe_ix (o_ixT B) (pe_ix (o_ixT B) (pv 0) pe_int (fun _ _ => rfl)) pe_int (fun _ _ => rfl))))))), ?_⟩
    walk_at "q"
    refine dm_rows hd fun u hu => ?_
    walk_at "q"
    refine dtt_row (i := 0) hu F.t0 fun u2 hu2 => ?_
    walk_at "q"
    refine lenT_of hu2 ⟨_, rfl, ?_⟩
    have e := (frm_row F (i := 0) F.m.n1).2
    rw [List.length_map, e]
    have := F.m.l4
    refine ⟨RgOk.of_le (by omega) (by omega) (by omega) (by omega), fun l hl => ?_⟩
    rw [rg_nums]
    exact q _ _ (Same.new hl) (dp_of_line (.of upd_same))
def spNeedSt (K : PySem.W.Frag) : Sp := fun vs H Q _ => ∃ v t sh n L a, vs = [v, nV a] ∧ Dp K H v (dM t sh) ∧ Frm t sh n L ∧ a < n ∧ Q .non H
theorem ok_need_standing (B : Bn K mg) (Cis_whole : Cal P w K mg base 1 "is_whole" ["value", "least", "most"] spWhole) (Csize_of : Cal P w K mg base 1 "size_of" ["machine"] (spSize K)) (D : Def K mg "need_standing" s_need_standing ["machine", "standing"]) : Cal P w K mg base 2 "need_standing" ["machine", "standing"] (spNeedSt K) := by
  refine D.cal sc_need_standing (fun vs H Q E h => ?_) (fun f cdv A outer s H vs Q E hr h => ?_)
  · obtain ⟨v, t, sh, n, L, a, rfl, _⟩ := h
    rfl
  · obtain ⟨v, t, sh, n, L, a, rfl, hd, F, ha, q⟩ := h
    refine ⟨_, (pss_one (ps_if (pt_not (pt_val (e_call Cis_whole (hr.mono (by decide)) (pa_cons (pv 1) (pa_cons pe_int (pa_cons (pe_op op_sub (e_call Csize_of (hr.mono (by decide)) (pa_cons (pv 0) pa_nil)) pe_int) pa_nil)))))) (pss_one ps_never) pss_nil)), ?_⟩
    walk_at "q"
    refine ⟨v, t, sh, rfl, hd, ?_⟩
    walk_at "q"
    refine ⟨a, 0, _, rfl, ?_⟩
    walk_at "q"
    refine q_ndec (fun z => (z ?_).elim) (fun _ => q)
    have := F.m.len
    exact ⟨by omega, by omega⟩
end
end Kp
set_option Elab.async false
set_option linter.all false
set_option maxRecDepth 100000
set_option maxHeartbeats 4000000
namespace Kp
open PySem PySem.Spec PyProof.Rows L2
local macro_rules | `(tactic| walk_at "q") => `(tactic| repeat (with_reducible first
  | refine q_seq ?_ | refine q_asg ?_ | refine q_name ?_ | refine q_ret ?_ | refine q_drop ?_ | refine q_ifs ?_ | refine q_next ?_ | refine q_par ?_
  | refine q_var (by with_unfolding_all exact rfl) ?_ | refine q_c ?_ | refine q_op ?_ | refine q_un ?_ | refine q_cb ?_ | refine q_cons ?_ | refine q_nil ?_ | refine q_call ?_
  | refine q_test ?_ | refine q_B ?_ | refine q_not ?_ | refine q_and ?_ | refine q_or ?_ | refine q_andV ?_ | refine q_orV ?_ | refine q_notV ?_ | refine q_ifx ?_ | refine q_chain ?_
  | refine q_tup ?_ | refine q_lst ?_ | refine q_bm ?_ | refine q_bm0 ?_ | refine q_yes ?_ | refine q_bl ?_ | refine q_I0 ?_ | refine q_int ?_ | refine q_eqI ?_ | refine q_neI ?_
  | refine q_dsetd ?_ | refine q_dget ?_ | refine q_din ?_ | refine q_dnotin ?_ | refine q_dput ?_ | refine q_sl ?_ | refine q_nopart ?_ | refine q_part ?_ | refine q_exI ?_ | refine q_dnewK ?_
  | refine q_for ?_ | refine q_lc ?_ | refine q_iTup ?_ | refine q_iList ?_ | refine q_iEnumT ?_ | refine q_iEnum ?_ | refine q_iRng1 ?_ | refine q_iRng2 ?_ | refine q_lstRg ?_ | refine q_tupRg ?_
  | refine iteT ?_ | refine iteF ?_ | refine q_nt ?_ | refine q_nf ?_))
abbrev s_numbered : Stmt := topS 18
theorem sc_numbered : FnScope ["keys", "known", "found", "key"] ["keys"] (defScope s_numbered) := ⟨rfl, rfl, rfl, by decide +kernel, rfl, by decide +kernel, by decide +kernel⟩
abbrev s_is_parting_of : Stmt := topS 19
theorem sc_is_parting_of : FnScope ["machine", "value", "block"] ["machine", "value"] (defScope s_is_parting_of) := ⟨rfl, rfl, rfl, by decide +kernel, rfl, by decide +kernel, by decide +kernel⟩
abbrev s_need_parting : Stmt := topS 20
theorem sc_need_parting : FnScope ["machine", "parting"] ["machine", "parting"] (defScope s_need_parting) := ⟨rfl, rfl, rfl, by decide +kernel, rfl, by decide +kernel, by decide +kernel⟩
abbrev s_single_of : Stmt := topS 21
theorem sc_single_of : FnScope ["machine"] ["machine"] (defScope s_single_of) := ⟨rfl, rfl, rfl, by decide +kernel, rfl, by decide +kernel, by decide +kernel⟩
abbrev s_blocks_of : Stmt := topS 22
theorem sc_blocks_of : FnScope ["parting", "block", "found", "standing"] ["parting"] (defScope s_blocks_of) := ⟨rfl, rfl, rfl, by decide +kernel, rfl, by decide +kernel, by decide +kernel⟩
abbrev s_merged : Stmt := topS 23
theorem sc_merged : FnScope ["parting", "one", "far", "low", "high", "block"] ["parting", "one", "far"] (defScope s_merged) := ⟨rfl, rfl, rfl, by decide +kernel, rfl, by decide +kernel, by decide +kernel⟩
abbrev s_joined : Stmt := topS 24
theorem sc_joined : FnScope ["parting", "other", "found", "block", "standing"] ["parting", "other"] (defScope s_joined) := ⟨rfl, rfl, rfl, by decide +kernel, rfl, by decide +kernel, by decide +kernel⟩
/-! the dict of numbers -/
def kd (s : List Nat) : List (Key × V) := s.zipIdx.map fun z => (.inl (z.1 : Int), nV z.2)
theorem kd_len (s : List Nat) : (kd s).length = s.length := by unfold kd; rw [List.length_map, List.length_zipIdx]
theorem kd_snoc (s : List Nat) (x : Nat) : kd (s ++ [x]) = kd s ++ [(.inl (x : Int), nV s.length)] := by
  unfold kd
  rw [List.zipIdx_append, List.map_append]
  simp
theorem kd_val {s : List Nat} (hn : s.Nodup) : ∀ x : Nat, valV (kd s) (.inl (x : Int)) = if x ∈ s then some (nV (s.idxOf x)) else none := by
  induction s using snoc_ind with
  | h0 => intro x; rfl
  | hs l y ih =>
    intro x
    obtain ⟨h1, _, h3⟩ := List.nodup_append.mp hn
    have hy : y ∉ l := fun z => h3 y z y List.mem_cons_self rfl
    have ih := ih h1
    have hyn : valV (kd l) (.inl (y : Int)) = none := by rw [ih y, if_neg hy]
    rw [kd_snoc, valV_snoc _ _ _ _ hyn, ih x]
    by_cases hx : x = y
    · subst hx
      rw [if_pos rfl, if_pos (by simp), idx_new hy]
    · have hk : ¬ (Sum.inl (x : Int) : Key) = .inl (y : Int) := fun z => hx (by have := Sum.inl.inj z; omega)
      rw [if_neg hk]
      by_cases hm : x ∈ l
      · rw [if_pos hm, if_pos (List.mem_append_left _ hm), List.idxOf_append, if_pos hm]
      · rw [if_neg hm, if_neg (by simp [hm, hx])]
section
variable {P : Program} {w : World} {K : PySem.W.Frag} {mg : Str → Option Value} {base : Heap}
def spNum (K : PySem.W.Frag) : Sp := fun vs H Q _ => ∃ v p, vs = [v] ∧ Dp K H v (dT p) ∧ p.length ≤ 1000 ∧ RetN (num p) H Q
theorem ok_numbered (B : Bn K mg) (D : Def K mg "numbered" s_numbered ["keys"]) : Cal P w K mg base 1 "numbered" ["keys"] (spNum K) := by
  refine D.cal sc_numbered (fun vs H Q E h => ?_) (fun f cdv A outer s H vs Q E hr h => ?_)
  · obtain ⟨v, p, rfl, _⟩ := h
    rfl
  · obtain ⟨v, p, rfl, hd, hlen, q⟩ := h
    obtain ⟨a, rfl, hs⟩ := dp_row hd
    refine ⟨_, (pss_cons (ps_par (i := 1) (j := 2) (by rfl) sc_numbered.nd rfl rfl (by decide) rfl rfl (pa_cons pe_dnewK (pa_cons (pe_lst pa_nil) pa_nil)) (by rfl))
      (pss_cons (ps_for PassesOwn.never rfl (i_tup B (pv 0)) (pg_name (i := 3) sc_numbered.nd rfl (Or.inl rfl))
      (pss_cons (ps_expr (pe_dsetd (pv 1) (pv 3) (pe_callB call_lenD (by rfl) B.len PySem.boot_len (pa_cons (pv 1) pa_nil)) ⟨rfl, rfl, rfl, rfl⟩))
      (pss_one (ps_expr (e_bm B PySem.F.plainAttrs_list PySem.F.slot_list_append PySem.F.type_list_append mt_append (pv 2) (pa_cons (e_dget hr (pv 1) (pv 3)) pa_nil))))))
      (pss_one (ps_ret (e_tuple B (pv 2)))))), ?_⟩
    walk_at "q"
    intro d nd
    walk_at "q"
    refine ⟨Nat.zero_le _, fun l nl => ⟨_, _, rfl, ?_⟩⟩
    have hld : l ≠ d := fun z => by rw [z, upd_same] at nl; cases nl
    have nlH : H l = none := by rwa [upd_ne hld] at nl
    walk_at "q"
    have s1 : Same H (upd (upd H d (.dK [])) l (.lst [])) := Same.mut (Same.new nd) nlH
    refine ⟨a, rfl, ⟨_, Same.tup s1 hs⟩, for_it (walk_tup (xs := p.map nV)) (fun i σ H' => ∃ y3, σ = [some (.ref a), some (.ref d), some (.ref l), y3] ∧ Same H H' ∧ H' d = some (.dK (kd (firsts (p.take i)))) ∧ H' l = some (.lst ((num (p.take i)).map nV)))
      ⟨none, rfl, s1, ?_, ?_⟩ (fun i σ H' _ h => Same.tup h.choose_spec.2.1 hs) (fun i x σ H' H'' hi h y => ?_) (fun σ H' h => ?_)⟩
    · rw [upd_ne hld.symm, upd_same]; rfl
    · rw [upd_same]; rfl
    · obtain ⟨y3, rfl, sm, hdd, hll⟩ := h
      obtain ⟨rfl, hx⟩ := y
      rw [List.length_map] at hi
      have hx : (p.map nV)[i]? = some x := hx
      rw [List.getElem?_map, get_at0 hi] at hx
      cases hx
      have tk : p.take (i + 1) = p.take i ++ [at0 p i] := by rw [List.take_add_one, get_at0 hi]; rfl
      have nds := nodup_firsts (p.take i)
      have fl : (firsts (p.take i)).length ≤ i := by
        have := firsts_len (p.take i)
        rw [List.length_take] at this
        omega
      have val := kd_val nds (at0 p i)
      -- behind setdefault the dict is that of one more
      have fin : ∀ (De : Ends) (H2 : Hp), (∀ H3, Same H H3 → H3 d = some (.dK (kd (firsts (p.take (i + 1))))) → H3 l = some (.lst ((num (p.take (i + 1))).map nV)) → De.nx [some (.ref a), some (.ref d), some (.ref l), some (nV (at0 p i))] H3) → Same H H2 →
          H2 d = some (.dK (kd (firsts (p.take (i + 1))))) → H2 l = some (.lst ((num (p.take i)).map nV)) →
          tDrop (tBM K "list" rAppend (tVar 2) (tCons (tDGet (tVar 1) (tVar 3)) tNil)) De [some (.ref a), some (.ref d), some (.ref l), some (nV (at0 p i))] H2 := by
        intro De H2 kk sm2 hd2 hl2
        walk_at "q"
        refine ⟨ty_of hl2, ?_⟩
        walk_at "q"
        have hm : at0 p i ∈ firsts (p.take (i + 1)) := by rw [mem_firsts, tk]; simp
        refine ⟨d, nV ((firsts (p.take (i + 1))).idxOf (at0 p i)), rfl, .inl ⟨_, .inl (at0 p i : Int), .inl hd2, rfl, ?_⟩, ?_⟩
        · rw [kd_val (nodup_firsts _), if_pos hm]
        · walk_at "q"
          refine app_of hl2 (by rw [List.length_map, num_len, List.length_take]; omega) ?_
          refine kk _ (Same.mut sm2 nlH) ?_ ?_
          · rw [upd_ne hld.symm]; exact hd2
          · rw [upd_same, tk, num_snoc, List.map_append]; rfl
      walk_at "q"
      refine ⟨d, rfl, .inl ⟨_, .inl hdd⟩, ?_⟩
      walk_at "q"
      refine ⟨d, _, rfl, hdd, ?_⟩
      refine ⟨_, .inl (at0 p i : Int), hdd, rfl, ?_, fun v0 hv => ?_, fun hv => ?_⟩
      · rw [kd_len, sizeLine_eq]
        omega
      · have hm : at0 p i ∈ firsts (p.take i) := by
          by_cases hm : at0 p i ∈ firsts (p.take i)
          · exact hm
          · rw [val, if_neg hm] at hv; cases hv
        have e : firsts (p.take (i + 1)) = firsts (p.take i) := by rw [tk, firsts_snoc, if_pos hm]
        exact fin _ _ (fun H3 a1 a2 a3 => ⟨_, rfl, a1, a2, a3⟩) sm (by rw [e]; exact hdd) hll
      · have hm : at0 p i ∉ firsts (p.take i) := fun hm => by rw [val, if_pos hm] at hv; cases hv
        have e : firsts (p.take (i + 1)) = firsts (p.take i) ++ [at0 p i] := by rw [tk, firsts_snoc, if_neg hm]
        refine fin _ _ (fun H3 a1 a2 a3 => ⟨_, rfl, a1, a2, a3⟩) (Same.mut sm nd) ?_ ?_
        · rw [upd_same, putK_new _ hv, e, kd_snoc, kd_len]
        · rw [upd_ne hld]; exact hll
    · obtain ⟨y3, rfl, sm, hdd, hll⟩ := h
      rw [List.length_map, List.take_of_length_le (Nat.le_refl _)] at hll
      walk_at "q"
      exact tupN_of hll fun v H' sm' hv => q v H' (sm.trans sm') hv
def spSingle (K : PySem.W.Frag) : Sp := fun vs H Q _ => ∃ v t sh, vs = [v] ∧ Dp K H v (dM t sh) ∧ t.length ≤ 1000 ∧ RetN (List.range t.length) H Q
theorem ok_single_of (B : Bn K mg) (Csize_of : Cal P w K mg base 1 "size_of" ["machine"] (spSize K)) (D : Def K mg "single_of" s_single_of ["machine"]) : Cal P w K mg base 2 "single_of" ["machine"] (spSingle K) := by
  refine D.cal sc_single_of (fun vs H Q E h => ?_) (fun f cdv A outer s H vs Q E hr h => ?_)
  · obtain ⟨v, t, sh, rfl, _⟩ := h
    rfl
  · obtain ⟨v, t, sh, rfl, hd, hl, q⟩ := h
    refine ⟨_, (pss_one (ps_ret (pe_tupRg rfl (by rfl) B.tuple (prg_1 (by rfl) B.range (e_call Csize_of (hr.mono (by decide)) (pa_cons (pv 0) pa_nil)))))), ?_⟩
    walk_at "q"
    refine ⟨v, t, sh, rfl, hd, ?_⟩
    walk_at "q"
    refine ⟨RgOk.of_le (by omega) (by omega) (by omega) (by omega), fun l hl => ?_⟩
    rw [rg_nums]
    exact q _ _ (Same.new hl) upd_same
def spMerged (K : PySem.W.Frag) : Sp := fun vs H Q _ => ∃ v p a b, vs = [v, nV a, nV b] ∧ Dp K H v (dT p) ∧ a < p.length ∧ b < p.length ∧ p.length ≤ 1000 ∧ Ret K (dT (mrg p a b)) H Q
theorem ok_merged (B : Bn K mg) (D : Def K mg "merged" s_merged ["parting", "one", "far"]) : Cal P w K mg base 1 "merged" ["parting", "one", "far"] (spMerged K) := by
  refine D.cal sc_merged (fun vs H Q E h => ?_) (fun f cdv A outer s H vs Q E hr h => ?_)
  · obtain ⟨v, p, a, b, rfl, _⟩ := h
    rfl
  · obtain ⟨v, p, a, b, rfl, hd, ha, hb, hlen, q⟩ := h
    refine ⟨_, (pss_cons (ps_asg (pe_tup (pa_cons (pe_ix (o_ixT B) (pv 0) (pv 1) (fun _ _ => rfl)) (pa_cons (pe_ix (o_ixT B) (pv 0) (pv 2) (fun _ _ => rfl)) pa_nil))) (g_tup (n := 2) B rfl (pgs_cons (pg_name (i := 3) sc_merged.nd rfl (Or.inr rfl)) (pgs_cons (pg_name (i := 4) sc_merged.nd rfl (Or.inr rfl)) pgs_nil))))
      (pss_one (ps_ret (e_tuple B (pe_lc (own := [("block", 5)]) (g := gName 5) (tt := tYes) rfl sc_merged.nd (i_tup B (pv 0)) (blkOk_by (by kernel_rfl)) (fun _ _ _ _ _ => (pg_name (i := 5) sc_merged.nd rfl (Or.inl rfl))) (fun _ _ _ _ _ => pts_nil) (fun _ _ _ _ _ => (pe_ifExp (pt_cmpR op_eq (pv 5) (pv 4) (nomark _)) (pv 3) (pv 5)))))))), ?_⟩
    walk_at "q"
    refine ixT_num hd ha ?_
    walk_at "q"
    refine ixT_num hd hb ?_
    walk_at "q"
    refine ⟨(by rw [sizeLine_eq]; show 2 ≤ 16777216; decide), fun t nt => ?_⟩
    refine q_pair upd_same ?_
    walk_at "q"
    have s1 : Same H (upd H t (.tup [nV (at0 p a), nV (at0 p b)])) := Same.new nt
    obtain ⟨c, rfl, hs⟩ := dp_row hd
    refine ⟨c, rfl, ⟨_, Same.tup s1 hs⟩, fun l nl => lcD (hr_same K) (walk_tup (xs := p.map nV)) (fun i => some (dI (at0 (mrg p a b) i))) nl (by rw [List.length_map]; omega) (fun H' s => Same.tup s (Same.tup s1 hs)) (fun i x H' H'' Q1 Q0 acc hi s hD y k1 k0 => ?_) (fun H' xs s hx hda _ => ?_)⟩
    · obtain ⟨rfl, hx⟩ := y
      rw [List.length_map] at hi
      have hx : (p.map nV)[i]? = some x := hx
      rw [List.getElem?_map, get_at0 hi] at hx
      cases hx
      walk_at "q"
      refine ⟨rfl, ?_⟩
      walk_at "q"
      have fin : ∀ z : Nat, z = at0 (mrg p a b) i → Q1 (nV z) H'' := fun z e => k1 _ _ _ (Same.refl _) rfl (by rw [e]; exact .int _)
      refine q_dec (fun e => ?_) (fun e => ?_)
      · walk_at "q"
        refine fin _ ?_
        have e : at0 p i = at0 p b := by have := V.int.inj e; omega
        rw [at0_mrg hi, if_pos e]
      · walk_at "q"
        refine fin _ ?_
        have e : at0 p i ≠ at0 p b := fun z => e (by rw [z])
        rw [at0_mrg hi, if_neg e]
    · walk_at "q"
      rw [List.length_map, fm_map] at hda
      have e : (List.range p.length).map (fun i => dI (at0 (mrg p a b) i)) = (mrg p a b).map dI := by
        refine List.ext_getElem (by simp [mrg]) fun i h1 h2 => ?_
        have h3 : i < (mrg p a b).length := by simpa using h2
        rw [List.getElem_map, List.getElem_range, List.getElem_map, at0_get h3]
      rw [e] at hda
      exact tup_of hx hda fun v H2 s2 hv => q v H2 (s1.trans (s.trans s2)) hv
def spIsP (K : PySem.W.Frag) : Sp := fun vs H Q _ => ∃ m v t sh p, vs = [m, v] ∧ Dp K H m (dM t sh) ∧ Dp K H v (dT p) ∧ p.length = t.length ∧ num p = p ∧ p.length ≤ 1000 ∧ ∀ H', Same H H' → Q (.bl true) H'
theorem ok_is_parting_of (B : Bn K mg) (Csize_of : Cal P w K mg base 1 "size_of" ["machine"] (spSize K)) (Cis_whole : Cal P w K mg base 1 "is_whole" ["value", "least", "most"] spWhole) (Cnumbered : Cal P w K mg base 1 "numbered" ["keys"] (spNum K))
    (D : Def K mg "is_parting_of" s_is_parting_of ["machine", "value"]) : Cal P w K mg base 2 "is_parting_of" ["machine", "value"] (spIsP K) := by
  refine D.cal sc_is_parting_of (fun vs H Q E h => ?_) (fun f cdv A outer s H vs Q E hr h => ?_)
  · obtain ⟨m, v, t, sh, p, rfl, _⟩ := h
    rfl
  · obtain ⟨m, v, t, sh, p, rfl, hm, hd, hl, hn, hlen, q⟩ := h
    refine ⟨_, (pss_cons (ps_if (PW.pt (pw_or (pt_not (pt_val (e_isi (T := "tuple") B (pv 1) B.tuple (by decide +kernel)))) (pw_or1 (pt_cmpR op_ne (e_len B (pv 1)) (e_call Csize_of (hr.mono (by decide)) (pa_cons (pv 0) pa_nil)) (nomark _))))) (pss_one (ps_ret pe_bl)) pss_nil)
      (pss_one (ps_ret (pe_and (e_all B (pe_lc (own := [("block", 2)]) (g := gName 2) (tt := tYes) rfl sc_is_parting_of.nd (i_tup B (pv 1)) (blkOk_by (by kernel_rfl)) (fun _ _ _ _ _ => (pg_name (i := 2) sc_is_parting_of.nd rfl (Or.inl rfl))) (fun _ _ _ _ _ => pts_nil) (fun _ _ _ _ _ => (e_call Cis_whole (hr.mono (by decide)) (pa_cons (pv 2) (pa_cons pe_int (pa_cons (pe_op op_sub (e_len B (pv 1)) pe_int) pa_nil))))))) (pe_one (pe_cmpR (o_eqD B hr) (e_call Cnumbered (hr.mono (by decide)) (pa_cons (pv 1) pa_nil)) (pv 1) (nomark _))))))), ?_⟩
    walk_at "q"
    refine q_isi (ty_tup hd) (b := true) (by decide +kernel) ?_
    walk_at "q"
    refine lenT_of hd ?_
    rw [List.length_map]
    walk_at "q"
    refine ⟨m, t, sh, rfl, hm, ?_⟩
    walk_at "q"
    refine q_ndec (fun z => (z (by rw [hl])).elim) (fun _ => ?_)
    walk_at "q"
    obtain ⟨c, rfl, hs⟩ := dp_row hd
    refine ⟨c, rfl, ⟨_, hs⟩, fun l nl => lcD (hr_same K) (walk_tup (xs := p.map nV)) (fun i => some (PyData.bool ((fun _ => true) i))) nl (by rw [List.length_map]; omega) (fun H' s => Same.tup s hs) (fun i x H' H'' Q1 Q0 acc hi s hD y k1 k0 => ?_) (fun H' xs s hx hda _ => ?_)⟩
    · obtain ⟨rfl, hx⟩ := y
      rw [List.length_map] at hi
      have hx : (p.map nV)[i]? = some x := hx
      rw [List.getElem?_map, get_at0 hi] at hx
      cases hx
      walk_at "q"
      refine ⟨rfl, ?_⟩
      walk_at "q"
      refine lenT_of (Dp.same s _ _ hd) ?_
      rw [List.length_map]
      walk_at "q"
      refine ⟨at0 p i, 0, (p.length : Int) - 1, rfl, ?_⟩
      have hz := rgs_lt hn (at0_mem hi)
      rw [decide_eq_true ⟨by omega, by omega⟩]
      exact k1 _ _ _ (Same.refl _) rfl (.bl true)
    · walk_at "q"
      rw [List.length_map, fm_map] at hda
      have e : (List.range p.length).map (fun i => PyData.bool ((fun _ => true) i)) = ((List.range p.length).map fun _ => true).map PyData.bool := by rw [List.map_map]; rfl
      rw [e] at hda
      refine all_of (.lst (.of hx) hda) ?_
      have e2 : ((List.range p.length).map fun _ => true).all id = true := by rw [List.all_map]; exact List.all_eq_true.mpr fun _ _ => rfl
      rw [e2]
      walk_at "q"
      refine ⟨_, p, rfl, Dp.same s _ _ hd, hlen, RetN.of (K := K) fun v2 H2 s2 hv2 => ?_⟩
      walk_at "q"
      refine ⟨dT (num p), dT p, hv2, Dp.same (s.trans s2) _ _ hd, shaped_dT _, shaped_dT _, ?_⟩
      rw [eqv_dT, hn, decide_eq_true rfl]
      exact q H2 (s.trans s2)
def spNeedP (K : PySem.W.Frag) : Sp := fun vs H Q _ => ∃ m v t sh n L p, vs = [m, v] ∧ Dp K H m (dM t sh) ∧ Frm t sh n L ∧ Dp K H v (dT p) ∧ p.length = n ∧ num p = p ∧ ∀ H', Same H H' → Q v H'
theorem ok_need_parting (B : Bn K mg) (Cneed_machine : Cal P w K mg base 4 "need_machine" ["thing"] (spNeed K)) (Cis_parting_of : Cal P w K mg base 2 "is_parting_of" ["machine", "value"] (spIsP K))
    (D : Def K mg "need_parting" s_need_parting ["machine", "parting"]) : Cal P w K mg base 5 "need_parting" ["machine", "parting"] (spNeedP K) := by
  refine D.cal sc_need_parting (fun vs H Q E h => ?_) (fun f cdv A outer s H vs Q E hr h => ?_)
  · obtain ⟨m, v, t, sh, n, L, p, rfl, _⟩ := h
    rfl
  · obtain ⟨m, v, t, sh, n, L, p, rfl, hm, F, hd, hl, hn, q⟩ := h
    have len := F.m.len
    have n8 := F.m.n8
    refine ⟨_, (pss_cons (ps_expr (e_call Cneed_machine (hr.mono (by decide)) (pa_cons (pv 0) pa_nil)))
      (pss_cons (ps_if (pt_not (pt_val (e_call Cis_parting_of (hr.mono (by decide)) (pa_cons (pv 0) (pa_cons (pv 1) pa_nil))))) (pss_one ps_never) pss_nil)
      (pss_one (ps_ret (pv 1))))), ?_⟩
    walk_at "q"
    refine ⟨m, t, sh, n, L, rfl, hm, F, fun H1 s1 => ?_⟩
    walk_at "q"
    refine ⟨m, v, t, sh, p, rfl, Dp.same s1 _ _ hm, Dp.same s1 _ _ hd, by omega, hn, by omega, fun H2 s2 => ?_⟩
    walk_at "q"
    exact q H2 (s1.trans s2)
end
end Kp
set_option Elab.async false
set_option linter.all false
set_option maxRecDepth 100000
set_option maxHeartbeats 4000000
namespace Kp
open PySem PySem.Spec PyProof.Rows L2
local macro_rules | `(tactic| walk_at "q") => `(tactic| repeat (with_reducible first
  | refine q_seq ?_ | refine q_asg ?_ | refine q_name ?_ | refine q_ret ?_ | refine q_drop ?_ | refine q_ifs ?_ | refine q_next ?_ | refine q_par ?_
  | refine q_var (by with_unfolding_all exact rfl) ?_ | refine q_c ?_ | refine q_op ?_ | refine q_un ?_ | refine q_cb ?_ | refine q_cons ?_ | refine q_nil ?_ | refine q_call ?_
  | refine q_test ?_ | refine q_B ?_ | refine q_not ?_ | refine q_and ?_ | refine q_or ?_ | refine q_andV ?_ | refine q_orV ?_ | refine q_notV ?_ | refine q_ifx ?_ | refine q_chain ?_
  | refine q_tup ?_ | refine q_lst ?_ | refine q_bm ?_ | refine q_bm0 ?_ | refine q_yes ?_ | refine q_bl ?_ | refine q_I0 ?_ | refine q_int ?_ | refine q_eqI ?_ | refine q_neI ?_
  | refine q_dsetd ?_ | refine q_dget ?_ | refine q_din ?_ | refine q_dnotin ?_ | refine q_dput ?_ | refine q_sl ?_ | refine q_nopart ?_ | refine q_part ?_ | refine q_exI ?_ | refine q_dnewK ?_
  | refine q_for ?_ | refine q_lc ?_ | refine q_iTup ?_ | refine q_iList ?_ | refine q_iEnumT ?_ | refine q_iEnum ?_ | refine q_iRng1 ?_ | refine q_iRng2 ?_ | refine q_lstRg ?_ | refine q_tupRg ?_
  | refine iteT ?_ | refine iteF ?_ | refine q_nt ?_ | refine q_nf ?_))
/-! new lists, one to an item -/
/-- the lists at as hold the rows -/
def Holds (H0 H : Hp) (as : List Addr) (rows : Nat → List V) : Prop := as.Nodup ∧ ∀ i a, as[i]? = some a → H0 a = none ∧ H a = some (.lst (rows i))
theorem dpa_refs {K : PySem.W.Frag} {H : Hp} {rows : Nat → List V} (ds : Nat → List PyData) : ∀ (as : List Addr), (∀ i, i < as.length → DpAll K H (rows i) (ds i)) → (∀ (i : Nat) (a : Addr), as[i]? = some a → H a = some (HO.lst (rows i))) →
    DpAll K H (as.map V.ref) ((List.range as.length).map fun i => PyData.list (ds i)) := by
  intro as
  induction as using snoc_ind with
  | h0 => intro _ _; exact .nil
  | hs l a ih =>
    intro hd h
    rw [List.length_append, List.length_singleton, List.range_succ, List.map_append, List.map_append]
    refine dpa_app (ih (fun i hi => hd i (by rw [List.length_append]; omega)) fun i b e => h i b ?_) (.cons ?_ .nil)
    · rw [List.getElem?_append_left (List.getElem?_eq_some_iff.mp e).choose]; exact e
    · exact .lst (.of (h l.length a (by simp))) (hd _ (by simp))
theorem Holds.dpa {K : PySem.W.Frag} {H0 H : Hp} {as : List Addr} {rows : Nat → List V} (h : Holds H0 H as rows) (ds : Nat → List PyData) (hd : ∀ i, i < as.length → DpAll K H (rows i) (ds i)) :
    DpAll K H (as.map V.ref) ((List.range as.length).map fun i => .list (ds i)) := dpa_refs ds as hd fun i a e => (h.2 i a e).2
theorem Holds.set {H0 H : Hp} {as : List Addr} {rows : Nat → List V} (h : Holds H0 H as rows) {i : Nat} {a : Addr} (e : as[i]? = some a) (ys : List V) : Holds H0 (upd H a (.lst ys)) as (fun j => if j = i then ys else rows j) := by
  obtain ⟨nd, h⟩ := h
  refine ⟨nd, fun j b eb => ⟨(h j b eb).1, ?_⟩⟩
  show _ = some (HO.lst (if j = i then ys else rows j))
  by_cases c : j = i
  · subst c
    rw [eb] at e
    cases e
    rw [upd_same, if_pos rfl]
  · rw [if_neg c, upd_ne, (h j b eb).2]
    rintro rfl
    obtain ⟨h1, e1⟩ := List.getElem?_eq_some_iff.mp e
    obtain ⟨h2, e2⟩ := List.getElem?_eq_some_iff.mp eb
    exact c ((List.getElem_inj nd).mp (e2.trans e1.symm))
theorem Holds.keep {H0 H H' : Hp} {as : List Addr} {rows : Nat → List V} (h : Holds H0 H as rows) (k : ∀ a, a ∈ as → H' a = H a) : Holds H0 H' as rows :=
  ⟨h.1, fun i a e => ⟨(h.2 i a e).1, (k a (List.mem_of_getElem? e)).trans (h.2 i a e).2⟩⟩
theorem Holds.rows {H0 H : Hp} {as : List Addr} {rows rows' : Nat → List V} (h : Holds H0 H as rows) (e : ∀ i, i < as.length → rows i = rows' i) : Holds H0 H as rows' :=
  ⟨h.1, fun i a ea => ⟨(h.2 i a ea).1, by rw [(h.2 i a ea).2, e i (List.getElem?_eq_some_iff.mp ea).choose]⟩⟩
theorem Holds.snoc {H0 H : Hp} {as : List Addr} {rows : Nat → List V} (h : Holds H0 H as rows) {a : Addr} (n0 : H0 a = none) (na : a ∉ as) (ea : H a = some (.lst (rows as.length))) : Holds H0 H (as ++ [a]) rows := by
  refine ⟨List.nodup_append.mpr ⟨h.1, by simp, fun x hx y hy => ?_⟩, fun i b e => ?_⟩
  · rintro rfl
    rw [List.mem_singleton] at hy
    subst hy
    exact na hx
  · by_cases c : i < as.length
    · rw [List.getElem?_append_left c] at e
      exact h.2 i b e
    · rw [List.getElem?_append_right (by omega)] at e
      have hi : i = as.length := by
        have := (List.getElem?_eq_some_iff.mp e).choose
        simp at this
        omega
      subst hi
      simp at e
      subst e
      exact ⟨n0, ea⟩
section
variable {P : Program} {w : World} {K : PySem.W.Frag} {mg : Str → Option Value} {base : Heap}
/-- p's first j, those in b -/
def blkTo (p : List Nat) (j b : Nat) : List Nat := (List.range j).filter fun i => at0 p i == b
theorem blkTo_succ (p : List Nat) (j b : Nat) : blkTo p (j + 1) b = if b = at0 p j then blkTo p j b ++ [j] else blkTo p j b := by
  unfold blkTo
  rw [List.range_succ, List.filter_append]
  by_cases c : b = at0 p j
  · rw [if_pos c, List.filter_cons_of_pos (by rw [c]; exact beq_self_eq_true _)]
    rfl
  · rw [if_neg c, List.filter_cons_of_neg (by simp; exact fun z => c z.symm)]
    simp
theorem blkTo_len (p : List Nat) (j b : Nat) : (blkTo p j b).length ≤ j := by
  have := List.length_filter_le (fun i => at0 p i == b) (List.range j)
  rwa [List.length_range] at this
def spBlocks (K : PySem.W.Frag) : Sp := fun vs H Q _ => ∃ v p, vs = [v] ∧ Dp K H v (dT p) ∧ num p = p ∧ p ≠ [] ∧ p.length ≤ 1000 ∧ RetF K (dLL ((List.range (firsts p).length).map (blk p))) H Q
theorem ok_blocks_of (B : Bn K mg) (D : Def K mg "blocks_of" s_blocks_of ["parting"]) : Cal P w K mg base 1 "blocks_of" ["parting"] (spBlocks K) := by
  refine D.cal sc_blocks_of (fun vs H Q E h => ?_) (fun f cdv A outer s H vs Q E hr h => ?_)
  · obtain ⟨v, p, rfl, _⟩ := h
    rfl
  · obtain ⟨v, p, rfl, hd, hn, hne, hlen, q⟩ := h
    refine ⟨_, (pss_cons (ps_setLc (i := 2) (own := [("block", 1)]) (g := gName 1) (tt := tYes) rfl sc_blocks_of.nd rfl rfl (sw_true rfl rfl rfl (by decide +kernel)) (i_range1 B (pe_op op_add (e_maxN B hr (pv 0)) pe_int)) (blkOk_by (by kernel_rfl)) (fun _ _ _ _ _ => (pg_name (i := 1) sc_blocks_of.nd rfl (Or.inl rfl))) (fun _ _ _ _ _ => pts_nil) (fun _ _ _ _ _ => (pe_lst pa_nil)))
      (pss_cons (ps_for PassesOwn.never rfl (i_enumT B (pv 0)) (g_tup (n := 2) B rfl (pgs_cons (pg_name (i := 3) sc_blocks_of.nd rfl (Or.inl rfl)) (pgs_cons (pg_name (i := 1) sc_blocks_of.nd rfl (Or.inl rfl)) pgs_nil)))
      (pss_one (ps_expr (e_bm B PySem.F.plainAttrs_list PySem.F.slot_list_append PySem.F.type_list_append mt_append (pe_ix (o_ixL B) (pv 2) (pv 1) (fun _ _ => rfl)) (pa_cons (pv 3) pa_nil)))))
      (pss_one (ps_ret (pv 2))))), ?_⟩
    have hk1 := firsts_len p
    have hmem : ∀ x ∈ p, x < (firsts p).length := fun x hx => (rgs_mem hn x).mp hx
    obtain ⟨c, rfl, hs⟩ := dp_row hd
    walk_at "q"
    refine ⟨_, p, rfl, .inl hd, hne, fun m hm hu => ?_⟩
    have hk : m + 1 = (firsts p).length := rgs_max hn hm hu
    generalize (firsts p).length = k at *
    walk_at "q"
    have ek : ((m : Int) + 1).toNat = k := by omega
    refine ⟨_, rfl, by omega, by omega, ?_⟩
    rw [ek]
    intro D nD
    refine lc_it walk_range (fun i H' => Same H H' ∧ ∃ as, as.length = i ∧ H' D = some (.lst (as.map V.ref)) ∧ D ∉ as ∧ Holds H H' as fun _ => []) ⟨Same.new nD, [], rfl, upd_same, List.not_mem_nil, List.nodup_nil, fun i a e => by simp at e⟩ (fun _ _ _ _ => trivial) (fun i x H' H'' hi h y => ?_) (fun H' h => ?_)
    · obtain ⟨sm, as, hl, hD, nm, ho⟩ := h
      obtain ⟨rfl, rfl⟩ := y
      walk_at "q"
      refine ⟨rfl, ?_⟩
      walk_at "q"
      refine ⟨Nat.zero_le _, fun l nl => ⟨as.map V.ref, ?_, ?_, ?_⟩⟩
      · have : D ≠ l := fun z => by rw [← z, hD] at nl; cases nl
        rw [upd_ne this, hD]
      · rw [List.length_map, sizeLine_eq]; omega
      · have hDl : D ≠ l := fun z => by rw [← z, hD] at nl; cases nl
        have nH : H l = none := by
          cases e : H l with
          | none => rfl
          | some o => rw [sm l o e] at nl; cases nl
        have nal : l ∉ as := fun z => by
          obtain ⟨j, hj⟩ := List.getElem?_of_mem z
          rw [(ho.2 j l hj).2] at nl
          cases nl
        have e0 : upd (upd H'' l (.lst [])) D (.lst (as.map V.ref ++ [.ref l])) l = some (.lst []) := by rw [upd_ne hDl.symm, upd_same]
        refine ⟨Same.mut (sm.trans (Same.new nl)) nD, as ++ [l], by rw [List.length_append, hl]; rfl, by rw [upd_same, List.map_append]; rfl, ?_, Holds.snoc (Holds.keep ho fun a ha => ?_) nH nal e0⟩
        · rw [List.mem_append, List.mem_singleton]
          exact fun z => z.elim nm hDl
        · rw [upd_ne (fun z => nm (by rw [← z]; exact ha)), upd_ne (fun z => nal (by rw [← z]; exact ha))]
    · obtain ⟨sm, as, hl, hD, nm, ho⟩ := h
      walk_at "q"
      refine ⟨c, _, rfl, Same.tup sm hs, for_it (walk_enumT (xs := p.map nV)) (fun j σ H2 => ∃ y2 y3, σ = [some (.ref c), y2, some (.ref D), y3] ∧ Same H H2 ∧ H2 D = some (.lst (as.map V.ref)) ∧ Holds H H2 as fun b => (blkTo p j b).map nV)
        ⟨none, none, rfl, sm, hD, ho⟩ (fun j σ H2 _ h => Same.tup h.choose_spec.choose_spec.2.1 hs) (fun j x σ H2 H3 hj h y => ?_) (fun σ H2 h => ?_)⟩
      · obtain ⟨y2, y3, rfl, sm2, hD2, ho2⟩ := h
        obtain ⟨T, x1, y, rfl, nT, rfl, e1, e2⟩ := y
        cases e1
        rw [List.length_map] at hj
        have e2 : (p.map nV)[j]? = some y := e2
        rw [List.getElem?_map, get_at0 hj] at e2
        cases e2
        refine q_pair upd_same ?_
        walk_at "q"
        have hb : at0 p j < k := hmem _ (at0_mem hj)
        have hba : at0 p j < as.length := by omega
        have DT : D ≠ T := fun z => by rw [← z, hD2] at nT; cases nT
        have ha : as[at0 p j]? = some (as[at0 p j]) := List.getElem?_eq_getElem hba
        have hrow := (ho2.2 _ _ ha).2
        refine ⟨D, as.map V.ref, _, .ref (as[at0 p j]), rfl, rfl, .of (by rw [upd_ne DT]; exact hD2), ?_, ?_⟩
        · exact atI_nat (by rw [List.getElem?_map, ha]; rfl)
        · have ne1 : as[at0 p j] ≠ T := fun z => by rw [z] at hrow; rw [hrow] at nT; cases nT
          refine ⟨ty_of (xs := (blkTo p j (at0 p j)).map nV) (by rw [upd_ne ne1]; exact hrow), ?_⟩
          walk_at "q"
          refine app_of (xs := (blkTo p j (at0 p j)).map nV) (by rw [upd_ne ne1]; exact hrow) (by rw [List.length_map]; have := blkTo_len p j (at0 p j); omega) ?_
          have nHa := (ho2.2 _ _ ha).1
          refine ⟨_, _, rfl, Same.mut (sm2.trans (Same.new nT)) nHa, ?_, Holds.rows (Holds.set (Holds.keep ho2 fun a hm => ?_) ha _) fun i hi => ?_⟩
          · have : D ≠ as[at0 p j] := fun z => nm (by rw [z]; exact List.getElem_mem _)
            rw [upd_ne this, upd_ne DT]
            exact hD2
          · have : a ≠ T := fun z => by
              obtain ⟨j2, hj2⟩ := List.getElem?_of_mem hm
              have := (ho2.2 j2 a hj2).2
              rw [z, nT] at this
              cases this
            exact upd_ne this
          · rw [blkTo_succ]
            by_cases c : i = at0 p j
            · rw [if_pos c, if_pos c, c, List.map_append]; rfl
            · rw [if_neg c, if_neg c]
      · obtain ⟨y2, y3, rfl, sm2, hD2, ho2⟩ := h
        rw [List.length_map] at ho2
        walk_at "q"
        refine q _ _ sm2 (.lst (.of (by rw [nu_new nD]; exact hD2)) ?_)
        have ho3 : Holds H (nu H H2) as fun b => (blkTo p p.length b).map nV := ⟨ho2.1, fun i a e => ⟨(ho2.2 i a e).1, by rw [nu_new (ho2.2 i a e).1]; exact (ho2.2 i a e).2⟩⟩
        have := ho3.dpa (K := K) (fun b => (blk p b).map dI) fun i hi => dpa_nums _
        rw [hl] at this
        rw [List.map_map]
        exact this
/-! joined -/
theorem bpairs_succ (p : List Nat) (b : Nat) : bpairs p (b + 1) = bpairs p b ++ bp1 (blk p b) := by
  unfold bpairs
  rw [List.range_succ, List.flatMap_append]
  simp
theorem blk_len (p : List Nat) (b : Nat) : (blk p b).length ≤ p.length := by
  have := List.length_filter_le (fun i => at0 p i == b) (List.range p.length)
  rwa [List.length_range] at this
/-- a block of data -/
theorem dll_at {H : Hp} {xs : List V} {ls : List (List Nat)} (h : DpAll K H xs (ls.map dL)) {b : Nat} {x : V} (e : xs[b]? = some x) : ∃ l, ls[b]? = some l ∧ Dp K H x (dL l) := by
  obtain ⟨d, e1, e2⟩ := dpa_get' h e
  rw [List.getElem?_map] at e1
  cases el : ls[b]? with
  | none => rw [el] at e1; cases e1
  | some l =>
    rw [el] at e1
    cases e1
    exact ⟨l, rfl, e2⟩
theorem dtt_at {H : Hp} {xs : List V} {ls : List (List Nat)} (h : DpAll K H xs (ls.map dT)) {b : Nat} {x : V} (e : xs[b]? = some x) : ∃ l, ls[b]? = some l ∧ Dp K H x (dT l) := by
  obtain ⟨d, e1, e2⟩ := dpa_get' h e
  rw [List.getElem?_map] at e1
  cases el : ls[b]? with
  | none => rw [el] at e1; cases e1
  | some l =>
    rw [el] at e1
    cases e1
    exact ⟨l, rfl, e2⟩
def spJoined (K : PySem.W.Frag) : Sp := fun vs H Q _ => ∃ v u p q, vs = [v, u] ∧ Dp K H v (dT p) ∧ Dp K H u (dT q) ∧ p.length = q.length ∧ num q = q ∧ q ≠ [] ∧ q.length ≤ 1000 ∧ RetN (joinP p q) H Q
theorem ok_joined (B : Bn K mg) (Cblocks_of : Cal P w K mg base 1 "blocks_of" ["parting"] (spBlocks K)) (Cmerged : Cal P w K mg base 1 "merged" ["parting", "one", "far"] (spMerged K)) (Cnumbered : Cal P w K mg base 1 "numbered" ["keys"] (spNum K))
    (D : Def K mg "joined" s_joined ["parting", "other"]) : Cal P w K mg base 2 "joined" ["parting", "other"] (spJoined K) := by
  refine D.cal sc_joined (fun vs H Q E h => ?_) (fun f cdv A outer s H vs Q E hr h => ?_)
  · obtain ⟨v, u, p, q, rfl, _⟩ := h
    rfl
  · obtain ⟨v, u, p, r, rfl, hv, hu, hl, hn, hne, hlen, q⟩ := h
    refine ⟨_, (pss_cons (ps_set (i := 2) sc_joined.nd rfl (.inl rfl) (pv 0))
      (pss_cons (ps_for PassesOwn.never rfl (i_list B (e_call Cblocks_of (hr.mono (by decide)) (pa_cons (pv 1) pa_nil))) (pg_name (i := 3) sc_joined.nd rfl (Or.inl rfl))
      (pss_one (ps_for PassesOwn.never rfl (i_list B (pe_slice (o_slL B) (pv 3) (po_some pe_int) po_none)) (pg_name (i := 4) sc_joined.nd rfl (Or.inl rfl))
      (pss_one (ps_set (i := 2) sc_joined.nd rfl (.inl rfl) (e_call Cmerged (hr.mono (by decide)) (pa_cons (pv 2) (pa_cons (pe_ix (o_ixL B) (pv 3) pe_int (fun _ _ => rfl)) (pa_cons (pv 4) pa_nil)))))))))
      (pss_one (ps_ret (e_call Cnumbered (hr.mono (by decide)) (pa_cons (pv 2) pa_nil)))))), ?_⟩
    walk_at "q"
    refine ⟨u, r, rfl, hu, hn, hne, hlen, RetF.of fun bv H1 s1 hb => ?_⟩
    obtain ⟨ba, bx, rfl, hbs, hba⟩ := dp_lst hb
    have hbl : bx.length = (firsts r).length := by rw [dpa_len hba, List.length_map, List.length_map, List.length_range]
    walk_at "q"
    refine ⟨ba, rfl, ⟨_, hbs⟩, for_it (walk_list (xs := bx)) (fun b σ H' => ∃ y3 y4 fv, σ = [some v, some u, some fv, y3, y4] ∧ Same H1 H' ∧ Dp K H' fv (dT (mrgs p (bpairs r b))))
      ⟨none, none, v, rfl, Same.refl _, Dp.same s1 _ _ hv⟩ (fun b σ H' _ h => ?_) (fun b x σ H' H'' hi h y => ?_) (fun σ H' h => ?_)⟩
    · obtain ⟨y3, y4, fv, _, s2, _⟩ := h
      rcases hbs with (e | ⟨o, e⟩) | e
      · exact .inl (.inl (s2 _ _ e))
      · exact .inl (.inr ⟨o, s2 _ _ e⟩)
      · exact .inr e
    · obtain ⟨y3, y4, fv, rfl, s2, hf⟩ := h
      obtain ⟨rfl, hx⟩ := y
      rw [hbl] at hi
      obtain ⟨l, e1, e2⟩ := dll_at hba hx
      rw [List.getElem?_map, List.getElem?_range hi] at e1
      cases e1
      have hx2 := Dp.same s2 _ _ e2
      obtain ⟨xa, rfl, hxs⟩ := dp_line hx2
      walk_at "q"
      refine tail_of hxs fun l nl => ?_
      rw [← List.map_tail]
      have htl : ((blk r b).tail.map nV).length = (bp1 (blk r b)).length := by unfold bp1; rw [List.length_map, List.length_map]
      have hbin : ∀ z ∈ bpairs r (b + 1), z.1 < r.length ∧ z.2 < r.length := fun z hz => ⟨(bpairs_in hz).1, (bpairs_in hz).2.1⟩
      refine ⟨l, rfl, ⟨_, .of upd_same⟩, for_it (walk_list (xs := (blk r b).tail.map nV)) (fun j σ H3 => ∃ y4 fv, σ = [some v, some u, some fv, some (.ref xa), y4] ∧ Same (upd H'' l (.lst ((blk r b).tail.map nV))) H3 ∧ Dp K H3 fv (dT (mrgs (mrgs p (bpairs r b)) ((bp1 (blk r b)).take j))))
        ⟨_, fv, rfl, Same.refl _, Dp.same (Same.new nl) _ _ hf⟩ (fun j σ H3 _ h => .of (h.choose_spec.choose_spec.2.1 _ _ upd_same)) (fun j x σ H3 H4 hj h y => ?_) (fun σ H3 h => ?_)⟩
      · obtain ⟨y4, fv, rfl, s3, hf⟩ := h
        obtain ⟨rfl, hx⟩ := y
        rw [htl] at hj
        have hj2 : j < (blk r b).tail.length := by unfold bp1 at hj; rwa [List.length_map] at hj
        rw [List.getElem?_map, get_at0 hj2] at hx
        cases hx
        have h0 : 0 < (blk r b).length := by
          have := List.length_tail (l := blk r b)
          omega
        walk_at "q"
        refine ixL_num (i := 0) (Dp.same ((Same.new nl).trans s3) _ _ hx2) h0 ?_
        walk_at "q"
        have ep : (bp1 (blk r b))[j]? = some (at0 (blk r b) 0, at0 (blk r b).tail j) := by
          unfold bp1
          rw [List.getElem?_map, get_at0 hj2]
          show some ((blk r b).headD 0, _) = _
          cases blk r b with
          | nil => rfl
          | cons _ _ => rfl
        have em : (at0 (blk r b) 0, at0 (blk r b).tail j) ∈ bpairs r (b + 1) := by
          rw [bpairs_succ]
          exact List.mem_append_right _ (List.mem_of_getElem? ep)
        have hin := hbin _ em
        have ml : (mrgs (mrgs p (bpairs r b)) ((bp1 (blk r b)).take j)).length = r.length := by rw [mrgs_len, mrgs_len, hl]
        refine ⟨fv, _, _, _, rfl, hf, by rw [ml]; exact hin.1, by rw [ml]; exact hin.2, by omega, fun gv H5 s5 hg => ⟨_, gv, rfl, s3.trans s5, ?_⟩⟩
        rw [List.take_add_one, ep]
        show Dp K H5 gv (dT (mrgs _ (_ ++ [_])))
        rw [mrgs_app]
        exact hg
      · obtain ⟨y4, fv, rfl, s3, hf⟩ := h
        rw [htl, List.take_length, ← mrgs_app, ← bpairs_succ] at hf
        exact ⟨_, _, fv, rfl, s2.trans ((Same.new nl).trans s3), hf⟩
    · obtain ⟨y3, y4, fv, rfl, s2, hf⟩ := h
      rw [hbl] at hf
      walk_at "q"
      exact ⟨fv, _, rfl, hf, by rw [mrgs_len, hl]; exact hlen, fun gv H5 s5 hg => q gv H5 (s1.trans (s2.trans s5)) hg⟩
end
end Kp
set_option Elab.async false
set_option linter.all false
namespace Kp
/-! ### the walk of kept_over -/
structure Wk (t : List (List Nat)) (n L : Nat) (p f : List Nat) (ps : List (Nat × Nat)) : Prop where
  len : f.length = n
  lt : ∀ q ∈ ps, q.1 < n ∧ q.2 < n
  up : ∀ S : Nat → Nat → Prop, Equivalence S → (∀ i j, i < n → j < n → Rel f i j → S i j) → (∀ q ∈ ps, S q.1 q.2) →
    (∀ i j l, i < n → j < n → l < L → Rel f i j → S (dl t i l) (dl t j l)) ∧ ∀ i j, i < n → j < n → Rel p i j → S i j
  dn : ∀ R : Nat → Nat → Prop, Equivalence R → Cl t n L R → (∀ i j, i < n → j < n → Rel p i j → R i j) → (∀ i j, i < n → j < n → Rel f i j → R i j) ∧ ∀ q ∈ ps, R q.1 q.2
section
variable {t : List (List Nat)} {n L : Nat} {p f : List Nat} {ps : List (Nat × Nat)}
theorem wk_start (hl : p.length = n) (hn : num p = p) : Wk t n L p (List.range n) (bpairs p (firsts p).length) where
  len := List.length_range
  lt := fun q hq => ⟨hl ▸ (bpairs_in hq).1, hl ▸ (bpairs_in hq).2.1⟩
  up := fun S hS _ hp => by
    refine ⟨fun i j l hi hj _ e => ?_, fun i j hi hj e => bpairs_all (fun x hx => (rgs_mem hn x).mp hx) hS hp i j (hl ▸ hi) (hl ▸ hj) e⟩
    have e' : at0 (List.range n) i = at0 (List.range n) j := e
    rw [at0_range hi, at0_range hj] at e'
    rw [e']
    exact hS.refl _
  dn := fun R hR _ g => by
    refine ⟨fun i j hi hj e => ?_, fun q hq => g _ _ (hl ▸ (bpairs_in hq).1) (hl ▸ (bpairs_in hq).2.1) (bpairs_in hq).2.2⟩
    have e' : at0 (List.range n) i = at0 (List.range n) j := e
    rw [at0_range hi, at0_range hj] at e'
    rw [e']
    exact hR.refl _
theorem wk_same {a b : Nat} (W : Wk t n L p f (ps ++ [(a, b)])) (e : Rel f a b) : Wk t n L p f ps where
  len := W.len
  lt := fun q hq => W.lt q (List.mem_append_left _ hq)
  up := fun S hS hf hp => W.up S hS hf fun q hq => by
    rcases List.mem_append.mp hq with h | h
    · exact hp q h
    · rw [List.mem_singleton] at h
      subst h
      have := W.lt (a, b) (by simp)
      exact hf a b this.1 this.2 e
  dn := fun R hR c g => ⟨(W.dn R hR c g).1, fun q hq => (W.dn R hR c g).2 q (List.mem_append_left _ hq)⟩
def nexts (t : List (List Nat)) (L a b : Nat) : List (Nat × Nat) := (List.range L).map fun l => (dl t a l, dl t b l)
theorem wk_mrg (M : Mach t n L) {a b : Nat} (W : Wk t n L p f (ps ++ [(a, b)])) : Wk t n L p (mrg f a b) (ps ++ nexts t L a b) := by
  have hab := W.lt (a, b) (by simp)
  have ha : a < f.length := by rw [W.len]; exact hab.1
  have hb : b < f.length := by rw [W.len]; exact hab.2
  refine ⟨by rw [mrg_len]; exact W.len, fun q hq => ?_, fun S hS hf hp => ?_, fun R hR c g => ?_⟩
  · rcases List.mem_append.mp hq with h | h
    · exact W.lt q (List.mem_append_left _ h)
    · obtain ⟨l, hl, rfl⟩ := List.mem_map.mp h
      exact ⟨M.dl_lt hab.1 (List.mem_range.mp hl), M.dl_lt hab.2 (List.mem_range.mp hl)⟩
  · have U := W.up S hS (fun i j hi hj e => hf i j hi hj (mrg_mono (by rw [W.len]; exact hi) (by rw [W.len]; exact hj) e)) fun q hq => by
      rcases List.mem_append.mp hq with h | h
      · exact hp q (List.mem_append_left _ h)
      · rw [List.mem_singleton] at h
        subst h
        exact hf a b hab.1 hab.2 (mrg_both ha hb)
    refine ⟨fun i j l hi hj hl e => ?_, U.2⟩
    exact mrg_least (R := fun i j => S (dl t i l) (dl t j l)) ⟨fun _ => hS.refl _, fun h => hS.symm h, fun h h' => hS.trans h h'⟩ ha hb (fun i j hi hj e => U.1 i j l (by rw [← W.len]; exact hi) (by rw [← W.len]; exact hj) hl e)
      (hp _ (List.mem_append_right _ (List.mem_map.mpr ⟨l, List.mem_range.mpr hl, rfl⟩))) i j (by rw [W.len]; exact hi) (by rw [W.len]; exact hj) e
  · have D := W.dn R hR c g
    have hR1 := D.2 (a, b) (by simp)
    refine ⟨fun i j hi hj e => mrg_least hR ha hb (fun i j hi hj e => D.1 i j (by rw [← W.len]; exact hi) (by rw [← W.len]; exact hj) e) hR1 i j (by rw [W.len]; exact hi) (by rw [W.len]; exact hj) e, fun q hq => ?_⟩
    rcases List.mem_append.mp hq with h | h
    · exact D.2 q (List.mem_append_left _ h)
    · obtain ⟨l, hl, rfl⟩ := List.mem_map.mp h
      exact c a b l hab.1 hab.2 (List.mem_range.mp hl) hR1
theorem nexts_len (a b : Nat) : (nexts t L a b).length = L := by unfold nexts; rw [List.length_map, List.length_range]
/-- the turns left -/
def wkM (L : Nat) (f : List Nat) (ps : List (Nat × Nat)) : Nat := (firsts f).length * (L + 1) + ps.length
theorem wkM_same {q : Nat × Nat} : wkM L f ps < wkM L f (ps ++ [q]) := by
  unfold wkM
  rw [List.length_append, List.length_singleton]
  omega
theorem wkM_mrg {a b : Nat} (ha : a < f.length) (hb : b < f.length) (h : at0 f a ≠ at0 f b) : wkM L (mrg f a b) (ps ++ nexts t L a b) < wkM L f (ps ++ [(a, b)]) := by
  have h1 := mrg_fewer ha hb h
  unfold wkM
  rw [List.length_append, List.length_append, nexts_len, List.length_singleton]
  have h2 : ((firsts (mrg f a b)).length + 1) * (L + 1) ≤ (firsts f).length * (L + 1) := Nat.mul_le_mul_right _ h1
  rw [Nat.add_mul, Nat.one_mul] at h2
  omega
theorem wk_end (M : Mach t n L) (W : Wk t n L p f []) : Lub n (Cl t n L) (Rel p) (num f) := by
  have r : ∀ i j, i < n → j < n → (Rel (num f) i j ↔ Rel f i j) := fun i j hi hj => num_rel (by rw [W.len]; exact hi) (by rw [W.len]; exact hj)
  have U := W.up (Rel f) (rel_eqv f) (fun i j _ _ e => e) fun q hq => absurd hq List.not_mem_nil
  refine ⟨by rw [num_len]; exact W.len, num_num f, fun i j l hi hj hl e => ?_, fun i j hi hj e => (r i j hi hj).mpr (U.2 i j hi hj e), fun R hR c g i j hi hj e => (W.dn R hR c g).1 i j hi hj ((r i j hi hj).mp e)⟩
  exact (r _ _ (M.dl_lt hi hl) (M.dl_lt hj hl)).mpr (U.1 i j l hi hj hl ((r i j hi hj).mp e))
/-- the two of a pair -/
abbrev Two (a b : Nat) : Nat → Nat → Prop := fun i j => i = a ∧ j = b
theorem two_lub {a b : Nat} (ha : a < n) (hb : b < n) {C : (Nat → Nat → Prop) → Prop} {c : List Nat} (h : Lub n C (Rel (num (mrg (List.range n) a b))) c) : Lub n C (Two a b) c := by
  have ha' : a < (List.range n).length := by rwa [List.length_range]
  have hb' : b < (List.range n).length := by rwa [List.length_range]
  have r : ∀ i j, i < n → j < n → (Rel (num (mrg (List.range n) a b)) i j ↔ Rel (mrg (List.range n) a b) i j) := fun i j hi hj => num_rel (by rw [mrg_len, List.length_range]; exact hi) (by rw [mrg_len, List.length_range]; exact hj)
  refine h.congr fun R hR _ => ⟨fun g i j hi hj e => ?_, fun g i j hi hj e => ?_⟩
  · obtain ⟨rfl, rfl⟩ := e
    exact g i j hi hj ((r i j hi hj).mpr (mrg_both ha' hb'))
  · refine mrg_least hR ha' hb' (fun i j hi hj e => ?_) (g a b ha hb ⟨rfl, rfl⟩) i j (by rwa [List.length_range]) (by rwa [List.length_range]) ((r i j hi hj).mp e)
    rw [List.length_range] at hi hj
    have e' : at0 (List.range n) i = at0 (List.range n) j := e
    rw [at0_range hi, at0_range hj] at e'
    rw [e']
    exact hR.refl _
end
/-! ### sets of rows, in their order -/
def addU (f : List (List Nat)) (p : List Nat) : List (List Nat) := if p ∈ f then f else f ++ [p]
theorem mem_addU {f : List (List Nat)} {p q : List Nat} : q ∈ addU f p ↔ q ∈ f ∨ q = p := by
  unfold addU
  by_cases h : p ∈ f
  · rw [if_pos h]
    exact ⟨.inl, fun z => z.elim id fun e => e ▸ h⟩
  · rw [if_neg h, List.mem_append, List.mem_singleton]
theorem nodup_addU {f : List (List Nat)} {p : List Nat} (h : f.Nodup) : (addU f p).Nodup := by
  unfold addU
  by_cases c : p ∈ f
  · rw [if_pos c]; exact h
  · rw [if_neg c]
    exact List.nodup_append.mpr ⟨h, by simp, fun x hx y hy => by rw [List.mem_singleton] at hy; rintro rfl; exact c (hy ▸ hx)⟩
def addAll (f g : List (List Nat)) : List (List Nat) := g.foldl addU f
theorem mem_addAll : ∀ {g f : List (List Nat)} {q : List Nat}, q ∈ addAll f g ↔ q ∈ f ∨ q ∈ g
  | [], f, q => ⟨.inl, fun z => z.elim id fun h => absurd h List.not_mem_nil⟩
  | p :: g, f, q => by
    show q ∈ addAll (addU f p) g ↔ _
    rw [mem_addAll, mem_addU, List.mem_cons, or_assoc]
theorem nodup_addAll : ∀ {g f : List (List Nat)}, f.Nodup → (addAll f g).Nodup
  | [], _, h => h
  | _ :: g, _, h => nodup_addAll (g := g) (nodup_addU h)
theorem addAll_snoc (f g : List (List Nat)) (p : List Nat) : addAll f (g ++ [p]) = addU (addAll f g) p := by
  unfold addAll
  rw [List.foldl_append]
  rfl
/-! ### how many -/
def fct : Nat → Nat
  | 0 => 1
  | k + 1 => (k + 2) * fct k
theorem sheets_len : ∀ k, (sheets k).length ≤ fct k
  | 0 => Nat.le_refl _
  | k + 1 => by
    have ih := sheets_len k
    have hm : ∀ r ∈ sheets k, ((List.range ((firsts r).length + 1)).map fun h => r ++ [h]).length ≤ k + 2 := fun r hr => by
      rw [List.length_map, List.length_range]
      have := firsts_len r
      have := ((mem_sheets k r).mp hr).2
      omega
    have : ∀ l : List (List Nat), (∀ r ∈ l, ((List.range ((firsts r).length + 1)).map fun h => r ++ [h]).length ≤ k + 2) → (l.flatMap fun r => (List.range ((firsts r).length + 1)).map fun h => r ++ [h]).length ≤ (k + 2) * l.length := by
      intro l
      induction l with
      | nil => intro _; simp
      | cons r l ihl =>
        intro h
        rw [List.flatMap_cons, List.length_append, List.length_cons]
        have h1 := h r List.mem_cons_self
        have h2 := ihl fun r hr => h r (List.mem_cons_of_mem _ hr)
        rw [Nat.mul_add]
        omega
    have h3 := this _ hm
    show ((sheets k).flatMap _).length ≤ (k + 2) * fct k
    exact Nat.le_trans h3 (Nat.mul_le_mul_left _ ih)
theorem sheets_few {k : Nat} (h : k ≤ 7) : (sheets k).length ≤ 40320 := by
  refine Nat.le_trans (sheets_len k) ?_
  match k, h with
  | 0, _ => decide
  | 1, _ => decide
  | 2, _ => decide
  | 3, _ => decide
  | 4, _ => decide
  | 5, _ => decide
  | 6, _ => decide
  | 7, _ => decide
theorem found_few {t : List (List Nat)} {n L : Nat} (M : Mach t n L) {f : List (List Nat)} (nd : f.Nodup) (h : ∀ p ∈ f, num p = p ∧ p.length = n) : f.length ≤ 40320 := by
  have h1 := M.n1
  have h8 := M.n8
  refine Nat.le_trans (nodup_sub nd fun p hp => ?_) (sheets_few (k := n - 1) (by omega))
  rw [mem_sheets]
  exact ⟨(h p hp).1, by rw [(h p hp).2]; omega⟩
end Kp
set_option Elab.async false
set_option linter.all false
set_option maxRecDepth 100000
set_option maxHeartbeats 4000000
namespace Kp
open PySem PySem.Spec PyProof.Rows L2
/-! ### nested data: shapes, deep equality -/
structure Flat (lim : Nat) (d : PyData) : Prop where
  lay : d.canLay0 = true
  dep : d.depth ≤ lim
theorem Flat.up {a b : Nat} {d : PyData} (h : Flat a d) (k : a ≤ b) : Flat b d := ⟨h.lay, Nat.le_trans h.dep k⟩
theorem flat_all {lim : Nat} : ∀ {ds : List PyData}, (∀ d ∈ ds, Flat lim d) → PyData.canLayAll0 ds = true ∧ PyData.depthAll ds ≤ lim
  | [], _ => ⟨by simp [PyData.canLayAll0], by simp [PyData.depthAll]⟩
  | d :: ds, h => by
    obtain ⟨h1, h2⟩ := flat_all fun d hd => h d (List.mem_cons_of_mem _ hd)
    have g := h d List.mem_cons_self
    refine ⟨by simp [PyData.canLayAll0, g.lay, h1], ?_⟩
    have := g.dep
    simp [PyData.depthAll]
    omega
theorem flat_lst {lim : Nat} {ds : List PyData} (h : ∀ d ∈ ds, Flat lim d) : Flat (lim + 1) (.list ds) := by
  obtain ⟨h1, h2⟩ := flat_all h
  exact ⟨by simp [PyData.canLay0, h1], by simp [PyData.depth]; omega⟩
theorem flat_tup {lim : Nat} {ds : List PyData} (h : ∀ d ∈ ds, Flat lim d) : Flat (lim + 1) (.tuple ds) := by
  obtain ⟨h1, h2⟩ := flat_all h
  exact ⟨by simp [PyData.canLay0, h1], by simp [PyData.depth]; omega⟩
theorem flat_int {lim : Nat} (i : Int) : Flat lim (.int i) := ⟨by simp [PyData.canLay0], by simp [PyData.depth]⟩
theorem flat_bool {lim : Nat} (b : Bool) : Flat lim (.bool b) := ⟨by simp [PyData.canLay0], by simp [PyData.depth]⟩
theorem flat_dT (p : List Nat) : Flat 1 (dT p) := flat_tup fun d hd => by obtain ⟨i, _, rfl⟩ := List.mem_map.mp hd; exact flat_int _
theorem flat_dL (p : List Nat) : Flat 1 (dL p) := flat_lst fun d hd => by obtain ⟨i, _, rfl⟩ := List.mem_map.mp hd; exact flat_int _
theorem flat_dLT (p : List (List Nat)) : Flat 2 (dLT p) := flat_lst fun d hd => by obtain ⟨i, _, rfl⟩ := List.mem_map.mp hd; exact flat_dT _
theorem flat_dTT (p : List (List Nat)) : Flat 2 (dTT p) := flat_tup fun d hd => by obtain ⟨i, _, rfl⟩ := List.mem_map.mp hd; exact flat_dT _
theorem flat_dLL (p : List (List Nat)) : Flat 2 (dLL p) := flat_lst fun d hd => by obtain ⟨i, _, rfl⟩ := List.mem_map.mp hd; exact flat_dL _
theorem Flat.shaped {d : PyData} {a : Nat} (h : Flat a d) (k : a ≤ 64 := by decide) : SeqAt.shaped d = true := by
  show (d.canLay0 && decide (d.depth ≤ 64)) = true
  rw [h.lay, decide_eq_true (Nat.le_trans h.dep k)]
  rfl
/-- deep equality is equality there -/
def EqT (d e : PyData) : Prop := PyData.eqv d e = true ↔ d = e
theorem eqv_all : ∀ {ds es : List PyData}, (∀ d ∈ ds, ∀ e ∈ es, EqT d e) → (PyData.eqvAll ds es = true ↔ ds = es)
  | [], [], _ => by simp [PyData.eqvAll]
  | [], _ :: _, _ => by simp [PyData.eqvAll]
  | _ :: _, [], _ => by simp [PyData.eqvAll]
  | d :: ds, e :: es, h => by
    have h1 := h d List.mem_cons_self e List.mem_cons_self
    have h2 := eqv_all fun d hd e he => h d (List.mem_cons_of_mem _ hd) e (List.mem_cons_of_mem _ he)
    simp only [PyData.eqvAll, Bool.and_eq_true, List.cons.injEq]
    exact ⟨fun ⟨a, b⟩ => ⟨h1.mp a, h2.mp b⟩, fun ⟨a, b⟩ => ⟨h1.mpr a, h2.mpr b⟩⟩
theorem eqt_lst {ds es : List PyData} (h : ∀ d ∈ ds, ∀ e ∈ es, EqT d e) : EqT (.list ds) (.list es) := by
  unfold EqT
  simp only [PyData.eqv]
  rw [eqv_all h]
  exact ⟨fun e => by rw [e], fun e => PyData.list.inj e⟩
theorem eqt_tup {ds es : List PyData} (h : ∀ d ∈ ds, ∀ e ∈ es, EqT d e) : EqT (.tuple ds) (.tuple es) := by
  unfold EqT
  simp only [PyData.eqv]
  rw [eqv_all h]
  exact ⟨fun e => by rw [e], fun e => PyData.tuple.inj e⟩
theorem dI_inj : ∀ {p q : List Nat}, p.map dI = q.map dI → p = q
  | [], [], _ => rfl
  | [], _ :: _, e => nomatch e
  | _ :: _, [], e => nomatch e
  | x :: p, y :: q, e => by
    simp only [List.map_cons, List.cons.injEq] at e
    have h1 : (x : Int) = y := PyData.int.inj e.1
    rw [dI_inj e.2, show x = y by omega]
theorem dT_inj {p q : List Nat} (e : dT p = dT q) : p = q := dI_inj (PyData.tuple.inj e)
theorem dL_inj {p q : List Nat} (e : dL p = dL q) : p = q := dI_inj (PyData.list.inj e)
theorem map_injO {α : Type} {f : α → PyData} (hf : ∀ a b, f a = f b → a = b) : ∀ {p q : List α}, p.map f = q.map f → p = q
  | [], [], _ => rfl
  | [], _ :: _, e => nomatch e
  | _ :: _, [], e => nomatch e
  | x :: p, y :: q, e => by
    simp only [List.map_cons, List.cons.injEq] at e
    rw [map_injO hf e.2, hf _ _ e.1]
theorem dTT_inj {p q : List (List Nat)} (e : dTT p = dTT q) : p = q := map_injO (fun _ _ => dT_inj) (PyData.tuple.inj e)
theorem dLT_inj {p q : List (List Nat)} (e : dLT p = dLT q) : p = q := map_injO (fun _ _ => dT_inj) (PyData.list.inj e)
theorem eqt_dT (p q : List Nat) : EqT (dT p) (dT q) := by
  unfold EqT
  rw [eqv_dT, decide_eq_true_iff]
  exact ⟨fun e => by rw [e], dT_inj⟩
theorem eqt_dTT (p q : List (List Nat)) : EqT (dTT p) (dTT q) := eqt_tup fun d hd e he => by
  obtain ⟨a, _, rfl⟩ := List.mem_map.mp hd
  obtain ⟨b, _, rfl⟩ := List.mem_map.mp he
  exact eqt_dT a b
theorem eqt_dLT (p q : List (List Nat)) : EqT (dLT p) (dLT q) := eqt_lst fun d hd e he => by
  obtain ⟨a, _, rfl⟩ := List.mem_map.mp hd
  obtain ⟨b, _, rfl⟩ := List.mem_map.mp he
  exact eqt_dT a b
theorem EqT.dec {d e : PyData} {p : Prop} [Decidable p] (h : EqT d e) (k : d = e ↔ p) : PyData.eqv d e = decide p := by
  by_cases c : p
  · rw [decide_eq_true c]; exact h.mpr (k.mpr c)
  · rw [decide_eq_false c]
    cases e' : PyData.eqv d e with
    | true => exact absurd (k.mp (h.mp e')) c
    | false => rfl
/-- p in ps, deeply -/
theorem any_dT (ps : List (List Nat)) (p : List Nat) : (ps.map dT).any (fun z => PyData.eqv z (dT p)) = decide (p ∈ ps) := by
  rw [List.any_map]
  by_cases c : p ∈ ps
  · rw [decide_eq_true c]
    exact List.any_eq_true.mpr ⟨p, c, by show PyData.eqv (dT p) (dT p) = true; rw [eqv_dT]; simp⟩
  · rw [decide_eq_false c]
    refine Bool.eq_false_iff.mpr fun z => ?_
    obtain ⟨q, hq, e⟩ := List.any_eq_true.mp z
    have e : PyData.eqv (dT q) (dT p) = true := e
    rw [eqv_dT, decide_eq_true_iff] at e
    exact c (e ▸ hq)
/-! ### small steps -/
section
variable {K : PySem.W.Frag} {H : Hp} {σ : L2.St} {i j : Nat} {QS : L2.St → Hp → Prop} {v : V} {D : Addr}
theorem q_pairT {T : Addr} {x y : V} (h : SqT K H T [x, y]) (q : QS ((σ.set i (some x)).set j (some y)) H) : gTup K 2 (gCons (gName i) (gCons (gName j) gNil)) (.ref T) σ H QS :=
  ⟨T, [x, y], rfl, h, rfl, x, [y], rfl, y, [], rfl, rfl, q⟩
theorem q_pairN {a b : Nat} (h : Dp K H v (dT [a, b])) (q : QS ((σ.set i (some (nV a))).set j (some (nV b))) H) : gTup K 2 (gCons (gName i) (gCons (gName j) gNil)) v σ H QS := by
  obtain ⟨T, rfl, hs⟩ := dp_row h
  exact q_pairT hs q
theorem apAll_rows {xs : List V} {ps : List (List Nat)} {acc : List V} (h : DpAll K H xs (ps.map dT)) (hD : H D = some (.lst acc)) : DpAll K (hide H D) xs (ps.map dT) := by
  induction ps generalizing xs with
  | nil => cases h; exact .nil
  | cons p ps ih =>
    cases h with
    | cons a t => exact .cons (ap_row a hD) (ih t)
theorem apAll_nums (D : Addr) (p : List Nat) : DpAll K (hide H D) (p.map nV) (p.map dI) := dpa_nums p
/-- the goal of a state by a letter -/
theorem step_of {t : List (List Nat)} {sh : List Nat} {n L a l : Nat} {u : V} {Q : VK} (F : Frm t sh n L) (hu : Dp K H u (dT (t.getD a []))) (ha : a < n) (hl : l < L) (q : Q (nV (dl t a l)) H) : rIxT K u (nV l) H Q :=
  ixT_num hu (by rw [(frm_row F ha).2]; exact hl) q
theorem Frm.row_of {t : List (List Nat)} {sh : List Nat} {n L a : Nat} {v : V} {Q : VK} (F : Frm t sh n L) (h : Dp K H v (dTT t)) (ha : a < n) (q : ∀ u, Dp K H u (dT (t.getD a [])) → Q u H) : rIxT K v (nV a) H Q :=
  dtt_row h (by rw [F.m.len]; exact ha) q
end
theorem map_at0 {α : Type} (l : List Nat) (g : Nat → α) : (List.range l.length).map (fun i => g (at0 l i)) = l.map g := by
  refine List.ext_getElem (by simp) fun i h1 h2 => ?_
  have h3 : i < l.length := by simpa using h2
  rw [List.getElem_map, List.getElem_range, List.getElem_map, at0_get h3]
theorem dpa_split {K : PySem.W.Frag} {H : Hp} : ∀ {ds es : List PyData} {xs : List V}, DpAll K H xs (ds ++ es) → ∃ ys zs, xs = ys ++ zs ∧ DpAll K H ys ds ∧ DpAll K H zs es
  | [], es, xs, h => ⟨[], xs, rfl, .nil, h⟩
  | d :: ds, es, xs, h => by
    cases h with
    | cons a t =>
      obtain ⟨ys, zs, rfl, h1, h2⟩ := dpa_split (ds := ds) t
      exact ⟨_ :: ys, zs, rfl, .cons a h1, h2⟩
theorem dpa_split1 {K : PySem.W.Frag} {H : Hp} {ds : List PyData} {d : PyData} {xs : List V} (h : DpAll K H xs (ds ++ [d])) : ∃ ys y, xs = ys ++ [y] ∧ DpAll K H ys ds ∧ Dp K H y d := by
  obtain ⟨ys, zs, rfl, h1, h2⟩ := dpa_split h
  cases h2 with
  | cons a t =>
    cases t
    exact ⟨ys, _, rfl, h1, a⟩
theorem map_getD {α β : Type} (l : List α) (e : α) (g : α → β) : (List.range l.length).map (fun i => g (l.getD i e)) = l.map g := by
  refine List.ext_getElem (by simp) fun i h1 h2 => ?_
  have h3 : i < l.length := by simpa using h2
  rw [List.getElem_map, List.getElem_range, List.getElem_map, List.getD_eq_getElem?_getD, List.getElem?_eq_getElem h3]
  rfl
theorem walk_rg {n : Nat} : Walk (Itr 0 n) n (fun _ => True) (YFn nV) := walk_range.mono (fun _ h => h) fun i H x H' _ _ y => ⟨y.1, y.2.trans (by show V.int (0 + (i : Int)) = _; rw [Int.zero_add])⟩
theorem walk_rgA {a n : Nat} : Walk (Itr ((a : Int) + 1) n) n (fun _ => True) (YFn fun j => nV (a + 1 + j)) := walk_range.mono (fun _ h => h) fun i H x H' _ _ y => ⟨y.1, y.2.trans rfl⟩
/-! ### dicts by rows -/
abbrev kyT (p : List Nat) : List L2.Key := p.map fun x : Nat => (Sum.inl (x : Int) : L2.Key)
theorem kyT_inj : ∀ {p q : List Nat}, kyT p = kyT q → p = q
  | [], [], _ => rfl
  | [], _ :: _, e => nomatch e
  | _ :: _, [], e => nomatch e
  | x :: p, y :: q, e => by
    simp only [List.map_cons, List.cons.injEq] at e
    have h1 : (x : Int) = y := Sum.inl.inj e.1
    rw [kyT_inj e.2, show x = y by omega]
theorem kyT_vals (p : List Nat) : (kyT p).map kV = p.map nV := by rw [List.map_map]; rfl
def tkT (f : List (List Nat)) : KVT := f.map fun p => (kyT p, V.bl true)
theorem tkT_len (f : List (List Nat)) : (tkT f).length = f.length := List.length_map _
theorem tkT_val (f : List (List Nat)) (p : List Nat) : valV (tkT f) (kyT p) = if p ∈ f then some (V.bl true) else none := by
  induction f with
  | nil => rfl
  | cons q f ih =>
    show valV ((kyT q, V.bl true) :: tkT f) (kyT p) = _
    by_cases c : kyT q = kyT p
    · rw [valV_pos c, if_pos (by rw [kyT_inj c]; exact List.mem_cons_self)]
    · rw [valV_neg c, ih]
      by_cases m : p ∈ f
      · rw [if_pos m, if_pos (List.mem_cons_of_mem _ m)]
      · rw [if_neg m, if_neg fun z => (List.mem_cons.mp z).elim (fun e => c (by rw [e])) m]
theorem tkT_put (f : List (List Nat)) (p : List Nat) : putK (tkT f) (kyT p) (V.bl true) = tkT (addU f p) := by
  by_cases c : p ∈ f
  · have h : ((tkT f).any fun kv => decide (kv.1 = kyT p)) = true := by rw [valV_any, tkT_val, if_pos c]; rfl
    unfold putK addU
    rw [if_pos h, if_pos c]
    unfold tkT
    rw [List.map_map]
    refine List.map_congr_left fun q _ => ?_
    show (if kyT q = kyT p then (kyT q, V.bl true) else (kyT q, V.bl true)) = _
    by_cases e : kyT q = kyT p
    · rw [if_pos e]
    · rw [if_neg e]
  · rw [putK_new _ (by rw [tkT_val, if_neg c])]
    unfold addU
    rw [if_neg c]
    unfold tkT
    rw [List.map_append]
    rfl
theorem tkT_merge : ∀ (g f : List (List Nat)), mergeT (tkT f) (tkT g) = tkT (addAll f g)
  | [], _ => rfl
  | p :: g, f => by
    show mergeT (putK (tkT f) (kyT p) (V.bl true)) (tkT g) = tkT (addAll (addU f p) g)
    rw [tkT_put, tkT_merge]
end Kp
set_option Elab.async false
set_option linter.all false
set_option maxRecDepth 100000
set_option maxHeartbeats 4000000
namespace Kp
open PySem PySem.Spec PyProof.Rows L2
/-! ### heaps that keep all but dicts -/
def notD : HO → Bool
  | .dK _ => false
  | .dT _ => false
  | _ => true
def Keep (H H' : Hp) : Prop := ∀ b o, notD o = true → H b = some o → H' b = some o
theorem Keep.of {H H' : Hp} (s : Same H H') : Keep H H' := fun b o _ e => s b o e
theorem Keep.refl (H : Hp) : Keep H H := fun _ _ _ e => e
theorem Keep.trans {A B C : Hp} (a : Keep A B) (b : Keep B C) : Keep A C := fun x o n e => b x o n (a x o n e)
theorem Keep.hide {H H' : Hp} (s : Keep H H') (D : Addr) : Keep (Kp.hide H D) (Kp.hide H' D) := fun b o n e => by
  by_cases h : b = D
  · subst h; rw [hide_at] at e; cases e
  · rw [hide_ne h] at e ⊢
    exact s _ _ n e
theorem Keep.put {H H' : Hp} {a : Addr} {o o' : HO} (s : Keep H H') (e : H a = some o) (n : notD o = false) : Keep H (upd H' a o') := fun b x nx ex => by
  by_cases h : b = a
  · subst h; rw [e] at ex; cases ex; rw [n] at nx; cases nx
  · rw [upd_ne h]; exact s _ _ nx ex
theorem Keep.mut {H H' : Hp} {a : Addr} {o : HO} (s : Keep H H') (e : H a = none) : Keep H (upd H' a o) := fun b x nx ex => by
  by_cases h : b = a
  · subst h; rw [e] at ex; cases ex
  · rw [upd_ne h]; exact s _ _ nx ex
theorem Keep.tup {K : PySem.W.Frag} {H H' : Hp} {a : Addr} {xs : List V} (e : Keep H H') (h : SqT K H a xs) : SqT K H' a xs := by
  rcases h with (h | ⟨o, h⟩) | h
  · exact .inl (.inl (e _ _ rfl h))
  · exact .inl (.inr ⟨o, e _ _ rfl h⟩)
  · exact .inr h
theorem Keep.lst {K : PySem.W.Frag} {H H' : Hp} {a : Addr} {xs : List V} (e : Keep H H') (h : SqL K H a xs) : SqL K H' a xs := by
  rcases h with (h | ⟨o, h⟩) | h
  · exact .inl (.inl (e _ _ rfl h))
  · exact .inl (.inr ⟨o, e _ _ rfl h⟩)
  · exact .inr h
mutual
theorem Dp.keep {K : PySem.W.Frag} {H H' : Hp} (s : Keep H H') : ∀ (d : PyData) (v : V), Dp K H v d → Dp K H' v d
  | .none, _, h => by cases h; exact .non
  | .bool b, _, h => by cases h; exact .bl b
  | .int i, _, h => by cases h; exact .int i
  | .str x, _, h => by cases h; exact .str x
  | .list ds, _, h => by
    cases h with
    | lst a b => exact .lst (Keep.lst s a) (DpAll.keep s ds _ b)
  | .tuple ds, _, h => by
    cases h with
    | tup a b => exact .tup (Keep.tup s a) (DpAll.keep s ds _ b)
  | .dict _, _, h => by cases h
theorem DpAll.keep {K : PySem.W.Frag} {H H' : Hp} (s : Keep H H') : ∀ (ds : List PyData) (vs : List V), DpAll K H vs ds → DpAll K H' vs ds
  | [], _, h => by cases h; exact .nil
  | d :: ds, _, h => by
    cases h with
    | cons a b => exact .cons (Dp.keep s d _ a) (DpAll.keep s ds _ b)
end
theorem hr_keep (K : PySem.W.Frag) : HR K Keep :=
  { refl := Keep.refl, trans := Keep.trans, lst := fun s h => s _ _ rfl h, dph := fun D s h => DpAll.keep (Keep.hide s D) _ _ h, wr := fun s h => Keep.mut s h }
theorem o_updT {X : Cx} {k : Nat} {A : Around} (hr : Room k A) (hX : X.A = A := by rfl) : MtR X "dict.update" rUpdT := by
  subst hX
  exact mt_updT (by have := hr.un; omega)
end Kp
set_option Elab.async false
set_option linter.all false
set_option maxRecDepth 100000
set_option maxHeartbeats 4000000
namespace Kp
open PySem PySem.Spec PyProof.Rows L2
local macro_rules | `(tactic| walk_at "q") => `(tactic| repeat (with_reducible first
  | refine q_seq ?_ | refine q_asg ?_ | refine q_name ?_ | refine q_ret ?_ | refine q_drop ?_ | refine q_ifs ?_ | refine q_next ?_ | refine q_par ?_
  | refine q_var (by with_unfolding_all exact rfl) ?_ | refine q_c ?_ | refine q_op ?_ | refine q_un ?_ | refine q_cb ?_ | refine q_cons ?_ | refine q_nil ?_ | refine q_call ?_
  | refine q_test ?_ | refine q_B ?_ | refine q_not ?_ | refine q_and ?_ | refine q_or ?_ | refine q_andV ?_ | refine q_orV ?_ | refine q_notV ?_ | refine q_ifx ?_ | refine q_chain ?_
  | refine q_tup ?_ | refine q_lst ?_ | refine q_bm ?_ | refine q_bm0 ?_ | refine q_yes ?_ | refine q_bl ?_ | refine q_I0 ?_ | refine q_int ?_ | refine q_eqI ?_ | refine q_neI ?_
  | refine q_dsetd ?_ | refine q_dget ?_ | refine q_din ?_ | refine q_dnotin ?_ | refine q_dput ?_ | refine q_sl ?_ | refine q_nopart ?_ | refine q_part ?_ | refine q_exI ?_ | refine q_dnewK ?_
  | refine q_for ?_ | refine q_lc ?_ | refine q_iTup ?_ | refine q_iList ?_ | refine q_iEnumT ?_ | refine q_iEnum ?_ | refine q_iRng1 ?_ | refine q_iRng2 ?_ | refine q_lstRg ?_ | refine q_tupRg ?_
  | refine iteT ?_ | refine iteF ?_ | refine q_nt ?_ | refine q_nf ?_))
abbrev s_led_to : Stmt := topS 27
theorem sc_led_to : FnScope ["machine", "parting", "other", "letter", "known", "standing", "block", "goal"] ["machine", "parting", "other"] (defScope s_led_to) := ⟨rfl, rfl, rfl, by decide +kernel, rfl, by decide +kernel, by decide +kernel⟩
abbrev s_is_kept_by : Stmt := topS 26
theorem sc_is_kept_by : FnScope ["machine", "parting"] ["machine", "parting"] (defScope s_is_kept_by) := ⟨rfl, rfl, rfl, by decide +kernel, rfl, by decide +kernel, by decide +kernel⟩
abbrev s_is_kept : Stmt := topS 28
theorem sc_is_kept : FnScope ["machine", "parting"] ["machine", "parting"] (defScope s_is_kept) := ⟨rfl, rfl, rfl, by decide +kernel, rfl, by decide +kernel, by decide +kernel⟩
abbrev s_kept_over : Stmt := topS 29
theorem sc_kept_over : FnScope ["machine", "parting", "found", "pairs", "block", "one", "far", "standing", "letter"] ["machine", "parting"] (defScope s_kept_over) := ⟨rfl, rfl, rfl, by decide +kernel, rfl, by decide +kernel, by decide +kernel⟩
abbrev s_drawn_in : Stmt := topS 30
theorem sc_drawn_in : FnScope ["machine", "one", "far"] ["machine", "one", "far"] (defScope s_drawn_in) := ⟨rfl, rfl, rfl, by decide +kernel, rfl, by decide +kernel, by decide +kernel⟩
abbrev s_drawn : Stmt := topS 31
theorem sc_drawn : FnScope ["machine", "one", "far"] ["machine", "one", "far"] (defScope s_drawn) := ⟨rfl, rfl, rfl, by decide +kernel, rfl, by decide +kernel, by decide +kernel⟩
abbrev s_least_kept : Stmt := topS 32
theorem sc_least_kept : FnScope ["machine", "parting"] ["machine", "parting"] (defScope s_least_kept) := ⟨rfl, rfl, rfl, by decide +kernel, rfl, by decide +kernel, by decide +kernel⟩
theorem putK_many {κ : Type} [DecidableEq κ] (c : List (κ × V)) (k : κ) (x : V) : (putK c k x).length ≤ c.length + 1 := by
  unfold putK
  by_cases h : (c.any fun kv => decide (kv.1 = k)) = true
  · rw [if_pos h, List.length_map]; exact Nat.le_succ _
  · rw [if_neg h, List.length_append, List.length_singleton]; exact Nat.le_refl _
/-- the dict of led_to behind i standings -/
structure Kd (kvs : List (L2.Key × V)) (p : List Nat) (g : Nat → Nat) (i : Nat) : Prop where
  len : kvs.length ≤ i
  has : ∀ j, j < i → valV kvs (.inl (at0 p j : Int)) = some (nV (g j))
  only : ∀ k v, valV kvs k = some v → ∃ j, j < i ∧ k = .inl (at0 p j : Int) ∧ v = nV (g j)
theorem kd_old {kvs : List (L2.Key × V)} {p : List Nat} {g : Nat → Nat} {i : Nat} (h : Kd kvs p g i) (hv : valV kvs (.inl (at0 p i : Int)) = some (nV (g i))) : Kd kvs p g (i + 1) :=
  ⟨Nat.le_succ_of_le h.len, fun j hj => by
    rcases Nat.lt_succ_iff_lt_or_eq.mp hj with h1 | rfl
    · exact h.has j h1
    · exact hv, fun k v e => by obtain ⟨j, hj, r⟩ := h.only k v e; exact ⟨j, by omega, r⟩⟩
theorem kd_new {kvs : List (L2.Key × V)} {p : List Nat} {g : Nat → Nat} {i : Nat} (h : Kd kvs p g i) (hv : valV kvs (.inl (at0 p i : Int)) = none) : Kd (putK kvs (.inl (at0 p i : Int)) (nV (g i))) p g (i + 1) := by
  refine ⟨Nat.le_trans (putK_many _ _ _) (Nat.succ_le_succ h.len), fun j hj => ?_, fun k v e => ?_⟩
  · rw [valV_put]
    rcases Nat.lt_succ_iff_lt_or_eq.mp hj with h1 | rfl
    · by_cases c : (Sum.inl (at0 p j : Int) : L2.Key) = .inl (at0 p i : Int)
      · rw [← c, h.has j h1] at hv; cases hv
      · rw [if_neg c]; exact h.has j h1
    · rw [if_pos rfl]
  · rw [valV_put] at e
    by_cases c : k = .inl (at0 p i : Int)
    · rw [if_pos c] at e
      cases e
      exact ⟨i, Nat.lt_succ_self _, c, rfl⟩
    · rw [if_neg c] at e
      obtain ⟨j, hj, r⟩ := h.only k v e
      exact ⟨j, by omega, r⟩
section
variable {P : Program} {w : World} {K : PySem.W.Frag} {mg : Str → Option Value} {base : Heap}
def spLed (K : PySem.W.Frag) : Sp := fun vs H Q _ => ∃ m v u t sh n L p, vs = [m, v, u] ∧ Dp K H m (dM t sh) ∧ Frm t sh n L ∧ Dp K H v (dT p) ∧ Dp K H u (dT p) ∧ p.length = n ∧ ∀ H', Same H H' → Q (.bl (keptB t n L p)) H'
theorem ok_led_to (B : Bn K mg) (Cletters_of : Cal P w K mg base 1 "letters_of" ["machine"] (spLetters K)) (D : Def K mg "led_to" s_led_to ["machine", "parting", "other"]) : Cal P w K mg base 2 "led_to" ["machine", "parting", "other"] (spLed K) := by
  refine D.cal sc_led_to (fun vs H Q E h => ?_) (fun f cdv A outer s H vs Q E hr h => ?_)
  · obtain ⟨m, v, u, t, sh, n, L, p, rfl, _⟩ := h
    rfl
  · obtain ⟨m, v, u, t, sh, n, L, p, rfl, hm, F, hv, hu, hl, q⟩ := h
    have n8 := F.m.n8
    refine ⟨_, (pss_cons (ps_for PassesOwn.never rfl (i_list B (e_call Cletters_of (hr.mono (by decide)) (pa_cons (pv 0) pa_nil))) (pg_name (i := 3) sc_led_to.nd rfl (Or.inl rfl))
      (pss_cons (ps_set (i := 4) sc_led_to.nd rfl (.inl rfl) pe_dnewK)
      (pss_one (ps_for PassesOwn.never rfl (i_enumT B (pv 1)) (g_tup (n := 2) B rfl (pgs_cons (pg_name (i := 5) sc_led_to.nd rfl (Or.inl rfl)) (pgs_cons (pg_name (i := 6) sc_led_to.nd rfl (Or.inl rfl)) pgs_nil)))
      (pss_cons (ps_set (i := 7) sc_led_to.nd rfl (.inl rfl) (pe_ix (o_ixT B) (pv 2) (pe_ix (o_ixT B) (pe_ix (o_ixT B) (pe_ix (o_ixT B) (pv 0) pe_int (fun _ _ => rfl)) (pv 5) (fun _ _ => rfl)) (pv 3) (fun _ _ => rfl)) (fun _ _ => rfl)))
      (pss_one (ps_if (pt_cmpR op_ne (pe_dsetd (pv 4) (pv 6) (pv 7) ⟨rfl, rfl, rfl, rfl⟩) (pv 7) (nomark _)) (pss_one (ps_ret pe_bl)) pss_nil)))))))
      (pss_one (ps_ret pe_bl))), ?_⟩
    walk_at "q"
    refine ⟨m, t, sh, n, L, rfl, hm, F, fun lv H1 s1 hlv => ?_⟩
    obtain ⟨la, rfl, hls⟩ := dp_line hlv
    obtain ⟨c, rfl, hs⟩ := dp_row hv
    walk_at "q"
    have len : ((List.range L).map nV).length = L := by rw [List.length_map, List.length_range]
    refine ⟨la, rfl, ⟨_, hls⟩, for_it (walk_list (xs := (List.range L).map nV)) (fun l σ H' => ∃ y3 y4 y5 y6 y7, σ = [some m, some (.ref c), some u, y3, y4, y5, y6, y7] ∧ Same H1 H' ∧ ∀ l', l' < l → ∀ i j, i < n → j < n → Rel p i j → Rel p (dl t i l') (dl t j l'))
      ⟨none, none, none, none, none, rfl, Same.refl _, fun l' h => absurd h (Nat.not_lt_zero _)⟩ (fun l σ H' _ h => ?_) (fun l x σ H' H'' hi h y => ?_) (fun σ H' h => ?_)⟩
    · obtain ⟨_, _, _, _, _, _, s2, _⟩ := h
      rcases hls with (e | ⟨o, e⟩) | e
      · exact .inl (.inl (s2 _ _ e))
      · exact .inl (.inr ⟨o, s2 _ _ e⟩)
      · exact .inr e
    · obtain ⟨y3, y4, y5, y6, y7, rfl, s2, hall⟩ := h
      obtain ⟨rfl, hx⟩ := y
      rw [len] at hi
      rw [List.getElem?_map, List.getElem?_range hi] at hx
      cases hx
      walk_at "q"
      intro d nd
      walk_at "q"
      have s3 : Same H (upd H'' d (.dK [])) := s1.trans (s2.trans (Same.new nd))
      refine ⟨c, _, rfl, Same.tup s3 hs, for_it (walk_enumT (xs := p.map nV)) (fun i σ H3 => ∃ y5 y6 y7 kvs, σ = [some m, some (.ref c), some u, some (nV l), some (.ref d), y5, y6, y7] ∧ Same H H3 ∧ Same H1 H3 ∧ H3 d = some (.dK kvs) ∧ Kd kvs p (fun j => at0 p (dl t j l)) i)
        ⟨y5, y6, y7, [], rfl, s3, s2.trans (Same.new nd), upd_same, Nat.le_refl _, fun j h => absurd h (Nat.not_lt_zero _), fun k v e => by cases e⟩ (fun i σ H3 _ h => ?_) (fun i x σ H3 H4 hi2 h y => ?_) (fun σ H3 h => ?_)⟩
      · obtain ⟨_, _, _, _, _, s4, _⟩ := h
        exact Same.tup s4 hs
      · obtain ⟨y5, y6, y7, kvs, rfl, s4, s5, hd, hk⟩ := h
        obtain ⟨T, x1, y, rfl, nT, rfl, e1, e2⟩ := y
        cases e1
        rw [List.length_map] at hi2
        have e2 : (p.map nV)[i]? = some y := e2
        rw [List.getElem?_map, get_at0 hi2] at e2
        cases e2
        refine q_pair upd_same ?_
        have dT' : d ≠ T := fun z => by rw [← z, hd] at nT; cases nT
        have s6 : Same H (upd H3 T (.tup [.int (i : Nat), nV (at0 p i)])) := s4.trans (Same.new nT)
        have s7 : Same H1 (upd H3 T (.tup [.int (i : Nat), nV (at0 p i)])) := s5.trans (Same.new nT)
        have hd2 : upd H3 T (.tup [.int (i : Nat), nV (at0 p i)]) d = some (.dK kvs) := by rw [upd_ne dT']; exact hd
        generalize upd H3 T (.tup [.int (i : Nat), nV (at0 p i)]) = H5 at *
        walk_at "q"
        refine dm_rows (Dp.same s6 _ _ hm) fun r hr2 => ?_
        walk_at "q"
        have hin : i < n := by omega
        refine F.row_of hr2 hin fun r2 hr3 => ?_
        walk_at "q"
        refine step_of F hr3 hin hi ?_
        walk_at "q"
        refine ixT_num (Dp.same s6 _ _ hu) (by rw [hl]; exact F.m.dl_lt hin hi) ?_
        walk_at "q"
        refine ⟨d, rfl, .inl ⟨_, .inl hd2⟩, ?_⟩
        walk_at "q"
        refine ⟨kvs, .inl (at0 p i : Int), hd2, rfl, by rw [sizeLine_eq]; have := hk.len; omega, fun v0 e0 => ?_, fun e0 => ?_⟩
        · obtain ⟨j, hj, ej, rfl⟩ := hk.only _ _ e0
          have ej : at0 p i = at0 p j := by have := Sum.inl.inj ej; omega
          walk_at "q"
          refine q_ndec (fun ne => ?_) (fun e => ?_)
          · walk_at "q"
            have e : keptB t n L p = false := by
              refine Bool.eq_false_iff.mpr fun z => ne ?_
              have := keptB_iff.mp z j i l (by omega) hin hi ej.symm
              rw [this]
            rw [e] at q
            exact q _ s6
          · walk_at "q"
            have e0 : valV kvs (.inl (at0 p i : Int)) = some (nV (at0 p (dl t i l))) := e0.trans (congrArg some e)
            exact ⟨_, _, _, kvs, rfl, s6, s7, hd2, kd_old hk e0⟩
        · walk_at "q"
          refine q_ndec (fun ne => absurd rfl ne) (fun _ => ?_)
          walk_at "q"
          refine ⟨_, _, _, _, rfl, Same.mut s6 ?_, Same.mut s7 ?_, upd_same, kd_new hk e0⟩
          · cases e : H d with
            | none => rfl
            | some o => have := s1.trans s2 d o e; rw [nd] at this; cases this
          · cases e : H1 d with
            | none => rfl
            | some o => have := s2 d o e; rw [nd] at this; cases this
      · obtain ⟨y5, y6, y7, kvs, rfl, s4, s5, hd, hk⟩ := h
        rw [List.length_map, hl] at hk
        refine ⟨_, _, _, _, _, rfl, s5, fun l' hl' i j hi2 hj e => ?_⟩
        rcases Nat.lt_succ_iff_lt_or_eq.mp hl' with h1 | rfl
        · exact hall l' h1 i j hi2 hj e
        · have h1 := hk.has i hi2
          have h2 := hk.has j hj
          have e : at0 p i = at0 p j := e
          rw [e, h2] at h1
          have := V.int.inj (Option.some.inj h1)
          show at0 p (dl t i l') = at0 p (dl t j l')
          omega
    · obtain ⟨y3, y4, y5, y6, y7, rfl, s2, hall⟩ := h
      rw [len] at hall
      walk_at "q"
      have e : keptB t n L p = true := keptB_iff.mpr fun i j l hi hj hl e => hall l hl i j hi hj e
      rw [e] at q
      exact q _ (s1.trans s2)
def spKeptBy (K : PySem.W.Frag) : Sp := fun vs H Q _ => ∃ m v t sh n L p, vs = [m, v] ∧ Dp K H m (dM t sh) ∧ Frm t sh n L ∧ Dp K H v (dT p) ∧ p.length = n ∧ num p = p ∧ ∀ H', Same H H' → Q (.bl (keptB t n L p)) H'
theorem ok_is_kept_by (B : Bn K mg) (Cled_to : Cal P w K mg base 2 "led_to" ["machine", "parting", "other"] (spLed K)) (D : Def K mg "is_kept_by" s_is_kept_by ["machine", "parting"]) : Cal P w K mg base 3 "is_kept_by" ["machine", "parting"] (spKeptBy K) := by
  refine D.cal sc_is_kept_by (fun vs H Q E h => ?_) (fun f cdv A outer s H vs Q E hr h => ?_)
  · obtain ⟨m, v, t, sh, n, L, p, rfl, _⟩ := h
    rfl
  · obtain ⟨m, v, t, sh, n, L, p, rfl, hm, F, hv, hl, hn, q⟩ := h
    refine ⟨_, (pss_one (ps_ret (e_call Cled_to (hr.mono (by decide)) (pa_cons (pv 0) (pa_cons (pv 1) (pa_cons (pv 1) pa_nil)))))), ?_⟩
    walk_at "q"
    exact ⟨m, v, v, t, sh, n, L, p, rfl, hm, F, hv, hv, hl, q⟩
theorem ok_is_kept (B : Bn K mg) (Cis_kept_by : Cal P w K mg base 3 "is_kept_by" ["machine", "parting"] (spKeptBy K)) (Cneed_parting : Cal P w K mg base 5 "need_parting" ["machine", "parting"] (spNeedP K))
    (D : Def K mg "is_kept" s_is_kept ["machine", "parting"]) : Cal P w K mg base 6 "is_kept" ["machine", "parting"] (spKeptBy K) := by
  refine D.cal sc_is_kept (fun vs H Q E h => ?_) (fun f cdv A outer s H vs Q E hr h => ?_)
  · obtain ⟨m, v, t, sh, n, L, p, rfl, _⟩ := h
    rfl
  · obtain ⟨m, v, t, sh, n, L, p, rfl, hm, F, hv, hl, hn, q⟩ := h
    refine ⟨_, (pss_one (ps_ret (e_call Cis_kept_by (hr.mono (by decide)) (pa_cons (pv 0) (pa_cons (e_call Cneed_parting (hr.mono (by decide)) (pa_cons (pv 0) (pa_cons (pv 1) pa_nil))) pa_nil))))), ?_⟩
    walk_at "q"
    refine ⟨m, v, t, sh, n, L, p, rfl, hm, F, hv, hl, hn, fun H1 s1 => ?_⟩
    walk_at "q"
    exact ⟨m, v, t, sh, n, L, p, rfl, Dp.same s1 _ _ hm, F, Dp.same s1 _ _ hv, hl, hn, fun H2 s2 => q H2 (s1.trans s2)⟩
/-! kept_over -/
abbrev pr (ps : List (Nat × Nat)) : List (List Nat) := ps.map fun q => [q.1, q.2]
theorem bpairs_len (p : List Nat) (k : Nat) : (bpairs p k).length ≤ k * p.length := by
  induction k with
  | zero => exact Nat.zero_le _
  | succ k ih =>
    rw [bpairs_succ, List.length_append]
    have h1 : (bp1 (blk p k)).length ≤ p.length := by
      unfold bp1
      rw [List.length_map, List.length_tail]
      have := blk_len p k
      omega
    rw [Nat.succ_mul]
    omega
theorem Dp.unhide {H : Hp} {l : Addr} {v : V} {d : PyData} (h : Dp K (hide H l) v d) : Dp K H v d := Dp.same (hide_same H l) _ _ h
theorem DpAll.unhide {H : Hp} {l : Addr} {v : List V} {d : List PyData} (h : DpAll K (hide H l) v d) : DpAll K H v d := DpAll.same (hide_same H l) _ _ h
theorem dp_pair {H : Hp} {x y : Nat} {a : Addr} (n : H a = none) : Dp K (upd H a (.tup [nV x, nV y])) (.ref a) (dT [x, y]) := dp_of_row (.of upd_same)
/-- the new list of pairs goes behind the old one -/
theorem ext_of {H : Hp} {l b : Addr} {xs zs : List V} {ps qs : List (Nat × Nat)} {Q : VK} (hl : H l = some (.lst xs)) (hx : DpAll K (hide H l) xs ((pr ps).map dT)) (hb : H b = some (.lst zs)) (hz : DpAll K H zs ((pr qs).map dT)) (few : ps.length + qs.length ≤ 100000)
    (q : ∀ ys, DpAll K (hide H l) ys ((pr (ps ++ qs)).map dT) → Q .non (upd H l (.lst ys))) : rExtend (.ref l) [.ref b] H Q := by
  refine ⟨l, b, xs, zs, rfl, rfl, hl, hb, ?_, q _ ?_⟩
  · rw [dpa_len hx, dpa_len hz, List.length_map, List.length_map, List.length_map, List.length_map, sizeLine_eq]
    omega
  · show DpAll K (hide H l) (xs ++ zs) (((ps ++ qs).map fun q => [q.1, q.2]).map dT)
    rw [List.map_append, List.map_append]
    exact dpa_app hx (apAll_rows hz hl)
def spOver (K : PySem.W.Frag) : Sp := fun vs H Q _ => ∃ m v t sh n L p, vs = [m, v] ∧ Dp K H m (dM t sh) ∧ Frm t sh n L ∧ Dp K H v (dT p) ∧ p.length = n ∧ num p = p ∧ ∀ c, Lub n (Cl t n L) (Rel p) c → RetN c H Q
theorem ok_kept_over (B : Bn K mg) (Csingle_of : Cal P w K mg base 2 "single_of" ["machine"] (spSingle K)) (Cblocks_of : Cal P w K mg base 1 "blocks_of" ["parting"] (spBlocks K)) (Cmerged : Cal P w K mg base 1 "merged" ["parting", "one", "far"] (spMerged K))
    (Cletters_of : Cal P w K mg base 1 "letters_of" ["machine"] (spLetters K)) (Cnumbered : Cal P w K mg base 1 "numbered" ["keys"] (spNum K)) (D : Def K mg "kept_over" s_kept_over ["machine", "parting"]) : Cal P w K mg base 3 "kept_over" ["machine", "parting"] (spOver K) := by
  refine D.cal sc_kept_over (fun vs H Q E h => ?_) (fun f cdv A outer s H vs Q E hr h => ?_)
  · obtain ⟨m, v, t, sh, n, L, p, rfl, _⟩ := h
    rfl
  · obtain ⟨m, v, t, sh, n, L, p, rfl, hm, F, hv, hl, hn, q⟩ := h
    have n8 := F.m.n8
    have n1 := F.m.n1
    have l4 := F.m.l4
    have tl := F.m.len
    have hk1 := firsts_len p
    refine ⟨_, (pss_cons (ps_par (i := 2) (j := 3) (by rfl) sc_kept_over.nd rfl rfl (by decide) rfl rfl (pa_cons (e_call Csingle_of (hr.mono (by decide)) (pa_cons (pv 0) pa_nil)) (pa_cons (pe_lst pa_nil) pa_nil)) (by rfl))
      (pss_cons (ps_for PassesOwn.never rfl (i_list B (e_call Cblocks_of (hr.mono (by decide)) (pa_cons (pv 1) pa_nil))) (pg_name (i := 4) sc_kept_over.nd rfl (Or.inr rfl))
      (pss_one (ps_expr (e_bm B PySem.F.plainAttrs_list PySem.F.slot_list_extend PySem.F.type_list_extend mt_extend (pv 3) (pa_cons (pe_lc (own := [("standing", 7)]) (g := gName 7) (tt := tYes) rfl sc_kept_over.nd (i_list B (pe_slice (o_slL B) (pv 4) (po_some pe_int) po_none)) (blkOk_by (by kernel_rfl)) (fun _ _ _ _ _ => (pg_name (i := 7) sc_kept_over.nd rfl (Or.inl rfl))) (fun _ _ _ _ _ => pts_nil) (fun _ _ _ _ _ => (pe_tup (pa_cons (pe_ix (o_ixL B) (pv 4) pe_int (fun _ _ => rfl)) (pa_cons (pv 7) pa_nil))))) pa_nil)))))
      (pss_cons (ps_while PassesOwn.never (pt_cmpR (o_neD B hr) (pv 3) (pe_lst pa_nil) (nomark _))
      (pss_cons (ps_asg (pe_bm0 PySem.F.plainAttrs_list PySem.F.slot_list_pop PySem.F.type_list_pop mt_pop (pv 3)) (g_tup (n := 2) B rfl (pgs_cons (pg_name (i := 5) sc_kept_over.nd rfl (Or.inr rfl)) (pgs_cons (pg_name (i := 6) sc_kept_over.nd rfl (Or.inr rfl)) pgs_nil))))
      (pss_one (ps_if (pt_cmpR op_ne (pe_ix (o_ixT B) (pv 2) (pv 5) (fun _ _ => rfl)) (pe_ix (o_ixT B) (pv 2) (pv 6) (fun _ _ => rfl)) (nomark _)) (pss_cons (ps_set (i := 2) sc_kept_over.nd rfl (.inl rfl) (e_call Cmerged (hr.mono (by decide)) (pa_cons (pv 2) (pa_cons (pv 5) (pa_cons (pv 6) pa_nil)))))
      (pss_one (ps_expr (e_bm B PySem.F.plainAttrs_list PySem.F.slot_list_extend PySem.F.type_list_extend mt_extend (pv 3) (pa_cons (pe_lc (own := [("letter", 8)]) (g := gName 8) (tt := tYes) rfl sc_kept_over.nd (i_list B (e_call Cletters_of (hr.mono (by decide)) (pa_cons (pv 0) pa_nil))) (blkOk_by (by kernel_rfl)) (fun _ _ _ _ _ => (pg_name (i := 8) sc_kept_over.nd rfl (Or.inl rfl))) (fun _ _ _ _ _ => pts_nil) (fun _ _ _ _ _ => (pe_tup (pa_cons (pe_ix (o_ixT B) (pe_ix (o_ixT B) (pe_ix (o_ixT B) (pv 0) pe_int (fun _ _ => rfl)) (pv 5) (fun _ _ => rfl)) (pv 8) (fun _ _ => rfl)) (pa_cons (pe_ix (o_ixT B) (pe_ix (o_ixT B) (pe_ix (o_ixT B) (pv 0) pe_int (fun _ _ => rfl)) (pv 6) (fun _ _ => rfl)) (pv 8) (fun _ _ => rfl)) pa_nil))))) pa_nil))))) pss_nil))))
      (pss_one (ps_ret (e_call Cnumbered (hr.mono (by decide)) (pa_cons (pv 2) pa_nil))))))), ?_⟩
    walk_at "q"
    refine ⟨m, t, sh, rfl, hm, by omega, RetN.of (K := K) fun gv H1 s1 hg => ?_⟩
    walk_at "q"
    refine ⟨Nat.zero_le _, fun l nl => ?_⟩
    walk_at "q"
    refine ⟨gv, .ref l, rfl, ?_⟩
    walk_at "q"
    have nlH : H l = none := by
      cases e : H l with
      | none => rfl
      | some o => have := s1 l o e; rw [nl] at this; cases this
    have sA : Same H (upd H1 l (.lst [])) := Same.mut s1 nlH
    have hg2 : Dp K (hide (upd H1 l (.lst [])) l) gv (dT (List.range t.length)) := ap_row (Dp.same (Same.new nl) _ _ hg) upd_same
    have hl0 : upd H1 l (.lst []) l = some (.lst []) := upd_same
    generalize upd H1 l (.lst []) = H2 at *
    refine ⟨v, p, rfl, Dp.same sA _ _ hv, hn, fun z => by rw [z] at hl; simp at hl; omega, by omega, fun bv H3 s3 hb => ?_⟩
    obtain ⟨ba, bx, rfl, hbs, hba⟩ := dp_lst hb
    have hbl : bx.length = (firsts p).length := by rw [dpa_len hba, List.length_map, List.length_map, List.length_range]
    have hl3 : H3 l = some (.lst []) := s3 _ _ hl0
    -- what does not lean on l
    have nuB : Same (nu H2 H3) (hide H3 l) := fun b o e => by
      have hb2 : H2 b = none := by
        unfold nu at e
        by_cases c : H2 b = none
        · exact c
        · rw [if_neg c] at e; cases e
      rw [hide_ne fun z => by rw [z, hl0] at hb2; cases hb2]
      rw [nu_new hb2] at e
      exact e
    have nuH : Same H (hide H3 l) := fun b o e => by
      rw [hide_ne fun z => by rw [z, nlH] at e; cases e]
      exact s3 _ _ (sA _ _ e)
    have hg3 : Dp K (hide H3 l) gv (dT (List.range t.length)) := Dp.same (Same.hide s3 l) _ _ hg2
    walk_at "q"
    refine ⟨ba, rfl, ⟨_, Same.lst (nu_same _ _) hbs⟩, for_it (walk_list (xs := bx)) (fun b σ H' => ∃ y4 xs, σ = [some m, some v, some gv, some (.ref l), y4, none, none, none, none] ∧ Same (hide H3 l) (hide H' l) ∧ H' l = some (.lst xs) ∧ DpAll K (hide H' l) xs ((pr (bpairs p b)).map dT))
      ⟨none, [], rfl, Same.refl _, hl3, .nil⟩ (fun b σ H' _ h => ?_) (fun b x σ H' H'' hi h y => ?_) (fun σ H' h => ?_)⟩
    · obtain ⟨_, _, _, s4, _⟩ := h
      exact Same.lst (hide_same _ l) (Same.lst s4 (Same.lst nuB hbs))
    · obtain ⟨y4, xs, rfl, s4, hl4, hxs⟩ := h
      obtain ⟨rfl, hx⟩ := y
      rw [hbl] at hi
      obtain ⟨bl, e1, e2⟩ := dll_at hba hx
      rw [List.getElem?_map, List.getElem?_range hi] at e1
      cases e1
      have hx2 := Dp.same nuB _ _ e2
      obtain ⟨xa, rfl, hxl⟩ := dp_line (Dp.unhide (Dp.same s4 _ _ hx2))
      walk_at "q"
      refine ⟨ty_of hl4, ?_⟩
      walk_at "q"
      refine tail_of hxl fun sa ns => ?_
      rw [← List.map_tail]
      have blen := blk_len p b
      have h5 : Same H'' (upd H'' sa (.lst ((blk p b).tail.map nV))) := Same.new ns
      have hsa : SqL K (upd H'' sa (.lst ((blk p b).tail.map nV))) sa ((blk p b).tail.map nV) := .of upd_same
      generalize upd H'' sa (.lst ((blk p b).tail.map nV)) = H5 at *
      refine ⟨sa, rfl, ⟨_, hsa⟩, fun D nD => lcD (hr_same K) (walk_list (xs := (blk p b).tail.map nV)) (fun i => some (dT [at0 (blk p b) 0, at0 (blk p b).tail i])) nD (by rw [List.length_map, List.length_tail]; omega) (fun H' s => Same.lst s hsa) (fun i x H6 H7 Q1 Q0 acc hi s6 hD y k1 k0 => ?_) (fun H6 xs2 s6 hx6 hda _ => ?_)⟩
      · obtain ⟨rfl, hx⟩ := y
        rw [List.length_map] at hi
        have hx : ((blk p b).tail.map nV)[i]? = some x := hx
        rw [List.getElem?_map, get_at0 hi] at hx
        cases hx
        have h0 : 0 < (blk p b).length := by
          have := List.length_tail (l := blk p b)
          omega
        walk_at "q"
        refine ⟨rfl, ?_⟩
        walk_at "q"
        refine ixL_num (i := 0) (dp_of_line (Same.lst s6 (Same.lst h5 hxl))) h0 ?_
        walk_at "q"
        refine ⟨by rw [sizeLine_eq]; show 2 ≤ 16777216; decide, fun T nT => k1 _ _ _ (Same.new nT) rfl (ap_row (dp_pair nT) (by rw [upd_ne]; exact hD; rintro rfl; rw [hD] at nT; cases nT))⟩
      · walk_at "q"
        rw [List.length_map, fm_map] at hda
        have e : (List.range (blk p b).tail.length).map (fun i => dT [at0 (blk p b) 0, at0 (blk p b).tail i]) = (pr (bp1 (blk p b))).map dT := by
          rw [map_at0 _ fun x => dT [at0 (blk p b) 0, x]]
          show _ = (((blk p b).tail.map fun s => ((blk p b).headD 0, s)).map fun q => [q.1, q.2]).map dT
          rw [List.map_map, List.map_map]
          refine List.map_congr_left fun i _ => ?_
          show dT [at0 (blk p b) 0, _] = dT [(blk p b).headD 0, _]
          cases blk p b with
          | nil => rfl
          | cons _ _ => rfl
        rw [e] at hda
        have s7 : Same H'' H6 := h5.trans s6
        have few := bpairs_len p (b + 1)
        rw [bpairs_succ, List.length_append] at few
        have few2 : (b + 1) * p.length ≤ 8 * 8 := Nat.mul_le_mul (by omega) (by omega)
        refine ext_of (s7 _ _ hl4) (DpAll.same (Same.hide s7 l) _ _ hxs) hx6 hda (by omega) fun ys hys => ?_
        walk_at "q"
        refine ⟨_, ys, rfl, ?_, upd_same, ?_⟩
        · rw [hide_upd]; exact s4.trans (Same.hide s7 l)
        · rw [hide_upd, bpairs_succ]; exact hys
    · obtain ⟨y4, xs, rfl, s4, hl4, hxs⟩ := h
      rw [hbl] at hxs
      walk_at "q"
      refine ⟨fun mm σ H6 => ∃ y4 y5 y6 fv f ps xs, σ = [some m, some v, some fv, some (.ref l), y4, y5, y6, none, none] ∧ mm = wkM L f ps ∧ Wk t n L p f ps ∧ Same (hide H3 l) (hide H6 l) ∧ H6 l = some (.lst xs) ∧ DpAll K (hide H6 l) xs ((pr ps).map dT) ∧ mm ≤ 10000 ∧ Dp K (hide H6 l) fv (dT f),
        ⟨_, _, none, none, gv, _, _, xs, rfl, rfl, wk_start hl hn, s4, hl4, hxs, ?_, by rw [← tl]; exact Dp.same s4 _ _ hg3⟩, fun mm σ H6 h => ?_⟩
      · have h1 := firsts_len (List.range n)
        rw [List.length_range] at h1
        have h2 := bpairs_len p (firsts p).length
        have h3 : (firsts p).length * p.length ≤ 8 * 8 := Nat.mul_le_mul (by omega) (by omega)
        have h4 : (firsts (List.range n)).length * (L + 1) ≤ 8 * 5 := Nat.mul_le_mul (by omega) (by omega)
        unfold wkM
        omega
      · obtain ⟨y4, y5, y6, fv, f, ps, xs, rfl, rfl, W, s6, hl6, hx6, few, hf⟩ := h
        walk_at "q"
        refine ⟨Nat.zero_le _, fun e ne => ?_⟩
        have hel : l ≠ e := fun z => by rw [← z, hl6] at ne; cases ne
        have s7 : Same H6 (upd H6 e (.lst [])) := Same.new ne
        have hE : SqL K (upd H6 e (.lst [])) e [] := .of upd_same
        have hl7 := s7 _ _ hl6
        have s67 := s6.trans (Same.hide s7 l)
        have hx7 := DpAll.same (Same.hide s7 l) _ _ hx6
        have hf7 := Dp.same (Same.hide s7 l) _ _ hf
        generalize upd H6 e (.lst []) = H7 at *
        refine ⟨.list ((pr ps).map dT), .list [], .lst (.of hl7) (DpAll.unhide hx7), .lst hE .nil, (flat_dLT _).shaped, (flat_dLT []).shaped, ?_⟩
        have eqq : (PyData.list ((pr ps).map dT)).eqv (.list []) = decide (ps = []) := (eqt_dLT (pr ps) []).dec (p := ps = []) ⟨fun z => List.map_eq_nil_iff.mp (dLT_inj z), fun z => by rw [z]; rfl⟩
        rw [eqq]
        walk_at "q"
        refine q_ndec (fun hps => ?_) (fun hps => ?_)
        · refine ⟨_, fun _ _ h => h, ?_⟩
          obtain ⟨ps', ⟨a, b⟩, rfl⟩ : ∃ ps' q, ps = ps' ++ [q] := ⟨ps.dropLast, ps.getLast hps, (List.dropLast_concat_getLast hps).symm⟩
          have hx7 : DpAll K (hide H7 l) xs ((pr ps').map dT ++ [dT [a, b]]) := by
            have e : (pr (ps' ++ [(a, b)])).map dT = (pr ps').map dT ++ [dT [a, b]] := by
              show ((ps' ++ [(a, b)]).map fun q => [q.1, q.2]).map dT = _
              rw [List.map_append, List.map_append]
              rfl
            rw [← e]
            exact hx7
          obtain ⟨xs', y, rfl, hx8, hy⟩ := dpa_split1 hx7
          have hab := W.lt (a, b) (by simp)
          walk_at "q"
          refine ⟨ty_of hl7, l, _, y, rfl, rfl, hl7, by simp, ?_⟩
          rw [List.dropLast_concat]
          have hl8 : upd H7 l (.lst xs') l = some (.lst xs') := upd_same
          have hd8 : hide (upd H7 l (.lst xs')) l = hide H7 l := hide_upd
          rw [← hd8] at hx8 hy hf7 s67
          generalize upd H7 l (.lst xs') = H8 at *
          refine q_pairN (Dp.unhide hy) ?_
          walk_at "q"
          refine ixT_num (Dp.unhide hf7) (by rw [W.len]; exact hab.1) ?_
          walk_at "q"
          refine ixT_num (Dp.unhide hf7) (by rw [W.len]; exact hab.2) ?_
          walk_at "q"
          refine q_ndec (fun hne => ?_) (fun he => ?_)
          · have hne : at0 f a ≠ at0 f b := fun z => hne (by rw [z])
            walk_at "q"
            refine ⟨fv, f, a, b, rfl, Dp.unhide hf7, by rw [W.len]; exact hab.1, by rw [W.len]; exact hab.2, by rw [W.len]; omega, fun gw H9 s9 hgw => ?_⟩
            have hl9 := s9 _ _ hl8
            have sM : Same H H9 := (nuH.trans (s67.trans (hide_same _ l))).trans s9
            walk_at "q"
            refine ⟨ty_of hl9, ?_⟩
            walk_at "q"
            refine ⟨m, t, sh, n, L, rfl, Dp.same sM _ _ hm, F, fun lv H10 s10 hlv => ?_⟩
            obtain ⟨la, rfl, hls⟩ := dp_line hlv
            refine ⟨la, rfl, ⟨_, hls⟩, fun D nD => lcD (hr_same K) (walk_list (xs := (List.range L).map nV)) (fun i => some (dT [dl t a i, dl t b i])) nD (by rw [List.length_map, List.length_range]; omega) (fun H' s => Same.lst s hls) (fun i x H11 H12 Q1 Q0 acc hi s11 hD y k1 k0 => ?_) (fun H11 xs2 s11 hx11 hda _ => ?_)⟩
            · obtain ⟨rfl, hx⟩ := y
              rw [List.length_map, List.length_range] at hi
              have hx : ((List.range L).map nV)[i]? = some x := hx
              rw [List.getElem?_map, List.getElem?_range hi] at hx
              cases hx
              have hm2 := Dp.same (sM.trans (s10.trans s11)) _ _ hm
              walk_at "q"
              refine ⟨rfl, ?_⟩
              walk_at "q"
              refine dm_rows hm2 fun r hr2 => ?_
              walk_at "q"
              refine F.row_of hr2 hab.1 fun r2 hr3 => ?_
              walk_at "q"
              refine step_of F hr3 hab.1 hi ?_
              walk_at "q"
              refine dm_rows hm2 fun r hr2 => ?_
              walk_at "q"
              refine F.row_of hr2 hab.2 fun r2 hr3 => ?_
              walk_at "q"
              refine step_of F hr3 hab.2 hi ?_
              walk_at "q"
              refine ⟨by rw [sizeLine_eq]; show 2 ≤ 16777216; decide, fun T nT => k1 _ _ _ (Same.new nT) rfl (ap_row (dp_pair nT) (by rw [upd_ne]; exact hD; rintro rfl; rw [hD] at nT; cases nT))⟩
            · walk_at "q"
              rw [List.length_map, List.length_range, fm_map] at hda
              have e : (List.range L).map (fun i => dT [dl t a i, dl t b i]) = (pr (nexts t L a b)).map dT := by
                show _ = (((List.range L).map fun l => (dl t a l, dl t b l)).map fun q => [q.1, q.2]).map dT
                rw [List.map_map, List.map_map]
                rfl
              rw [e] at hda
              have s12 := s9.trans (s10.trans s11)
              have lt := wkM_mrg (L := L) (t := t) (ps := ps') (by rw [W.len]; exact hab.1) (by rw [W.len]; exact hab.2) hne
              have nl := nexts_len (t := t) (L := L) a b
              have fw : (ps' ++ [(a, b)]).length ≤ wkM L f (ps' ++ [(a, b)]) := by unfold wkM; omega
              rw [List.length_append, List.length_singleton] at fw
              refine ext_of (s12 _ _ hl8) (DpAll.same (Same.hide s12 l) _ _ hx8) hx11 hda (by omega) fun ys hys => ?_
              walk_at "q"
              refine ⟨_, lt, _, _, _, gw, _, _, ys, rfl, rfl, wk_mrg F.m W, ?_, upd_same, ?_, ?_, ?_⟩
              · rw [hide_upd]; exact s67.trans (Same.hide s12 l)
              · rw [hide_upd]; exact hys
              · omega
              · rw [hide_upd]; exact Dp.same (Same.hide (s10.trans s11) l) _ _ (ap_row hgw hl9)
          · have he : at0 f a = at0 f b := by have := V.int.inj he; omega
            walk_at "q"
            have lt := wkM_same (L := L) (f := f) (ps := ps') (q := (a, b))
            exact ⟨_, lt, _, _, _, fv, f, ps', xs', rfl, rfl, wk_same W he, s67, hl8, hx8, by omega, hf7⟩
        · subst hps
          walk_at "q"
          refine ⟨fv, f, rfl, Dp.unhide hf7, by rw [W.len]; omega, fun cv H9 s9 hc => ?_⟩
          exact q _ (wk_end F.m W) cv H9 ((nuH.trans (s67.trans (hide_same _ l))).trans s9) hc
end
end Kp
set_option Elab.async false
set_option linter.all false
set_option maxRecDepth 100000
set_option maxHeartbeats 4000000
namespace Kp
open PySem PySem.Spec PyProof.Rows L2
local macro_rules | `(tactic| walk_at "q") => `(tactic| repeat (with_reducible first
  | refine q_seq ?_ | refine q_asg ?_ | refine q_name ?_ | refine q_ret ?_ | refine q_drop ?_ | refine q_ifs ?_ | refine q_next ?_ | refine q_par ?_
  | refine q_var (by with_unfolding_all exact rfl) ?_ | refine q_c ?_ | refine q_op ?_ | refine q_un ?_ | refine q_cb ?_ | refine q_cons ?_ | refine q_nil ?_ | refine q_call ?_
  | refine q_test ?_ | refine q_B ?_ | refine q_not ?_ | refine q_and ?_ | refine q_or ?_ | refine q_andV ?_ | refine q_orV ?_ | refine q_notV ?_ | refine q_ifx ?_ | refine q_chain ?_
  | refine q_tup ?_ | refine q_lst ?_ | refine q_bm ?_ | refine q_bm0 ?_ | refine q_yes ?_ | refine q_bl ?_ | refine q_I0 ?_ | refine q_int ?_ | refine q_eqI ?_ | refine q_neI ?_
  | refine q_dsetd ?_ | refine q_dget ?_ | refine q_din ?_ | refine q_dnotin ?_ | refine q_dput ?_ | refine q_sl ?_ | refine q_nopart ?_ | refine q_part ?_ | refine q_exI ?_ | refine q_dnewK ?_
  | refine q_for ?_ | refine q_lc ?_ | refine q_iTup ?_ | refine q_iList ?_ | refine q_iEnumT ?_ | refine q_iEnum ?_ | refine q_iRng1 ?_ | refine q_iRng2 ?_ | refine q_lstRg ?_ | refine q_tupRg ?_
  | refine iteT ?_ | refine iteF ?_ | refine q_nt ?_ | refine q_nf ?_))
abbrev s_pairs_in : Stmt := topS 33
theorem sc_pairs_in : FnScope ["machine", "many", "one", "far"] ["machine"] (defScope s_pairs_in) := ⟨rfl, rfl, rfl, by decide +kernel, rfl, by decide +kernel, by decide +kernel⟩
abbrev s_kept_in : Stmt := topS 34
theorem sc_kept_in : FnScope ["machine", "found", "one", "far", "fresh", "parting"] ["machine"] (defScope s_kept_in) := ⟨rfl, rfl, rfl, by decide +kernel, rfl, by decide +kernel, by decide +kernel⟩
abbrev s_kept_partings : Stmt := topS 35
theorem sc_kept_partings : FnScope ["machine"] ["machine"] (defScope s_kept_partings) := ⟨rfl, rfl, rfl, by decide +kernel, rfl, by decide +kernel, by decide +kernel⟩
section
variable {P : Program} {w : World} {K : PySem.W.Frag} {mg : Str → Option Value} {base : Heap}
def spDrawnIn (K : PySem.W.Frag) : Sp := fun vs H Q _ => ∃ m t sh n L a b, vs = [m, nV a, nV b] ∧ Dp K H m (dM t sh) ∧ Frm t sh n L ∧ a < n ∧ b < n ∧ ∀ c, Lub n (Cl t n L) (Two a b) c → RetN c H Q
theorem ok_drawn_in (B : Bn K mg) (Csingle_of : Cal P w K mg base 2 "single_of" ["machine"] (spSingle K)) (Cmerged : Cal P w K mg base 1 "merged" ["parting", "one", "far"] (spMerged K)) (Cnumbered : Cal P w K mg base 1 "numbered" ["keys"] (spNum K))
    (Ckept_over : Cal P w K mg base 3 "kept_over" ["machine", "parting"] (spOver K)) (D : Def K mg "drawn_in" s_drawn_in ["machine", "one", "far"]) : Cal P w K mg base 4 "drawn_in" ["machine", "one", "far"] (spDrawnIn K) := by
  refine D.cal sc_drawn_in (fun vs H Q E h => ?_) (fun f cdv A outer s H vs Q E hr h => ?_)
  · obtain ⟨m, t, sh, n, L, a, b, rfl, _⟩ := h
    rfl
  · obtain ⟨m, t, sh, n, L, a, b, rfl, hm, F, ha, hb, q⟩ := h
    have n8 := F.m.n8
    have tl := F.m.len
    refine ⟨_, (pss_one (ps_ret (e_call Ckept_over (hr.mono (by decide)) (pa_cons (pv 0) (pa_cons (e_call Cnumbered (hr.mono (by decide)) (pa_cons (e_call Cmerged (hr.mono (by decide)) (pa_cons (e_call Csingle_of (hr.mono (by decide)) (pa_cons (pv 0) pa_nil)) (pa_cons (pv 1) (pa_cons (pv 2) pa_nil)))) pa_nil)) pa_nil))))), ?_⟩
    walk_at "q"
    refine ⟨m, t, sh, rfl, hm, by omega, RetN.of (K := K) fun v1 H1 s1 h1 => ?_⟩
    rw [tl] at h1
    walk_at "q"
    refine ⟨v1, _, a, b, rfl, h1, by rw [List.length_range]; exact ha, by rw [List.length_range]; exact hb, by rw [List.length_range]; omega, fun v2 H2 s2 h2 => ?_⟩
    walk_at "q"
    refine ⟨v2, _, rfl, h2, by rw [mrg_len, List.length_range]; omega, RetN.of (K := K) fun v3 H3 s3 h3 => ?_⟩
    walk_at "q"
    have s13 := s1.trans (s2.trans s3)
    refine ⟨m, v3, t, sh, n, L, _, rfl, Dp.same s13 _ _ hm, F, h3, by rw [num_len, mrg_len, List.length_range], num_num _, fun c hc a4 H4 s4 h4 => q c (two_lub ha hb hc) a4 H4 (s13.trans s4) h4⟩
theorem ok_drawn (B : Bn K mg) (Cneed_machine : Cal P w K mg base 4 "need_machine" ["thing"] (spNeed K)) (Cneed_standing : Cal P w K mg base 2 "need_standing" ["machine", "standing"] (spNeedSt K))
    (Cdrawn_in : Cal P w K mg base 4 "drawn_in" ["machine", "one", "far"] (spDrawnIn K)) (D : Def K mg "drawn" s_drawn ["machine", "one", "far"]) : Cal P w K mg base 5 "drawn" ["machine", "one", "far"] (spDrawnIn K) := by
  refine D.cal sc_drawn (fun vs H Q E h => ?_) (fun f cdv A outer s H vs Q E hr h => ?_)
  · obtain ⟨m, t, sh, n, L, a, b, rfl, _⟩ := h
    rfl
  · obtain ⟨m, t, sh, n, L, a, b, rfl, hm, F, ha, hb, q⟩ := h
    refine ⟨_, (pss_cons (ps_expr (e_call Cneed_machine (hr.mono (by decide)) (pa_cons (pv 0) pa_nil)))
      (pss_cons (ps_expr (e_call Cneed_standing (hr.mono (by decide)) (pa_cons (pv 0) (pa_cons (pv 1) pa_nil))))
      (pss_cons (ps_expr (e_call Cneed_standing (hr.mono (by decide)) (pa_cons (pv 0) (pa_cons (pv 2) pa_nil))))
      (pss_one (ps_ret (e_call Cdrawn_in (hr.mono (by decide)) (pa_cons (pv 0) (pa_cons (pv 1) (pa_cons (pv 2) pa_nil))))))))), ?_⟩
    walk_at "q"
    refine ⟨m, t, sh, n, L, rfl, hm, F, fun H1 s1 => ?_⟩
    walk_at "q"
    refine ⟨m, t, sh, n, L, a, rfl, Dp.same s1 _ _ hm, F, ha, ?_⟩
    walk_at "q"
    refine ⟨m, t, sh, n, L, b, rfl, Dp.same s1 _ _ hm, F, hb, ?_⟩
    walk_at "q"
    exact ⟨m, t, sh, n, L, a, b, rfl, Dp.same s1 _ _ hm, F, ha, hb, fun c hc a2 H2 s2 h2 => q c hc a2 H2 (s1.trans s2) h2⟩
theorem ok_least_kept (B : Bn K mg) (Cneed_parting : Cal P w K mg base 5 "need_parting" ["machine", "parting"] (spNeedP K)) (Ckept_over : Cal P w K mg base 3 "kept_over" ["machine", "parting"] (spOver K))
    (D : Def K mg "least_kept" s_least_kept ["machine", "parting"]) : Cal P w K mg base 6 "least_kept" ["machine", "parting"] (spOver K) := by
  refine D.cal sc_least_kept (fun vs H Q E h => ?_) (fun f cdv A outer s H vs Q E hr h => ?_)
  · obtain ⟨m, v, t, sh, n, L, p, rfl, _⟩ := h
    rfl
  · obtain ⟨m, v, t, sh, n, L, p, rfl, hm, F, hv, hl, hn, q⟩ := h
    refine ⟨_, (pss_one (ps_ret (e_call Ckept_over (hr.mono (by decide)) (pa_cons (pv 0) (pa_cons (e_call Cneed_parting (hr.mono (by decide)) (pa_cons (pv 0) (pa_cons (pv 1) pa_nil))) pa_nil))))), ?_⟩
    walk_at "q"
    refine ⟨m, v, t, sh, n, L, p, rfl, hm, F, hv, hl, hn, fun H1 s1 => ?_⟩
    walk_at "q"
    exact ⟨m, v, t, sh, n, L, p, rfl, Dp.same s1 _ _ hm, F, Dp.same s1 _ _ hv, hl, hn, fun c hc a2 H2 s2 h2 => q c hc a2 H2 (s1.trans s2) h2⟩
/-! pairs_in -/
def prsRow (n a : Nat) : List (List Nat) := (List.range (n - (a + 1))).map fun c => [a, a + 1 + c]
def prs (n : Nat) : List (List Nat) := (List.range n).flatMap (prsRow n)
theorem mem_prs {n : Nat} {l : List Nat} : l ∈ prs n ↔ ∃ a b, l = [a, b] ∧ a < b ∧ b < n := by
  unfold prs prsRow
  rw [List.mem_flatMap]
  constructor
  · rintro ⟨a, ha, h⟩
    obtain ⟨c, hc, rfl⟩ := List.mem_map.mp h
    rw [List.mem_range] at hc
    exact ⟨a, _, rfl, by omega, by omega⟩
  · rintro ⟨a, b, rfl, h1, h2⟩
    refine ⟨a, List.mem_range.mpr (by omega), List.mem_map.mpr ⟨b - (a + 1), List.mem_range.mpr (by omega), ?_⟩⟩
    rw [show a + 1 + (b - (a + 1)) = b by omega]
end
/-- [e for .. for ..], rows of data -/
theorem lc2R {K : PySem.W.Frag} {R : Hp → Hp → Prop} (hR : HR K R) {J : It} {n : Nat} {G : Hp → Prop} {Y : Nat → Hp → V → Hp → Prop} (w : Walk J n G Y) {g g1 : TG} {wi1 : TI} {te : TE} {vs vs1 : List Nat} {σ : L2.St} {H1 : Hp} {D : Addr} {Qd : Hp → Prop} (f : Nat → List PyData) (lim : Nat)
    (hD : H1 D = none) (hf : ∀ i, (f i).length ≤ lim) (hn : n * lim ≤ 100000) (hG : ∀ H', R H1 H' → G H')
    (hs : ∀ i x H' H'' (Qn : Hp → Prop) (acc0 : List V), i < n → R H1 H' → H' D = some (.lst acc0) → Y i H' x H'' →
      (∀ H3 xs, R H1 H3 → H3 D = some (.lst xs) → DpAll K (hide H3 D) xs ((List.range i).flatMap f ++ f i) → Qn H3) → DpAll K (hide H' D) acc0 ((List.range i).flatMap f) → acc0.length + lim < sizeLine →
      g x (wipe σ vs) H'' fun σ2 H2 => wipe σ2 vs = wipe σ vs ∧ wi1 σ2 H2 fun J1 H4 => ∃ W1 : Nat → Nat → Hp → Prop, (∃ m, W1 0 m H4) ∧ ∀ j k H, W1 j k H →
        (J1.stop j H ∧ Qn H) ∨ (J1.go j H ∧ ∃ Nx1 : Hp → Prop, (∀ H', Nx1 H' → ∃ k', k' < k ∧ W1 (j + 1) k' H') ∧ ∀ x H', J1.yld j H x H' → g1 x (wipe σ2 vs1) H' fun σ3 H5 => wipe σ3 vs1 = wipe σ2 vs1 ∧ te σ3 H5 fun y H7 => ∃ acc, H7 D = some (.lst acc) ∧ acc.length < sizeLine ∧ Nx1 (upd H7 D (.lst (acc ++ [y]))))) 
    (hd : ∀ H' xs, R H1 H' → H' D = some (.lst xs) → DpAll K H' xs ((List.range n).flatMap f) → Qd H') :
    ∃ W : Nat → Nat → Hp → Prop, (∃ m, W 0 m (upd H1 D (.lst []))) ∧ ∀ i m H, W i m H →
  (J.stop i H ∧ Qd H) ∨ (J.go i H ∧ ∃ Nx : Hp → Prop, (∀ H', Nx H' → ∃ m', m' < m ∧ W (i + 1) m' H') ∧ ∀ x H', J.yld i H x H' → g x (wipe σ vs) H' fun σ2 H2 => wipe σ2 vs = wipe σ vs ∧ tYes σ2 H2 fun b H3 =>
    if b = true then wi1 σ2 H3 fun J1 H4 => ∃ W1 : Nat → Nat → Hp → Prop, (∃ m, W1 0 m H4) ∧ ∀ j k H, W1 j k H →
      (J1.stop j H ∧ Nx H) ∨ (J1.go j H ∧ ∃ Nx1 : Hp → Prop, (∀ H', Nx1 H' → ∃ k', k' < k ∧ W1 (j + 1) k' H') ∧ ∀ x H', J1.yld j H x H' → g1 x (wipe σ2 vs1) H' fun σ3 H5 => wipe σ3 vs1 = wipe σ2 vs1 ∧ tYes σ3 H5 fun b H6 =>
        if b = true then te σ3 H6 fun y H7 => ∃ acc, H7 D = some (.lst acc) ∧ acc.length < sizeLine ∧ Nx1 (upd H7 D (.lst (acc ++ [y]))) else Nx1 H6)
    else Nx H3) := by
  have flen : ∀ i, ((List.range i).flatMap f).length ≤ i * lim := fun i => by
    induction i with
    | zero => exact Nat.zero_le _
    | succ i ih =>
      rw [List.range_succ, List.flatMap_append, List.length_append, Nat.succ_mul]
      have := hf i
      rw [show [i].flatMap f = f i by simp]
      omega
  refine ⟨fun i m H => m = n - i ∧ i ≤ n ∧ R H1 H ∧ ∃ xs, H D = some (.lst xs) ∧ DpAll K (hide H D) xs ((List.range i).flatMap f), ⟨n, by simp, Nat.zero_le _, hR.wr (hR.refl _) hD, [], upd_same, .nil⟩, ?_⟩
  rintro i m H ⟨rfl, hi, r, xs, hx, ha⟩
  by_cases hlt : i < n
  · refine .inr ⟨w.goes i H hlt (hG _ r), fun H' => R H1 H' ∧ ∃ xs, H' D = some (.lst xs) ∧ DpAll K (hide H' D) xs ((List.range (i + 1)).flatMap f), fun H' p => ⟨n - (i + 1), by omega, rfl, hlt, p⟩, fun x H' y => ?_⟩
    have l1 := flen i
    have l2 : (i + 1) * lim ≤ n * lim := Nat.mul_le_mul_right _ hlt
    have := hs i x H H' _ xs hlt r hx (w.yields i H x H' hlt (hG _ r) y) (fun H3 ys r3 h3 d3 => (⟨r3, ys, h3, by rw [List.range_succ, List.flatMap_append, show [i].flatMap f = f i by simp]; exact d3⟩ : R H1 H3 ∧ ∃ xs, H3 D = some (.lst xs) ∧ DpAll K (hide H3 D) xs ((List.range (i + 1)).flatMap f))) ha (by rw [dpa_len ha, sizeLine_eq]; rw [Nat.succ_mul] at l2; omega)
    exact this
  · have e : i = n := by omega
    subst e
    exact .inl ⟨w.stops H (hG _ r), hd H xs r hx (DpAll.same (hide_same H D) _ _ ha)⟩
theorem lc2in {K : PySem.W.Frag} {R : Hp → Hp → Prop} (hR : HR K R) {J1 : It} {n1 : Nat} {G1 : Hp → Prop} {Y1 : Nat → Hp → V → Hp → Prop} (w : Walk J1 n1 G1 Y1) {g1 : TG} {te : TE} {vs1 : List Nat} {σ2 : L2.St} {H1 H4 : Hp} {D : Addr} {Qn : Hp → Prop} {xs0 : List V} (base : List PyData) (fd : Nat → PyData)
    (hD : H1 D = none) (h4 : R H1 H4) (hx : H4 D = some (.lst xs0)) (hda : DpAll K (hide H4 D) xs0 base) (few : xs0.length + n1 < sizeLine) (hG : ∀ H', R H1 H' → G1 H')
    (hs : ∀ j x H' H'' (Q1 : V → Hp → Prop) (acc : List V), j < n1 → R H1 H' → H' D = some (.lst acc) → Y1 j H' x H'' → (∀ y H7, R H' H7 → Ap K H7 D y (fd j) → Q1 y H7) → g1 x (wipe σ2 vs1) H'' fun σ3 H5 => wipe σ3 vs1 = wipe σ2 vs1 ∧ te σ3 H5 Q1)
    (hd : ∀ H3 xs, R H1 H3 → H3 D = some (.lst xs) → DpAll K (hide H3 D) xs (base ++ (List.range n1).map fd) → Qn H3) :
    ∃ W1 : Nat → Nat → Hp → Prop, (∃ m, W1 0 m H4) ∧ ∀ j k H, W1 j k H →
      (J1.stop j H ∧ Qn H) ∨ (J1.go j H ∧ ∃ Nx1 : Hp → Prop, (∀ H', Nx1 H' → ∃ k', k' < k ∧ W1 (j + 1) k' H') ∧ ∀ x H', J1.yld j H x H' → g1 x (wipe σ2 vs1) H' fun σ3 H5 => wipe σ3 vs1 = wipe σ2 vs1 ∧ te σ3 H5 fun y H7 => ∃ acc, H7 D = some (.lst acc) ∧ acc.length < sizeLine ∧ Nx1 (upd H7 D (.lst (acc ++ [y])))) := by
  refine ⟨fun j m H => m = n1 - j ∧ j ≤ n1 ∧ R H1 H ∧ ∃ xs, H D = some (.lst xs) ∧ xs.length = xs0.length + j ∧ DpAll K (hide H D) xs (base ++ (List.range j).map fd), ⟨n1, by simp, Nat.zero_le _, h4, xs0, hx, rfl, by simpa using hda⟩, ?_⟩
  rintro j m H ⟨rfl, hj, r, xs, hxs, hl, ha⟩
  by_cases hlt : j < n1
  · refine .inr ⟨w.goes j H hlt (hG _ r), fun H' => R H1 H' ∧ ∃ xs, H' D = some (.lst xs) ∧ xs.length = xs0.length + (j + 1) ∧ DpAll K (hide H' D) xs (base ++ (List.range (j + 1)).map fd), fun H' p => ⟨n1 - (j + 1), by omega, rfl, hlt, p⟩, fun x H' y => ?_⟩
    refine hs j x H H' _ xs hlt r hxs (w.yields j H x H' hlt (hG _ r) y) fun y H7 r7 hy => ⟨xs, hR.lst r7 hxs, by omega, hR.wr (hR.trans r r7) hD, _, upd_same, by rw [List.length_append, hl]; rfl, ?_⟩
    rw [hide_upd, List.range_succ, List.map_append, ← List.append_assoc]
    exact dpa_snoc (hR.dph D r7 ha) hy
  · have e : j = n1 := by omega
    subst e
    exact .inl ⟨w.stops H (hG _ r), hd H xs r hxs ha⟩
section
variable {P : Program} {w : World} {K : PySem.W.Frag} {mg : Str → Option Value} {base : Heap}
def spPairs (K : PySem.W.Frag) : Sp := fun vs H Q _ => ∃ v t sh n L, vs = [v] ∧ Dp K H v (dM t sh) ∧ Frm t sh n L ∧ Ret K (dLT (prs n)) H Q
theorem ok_pairs_in (B : Bn K mg) (Csize_of : Cal P w K mg base 1 "size_of" ["machine"] (spSize K)) (D : Def K mg "pairs_in" s_pairs_in ["machine"]) : Cal P w K mg base 2 "pairs_in" ["machine"] (spPairs K) := by
  refine D.cal sc_pairs_in (fun vs H Q E h => ?_) (fun f cdv A outer s H vs Q E hr h => ?_)
  · obtain ⟨v, t, sh, n, L, rfl, _⟩ := h
    rfl
  · obtain ⟨v, t, sh, n, L, rfl, hm, F, q⟩ := h
    have n8 := F.m.n8
    have tl := F.m.len
    refine ⟨_, (pss_cons (ps_set (i := 1) sc_pairs_in.nd rfl (.inr rfl) (e_call Csize_of (hr.mono (by decide)) (pa_cons (pv 0) pa_nil)))
      (pss_one (ps_ret (pe_lc2 (own := [("one", 2), ("far", 3)]) (vs1 := [3]) (g := gName 2) (g1 := gName 3) (tt := tYes) (tt1 := tYes) rfl sc_pairs_in.nd (i_range1 B (pv 1)) (blkOk_by (by kernel_rfl)) (by decide) (fun _ _ _ _ _ => (pg_name (i := 2) sc_pairs_in.nd rfl (Or.inl rfl))) (fun _ _ _ _ _ => pts_nil) (fun _ _ _ _ _ => (i_range2 B (pe_op op_add (pv 2) pe_int) (pv 1))) (fun _ _ _ _ _ => (pg_name (i := 3) sc_pairs_in.nd rfl (Or.inl rfl))) (fun _ _ _ _ _ => pts_nil) (fun _ _ _ _ _ => (pe_tup (pa_cons (pv 2) (pa_cons (pv 3) pa_nil)))))))), ?_⟩
    walk_at "q"
    refine ⟨v, t, sh, rfl, hm, ?_⟩
    rw [tl]
    walk_at "q"
    unfold tLc2
    walk_at "q"
    refine ⟨n, rfl, by omega, by omega, fun D nD => lc2R (hr_same K) (walk_rg (n := n)) (fun i => (prsRow n i).map dT) 8 nD (fun i => by rw [List.length_map]; unfold prsRow; rw [List.length_map, List.length_range]; omega) (by omega) (fun _ _ => trivial) (fun i x H' H'' Qn acc0 hi s1 hD y kn hda few => ?_) (fun H' xs s1 hx hda => ?_)⟩
    · obtain ⟨rfl, rfl⟩ := y
      have hi : i < n := by omega
      walk_at "q"
      refine ⟨rfl, ?_⟩
      walk_at "q"
      refine ⟨_, _, rfl, ⟨by omega, by omega, by omega, by omega⟩, ?_⟩
      have e : ((n : Int) - ((i : Int) + 1)).toNat = n - (i + 1) := by omega
      rw [e]
      refine lc2in (hr_same K) walk_rgA _ (fun c => dT [i, i + 1 + c]) nD s1 hD hda (by omega) (fun _ _ => trivial) (fun j x H5 H6 Q1 acc hj s5 hD5 y k1 => ?_) (fun H3 xs s3 h3 d3 => kn H3 xs s3 h3 ?_)
      · obtain ⟨rfl, rfl⟩ := y
        walk_at "q"
        refine ⟨rfl, ?_⟩
        walk_at "q"
        refine ⟨by rw [sizeLine_eq]; show 2 ≤ 16777216; decide, fun T nT => k1 _ _ (Same.new nT) (ap_row ?_ (by rw [upd_ne]; exact hD5; rintro rfl; rw [hD5] at nT; cases nT))⟩
        exact dp_pair nT
      · show DpAll K (hide H3 D) xs (_ ++ (prsRow n i).map dT)
        unfold prsRow
        rw [List.map_map]
        exact d3
    · have e : (List.range n).flatMap (fun i => (prsRow n i).map dT) = (prs n).map dT := by unfold prs; rw [List.map_flatMap]
      rw [e] at hda
      exact q _ _ s1 (.lst (.of hx) hda)
/-! kept_in -/
/-- the dict comprehension with rows for keys -/
theorem dcT_it {J : It} {n : Nat} {G : Hp → Prop} {Y : Nat → Hp → V → Hp → Prop} (w : Walk J n G Y) {g : TG} {tk tv : TE} {vs : List Nat} {σ : L2.St} {H1 : Hp} {D : Addr} {Qd : Hp → Prop} (f : Nat → List Nat) (hD : H1 D = none) (hn : n ≤ 100000) (hG : ∀ H', Same H1 H' → G H')
    (hs : ∀ i x H' H'' (Q1 : V → V → Hp → Prop), i < n → Same H1 H' → Y i H' x H'' → (∀ b H5, Same H' H5 → H5 b = some (.tup ((f i).map nV)) → Q1 (.ref b) (.bl true) H5) →
      g x (wipe σ vs) H'' fun σ2 H2 => wipe σ2 vs = wipe σ vs ∧ tk σ2 H2 fun y H4 => tv σ2 H4 fun z H5 => Q1 y z H5)
    (hd : ∀ H', Same H1 H' → H' D = some (.dT (tkT (addAll [] ((List.range n).map f)))) → Qd H') :
    ∃ W : Nat → Nat → Hp → Prop, (∃ m, W 0 m (upd H1 D (.dT []))) ∧ ∀ i m H, W i m H →
  (J.stop i H ∧ Qd H) ∨ (J.go i H ∧ ∃ Nx : Hp → Prop, (∀ H', Nx H' → ∃ m', m' < m ∧ W (i + 1) m' H') ∧ ∀ x H', J.yld i H x H' → g x (wipe σ vs) H' fun σ2 H2 => wipe σ2 vs = wipe σ vs ∧
    tk σ2 H2 fun y H4 => tv σ2 H4 fun z H5 => ∃ (kvs : KVT) (k : List L2.Key) (b : Addr), y = .ref b ∧ H5 b = some (.tup (k.map kV)) ∧ H5 D = some (.dT kvs) ∧ kvs.length < sizeLine ∧ Nx (upd H5 D (.dT (putK kvs k z)))) := by
  have few : ∀ i, (addAll [] ((List.range i).map f)).length ≤ i := fun i => by
    have := nodup_sub (nodup_addAll (g := (List.range i).map f) (f := []) List.nodup_nil) (m := (List.range i).map f) fun x hx => (mem_addAll.mp hx).elim (fun h => absurd h List.not_mem_nil) id
    rwa [List.length_map, List.length_range] at this
  refine ⟨fun i m H => m = n - i ∧ i ≤ n ∧ Same H1 H ∧ H D = some (.dT (tkT (addAll [] ((List.range i).map f)))), ⟨n, by simp, Nat.zero_le _, Same.mut (Same.refl _) hD, upd_same⟩, ?_⟩
  rintro i m H ⟨rfl, hi, r, hx⟩
  by_cases hlt : i < n
  · refine .inr ⟨w.goes i H hlt (hG _ r), fun H' => Same H1 H' ∧ H' D = some (.dT (tkT (addAll [] ((List.range (i + 1)).map f)))), fun H' p => ⟨n - (i + 1), by omega, rfl, hlt, p⟩, fun x H' y => ?_⟩
    refine hs i x H H' _ hlt r (w.yields i H x H' hlt (hG _ r) y) fun b H5 s5 hb => ⟨_, kyT (f i), b, rfl, by rw [kyT_vals]; exact hb, s5 _ _ hx, ?_, Same.mut (r.trans s5) hD, ?_⟩
    · rw [tkT_len, sizeLine_eq]
      have := few i
      omega
    · rw [upd_same, tkT_put, List.range_succ, List.map_append, ← addAll_snoc]
      rfl
  · have e : i = n := by omega
    subst e
    exact .inl ⟨w.stops H (hG _ r), hd H r hx⟩
/-- the keys of a dict by rows, as data -/
theorem keys_data {K : PySem.W.Frag} {H : Hp} : ∀ {f : List (List Nat)} {bs : List Addr}, IsKeys H (tkT f) bs → DpAll K H (bs.map V.ref) (f.map dT) ∧ bs.length = f.length
  | [], _, h => by cases h; exact ⟨.nil, rfl⟩
  | p :: f, _, h => by
    cases h with
    | cons a t =>
      obtain ⟨h1, h2⟩ := keys_data (f := f) t
      have a : H _ = some (.tup ((kyT p).map kV)) := a
      rw [kyT_vals] at a
      exact ⟨.cons (dp_of_row (.of a)) h1, by rw [List.length_cons, List.length_cons, h2]⟩
def spKeptIn (K : PySem.W.Frag) : Sp := fun vs H Q _ => ∃ v t sh n L, vs = [v] ∧ Dp K H v (dM t sh) ∧ Frm t sh n L ∧ Ret K (dLT (allKept t n L)) H Q
theorem ok_kept_in (B : Bn K mg) (Csingle_of : Cal P w K mg base 2 "single_of" ["machine"] (spSingle K)) (Cpairs_in : Cal P w K mg base 2 "pairs_in" ["machine"] (spPairs K)) (Cdrawn_in : Cal P w K mg base 4 "drawn_in" ["machine", "one", "far"] (spDrawnIn K))
    (Cjoined : Cal P w K mg base 2 "joined" ["parting", "other"] (spJoined K)) (D : Def K mg "kept_in" s_kept_in ["machine"]) : Cal P w K mg base 5 "kept_in" ["machine"] (spKeptIn K) := by
  refine D.cal sc_kept_in (fun vs H Q E h => ?_) (fun f cdv A outer s H vs Q E hr h => ?_)
  · obtain ⟨v, t, sh, n, L, rfl, _⟩ := h
    rfl
  · obtain ⟨v, t, sh, n, L, rfl, hm, F, q⟩ := h
    have n8 := F.m.n8
    have tl := F.m.len
    refine ⟨_, (pss_cons (ps_set (i := 1) sc_kept_in.nd rfl (.inl rfl) (pe_dispT (hu_of hr) (pps_cons (e_call Csingle_of (hr.mono (by decide)) (pa_cons (pv 0) pa_nil)) pe_bl pps_nil)))
      (pss_cons (ps_for PassesOwn.never rfl (i_list B (e_call Cpairs_in (hr.mono (by decide)) (pa_cons (pv 0) pa_nil))) (g_tup (n := 2) B rfl (pgs_cons (pg_name (i := 2) sc_kept_in.nd rfl (Or.inl rfl)) (pgs_cons (pg_name (i := 3) sc_kept_in.nd rfl (Or.inl rfl)) pgs_nil)))
      (pss_cons (ps_set (i := 4) sc_kept_in.nd rfl (.inr rfl) (e_call Cdrawn_in (hr.mono (by decide)) (pa_cons (pv 0) (pa_cons (pv 2) (pa_cons (pv 3) pa_nil)))))
      (pss_one (ps_if (pt_cmp (pc_dnotin (hu_of hr) (pv 4) (pv 1))) (pss_one (ps_expr (e_bm B PySem.F.plainAttrs_dict PySem.F.slot_dict_update PySem.F.type_dict_update (o_updT hr) (pv 1) (pa_cons (pe_dcT (own := [("parting", 5)]) (g := gName 5) (hu_of hr) rfl sc_kept_in.nd (i_list B (e_btT (call_list_dT rfl) B.list (by decide +kernel) (pv 1))) (blkOk_by (by kernel_rfl)) (fun _ _ _ _ _ => (pg_name (i := 5) sc_kept_in.nd rfl (Or.inl rfl))) (fun _ _ _ _ _ => (e_call Cjoined (hr.mono (by decide)) (pa_cons (pv 5) (pa_cons (pv 4) pa_nil)))) (fun _ _ _ _ _ => pe_bl)) pa_nil)))) pss_nil))))
      (pss_one (ps_ret (e_blt (cr_sortR hr.units) B.sorted (by decide +kernel) (e_btT (call_list_dT rfl) B.list (by decide +kernel) (pv 1))))))), ?_⟩
    walk_at "q"
    intro d nd
    unfold tPairs
    walk_at "q"
    refine ⟨v, t, sh, rfl, Dp.same (Same.new nd) _ _ hm, by omega, fun a H1 s1 h1 => ?_⟩
    rw [tl] at h1
    walk_at "q"
    refine ⟨s1 _ _ upd_same, tkT [List.range n], .cons ⟨⟨a, rfl, by rw [kyT_vals]; exact h1⟩, rfl⟩ .nil, by show 1 ≤ 15; decide, ?_⟩
    rw [show mergeT [] (tkT [List.range n]) = tkT [List.range n] from rfl]
    have sH2 : Same H (upd H1 d (.dT (tkT [List.range n]))) := Same.mut ((Same.new nd).trans s1) nd
    have hd2 : upd H1 d (.dT (tkT [List.range n])) d = some (.dT (tkT [List.range n])) := upd_same
    generalize upd H1 d (.dT (tkT [List.range n])) = H2 at *
    walk_at "q"
    refine ⟨v, t, sh, n, L, rfl, Dp.same sH2 _ _ hm, F, fun pv H3 s3 hp => ?_⟩
    obtain ⟨pa, px, rfl, hps, hpa⟩ := dp_lst hp
    have hpl : px.length = (prs n).length := by rw [dpa_len hpa, List.length_map]
    have hd3 := s3 _ _ hd2
    refine ⟨pa, rfl, ⟨_, hps⟩, for_it (walk_list (xs := px)) (fun j σ H' => ∃ y2 y3 y4 f, σ = [some v, some (.ref d), y2, y3, y4, none] ∧ Same H H' ∧ Keep H3 H' ∧ H' d = some (.dT (tkT f)) ∧ Found t n L f ∧ ∀ i, i < j → ∀ a b, (prs n)[i]? = some [a, b] → ∃ e ∈ f, Lub n (Cl t n L) (Two a b) e)
      ⟨none, none, none, [List.range n], rfl, sH2.trans s3, Keep.refl _, hd3, found_start F.m, fun i h => absurd h (Nat.not_lt_zero _)⟩ (fun j σ H' _ h => ?_) (fun j x σ H' H'' hi h y => ?_) (fun σ H' h => ?_)⟩
    · obtain ⟨_, _, _, _, _, _, k, _⟩ := h
      exact Keep.lst k hps
    · obtain ⟨y2, y3, y4, f, rfl, sm, kp, hd, FF, hall⟩ := h
      obtain ⟨rfl, hx⟩ := y
      obtain ⟨l, e1, e2⟩ := dtt_at hpa hx
      obtain ⟨a, b, rfl, hab, hb⟩ := mem_prs.mp (List.mem_of_getElem? e1)
      refine q_pairN (Dp.keep kp _ _ e2) ?_
      walk_at "q"
      refine ⟨v, t, sh, n, L, a, b, rfl, Dp.same sm _ _ hm, F, by omega, hb, fun c hc fa H4 s4 hfa => ?_⟩
      have hd4 := s4 _ _ hd
      walk_at "q"
      refine ⟨d, _, rfl, DGet.t hd4 (k := kyT c) (by rw [kyT_vals]; exact hfa), ?_⟩
      rw [tkT_val]
      have next : ∀ (f2 : List (List Nat)) (H5 : Hp), Same H H5 → Keep H3 H5 → H5 d = some (.dT (tkT f2)) → Found t n L f2 → c ∈ f2 → (∀ p ∈ f, p ∈ f2) →
          ∃ y2 y3 y4 f, [some v, some (.ref d), some (nV a), some (nV b), some (.ref fa), none] = [some v, some (.ref d), y2, y3, y4, none] ∧ Same H H5 ∧ Keep H3 H5 ∧ H5 d = some (.dT (tkT f)) ∧ Found t n L f ∧ ∀ i, i < j + 1 → ∀ a b, (prs n)[i]? = some [a, b] → ∃ e ∈ f, Lub n (Cl t n L) (Two a b) e := by
        intro f2 H5 a1 a2 a3 a4 a5 a6
        refine ⟨_, _, _, f2, rfl, a1, a2, a3, a4, fun i hi2 a' b' e => ?_⟩
        rcases Nat.lt_succ_iff_lt_or_eq.mp hi2 with h1 | rfl
        · obtain ⟨z, hz, lz⟩ := hall i h1 a' b' e
          exact ⟨z, a6 z hz, lz⟩
        · rw [e1] at e
          cases e
          exact ⟨c, a5, hc⟩
      by_cases hcf : c ∈ f
      · rw [if_pos hcf]
        walk_at "q"
        refine q_nt ?_
        walk_at "q"
        exact next f H4 (sm.trans s4) (kp.trans (Keep.of s4)) hd4 FF hcf fun p h => h
      · rw [if_neg hcf]
        walk_at "q"
        refine iteT ?_
        walk_at "q"
        refine ⟨.inr (.inr (.inl ⟨rfl, .inr ⟨_, hd4⟩⟩)), ?_⟩
        walk_at "q"
        unfold tDcT
        walk_at "q"
        refine ⟨d, _, rfl, .inl hd4, fun lp bs np hk => ?_⟩
        obtain ⟨kd, kl⟩ := keys_data hk
        have few := found_few F.m FF.nd fun p hp => ⟨(FF.ok p hp).1, (FF.ok p hp).2.1⟩
        have n1 := F.m.n1
        refine ⟨lp, rfl, ⟨_, .of upd_same⟩, fun D nD => dcT_it (walk_list (xs := bs.map V.ref)) (fun i => joinP (f.getD i []) c) nD (by rw [List.length_map]; omega) (fun H' s => Same.lst s (.of upd_same)) (fun i x H5 H6 Q1 hi s5 y k1 => ?_) (fun H5 s5 h5 => ?_)⟩
        · obtain ⟨rfl, hx⟩ := y
          obtain ⟨l, e3, e4⟩ := dtt_at kd hx
          walk_at "q"
          refine ⟨rfl, ?_⟩
          walk_at "q"
          have s45 := (Same.new np).trans s5
          have ok := FF.ok l (List.mem_of_getElem? e3)
          refine ⟨_, .ref fa, l, c, rfl, Dp.same s45 _ _ e4, dp_of_row (.of (s45 _ _ hfa)), by rw [ok.2.1, hc.len], hc.rgs, fun z => by have := hc.len; rw [z] at this; simp at this; omega, by rw [hc.len]; omega, fun ja H7 s7 hj => ?_⟩
          refine k1 ja H7 s7 ?_
          rw [List.getD_eq_getElem?_getD, e3]
          exact hj
        · walk_at "q"
          rw [List.length_map, kl, map_getD f [] fun q => joinP q c] at h5
          have s45 := (Same.new np).trans s5
          have hd5 := s45 _ _ hd4
          have hdD : d ≠ D := fun z => by
            subst z
            have := (Same.new (o := .lst (bs.map V.ref)) np) _ _ hd4
            rw [nD] at this
            cases this
          have gl : (addAll [] (f.map fun q => joinP q c)).length ≤ f.length := by
            have := nodup_sub (nodup_addAll (g := f.map fun q => joinP q c) (f := []) List.nodup_nil) (m := f.map fun q => joinP q c) fun x hx => (mem_addAll.mp hx).elim (fun h => absurd h List.not_mem_nil) id
            rwa [List.length_map] at this
          refine ⟨d, D, _, _, rfl, rfl, hd5, h5, hdD, ?_, by rw [tkT_len, tkT_len, sizeLine_eq]; omega, ?_⟩
          · intro z
            have := congrArg List.length z
            rw [tkT_len] at this
            have h0 := List.length_pos_of_mem FF.one
            have e0 : f.length = 0 := this
            omega
          · rw [tkT_merge]
            walk_at "q"
            have hg : ∀ p, p ∈ addAll f (addAll [] (f.map fun q => joinP q c)) ↔ p ∈ f ∨ ∃ q ∈ f, p = joinP q c := fun p => by
              rw [mem_addAll, mem_addAll]
              constructor
              · rintro (h | h | h)
                · exact .inl h
                · exact absurd h List.not_mem_nil
                · obtain ⟨q, hq, rfl⟩ := List.mem_map.mp h
                  exact .inr ⟨q, hq, rfl⟩
              · rintro (h | ⟨q, hq, rfl⟩)
                · exact .inl h
                · exact .inr (.inr (List.mem_map.mpr ⟨q, hq, rfl⟩))
            obtain ⟨F2, hc2⟩ := found_step F.m FF (d := c) ⟨hc.rgs, hc.len, hc.cl⟩ (nodup_addAll FF.nd) hg
            exact next _ _ (Same.mut ((sm.trans s4).trans s45) nd) (Keep.put ((kp.trans (Keep.of s4)).trans (Keep.of s45)) hd3 rfl) upd_same F2 hc2 fun p h => (hg p).mpr (.inl h)
    · obtain ⟨y2, y3, y4, f, rfl, sm, kp, hd, FF, hall⟩ := h
      rw [hpl] at hall
      walk_at "q"
      refine ⟨d, _, rfl, .inl hd, fun lp bs np hk => ?_⟩
      obtain ⟨kd, kl⟩ := keys_data hk
      have s5 : Same H' (upd H' lp (.lst (bs.map V.ref))) := Same.new np
      have n1 := F.m.n1
      walk_at "q"
      refine ⟨_, f, rfl, .lst (.of upd_same) (DpAll.same s5 _ _ kd), fun p hp z => ?_, fun l xs qs nl hxs perm pw => ?_⟩
      · have := (FF.ok p hp).2.1
        rw [z] at this
        simp at this
        omega
      · have e : qs = allKept t n L := by
          refine sorted_one pw (perm.nodup_iff.mpr FF.nd) (allKept_sorted t n L) fun p => ?_
          rw [perm.mem_iff]
          refine found_end F.m FF (fun a b hab hb => ?_) p
          have hm2 : [a, b] ∈ prs n := mem_prs.mpr ⟨a, b, rfl, hab, hb⟩
          obtain ⟨i, hi⟩ := List.getElem?_of_mem hm2
          exact hall i (List.getElem?_eq_some_iff.mp hi).choose a b hi
        rw [e] at hxs
        exact q _ _ ((sm.trans s5).trans (Same.new nl)) (dp_new_lst hxs nl)
def spKeptP (K : PySem.W.Frag) : Sp := fun vs H Q _ => ∃ v t sh n L, vs = [v] ∧ Dp K H v (dM t sh) ∧ Frm t sh n L ∧ Ret K (dTT (allKept t n L)) H Q
theorem ok_kept_partings (B : Bn K mg) (Cneed_machine : Cal P w K mg base 4 "need_machine" ["thing"] (spNeed K)) (Ckept_in : Cal P w K mg base 5 "kept_in" ["machine"] (spKeptIn K)) (D : Def K mg "kept_partings" s_kept_partings ["machine"]) : Cal P w K mg base 6 "kept_partings" ["machine"] (spKeptP K) := by
  refine D.cal sc_kept_partings (fun vs H Q E h => ?_) (fun f cdv A outer s H vs Q E hr h => ?_)
  · obtain ⟨v, t, sh, n, L, rfl, _⟩ := h
    rfl
  · obtain ⟨v, t, sh, n, L, rfl, hm, F, q⟩ := h
    refine ⟨_, (pss_one (ps_ret (e_tuple B (e_call Ckept_in (hr.mono (by decide)) (pa_cons (e_call Cneed_machine (hr.mono (by decide)) (pa_cons (pv 0) pa_nil)) pa_nil))))), ?_⟩
    walk_at "q"
    refine ⟨v, t, sh, n, L, rfl, hm, F, fun H1 s1 => ?_⟩
    walk_at "q"
    refine ⟨v, t, sh, n, L, rfl, Dp.same s1 _ _ hm, F, fun kv H2 s2 hk => ?_⟩
    obtain ⟨ka, kx, rfl, hks, hka⟩ := dp_lst hk
    walk_at "q"
    exact ⟨ka, kx, rfl, .inl ⟨hks, fun l nl => q _ _ ((s1.trans s2).trans (Same.new nl)) (dp_new_tup hka nl)⟩⟩
end
end Kp
set_option Elab.async false
set_option linter.all false
namespace Kp
/-! ### classes as lists -/
def RCl (cs : List (List Nat)) : Nat → Nat → Prop := fun i j => ∃ c ∈ cs, i ∈ c ∧ j ∈ c
structure Cls (n : Nat) (cs : List (List Nat)) : Prop where
  cov : ∀ k, k < n → ∃ c ∈ cs, k ∈ c
  low : ∀ c ∈ cs, ∀ k ∈ c, k < n
  uni : ∀ c ∈ cs, ∀ d ∈ cs, ∀ k, k ∈ c → k ∈ d → c = d
  ne : ∀ c ∈ cs, c ≠ []
  tot : cs.flatten.length ≤ n
theorem Cls.few {n : Nat} {cs : List (List Nat)} (C : Cls n cs) : cs.length ≤ n := by
  refine Nat.le_trans ?_ C.tot
  have := C.ne
  clear C
  induction cs with
  | nil => exact Nat.zero_le _
  | cons c cs ih =>
    rw [List.flatten_cons, List.length_append, List.length_cons]
    have h1 := ih fun d hd => this d (List.mem_cons_of_mem _ hd)
    have h2 := List.length_pos_iff.mpr (this c List.mem_cons_self)
    omega
theorem Cls.few1 {n : Nat} {cs : List (List Nat)} (C : Cls n cs) {c : List Nat} (h : c ∈ cs) : c.length ≤ n := by
  refine Nat.le_trans ?_ C.tot
  have : c.Sublist cs.flatten := List.sublist_flatten_of_mem h
  exact this.length_le
/-- the first class that has k -/
def hom (cs : List (List Nat)) (k : Nat) : Nat := ((List.range cs.length).filter fun i => decide (k ∈ cs.getD i [])).headD 0
theorem filter_head {n : Nat} {t : Nat → Bool} {i : Nat} (hi : i < n) (ht : t i = true) : ∃ h r, (List.range n).filter t = h :: r ∧ h < n ∧ t h = true ∧ ∀ j, j < h → t j = false := by
  induction n with
  | zero => exact absurd hi (Nat.not_lt_zero _)
  | succ n ih =>
    rw [List.range_succ, List.filter_append]
    by_cases c : ∃ j, j < n ∧ t j = true
    · obtain ⟨j, hj, tj⟩ := c
      by_cases hin : i < n
      · obtain ⟨h, r, e, h1, h2, h3⟩ := ih hin
        exact ⟨h, _, by rw [e]; rfl, by omega, h2, h3⟩
      · have hin : i = n := by omega
        subst hin
        have ih' : ∃ h r, (List.range i).filter t = h :: r ∧ h < i ∧ t h = true ∧ ∀ j, j < h → t j = false := by
          clear ih
          have gen : ∀ m, (∃ j, j < m ∧ t j = true) → ∃ h r, (List.range m).filter t = h :: r ∧ h < m ∧ t h = true ∧ ∀ j, j < h → t j = false := by
            intro m
            induction m with
            | zero => rintro ⟨j, hj, _⟩; exact absurd hj (Nat.not_lt_zero _)
            | succ m ihm =>
              rintro ⟨j, hj, tj⟩
              rw [List.range_succ, List.filter_append]
              by_cases c : ∃ j, j < m ∧ t j = true
              · obtain ⟨h, r, e, h1, h2, h3⟩ := ihm c
                exact ⟨h, _, by rw [e]; rfl, by omega, h2, h3⟩
              · have hjm : j = m := by
                  rcases Nat.lt_succ_iff_lt_or_eq.mp hj with h | h
                  · exact absurd ⟨j, h, tj⟩ c
                  · exact h
                subst hjm
                have e0 : (List.range j).filter t = [] := List.filter_eq_nil_iff.mpr fun x hx z => c ⟨x, List.mem_range.mp hx, z⟩
                refine ⟨j, [], by rw [e0, List.filter_cons_of_pos tj]; rfl, Nat.lt_succ_self _, tj, fun x hx => ?_⟩
                cases e : t x with
                | false => rfl
                | true => exact absurd ⟨x, hx, e⟩ c
          exact gen i ⟨j, hj, tj⟩
        obtain ⟨h, r, e, h1, h2, h3⟩ := ih'
        exact ⟨h, _, by rw [e]; rfl, by omega, h2, h3⟩
    · have hin : i = n := by
        rcases Nat.lt_succ_iff_lt_or_eq.mp hi with h | h
        · exact absurd ⟨i, h, ht⟩ c
        · exact h
      subst hin
      have e0 : (List.range i).filter t = [] := List.filter_eq_nil_iff.mpr fun x hx z => c ⟨x, List.mem_range.mp hx, z⟩
      refine ⟨i, [], by rw [e0, List.filter_cons_of_pos ht]; rfl, Nat.lt_succ_self _, ht, fun x hx => ?_⟩
      cases e : t x with
      | false => rfl
      | true => exact absurd ⟨x, hx, e⟩ c
theorem getD_mem {cs : List (List Nat)} {i : Nat} (h : i < cs.length) : cs.getD i [] ∈ cs := by
  rw [List.getD_eq_getElem?_getD, List.getElem?_eq_getElem h]
  exact List.getElem_mem h
theorem mem_getD {cs : List (List Nat)} {c : List Nat} (h : c ∈ cs) : ∃ i, i < cs.length ∧ cs.getD i [] = c := by
  obtain ⟨i, hi, e⟩ := List.getElem_of_mem h
  exact ⟨i, hi, by rw [List.getD_eq_getElem?_getD, List.getElem?_eq_getElem hi]; exact e⟩
theorem hom_spec {n : Nat} {cs : List (List Nat)} (C : Cls n cs) {k : Nat} (hk : k < n) : ∃ r, ((List.range cs.length).filter fun i => decide (k ∈ cs.getD i [])) = hom cs k :: r ∧ hom cs k < cs.length ∧ k ∈ cs.getD (hom cs k) [] ∧ ∀ j, j < hom cs k → k ∉ cs.getD j [] := by
  obtain ⟨c, hc, hkc⟩ := C.cov k hk
  obtain ⟨i, hi, rfl⟩ := mem_getD hc
  obtain ⟨h, r, e, h1, h2, h3⟩ := filter_head (t := fun i => decide (k ∈ cs.getD i [])) hi (decide_eq_true hkc)
  have eh : hom cs k = h := by unfold hom; rw [e]; rfl
  rw [eh]
  exact ⟨r, e, h1, of_decide_eq_true h2, fun j hj => of_decide_eq_false (h3 j hj)⟩
theorem hom_rel {n : Nat} {cs : List (List Nat)} (C : Cls n cs) {i j : Nat} (hi : i < n) (hj : j < n) : hom cs i = hom cs j ↔ RCl cs i j := by
  obtain ⟨_, _, a1, a2, a3⟩ := hom_spec C hi
  obtain ⟨_, _, b1, b2, b3⟩ := hom_spec C hj
  constructor
  · intro e
    exact ⟨_, getD_mem a1, a2, by rw [e]; exact b2⟩
  · rintro ⟨c, hc, h1, h2⟩
    have ea := C.uni _ (getD_mem a1) c hc i a2 h1
    have eb := C.uni _ (getD_mem b1) c hc j b2 h2
    rcases Nat.lt_trichotomy (hom cs i) (hom cs j) with h | h | h
    · exact absurd (by rw [ea]; exact h2) (b3 _ h)
    · exact h
    · exact absurd (by rw [eb]; exact h1) (a3 _ h)
theorem RCl.eqv {n : Nat} {cs : List (List Nat)} (C : Cls n cs) {i j k : Nat} (h : RCl cs i j) (g : RCl cs j k) : RCl cs i k := by
  obtain ⟨c, hc, h1, h2⟩ := h
  obtain ⟨d, hd, h3, h4⟩ := g
  have := C.uni c hc d hd j h2 h3
  subst this
  exact ⟨c, hc, h1, h4⟩
theorem RCl.symm {cs : List (List Nat)} {i j : Nat} (h : RCl cs i j) : RCl cs j i := by
  obtain ⟨c, hc, h1, h2⟩ := h
  exact ⟨c, hc, h2, h1⟩
def homs (n : Nat) (cs : List (List Nat)) : List Nat := (List.range n).map (hom cs)
theorem homs_len (n : Nat) (cs : List (List Nat)) : (homs n cs).length = n := by unfold homs; rw [List.length_map, List.length_range]
theorem at0_homs {n i : Nat} {cs : List (List Nat)} (h : i < n) : at0 (homs n cs) i = hom cs i := by
  unfold homs
  rw [at0_map (by rwa [List.length_range]), at0_range h]
def tol (n : Nat) (cs : List (List Nat)) : List Nat := num (homs n cs)
theorem tol_rel {n : Nat} {cs : List (List Nat)} (C : Cls n cs) {i j : Nat} (hi : i < n) (hj : j < n) : Rel (tol n cs) i j ↔ RCl cs i j := by
  unfold tol Rel
  rw [num_rel (by rwa [homs_len]) (by rwa [homs_len]), at0_homs hi, at0_homs hj, hom_rel C hi hj]
/-! the classes of a sheet -/
def blks (p : List Nat) : List (List Nat) := (List.range (firsts p).length).map (blk p)
theorem blks_rel {p : List Nat} (hn : num p = p) {i j : Nat} : RCl (blks p) i j ↔ i < p.length ∧ j < p.length ∧ Rel p i j := by
  unfold RCl blks
  constructor
  · rintro ⟨c, hc, h1, h2⟩
    obtain ⟨b, _, rfl⟩ := List.mem_map.mp hc
    rw [mem_blk] at h1 h2
    exact ⟨h1.1, h2.1, h1.2.trans h2.2.symm⟩
  · rintro ⟨h1, h2, e⟩
    exact ⟨blk p (at0 p i), List.mem_map.mpr ⟨_, List.mem_range.mpr ((rgs_mem hn _).mp (at0_mem h1)), rfl⟩, mem_blk.mpr ⟨h1, rfl⟩, mem_blk.mpr ⟨h2, e.symm⟩⟩
theorem count_blk (p : List Nat) : ∀ k, ((List.range k).map (blk p)).flatten.length = ((List.range p.length).filter fun i => decide (at0 p i < k)).length := by
  intro k
  induction k with
  | zero =>
    show 0 = _
    rw [List.filter_eq_nil_iff.mpr (fun x _ => by simp)]
    rfl
  | succ k ih =>
    rw [List.range_succ, List.map_append, List.flatten_append, List.length_append, ih]
    have : ((List.map (blk p) [k]).flatten).length = (blk p k).length := by simp
    rw [this]
    unfold blk
    have gen : ∀ l : List Nat, (l.filter fun i => decide (at0 p i < k)).length + (l.filter fun i => at0 p i == k).length = (l.filter fun i => decide (at0 p i < k + 1)).length := by
      intro l
      induction l with
      | nil => rfl
      | cons x l ihl =>
        rw [List.filter_cons, List.filter_cons, List.filter_cons]
        by_cases h1 : at0 p x < k
        · have h2 : (at0 p x == k) = false := beq_eq_false_iff_ne.mpr (by omega)
          rw [if_pos (decide_eq_true h1), h2, if_neg Bool.false_ne_true, if_pos (decide_eq_true (by omega))]
          simp only [List.length_cons]
          omega
        · by_cases h3 : at0 p x = k
          · have h2 : (at0 p x == k) = true := beq_iff_eq.mpr h3
            rw [if_neg (by simpa using h1), h2, if_pos rfl, if_pos (decide_eq_true (by omega))]
            simp only [List.length_cons]
            omega
          · have h2 : (at0 p x == k) = false := beq_eq_false_iff_ne.mpr h3
            have h4 : ¬ at0 p x < k + 1 := by omega
            rw [if_neg (by simpa using h1), h2, if_neg Bool.false_ne_true, if_neg (by rw [decide_eq_false h4]; exact Bool.false_ne_true)]
            exact ihl
    exact gen _
theorem blks_cls {p : List Nat} (hn : num p = p) : Cls p.length (blks p) where
  cov := fun k hk => by
    obtain ⟨c, hc, h, _⟩ := (blks_rel hn).mpr ⟨hk, hk, rfl⟩
    exact ⟨c, hc, h⟩
  low := fun c hc k hk => by
    obtain ⟨b, _, rfl⟩ := List.mem_map.mp hc
    exact (mem_blk.mp hk).1
  uni := fun c hc d hd k h1 h2 => by
    obtain ⟨b, _, rfl⟩ := List.mem_map.mp hc
    obtain ⟨b2, _, rfl⟩ := List.mem_map.mp hd
    rw [← (mem_blk.mp h1).2, ← (mem_blk.mp h2).2]
  ne := fun c hc z => by
    obtain ⟨b, hb, rfl⟩ := List.mem_map.mp hc
    obtain ⟨i, hi, e⟩ := mem_at0 ((rgs_mem hn b).mpr (List.mem_range.mp hb))
    have : i ∈ blk p b := mem_blk.mpr ⟨hi, e⟩
    rw [z] at this
    exact absurd this List.not_mem_nil
  tot := by
    unfold blks
    rw [count_blk]
    have := List.length_filter_le (fun i => decide (at0 p i < (firsts p).length)) (List.range p.length)
    rwa [List.length_range] at this
/-! merging classes -/
def hasB (a b : Nat) (c : List Nat) : Bool := decide (a ∈ c) || decide (b ∈ c)
def mgB (cs : List (List Nat)) (a b : Nat) : List (List Nat) := cs.filter (hasB a b)
def mgO (cs : List (List Nat)) (a b : Nat) : List (List Nat) := cs.filter fun c => !hasB a b c
theorem hasB_iff {a b : Nat} {c : List Nat} : hasB a b c = true ↔ a ∈ c ∨ b ∈ c := by
  unfold hasB
  rw [Bool.or_eq_true, decide_eq_true_iff, decide_eq_true_iff]
theorem mem_mgB {cs : List (List Nat)} {a b : Nat} {c : List Nat} : c ∈ mgB cs a b ↔ c ∈ cs ∧ (a ∈ c ∨ b ∈ c) := by
  unfold mgB
  rw [List.mem_filter, hasB_iff]
theorem mem_mgO {cs : List (List Nat)} {a b : Nat} {c : List Nat} : c ∈ mgO cs a b ↔ c ∈ cs ∧ ¬ (a ∈ c ∨ b ∈ c) := by
  unfold mgO
  rw [List.mem_filter, Bool.not_eq_true', ← Bool.not_eq_true, hasB_iff]
/-- a class list that is not among the joined ones -/
theorem mgO_alt (cs : List (List Nat)) (a b : Nat) : (cs.filter fun c => !decide (c ∈ mgB cs a b)) = mgO cs a b := by
  unfold mgO
  refine List.filter_congr fun c hc => ?_
  congr 1
  by_cases h : hasB a b c = true
  · rw [h, decide_eq_true (mem_mgB.mpr ⟨hc, hasB_iff.mp h⟩)]
  · rw [Bool.not_eq_true] at h
    rw [h, decide_eq_false fun z => by rw [hasB_iff.mpr (mem_mgB.mp z).2] at h; cases h]
theorem split_len (t : List Nat → Bool) : ∀ cs : List (List Nat), (cs.filter t).length + (cs.filter fun c => !t c).length = cs.length ∧ (cs.filter t).flatten.length + (cs.filter fun c => !t c).flatten.length = cs.flatten.length
  | [] => ⟨rfl, rfl⟩
  | c :: cs => by
    obtain ⟨h1, h2⟩ := split_len t cs
    rw [List.filter_cons, List.filter_cons]
    by_cases h : t c = true
    · rw [if_pos h, h, if_neg (by decide)]
      simp only [List.length_cons, List.flatten_cons, List.length_append]
      omega
    · rw [Bool.not_eq_true] at h
      rw [h, if_neg (by decide), if_pos (by decide)]
      simp only [List.length_cons, List.flatten_cons, List.length_append]
      omega
section
variable {n : Nat} {cs : List (List Nat)} {a b : Nat} {js : List Nat}
theorem mem_js (hj : js.Perm (mgB cs a b).flatten) {k : Nat} : k ∈ js ↔ ∃ c ∈ cs, (a ∈ c ∨ b ∈ c) ∧ k ∈ c := by
  rw [hj.mem_iff, List.mem_flatten]
  constructor
  · rintro ⟨c, hc, hk⟩
    rw [mem_mgB] at hc
    exact ⟨c, hc.1, hc.2, hk⟩
  · rintro ⟨c, hc, h, hk⟩
    exact ⟨c, mem_mgB.mpr ⟨hc, h⟩, hk⟩
theorem mg_cls (C : Cls n cs) (ha : a < n) (hb : b < n) (hj : js.Perm (mgB cs a b).flatten) : Cls n (mgO cs a b ++ [js]) where
  cov := fun k hk => by
    obtain ⟨c, hc, hkc⟩ := C.cov k hk
    by_cases h : a ∈ c ∨ b ∈ c
    · exact ⟨js, by simp, (mem_js hj).mpr ⟨c, hc, h, hkc⟩⟩
    · exact ⟨c, List.mem_append_left _ (mem_mgO.mpr ⟨hc, h⟩), hkc⟩
  low := fun c hc k hk => by
    rcases List.mem_append.mp hc with h | h
    · exact C.low c (mem_mgO.mp h).1 k hk
    · rw [List.mem_singleton] at h
      subst h
      obtain ⟨d, hd, _, hkd⟩ := (mem_js hj).mp hk
      exact C.low d hd k hkd
  uni := fun c hc d hd k h1 h2 => by
    have key : ∀ c, c ∈ mgO cs a b → ∀ k, k ∈ c → k ∈ js → False := fun c hc k hk hkj => by
      obtain ⟨e, he, hab, hke⟩ := (mem_js hj).mp hkj
      obtain ⟨h1, h2⟩ := mem_mgO.mp hc
      have := C.uni c h1 e he k hk hke
      subst this
      exact h2 hab
    rcases List.mem_append.mp hc with hc | hc <;> rcases List.mem_append.mp hd with hd | hd
    · exact C.uni c (mem_mgO.mp hc).1 d (mem_mgO.mp hd).1 k h1 h2
    · rw [List.mem_singleton] at hd
      exact (key c hc k h1 (hd ▸ h2)).elim
    · rw [List.mem_singleton] at hc
      exact (key d hd k h2 (hc ▸ h1)).elim
    · rw [List.mem_singleton] at hc hd
      rw [hc, hd]
  ne := fun c hc => by
    rcases List.mem_append.mp hc with h | h
    · exact C.ne c (mem_mgO.mp h).1
    · rw [List.mem_singleton] at h
      subst h
      obtain ⟨d, hd, had⟩ := C.cov a ha
      have : a ∈ c := (mem_js hj).mpr ⟨d, hd, .inl had, had⟩
      rintro rfl
      exact absurd this List.not_mem_nil
  tot := by
    have h := (split_len (hasB a b) cs).2
    rw [List.flatten_append, List.length_append]
    have e : [js].flatten.length = (mgB cs a b).flatten.length := by simp [hj.length_eq]
    rw [e]
    have := C.tot
    unfold mgO mgB
    omega
theorem mg_fewer (C : Cls n cs) (ha : a < n) (hb : b < n) (hab : ¬ RCl cs a b) : (mgO cs a b ++ [js]).length < cs.length := by
  obtain ⟨c, hc, hac⟩ := C.cov a ha
  obtain ⟨d, hd, hbd⟩ := C.cov b hb
  have hcd : c ≠ d := fun e => hab ⟨c, hc, hac, by rw [e]; exact hbd⟩
  have h2 : 2 ≤ (mgB cs a b).length := nodup_sub (l := [c, d]) (by simp [hcd]) fun x hx => by
    rcases List.mem_cons.mp hx with rfl | hx
    · exact mem_mgB.mpr ⟨hc, .inl hac⟩
    · rw [List.mem_singleton] at hx
      subst hx
      exact mem_mgB.mpr ⟨hd, .inr hbd⟩
  have h := (split_len (hasB a b) cs).1
  rw [List.length_append, List.length_singleton]
  unfold mgO
  unfold mgB at h2
  omega
/-- what lies together behind a merging -/
theorem mg_least (C : Cls n cs) (hj : js.Perm (mgB cs a b).flatten) {R : Nat → Nat → Prop} (hR : Equivalence R) (h : ∀ i j, RCl cs i j → R i j) (hab : R a b) : ∀ i j, RCl (mgO cs a b ++ [js]) i j → R i j := by
  rintro i j ⟨c, hc, hi, hj2⟩
  rcases List.mem_append.mp hc with hc | hc
  · exact h i j ⟨c, (mem_mgO.mp hc).1, hi, hj2⟩
  · rw [List.mem_singleton] at hc
    subst hc
    have to : ∀ k, k ∈ c → R k a := fun k hk => by
      obtain ⟨d, hd, hx, hkd⟩ := (mem_js hj).mp hk
      rcases hx with hx | hx
      · exact h k a ⟨d, hd, hkd, hx⟩
      · exact hR.trans (h k b ⟨d, hd, hkd, hx⟩) (hR.symm hab)
    exact hR.trans (to i hi) (hR.symm (to j hj2))
theorem mg_mono (hj : js.Perm (mgB cs a b).flatten) {i j : Nat} (h : RCl cs i j) : RCl (mgO cs a b ++ [js]) i j := by
  obtain ⟨c, hc, h1, h2⟩ := h
  by_cases hab : a ∈ c ∨ b ∈ c
  · exact ⟨js, by simp, (mem_js hj).mpr ⟨c, hc, hab, h1⟩, (mem_js hj).mpr ⟨c, hc, hab, h2⟩⟩
  · exact ⟨c, List.mem_append_left _ (mem_mgO.mpr ⟨hc, hab⟩), h1, h2⟩
theorem mg_both (C : Cls n cs) (ha : a < n) (hb : b < n) (hj : js.Perm (mgB cs a b).flatten) : RCl (mgO cs a b ++ [js]) a b := by
  obtain ⟨c, hc, hac⟩ := C.cov a ha
  obtain ⟨d, hd, hbd⟩ := C.cov b hb
  exact ⟨js, by simp, (mem_js hj).mpr ⟨c, hc, .inl hac, hac⟩, (mem_js hj).mpr ⟨d, hd, .inr hbd, hbd⟩⟩
end
/-! the walk of _law_closed -/
structure Cw (t : List (List Nat)) (n L : Nat) (cs0 cs : List (List Nat)) : Prop where
  cls : Cls n cs
  up : ∀ i j, RCl cs0 i j → RCl cs i j
  dn : ∀ R : Nat → Nat → Prop, Equivalence R → Cl t n L R → (∀ i j, RCl cs0 i j → R i j) → ∀ i j, RCl cs i j → R i j
theorem cw_start {t : List (List Nat)} {n L : Nat} {cs : List (List Nat)} (C : Cls n cs) : Cw t n L cs cs := ⟨C, fun _ _ h => h, fun _ _ _ h => h⟩
/-- two that a letter takes apart -/
def Apt (t : List (List Nat)) (L : Nat) (cs : List (List Nat)) (g a : Nat) : Prop := ∃ i j l, l < L ∧ RCl cs i j ∧ g = dl t i l ∧ a = dl t j l ∧ ¬ RCl cs g a
theorem cw_step {t : List (List Nat)} {n L : Nat} {cs0 cs : List (List Nat)} {g a : Nat} {js : List Nat} (M : Mach t n L) (W : Cw t n L cs0 cs) (h : Apt t L cs g a) (hj : js.Perm (mgB cs g a).flatten) :
    Cw t n L cs0 (mgO cs g a ++ [js]) ∧ (mgO cs g a ++ [js]).length < cs.length ∧ g < n ∧ a < n := by
  obtain ⟨i, j, l, hl, hij, rfl, rfl, hn⟩ := h
  have C := W.cls
  have hi : i < n := by obtain ⟨c, hc, h1, _⟩ := hij; exact C.low c hc i h1
  have hj2 : j < n := by obtain ⟨c, hc, _, h1⟩ := hij; exact C.low c hc j h1
  have g1 := M.dl_lt hi hl
  have g2 := M.dl_lt hj2 hl
  refine ⟨⟨mg_cls C g1 g2 hj, fun i j h => mg_mono hj (W.up i j h), fun R hR cR h => ?_⟩, mg_fewer C g1 g2 hn, g1, g2⟩
  have D := W.dn R hR cR h
  exact mg_least C hj hR D (cR i j l hi hj2 hl (D i j hij))
theorem cw_end {t : List (List Nat)} {n L : Nat} {cs0 cs : List (List Nat)} (M : Mach t n L) (W : Cw t n L cs0 cs) (h : ∀ i j l, l < L → RCl cs i j → RCl cs (dl t i l) (dl t j l)) : Lub n (Cl t n L) (RCl cs0) (tol n cs) where
  len := by unfold tol; rw [num_len, homs_len]
  rgs := num_num _
  cl := fun i j l hi hj hl e => (tol_rel W.cls (M.dl_lt hi hl) (M.dl_lt hj hl)).mpr (h i j l hl ((tol_rel W.cls hi hj).mp e))
  ge := fun i j hi hj e => (tol_rel W.cls hi hj).mpr (W.up i j e)
  least := fun R hR cR g i j hi hj e => by
    -- beyond n all lie together
    have C := W.cls
    let R' : Nat → Nat → Prop := fun i j => (i < n ∧ j < n ∧ R i j) ∨ (n ≤ i ∧ n ≤ j)
    have hR' : Equivalence R' := by
      refine ⟨fun i => ?_, fun {i j} h => ?_, fun {i j k} h h' => ?_⟩
      · by_cases c : i < n
        · exact .inl ⟨c, c, hR.refl i⟩
        · exact .inr ⟨by omega, by omega⟩
      · rcases h with ⟨a, b, c⟩ | ⟨a, b⟩
        · exact .inl ⟨b, a, hR.symm c⟩
        · exact .inr ⟨b, a⟩
      · rcases h with ⟨a, b, c⟩ | ⟨a, b⟩ <;> rcases h' with ⟨a', b', c'⟩ | ⟨a', b'⟩
        · exact .inl ⟨a, b', hR.trans c c'⟩
        · omega
        · omega
        · exact .inr ⟨a, b'⟩
    have cR' : Cl t n L R' := fun i j l hi hj hl e => by
      rcases e with ⟨_, _, c⟩ | ⟨a, _⟩
      · exact .inl ⟨M.dl_lt hi hl, M.dl_lt hj hl, cR i j l hi hj hl c⟩
      · omega
    have g' : ∀ i j, RCl cs0 i j → R' i j := fun i j h => by
      obtain ⟨c, hc, h1, h2⟩ := W.up i j h
      exact .inl ⟨C.low c hc i h1, C.low c hc j h2, g i j (C.low c hc i h1) (C.low c hc j h2) h⟩
    rcases W.dn R' hR' cR' g' i j ((tol_rel C hi hj).mp e) with ⟨_, _, c⟩ | ⟨a, _⟩
    · exact c
    · omega
/-! from a sheet, from a pair -/
theorem sheet_lub {n : Nat} {C : (Nat → Nat → Prop) → Prop} {p c : List Nat} (hn : num p = p) (hl : p.length = n) (h : Lub n C (RCl (blks p)) c) : Lub n C (Rel p) c :=
  h.congr fun R _ _ => ⟨fun g i j hi hj e => g i j hi hj ((blks_rel hn).mpr ⟨hl ▸ hi, hl ▸ hj, e⟩), fun g i j hi hj e => g i j hi hj ((blks_rel hn).mp e).2.2⟩
def ones (n : Nat) : List (List Nat) := (List.range n).map fun k => [k]
theorem ones_rel {n i j : Nat} : RCl (ones n) i j ↔ i < n ∧ i = j := by
  unfold RCl ones
  constructor
  · rintro ⟨c, hc, h1, h2⟩
    obtain ⟨k, hk, rfl⟩ := List.mem_map.mp hc
    rw [List.mem_singleton] at h1 h2
    rw [List.mem_range] at hk
    exact ⟨by omega, by omega⟩
  · rintro ⟨h, rfl⟩
    exact ⟨[i], List.mem_map.mpr ⟨i, List.mem_range.mpr h, rfl⟩, by simp, by simp⟩
theorem ones_cls (n : Nat) : Cls n (ones n) where
  cov := fun k hk => ⟨[k], List.mem_map.mpr ⟨k, List.mem_range.mpr hk, rfl⟩, by simp⟩
  low := fun c hc k hk => by
    obtain ⟨i, hi, rfl⟩ := List.mem_map.mp hc
    rw [List.mem_singleton] at hk
    rw [List.mem_range] at hi
    omega
  uni := fun c hc d hd k h1 h2 => by
    obtain ⟨i, hi, rfl⟩ := List.mem_map.mp hc
    obtain ⟨j, hj, rfl⟩ := List.mem_map.mp hd
    rw [List.mem_singleton] at h1 h2
    rw [← h1, ← h2]
  ne := fun c hc => by
    obtain ⟨i, hi, rfl⟩ := List.mem_map.mp hc
    simp
  tot := by
    have : ∀ l : List Nat, (l.map fun k => [k]).flatten = l := by
      intro l
      induction l with
      | nil => rfl
      | cons x l ih => rw [List.map_cons, List.flatten_cons, ih]; rfl
    unfold ones
    rw [this, List.length_range]
    exact Nat.le_refl _
theorem pair_lub {n a b : Nat} {C : (Nat → Nat → Prop) → Prop} {c js : List Nat} (ha : a < n) (hb : b < n) (hj : js.Perm (mgB (ones n) a b).flatten) (h : Lub n C (RCl (mgO (ones n) a b ++ [js])) c) : Lub n C (Two a b) c :=
  h.congr fun R hR _ => ⟨fun g i j hi hj2 e => by
    obtain ⟨rfl, rfl⟩ := e
    exact g i j hi hj2 (mg_both (ones_cls n) hi hj2 hj), fun g i j hi hj2 e => mg_least (ones_cls n) hj hR (fun i j h => by
      obtain ⟨_, rfl⟩ := ones_rel.mp h
      exact hR.refl _) (g a b ha hb ⟨rfl, rfl⟩) i j e⟩
end Kp
set_option Elab.async false
set_option linter.all false
set_option maxRecDepth 100000
set_option maxHeartbeats 4000000
namespace Kp
/-! ### the machines of _law_hand_right -/
def ringT (n : Nat) : List (List Nat) := (List.range n).map fun k => [(k + 1) % n]
def flipT : List (List Nat) := [[1, 3], [2, 5], [0, 4], [4, 0], [5, 2], [3, 1]]
def stayT : List (List Nat) := (List.range 5).map fun k => [k]
abbrev a8 : List (List Nat) := [[0, 0, 0, 0, 0, 0, 0, 0], [0, 1, 0, 1, 0, 1, 0, 1], [0, 1, 2, 3, 0, 1, 2, 3], [0, 1, 2, 3, 4, 5, 6, 7]]
abbrev a6 : List (List Nat) := [[0, 0, 0, 0, 0, 0], [0, 0, 0, 1, 1, 1], [0, 1, 2, 0, 1, 2], [0, 1, 2, 1, 2, 0], [0, 1, 2, 2, 0, 1], [0, 1, 2, 3, 4, 5]]
theorem ak1 : allKept (ringT 1) 1 1 = [[0]] := by decide +kernel
theorem ak7 : allKept (ringT 7) 7 1 = [[0, 0, 0, 0, 0, 0, 0], [0, 1, 2, 3, 4, 5, 6]] := by decide +kernel
theorem ak8 : allKept (ringT 8) 8 1 = a8 := by decide +kernel
theorem ak6 : allKept flipT 6 2 = a6 := by decide +kernel
theorem ak5 : (allKept stayT 5 1).length = 52 := by decide +kernel
theorem stay_kept (p : List Nat) : keptB stayT 5 1 p = true := by
  rw [keptB_iff]
  intro i j l hi hj hl e
  have d : ∀ i : Nat, i < 5 → ∀ l : Nat, l < 1 → dl stayT i l = i := by decide
  show at0 p (dl stayT i l) = at0 p (dl stayT j l)
  rw [d i hi l hl, d j hj l hl]
  exact e
/-- the least one with a pair, among all -/
theorem two_is {t : List (List Nat)} {n L a b : Nat} {c c0 : List Nat} (n1 : 1 ≤ n) (ha : a < n) (hb : b < n) (h : Lub n (Cl t n L) (Two a b) c) (h0 : num c0 = c0 ∧ c0.length = n ∧ keptB t n L c0 = true) (h1 : at0 c0 a = at0 c0 b)
    (h2 : ∀ p ∈ allKept t n L, at0 p a = at0 p b → ∀ i, i < n → ∀ j, j < n → at0 c0 i = at0 c0 j → at0 p i = at0 p j) : c = c0 := by
  refine rgs_ext h.rgs h0.1 (by rw [h.len, h0.2.1]) fun i j hi hj => ⟨fun e => ?_, fun e => ?_⟩
  · rw [h.len] at hi hj
    exact h.least (Rel c0) (rel_eqv c0) (keptB_iff.mp h0.2.2) (fun i j _ _ z => by obtain ⟨rfl, rfl⟩ := z; exact h1) i j hi hj e
  · rw [h.len] at hi hj
    exact h2 c ((mem_allKept n1).mpr ⟨h.rgs, h.len, h.cl⟩) (h.ge a b ha hb ⟨rfl, rfl⟩) i hi j hj e
theorem draw8 {c : List Nat} (h : Lub 8 (Cl (ringT 8) 8 1) (Two 7 3) c) : c = [0, 1, 2, 3, 0, 1, 2, 3] := by
  refine two_is (by decide) (by decide) (by decide) h (by decide +kernel) (by decide) ?_
  rw [ak8]
  decide +kernel
theorem draw5 {c : List Nat} (h : Lub 5 (Cl stayT 5 1) (Two 1 3) c) : c = [0, 1, 2, 1, 3] := by
  refine two_is (by decide) (by decide) (by decide) h (by decide +kernel) (by decide) ?_
  intro p _ e i hi j hj hc
  have k : ∀ i : Nat, i < 5 → ∀ j : Nat, j < 5 → at0 [0, 1, 2, 1, 3] i = at0 [0, 1, 2, 1, 3] j → i = j ∨ (i = 1 ∧ j = 3) ∨ (i = 3 ∧ j = 1) := by decide
  rcases k i hi j hj hc with rfl | ⟨rfl, rfl⟩ | ⟨rfl, rfl⟩
  · rfl
  · exact e
  · exact e.symm
/-- one that is kept is its own -/
theorem own_is {t : List (List Nat)} {n L : Nat} {c p : List Nat} (h : Lub n (Cl t n L) (Rel p) c) (hn : num p = p) (hl : p.length = n) (hk : keptB t n L p = true) : c = p := by
  refine rgs_ext h.rgs hn (by rw [h.len, hl]) fun i j hi hj => ⟨fun e => ?_, fun e => ?_⟩
  · rw [h.len] at hi hj
    exact h.least (Rel p) (rel_eqv p) (keptB_iff.mp hk) (fun i j _ _ z => z) i j hi hj e
  · rw [h.len] at hi hj
    exact h.ge i j hi hj e
end Kp
set_option Elab.async false
set_option linter.all false
set_option maxRecDepth 100000
set_option maxHeartbeats 4000000
namespace Kp
open PySem PySem.Spec PyProof.Rows L2
local macro_rules | `(tactic| walk_at "q") => `(tactic| repeat (with_reducible first
  | refine q_seq ?_ | refine q_asg ?_ | refine q_name ?_ | refine q_ret ?_ | refine q_drop ?_ | refine q_ifs ?_ | refine q_next ?_ | refine q_par ?_
  | refine q_var (by with_unfolding_all exact rfl) ?_ | refine q_c ?_ | refine q_op ?_ | refine q_un ?_ | refine q_cb ?_ | refine q_cons ?_ | refine q_nil ?_ | refine q_call ?_
  | refine q_test ?_ | refine q_B ?_ | refine q_not ?_ | refine q_and ?_ | refine q_or ?_ | refine q_andV ?_ | refine q_orV ?_ | refine q_notV ?_ | refine q_ifx ?_ | refine q_chain ?_
  | refine q_tup ?_ | refine q_lst ?_ | refine q_bm ?_ | refine q_bm0 ?_ | refine q_yes ?_ | refine q_bl ?_ | refine q_I0 ?_ | refine q_int ?_ | refine q_eqI ?_ | refine q_neI ?_
  | refine q_dsetd ?_ | refine q_dget ?_ | refine q_din ?_ | refine q_dnotin ?_ | refine q_dput ?_ | refine q_sl ?_ | refine q_nopart ?_ | refine q_part ?_ | refine q_exI ?_ | refine q_dnewK ?_
  | refine q_for ?_ | refine q_lc ?_ | refine q_iTup ?_ | refine q_iList ?_ | refine q_iEnumT ?_ | refine q_iEnum ?_ | refine q_iRng1 ?_ | refine q_iRng2 ?_ | refine q_lstRg ?_ | refine q_tupRg ?_
  | refine iteT ?_ | refine iteF ?_ | refine q_nt ?_ | refine q_nf ?_))
abbrev s_law_told_of : Stmt := topS 41
theorem sc_law_told_of : FnScope ["many", "classes", "found", "marks", "k", "home", "number", "one"] ["many", "classes"] (defScope s_law_told_of) := ⟨rfl, rfl, rfl, by decide +kernel, rfl, by decide +kernel, by decide +kernel⟩
abbrev s_law_classes : Stmt := topS 42
theorem sc_law_classes : FnScope ["sheet", "k", "home", "number"] ["sheet"] (defScope s_law_classes) := ⟨rfl, rfl, rfl, by decide +kernel, rfl, by decide +kernel, by decide +kernel⟩
abbrev s_law_numbered : Stmt := topS 50
theorem sc_law_numbered : FnScope ["sheet", "marks", "k", "home"] ["sheet"] (defScope s_law_numbered) := ⟨rfl, rfl, rfl, by decide +kernel, rfl, by decide +kernel, by decide +kernel⟩
abbrev s_law_ring : Stmt := topS 52
theorem sc_law_ring : FnScope ["many", "k"] ["many"] (defScope s_law_ring) := ⟨rfl, rfl, rfl, by decide +kernel, rfl, by decide +kernel, by decide +kernel⟩
abbrev s_law_all_sheets : Stmt := topS 47
theorem sc_law_all_sheets : FnScope ["many", "rows", "turn", "longer", "row", "home"] ["many"] (defScope s_law_all_sheets) := ⟨rfl, rfl, rfl, by decide +kernel, rfl, by decide +kernel, by decide +kernel⟩
/-! ### answers -/
section
variable {K : PySem.W.Frag} {H : Hp} {Q : VK} {v : V} {l : List Nat} {x : Nat}
theorem inV_nums (x : Nat) : ∀ l : List Nat, inV (nV x) (l.map nV) = decide (x ∈ l)
  | [] => rfl
  | y :: l => by
    show ((y : Int) == (x : Int) || inV (nV x) (l.map nV)) = _
    rw [inV_nums x l]
    by_cases h : y = x
    · subst h; simp
    · have : ((y : Int) == (x : Int)) = false := beq_eq_false_iff_ne.mpr (by omega)
      rw [this]
      simp [Ne.symm h]
theorem flat_nums : ∀ l : List Nat, (l.map nV).all flatV = true
  | [] => rfl
  | _ :: l => by rw [List.map_cons, List.all_cons, flat_nums l]; rfl
theorem in_L (h : Dp K H v (dL l)) (q : Q (.bl (decide (x ∈ l))) H) : rIn K false (nV x) v H Q := by
  obtain ⟨a, rfl, hs⟩ := dp_line h
  exact ⟨a, _, rfl, .inl hs, rfl, flat_nums l, by rw [inV_nums]; exact q⟩
theorem in_T (h : Dp K H v (dT l)) (q : Q (.bl (decide (x ∈ l))) H) : rIn K false (nV x) v H Q := by
  obtain ⟨a, rfl, hs⟩ := dp_row h
  exact ⟨a, _, rfl, .inr hs, rfl, flat_nums l, by rw [inV_nums]; exact q⟩
theorem notIn_L (h : Dp K H v (dL l)) (q : Q (.bl (!decide (x ∈ l))) H) : rIn K true (nV x) v H Q := by
  obtain ⟨a, rfl, hs⟩ := dp_line h
  exact ⟨a, _, rfl, .inl hs, rfl, flat_nums l, by rw [inV_nums]; exact q⟩
theorem notIn_T (h : Dp K H v (dT l)) (q : Q (.bl (!decide (x ∈ l))) H) : rIn K true (nV x) v H Q := by
  obtain ⟨a, rfl, hs⟩ := dp_row h
  exact ⟨a, _, rfl, .inr hs, rfl, flat_nums l, by rw [inV_nums]; exact q⟩
theorem idx_of (h : Dp K H v (dL l)) (hx : x ∈ l) (q : Q (nV (l.idxOf x)) H) : rIndex K v [nV x] H Q := by
  obtain ⟨a, rfl, hs⟩ := dp_line h
  have hlt := List.idxOf_lt_length_iff.mpr hx
  have e1 := List.getElem_idxOf hlt
  refine ⟨a, l.map nV, nV x, l.idxOf x, nV x, rfl, rfl, hs, rfl, flat_nums l, ?_, by show ((x : Int) == (x : Int)) = true; exact beq_self_eq_true _, fun m z hm hz => ?_, q⟩
  · rw [List.getElem?_map, List.getElem?_eq_getElem hlt, e1]; rfl
  · rw [List.getElem?_map, List.getElem?_eq_getElem (Nat.lt_trans hm hlt)] at hz
    cases hz
    have : l[m]'(Nat.lt_trans hm hlt) ≠ x := fun e => by
      have := List.not_of_lt_findIdx (p := (· == x)) (xs := l) (i := m) (by exact hm)
      exact absurd (beq_iff_eq.mpr e) (by simpa using this)
    show ((l[m]'(Nat.lt_trans hm hlt) : Int) == (x : Int)) = false
    exact beq_eq_false_iff_ne.mpr (by omega)
/-- t[:k] -/
theorem upto_of {a : Addr} {xs : List V} {k : Nat} (h : SqT K H a xs) (hk : k < xs.length) (q : ∀ p, H p = none → Q (.ref p) (upd H p (.tup (xs.take k)))) : rSlA K (.ref a) none (some (k : Int)) H Q := by
  refine ⟨a, xs, rfl, h, fun z => ?_, fun _ p hp => ?_⟩
  · have e : HT.sIx xs.length xs.length (some (k : Int)) = k := by rw [HT.sIx_nat, Nat.min_eq_left (Nat.le_of_lt hk)]
    rw [e] at z
    omega
  · have e : cutV xs none (some (k : Int)) = xs.take k := by
      unfold cutV
      rw [HT.sIx_nat, HT.sIx_none, Nat.min_eq_left (Nat.le_of_lt hk)]
      simp
    rw [e]
    exact q p hp
end
section
variable {P : Program} {w : World} {K : PySem.W.Frag} {mg : Str → Option Value} {base : Heap}
/-! ### lists of new lists -/
def LL (H : Hp) (v : V) (cs : List (List Nat)) : Prop := ∃ (a : Addr) (z : List (List Nat × Addr)), v = .ref a ∧ H a = some (.lst (z.map fun q => V.ref q.2)) ∧ z.map (·.1) = cs ∧ ∀ q ∈ z, H q.2 = some (.lst (q.1.map nV))
theorem LL.same {H H' : Hp} {v : V} {cs : List (List Nat)} (h : LL H v cs) (s : Same H H') : LL H' v cs := by
  obtain ⟨a, z, e, h1, h2, h3⟩ := h
  exact ⟨a, z, e, s _ _ h1, h2, fun q hq => s _ _ (h3 q hq)⟩
theorem dpa_pairs {H : Hp} : ∀ z : List (List Nat × Addr), (∀ q ∈ z, H q.2 = some (.lst (q.1.map nV))) → DpAll K H (z.map fun q => V.ref q.2) ((z.map (·.1)).map dL)
  | [], _ => .nil
  | q :: z, h => .cons (dp_of_line (.of (h q List.mem_cons_self))) (dpa_pairs z fun r hr => h r (List.mem_cons_of_mem _ hr))
theorem LL.dp {H : Hp} {v : V} {cs : List (List Nat)} (h : LL H v cs) : Dp K H v (dLL cs) := by
  obtain ⟨a, z, rfl, h1, rfl, h3⟩ := h
  exact .lst (.of h1) (dpa_pairs z h3)
def RetLL (cs : List (List Nat)) (H : Hp) (Q : VK) : Prop := ∀ v H', Same H H' → LL H' v cs → Q v H'
/-- [e for .. if ..], each item told -/
theorem lcV {J : It} {n : Nat} {G : Hp → Prop} {Y : Nat → Hp → V → Hp → Prop} (w : Walk J n G Y) {g : TG} {tt : TT} {te : TE} {vs : List Nat} {σ : L2.St} {H1 : Hp} {D : Addr} {Qd : Hp → Prop} (f : Nat → Option V) (hD : H1 D = none) (hn : n ≤ 100000) (hG : ∀ H', Same H1 H' → G H')
    (hs : ∀ i x H' H'' (Q1 : V → Hp → Prop) (Q0 : Hp → Prop), i < n → Same H1 H' → Y i H' x H'' → (∀ y H4, Same H' H4 → f i = some y → Q1 y H4) → (∀ H3, Same H' H3 → f i = none → Q0 H3) →
      g x (wipe σ vs) H'' fun σ2 H2 => wipe σ2 vs = wipe σ vs ∧ tt σ2 H2 fun b H3 => if b = true then te σ2 H3 Q1 else Q0 H3)
    (hd : ∀ H', Same H1 H' → H' D = some (.lst ((List.range n).filterMap f)) → Qd H') :
    ∃ W : Nat → Nat → Hp → Prop, (∃ m, W 0 m (upd H1 D (.lst []))) ∧ ∀ i m H, W i m H →
      (J.stop i H ∧ Qd H) ∨ (J.go i H ∧ ∃ Nx : Hp → Prop, (∀ H', Nx H' → ∃ m', m' < m ∧ W (i + 1) m' H') ∧ ∀ x H', J.yld i H x H' → g x (wipe σ vs) H' fun σ2 H2 => wipe σ2 vs = wipe σ vs ∧ tt σ2 H2 fun b H3 =>
        if b = true then te σ2 H3 fun y H4 => ∃ acc, H4 D = some (.lst acc) ∧ acc.length < sizeLine ∧ Nx (upd H4 D (.lst (acc ++ [y]))) else Nx H3) := by
  have flen : ∀ i, ((List.range i).filterMap f).length ≤ i := fun i => by
    have := List.length_filterMap_le f (List.range i)
    rwa [List.length_range] at this
  refine lc_it w (fun i H' => i ≤ n ∧ Same H1 H' ∧ H' D = some (.lst ((List.range i).filterMap f))) ⟨Nat.zero_le _, Same.mut (Same.refl _) hD, upd_same⟩ (fun i H' _ p => hG H' p.2.1) (fun i x H' H'' hi p y => ?_) (fun H' p => hd H' p.2.1 p.2.2)
  obtain ⟨_, r, hx⟩ := p
  refine hs i x H' H'' _ _ hi r y (fun y H4 r4 e => ?_) (fun H3 r3 e => ?_)
  · refine ⟨_, r4 _ _ hx, ?_, hi, Same.mut (r.trans r4) hD, ?_⟩
    · have := flen i
      rw [sizeLine_eq]
      omega
    · rw [upd_same, List.range_succ, List.filterMap_append, show [i].filterMap f = [y] by simp [e]]
  · refine ⟨hi, r.trans r3, ?_⟩
    rw [List.range_succ, List.filterMap_append, show [i].filterMap f = [] by simp [e], List.append_nil]
    exact r3 _ _ hx
/-! ### _law_told_of -/
def spTold (K : PySem.W.Frag) : Sp := fun vs H Q _ => ∃ v n cs, vs = [nV n, v] ∧ Dp K H v (dLL cs) ∧ Cls n cs ∧ n ≤ 100 ∧ Ret K (dT (tol n cs)) H Q
theorem ok_law_told_of (B : Bn K mg) (D : Def K mg "_law_told_of" s_law_told_of ["many", "classes"]) : Cal P w K mg base 1 "_law_told_of" ["many", "classes"] (spTold K) := by
  refine D.cal sc_law_told_of (fun vs H Q E h => ?_) (fun f cdv A outer s H vs Q E hr h => ?_)
  · obtain ⟨v, n, cs, rfl, _⟩ := h
    rfl
  · obtain ⟨v, n, cs, rfl, hd, C, hn, q⟩ := h
    have fc := C.few
    refine ⟨_, (pss_cons (ps_par (i := 2) (j := 3) (by rfl) sc_law_told_of.nd rfl rfl (by decide) rfl rfl (pa_cons (pe_lst pa_nil) (pa_cons (pe_lst pa_nil) pa_nil)) (by rfl))
      (pss_cons (ps_for PassesOwn.never rfl (i_range1 B (pv 0)) (pg_name (i := 4) sc_law_told_of.nd rfl (Or.inr rfl))
      (pss_cons (ps_set (i := 5) sc_law_told_of.nd rfl (.inl rfl) (pe_ix (o_ixL B) (pe_lc (own := [("number", 6), ("one", 7)]) rfl sc_law_told_of.nd (i_enum B (pv 1)) (blkOk_by (by kernel_rfl)) (fun _ _ _ _ _ => (g_tup (n := 2) B rfl (pgs_cons (pg_name (i := 6) sc_law_told_of.nd rfl (Or.inl rfl)) (pgs_cons (pg_name (i := 7) sc_law_told_of.nd rfl (Or.inl rfl)) pgs_nil)))) (fun _ _ _ _ _ => (pts_one (pt_cmpR (o_in B) (pv 4) (pv 7) (by rfl)))) (fun _ _ _ _ _ => (pv 6))) pe_int (fun _ _ => rfl)))
      (pss_cons (ps_if (pt_cmpR (o_notIn B) (pv 5) (pv 3) (by rfl)) (pss_one (ps_expr (e_bm B PySem.F.plainAttrs_list PySem.F.slot_list_append PySem.F.type_list_append mt_append (pv 3) (pa_cons (pv 5) pa_nil)))) pss_nil)
      (pss_one (ps_expr (e_bm B PySem.F.plainAttrs_list PySem.F.slot_list_append PySem.F.type_list_append mt_append (pv 2) (pa_cons (e_bm B PySem.F.plainAttrs_list PySem.F.slot_list_index PySem.F.type_list_index (m_index B) (pv 3) (pa_cons (pv 5) pa_nil)) pa_nil)))))))
      (pss_one (ps_ret (e_tuple B (pv 2)))))), ?_⟩
    walk_at "q"
    refine ⟨Nat.zero_le _, fun l1 n1 => ?_⟩
    walk_at "q"
    refine ⟨Nat.zero_le _, fun l2 n2 => ⟨_, _, rfl, ?_⟩⟩
    have h12 : l1 ≠ l2 := fun z => by rw [← z, upd_same] at n2; cases n2
    have n2H : H l2 = none := by rwa [upd_ne h12.symm] at n2
    have s2 : Same H (upd (upd H l1 (.lst [])) l2 (.lst [])) := Same.mut (Same.new n1) n2H
    have e1 : upd (upd H l1 (.lst [])) l2 (.lst []) l1 = some (.lst []) := by rw [upd_ne h12, upd_same]
    have e2 : upd (upd H l1 (.lst [])) l2 (.lst []) l2 = some (.lst []) := upd_same
    generalize upd (upd H l1 (.lst [])) l2 (.lst []) = H2 at *
    walk_at "q"
    have plen := homs_len n cs
    refine ⟨n, rfl, by omega, by omega, for_it (walk_rg (n := n)) (fun j σ H' => ∃ y4 y5, σ = [some (nV n), some v, some (.ref l1), some (.ref l2), y4, y5, none, none] ∧ Same H H' ∧ H' l1 = some (.lst ((num ((homs n cs).take j)).map nV)) ∧ H' l2 = some (.lst ((firsts ((homs n cs).take j)).map nV)))
      ⟨none, none, rfl, s2, e1, e2⟩ (fun _ _ _ _ _ => trivial) (fun j x σ H' H'' hj h y => ?_) (fun σ H' h => ?_)⟩
    · obtain ⟨y4, y5, rfl, sm, g1, g2⟩ := h
      obtain ⟨rfl, rfl⟩ := y
      obtain ⟨ca, cx, rfl, hcs, hca⟩ := dp_lst (Dp.same sm _ _ hd)
      have hcl : cx.length = cs.length := by rw [dpa_len hca, List.length_map]
      walk_at "q"
      refine ⟨ca, cx, rfl, hcs, fun D nD => lcD (hr_same K) (walk_enum (xs := cx)) (fun i => if decide (j ∈ cs.getD i []) = true then some (dI i) else none) nD (by omega) (fun H' s => Same.lst s hcs) (fun i x H3 H4 Q1 Q0 acc hi s3 hD y k1 k0 => ?_) (fun H3 xs s3 hx hda _ => ?_)⟩
      · obtain ⟨T, x1, y, rfl, nT, rfl, e1, e2⟩ := y
        cases e1
        refine q_pair upd_same ?_
        walk_at "q"
        refine ⟨rfl, ?_⟩
        walk_at "q"
        obtain ⟨l, e3, e4⟩ := dll_at hca e2
        have hl : cs.getD i [] = l := by rw [List.getD_eq_getElem?_getD, e3]; rfl
        rw [hl] at k1 k0
        have s4 : Same H3 (upd H3 T (.tup [.int (i : Nat), y])) := Same.new nT
        refine in_L (Dp.same (s3.trans s4) _ _ e4) (x := j) ?_
        walk_at "q"
        refine q_dec (fun c => ?_) (fun c => ?_)
        · walk_at "q"
          exact k1 _ _ (dI i) s4 (by rw [if_pos (decide_eq_true c)]) (.int _)
        · exact k0 _ s4 (by rw [if_neg (by simpa using c)])
      · walk_at "q"
        rw [hcl, fm_filter cs.length (fun i => decide (j ∈ cs.getD i [])) fun i => dI i] at hda
        obtain ⟨r, er, h1, h2, h3⟩ := hom_spec C hj
        rw [er] at hda
        refine ixL_num (i := 0) (p := hom cs j :: r) (.lst (.of hx) hda) (by simp) ?_
        show gName 5 (nV (hom cs j)) _ _ _
        walk_at "q"
        have g1' := s3 _ _ g1
        have g2' := s3 _ _ g2
        have smm := sm.trans s3
        have tk : (homs n cs).take (j + 1) = (homs n cs).take j ++ [hom cs j] := by rw [List.take_add_one, get_at0 (by rw [plen]; exact hj), at0_homs hj]; rfl
        have fl : (firsts ((homs n cs).take j)).length ≤ j := by
          have := firsts_len ((homs n cs).take j)
          rw [List.length_take] at this
          omega
        have n1H : H l1 = none := n1
        -- behind the marks
        have fin : ∀ (De : Ends) (H5 : Hp), (∀ H6, Same H H6 → H6 l1 = some (.lst ((num ((homs n cs).take (j + 1))).map nV)) → H6 l2 = some (.lst ((firsts ((homs n cs).take (j + 1))).map nV)) → De.nx [some (nV n), some (.ref ca), some (.ref l1), some (.ref l2), some (nV j), some (nV (hom cs j)), none, none] H6) → Same H H5 →
            H5 l1 = some (.lst ((num ((homs n cs).take j)).map nV)) → H5 l2 = some (.lst ((firsts ((homs n cs).take (j + 1))).map nV)) →
            tDrop (tBM K "list" rAppend (tVar 2) (tCons (tBM K "list" (rIndex K) (tVar 3) (tCons (tVar 5) tNil)) tNil)) De [some (nV n), some (.ref ca), some (.ref l1), some (.ref l2), some (nV j), some (nV (hom cs j)), none, none] H5 := by
          intro De H5 kk sm5 w1 w2
          walk_at "q"
          refine ⟨ty_of w1, ?_⟩
          walk_at "q"
          refine ⟨ty_of w2, ?_⟩
          walk_at "q"
          refine idx_of (l := firsts ((homs n cs).take (j + 1))) (dp_of_line (.of w2)) (by rw [mem_firsts, tk]; simp) ?_
          walk_at "q"
          refine app_of w1 (by rw [List.length_map, num_len, List.length_take]; omega) ?_
          refine kk _ (Same.mut sm5 n1H) ?_ ?_
          · rw [upd_same, tk, num_snoc, List.map_append]; rfl
          · rw [upd_ne h12.symm]; exact w2
        refine notIn_L (l := firsts ((homs n cs).take j)) (dp_of_line (.of g2')) ?_
        walk_at "q"
        refine q_ndec (fun c => ?_) (fun c => ?_)
        · walk_at "q"
          refine ⟨ty_of g2', ?_⟩
          walk_at "q"
          refine app_of g2' (by rw [List.length_map]; omega) ?_
          refine fin _ _ (by intro H6 a1 a2 a3; exact ⟨_, _, rfl, a1, a2, a3⟩) (Same.mut smm n2H) ?_ ?_
          · rw [upd_ne h12]; exact g1'
          · rw [upd_same, tk, firsts_snoc, if_neg c, List.map_append]; rfl
        · refine q_next ?_
          refine fin _ _ (by intro H6 a1 a2 a3; exact ⟨_, _, rfl, a1, a2, a3⟩) smm g1' ?_
          rw [tk, firsts_snoc, if_pos c]
          exact g2'
    · obtain ⟨y4, y5, rfl, sm, g1, g2⟩ := h
      rw [List.take_of_length_le (by omega)] at g1
      walk_at "q"
      exact tup_of g1 (dpa_nums _) fun v H' s' hv => q v H' (sm.trans s') hv
/-! ### _law_classes -/
def spClasses (K : PySem.W.Frag) : Sp := fun vs H Q _ => ∃ v p, vs = [v] ∧ Dp K H v (dT p) ∧ num p = p ∧ p ≠ [] ∧ p.length ≤ 1000 ∧ RetLL (blks p) H Q
theorem ok_law_classes (B : Bn K mg) (D : Def K mg "_law_classes" s_law_classes ["sheet"]) : Cal P w K mg base 1 "_law_classes" ["sheet"] (spClasses K) := by
  refine D.cal sc_law_classes (fun vs H Q E h => ?_) (fun f cdv A outer s H vs Q E hr h => ?_)
  · obtain ⟨v, p, rfl, _⟩ := h
    rfl
  · obtain ⟨v, p, rfl, hd, hn, hne, hlen, q⟩ := h
    refine ⟨_, (pss_one (ps_ret (pe_lc (own := [("number", 3)]) (g := gName 3) (tt := tYes) rfl sc_law_classes.nd (i_range1 B (pe_op op_add (e_maxN B hr (pv 0)) pe_int)) (blkOk_by (by kernel_rfl)) (fun _ _ _ _ _ => (pg_name (i := 3) sc_law_classes.nd rfl (Or.inr rfl))) (fun _ _ _ _ _ => pts_nil) (fun _ _ _ _ _ => (pe_lc (own := [("k", 1), ("home", 2)]) rfl sc_law_classes.nd (i_enumT B (pv 0)) (blkOk_by (by kernel_rfl)) (fun _ _ _ _ _ => (g_tup (n := 2) B rfl (pgs_cons (pg_name (i := 1) sc_law_classes.nd rfl (Or.inl rfl)) (pgs_cons (pg_name (i := 2) sc_law_classes.nd rfl (Or.inl rfl)) pgs_nil)))) (fun _ _ _ _ _ => (pts_one (pt_cmpR op_eq (pv 2) (pv 3) (nomark _)))) (fun _ _ _ _ _ => (pv 1))))))), ?_⟩
    have hk1 := firsts_len p
    obtain ⟨c, rfl, hs⟩ := dp_row hd
    walk_at "q"
    refine ⟨_, p, rfl, .inl hd, hne, fun m hm hu => ?_⟩
    have hk : m + 1 = (firsts p).length := rgs_max hn hm hu
    walk_at "q"
    have ek : ((m : Int) + 1).toNat = (firsts p).length := by omega
    refine ⟨_, rfl, by omega, by omega, ?_⟩
    rw [ek]
    intro D nD
    refine lc_it (walk_rg (n := (firsts p).length)) (fun i H' => Same H H' ∧ ∃ z : List (List Nat × Addr), H' D = some (.lst (z.map fun q => V.ref q.2)) ∧ z.map (·.1) = (List.range i).map (blk p) ∧ ∀ q ∈ z, q.2 ≠ D ∧ H' q.2 = some (.lst (q.1.map nV))) ⟨Same.new nD, [], upd_same, rfl, fun q hq => absurd hq List.not_mem_nil⟩ (fun _ _ _ _ => trivial) (fun i x H' H'' hi h y => ?_) (fun H' h => ?_)
    · obtain ⟨sm, z, hD, hz, ho⟩ := h
      obtain ⟨rfl, rfl⟩ := y
      walk_at "q"
      refine ⟨rfl, ?_⟩
      walk_at "q"
      refine ⟨c, _, rfl, Same.tup sm hs, fun D2 nD2 => lcD (hr_same K) (walk_enumT (xs := p.map nV)) (fun k => if (at0 p k == i) = true then some (dI k) else none) nD2 (by rw [List.length_map]; omega) (fun H' s => Same.tup (sm.trans s) hs) (fun k x H3 H4 Q1 Q0 acc hk s3 hD3 y k1 k0 => ?_) (fun H3 xs s3 hx hda _ => ?_)⟩
      · obtain ⟨T, x1, y, rfl, nT, rfl, e1, e2⟩ := y
        cases e1
        rw [List.length_map] at hk
        have e2 : (p.map nV)[k]? = some y := e2
        rw [List.getElem?_map, get_at0 hk] at e2
        cases e2
        refine q_pair upd_same ?_
        walk_at "q"
        refine ⟨rfl, ?_⟩
        walk_at "q"
        have s4 : Same H3 (upd H3 T (.tup [.int (k : Nat), nV (at0 p k)])) := Same.new nT
        refine q_dec (fun e => ?_) (fun e => ?_)
        · have e : at0 p k = i := by have := V.int.inj e; omega
          walk_at "q"
          exact k1 _ _ (dI k) s4 (by rw [if_pos (beq_iff_eq.mpr e)]) (.int _)
        · have e : at0 p k ≠ i := fun z => e (by rw [z])
          exact k0 _ s4 (by rw [if_neg (by simpa using e)])
      · rw [List.length_map, fm_filter p.length (fun k => at0 p k == i) fun k => dI k] at hda
        have ex : xs = (blk p i).map nV := dpa_nums_inv hda
        subst ex
        have hDD : D2 ≠ D := fun e => by rw [e, hD] at nD2; cases nD2
        refine ⟨_, s3 _ _ hD, ?_, ?_⟩
        · have := congrArg List.length hz
          rw [List.length_map, List.length_map, List.length_range] at this
          rw [List.length_map, this, sizeLine_eq]
          omega
        · refine ⟨Same.mut (sm.trans s3) nD, z ++ [(blk p i, D2)], by rw [upd_same, List.map_append]; rfl, by rw [List.map_append, hz, List.range_succ, List.map_append]; rfl, fun q hq => ?_⟩
          rcases List.mem_append.mp hq with hq | hq
          · exact ⟨(ho q hq).1, by rw [upd_ne (ho q hq).1]; exact s3 _ _ (ho q hq).2⟩
          · rw [List.mem_singleton] at hq
            subst hq
            exact ⟨hDD, by rw [upd_ne hDD]; exact hx⟩
    · obtain ⟨sm, z, hD, hz, ho⟩ := h
      exact q _ _ sm ⟨D, z, rfl, hD, hz, fun q hq => (ho q hq).2⟩
/-! ### _law_numbered -/
def spLNum (K : PySem.W.Frag) : Sp := fun vs H Q _ => ∃ v p, vs = [v] ∧ Dp K H v (dT p) ∧ p.length ≤ 1000 ∧ Ret K (dT (num p)) H Q
theorem firsts_take (p : List Nat) : ∀ k, k ≤ p.length → firsts (p.take k) = ((List.range k).filter fun i => !decide (at0 p i ∈ p.take i)).map (at0 p) := by
  intro k
  induction k with
  | zero => intro _; rfl
  | succ k ih =>
    intro hk
    have tk : p.take (k + 1) = p.take k ++ [at0 p k] := by rw [List.take_add_one, get_at0 hk]; rfl
    rw [tk, firsts_snoc, ih (by omega), List.range_succ, List.filter_append, List.map_append]
    by_cases c : at0 p k ∈ p.take k
    · rw [← ih (by omega), if_pos ((mem_firsts _ _).mpr c), List.filter_cons_of_neg (by rw [decide_eq_true c]; exact Bool.false_ne_true)]
      simp
    · rw [← ih (by omega), if_neg (fun z => c ((mem_firsts _ _).mp z)), List.filter_cons_of_pos (by rw [decide_eq_false c]; rfl)]
      rfl
theorem ok_law_numbered (B : Bn K mg) (D : Def K mg "_law_numbered" s_law_numbered ["sheet"]) : Cal P w K mg base 1 "_law_numbered" ["sheet"] (spLNum K) := by
  refine D.cal sc_law_numbered (fun vs H Q E h => ?_) (fun f cdv A outer s H vs Q E hr h => ?_)
  · obtain ⟨v, p, rfl, _⟩ := h
    rfl
  · obtain ⟨v, p, rfl, hd, hlen, q⟩ := h
    refine ⟨_, (pss_cons (ps_set (i := 1) sc_law_numbered.nd rfl (.inr rfl) (pe_lc (own := [("k", 2), ("home", 3)]) rfl sc_law_numbered.nd (i_enumT B (pv 0)) (blkOk_by (by kernel_rfl)) (fun _ _ _ _ _ => (g_tup (n := 2) B rfl (pgs_cons (pg_name (i := 2) sc_law_numbered.nd rfl (Or.inl rfl)) (pgs_cons (pg_name (i := 3) sc_law_numbered.nd rfl (Or.inl rfl)) pgs_nil)))) (fun _ _ _ _ _ => (pts_one (pt_cmpR (o_notIn B) (pv 3) (pe_slice (o_slT B) (pv 0) po_none (po_some (pv 2))) (by rfl)))) (fun _ _ _ _ _ => (pv 3))))
      (pss_one (ps_ret (e_tuple B (pe_lc (own := [("home", 3)]) (g := gName 3) (tt := tYes) rfl sc_law_numbered.nd (i_tup B (pv 0)) (blkOk_by (by kernel_rfl)) (fun _ _ _ _ _ => (pg_name (i := 3) sc_law_numbered.nd rfl (Or.inl rfl))) (fun _ _ _ _ _ => pts_nil) (fun _ _ _ _ _ => (e_bm B PySem.F.plainAttrs_list PySem.F.slot_list_index PySem.F.type_list_index (m_index B) (pv 1) (pa_cons (pv 3) pa_nil)))))))), ?_⟩
    obtain ⟨c, rfl, hs⟩ := dp_row hd
    walk_at "q"
    refine ⟨c, _, rfl, hs, fun D nD => lcD (hr_same K) (walk_enumT (xs := p.map nV)) (fun k => if (!decide (at0 p k ∈ p.take k)) = true then some (dI (at0 p k)) else none) nD (by rw [List.length_map]; omega) (fun H' s => Same.tup s hs) (fun k x H3 H4 Q1 Q0 acc hk s3 hD3 y k1 k0 => ?_) (fun H3 xs s3 hx hda _ => ?_)⟩
    · obtain ⟨T, x1, y, rfl, nT, rfl, e1, e2⟩ := y
      cases e1
      rw [List.length_map] at hk
      have e2 : (p.map nV)[k]? = some y := e2
      rw [List.getElem?_map, get_at0 hk] at e2
      cases e2
      refine q_pair upd_same ?_
      walk_at "q"
      refine ⟨rfl, ?_⟩
      walk_at "q"
      have s4 : Same H3 (upd H3 T (.tup [.int (k : Nat), nV (at0 p k)])) := Same.new nT
      refine upto_of (Same.tup (s3.trans s4) hs) (by rw [List.length_map]; exact hk) fun l nl => ?_
      walk_at "q"
      rw [← List.map_take]
      have s5 := s4.trans (Same.new (o := .tup ((p.take k).map nV)) nl)
      refine notIn_T (l := p.take k) (dp_of_row (.of upd_same)) ?_
      walk_at "q"
      refine q_ndec (fun e => ?_) (fun e => ?_)
      · walk_at "q"
        exact k1 _ _ (dI (at0 p k)) s5 (by rw [decide_eq_false e]; rfl) (.int _)
      · exact k0 _ s5 (by rw [decide_eq_true e]; rfl)
    · walk_at "q"
      rw [List.length_map, fm_filter p.length (fun k => !decide (at0 p k ∈ p.take k)) fun k => dI (at0 p k)] at hda
      have ef : ((List.range p.length).filter fun k => !decide (at0 p k ∈ p.take k)).map (fun k => dI (at0 p k)) = (firsts p).map dI := by
        have := firsts_take p p.length (Nat.le_refl _)
        rw [List.take_length] at this
        rw [this, List.map_map]
        rfl
      rw [ef] at hda
      refine ⟨c, rfl, ⟨_, Same.tup s3 hs⟩, fun D2 nD2 => lcD (hr_same K) (walk_tup (xs := p.map nV)) (fun k => some (dI ((firsts p).idxOf (at0 p k)))) nD2 (by rw [List.length_map]; omega) (fun H' s => Same.tup (s3.trans s) hs) (fun k x H4 H5 Q1 Q0 acc hk s4 hD3 y k1 k0 => ?_) (fun H4 xs2 s4 hx4 hda4 _ => ?_)⟩
      · obtain ⟨rfl, hxx⟩ := y
        rw [List.length_map] at hk
        have hxx : (p.map nV)[k]? = some x := hxx
        rw [List.getElem?_map, get_at0 hk] at hxx
        cases hxx
        walk_at "q"
        refine ⟨rfl, ?_⟩
        walk_at "q"
        refine ⟨ty_of (s4 _ _ hx), ?_⟩
        walk_at "q"
        exact idx_of (.lst (.of (s4 _ _ hx)) (DpAll.same s4 _ _ hda)) ((mem_firsts _ _).mpr (at0_mem hk)) (k1 _ _ _ (Same.refl _) rfl (.int _))
      · walk_at "q"
        rw [List.length_map, fm_map p.length fun k => dI ((firsts p).idxOf (at0 p k)), map_at0 p fun x => dI ((firsts p).idxOf x)] at hda4
        refine tup_of hx4 (ds := (num p).map dI) ?_ fun v H' s' hv => q v H' (s3.trans (s4.trans s')) hv
        unfold num
        rw [List.map_map]
        exact hda4
/-! ### _law_ring -/
theorem rep_one (x n : Nat) : (List.replicate n [nV x]).flatten = (List.replicate n x).map nV := by
  induction n with
  | zero => rfl
  | succ n ih => rw [List.replicate_succ, List.flatten_cons, ih, List.replicate_succ]; rfl
def spRing (K : PySem.W.Frag) : Sp := fun vs H Q _ => ∃ n, vs = [nV n] ∧ 1 ≤ n ∧ n ≤ 100 ∧ Ret K (dM (ringT n) (List.replicate n 0)) H Q
theorem ok_law_ring (B : Bn K mg) (D : Def K mg "_law_ring" s_law_ring ["many"]) : Cal P w K mg base 1 "_law_ring" ["many"] (spRing K) := by
  refine D.cal sc_law_ring (fun vs H Q E h => ?_) (fun f cdv A outer s H vs Q E hr h => ?_)
  · obtain ⟨n, rfl, _⟩ := h
    rfl
  · obtain ⟨n, rfl, h1, h2, q⟩ := h
    refine ⟨_, (pss_one (ps_ret (pe_tup (pa_cons (e_tuple B (pe_lc (own := [("k", 1)]) (g := gName 1) (tt := tYes) rfl sc_law_ring.nd (i_range1 B (pv 0)) (blkOk_by (by kernel_rfl)) (fun _ _ _ _ _ => (pg_name (i := 1) sc_law_ring.nd rfl (Or.inl rfl))) (fun _ _ _ _ _ => pts_nil) (fun _ _ _ _ _ => (pe_tup (pa_cons (pe_op op_mod (e_int B (pe_op op_add (pv 1) pe_int)) (pv 0)) pa_nil))))) (pa_cons (pe_op (o_repT B) (pe_tup (pa_cons pe_int pa_nil)) (pv 0)) pa_nil))))), ?_⟩
    walk_at "q"
    refine ⟨n, rfl, by omega, by omega, fun D nD => lcD (hr_same K) (walk_rg (n := n)) (fun k => some (dT [(k + 1) % n])) nD (by omega) (fun _ _ => trivial) (fun k x H4 H5 Q1 Q0 acc hk s4 hD3 y k1 k0 => ?_) (fun H4 xs2 s4 hx4 hda4 _ => ?_)⟩
    · obtain ⟨rfl, rfl⟩ := y
      walk_at "q"
      refine ⟨rfl, ?_⟩
      walk_at "q"
      refine q_I (by omega) ?_
      walk_at "q"
      refine ⟨by show 1 ≤ sizeLine; rw [sizeLine_eq]; decide, fun T nT => k1 _ _ _ (Same.new nT) rfl (ap_row (dp_of_row (.of ?_)) (by rw [upd_ne]; exact hD3; rintro rfl; rw [hD3] at nT; cases nT))⟩
      rw [upd_same]
      rfl
    · walk_at "q"
      rw [fm_map] at hda4
      have e : (List.range n).map (fun k => dT [(k + 1) % n]) = (ringT n).map dT := by unfold ringT; rw [List.map_map]; rfl
      rw [e] at hda4
      refine tup_of hx4 hda4 fun v H5 s5 hv => ?_
      walk_at "q"
      refine ⟨by show 1 ≤ sizeLine; rw [sizeLine_eq]; decide, fun T nT => ?_⟩
      walk_at "q"
      have sT : Same H5 (upd H5 T (.tup [nV 0])) := Same.new nT
      refine times_of (l := T) (xs := [nV 0]) (.of upd_same) (by simp) h1 (by omega) (by simp) fun a H6 ha h6 => ?_
      have s6 : Same (upd H5 T (.tup [nV 0])) H6 := by
        rcases h6 with rfl | ⟨p, hp, rfl⟩
        · exact Same.refl _
        · exact Same.new hp
      walk_at "q"
      refine ⟨by show 2 ≤ sizeLine; rw [sizeLine_eq]; decide, fun T2 nT2 => ?_⟩
      have s7 : Same H6 (upd H6 T2 (.tup [v, .ref a])) := Same.new nT2
      refine q _ _ (((s4.trans s5).trans (sT.trans s6)).trans s7) (.tup (.of upd_same) (.cons (Dp.same ((sT.trans s6).trans s7) _ _ hv) (.cons (dp_of_row (Same.tup s7 ?_)) .nil)))
      rw [← rep_one]
      exact ha
/-! ### _law_all_sheets -/
def kids (r : List Nat) : List (List Nat) := (List.range ((firsts r).length + 1)).map fun h => r ++ [h]
theorem sheets_kids (k : Nat) : sheets (k + 1) = (sheets k).flatMap kids := rfl
theorem fm_take_len {α β : Type} (f : α → List β) (l : List α) (i : Nat) : ((l.take i).flatMap f).length ≤ (l.flatMap f).length := by
  have := List.take_append_drop i l
  have e : l.flatMap f = (l.take i).flatMap f ++ (l.drop i).flatMap f := by rw [← List.flatMap_append, this]
  rw [e, List.length_append]
  omega
def spSheets (K : PySem.W.Frag) : Sp := fun vs H Q _ => ∃ n, vs = [nV n] ∧ 1 ≤ n ∧ n ≤ 8 ∧ Ret K (dLT (sheets (n - 1))) H Q
theorem ok_law_all_sheets (B : Bn K mg) (D : Def K mg "_law_all_sheets" s_law_all_sheets ["many"]) : Cal P w K mg base 1 "_law_all_sheets" ["many"] (spSheets K) := by
  refine D.cal sc_law_all_sheets (fun vs H Q E h => ?_) (fun f cdv A outer s H vs Q E hr h => ?_)
  · obtain ⟨n, rfl, _⟩ := h
    rfl
  · obtain ⟨n, rfl, h1, h8, q⟩ := h
    refine ⟨_, (pss_cons (ps_set (i := 1) sc_law_all_sheets.nd rfl (.inl rfl) (pe_lst (pa_cons (pe_tup (pa_cons pe_int pa_nil)) pa_nil)))
      (pss_cons (ps_for PassesOwn.never rfl (i_range1 B (pe_op op_sub (pv 0) pe_int)) (pg_name (i := 2) sc_law_all_sheets.nd rfl (Or.inl rfl))
      (pss_cons (ps_set (i := 3) sc_law_all_sheets.nd rfl (.inl rfl) (pe_lst pa_nil))
      (pss_cons (ps_for PassesOwn.never rfl (i_list B (pv 1)) (pg_name (i := 4) sc_law_all_sheets.nd rfl (Or.inr rfl))
      (pss_one (ps_set (i := 3) sc_law_all_sheets.nd rfl (.inl rfl) (pe_op op_cat (pv 3) (pe_lc (own := [("home", 5)]) (g := gName 5) (tt := tYes) rfl sc_law_all_sheets.nd (i_range1 B (pe_op op_add (e_maxN B hr (pv 4)) pe_int)) (blkOk_by (by kernel_rfl)) (fun _ _ _ _ _ => (pg_name (i := 5) sc_law_all_sheets.nd rfl (Or.inl rfl))) (fun _ _ _ _ _ => pts_nil) (fun _ _ _ _ _ => (pe_op (o_catA B) (pv 4) (pe_tup (pa_cons (pv 5) pa_nil)))))))))
      (pss_one (ps_set (i := 1) sc_law_all_sheets.nd rfl (.inl rfl) (pv 3))))))
      (pss_one (ps_ret (pv 1))))), ?_⟩
    walk_at "q"
    refine ⟨by show 1 ≤ sizeLine; rw [sizeLine_eq]; decide, fun T nT => ?_⟩
    walk_at "q"
    refine ⟨by show 1 ≤ sizeLine; rw [sizeLine_eq]; decide, fun R nR => ?_⟩
    have sT : Same H (upd (upd H T (.tup [nV 0])) R (.lst [.ref T])) := (Same.new nT).trans (Same.new nR)
    have hTR : T ≠ R := fun e => by rw [← e, upd_same] at nR; cases nR
    have hR : Dp K (upd (upd H T (.tup [nV 0])) R (.lst [.ref T])) (.ref R) (dLT (sheets 0)) := .lst (.of upd_same) (.cons (dp_of_row (.of (by rw [upd_ne hTR, upd_same]; rfl))) .nil)
    show tSeq _ _ _ _ (upd (upd H T (.tup [nV 0])) R (.lst [.ref T]))
    generalize upd (upd H T (.tup [nV 0])) R (.lst [.ref T]) = H1 at *
    walk_at "q"
    have en : ((n : Int) - 1).toNat = n - 1 := by omega
    refine ⟨_, rfl, by omega, by omega, ?_⟩
    rw [en]
    refine for_it (walk_rg (n := n - 1)) (fun j σ H' => ∃ rv y2 y3 y4, σ = [some (nV n), some rv, y2, y3, y4, none] ∧ Same H H' ∧ Dp K H' rv (dLT (sheets j))) ⟨_, none, none, none, rfl, sT, hR⟩ (fun _ _ _ _ _ => trivial) (fun j x σ H' H'' hj h y => ?_) (fun σ H' h => ?_)
    · obtain ⟨rv, y2, y3, y4, rfl, sm, hrv⟩ := h
      obtain ⟨rfl, rfl⟩ := y
      walk_at "q"
      refine ⟨Nat.zero_le _, fun l nl => ?_⟩
      have s3 : Same H'' (upd H'' l (.lst [])) := Same.new nl
      have hl : upd H'' l (.lst []) l = some (.lst []) := upd_same
      generalize upd H'' l (.lst []) = H2 at *
      walk_at "q"
      obtain ⟨ra, rx, rfl, hrs, hra⟩ := dp_lst (Dp.same s3 _ _ hrv)
      have hrl : rx.length = (sheets j).length := by rw [dpa_len hra, List.length_map]
      have few := sheets_few (k := j + 1) (by omega)
      refine ⟨ra, rfl, ⟨_, hrs⟩, for_it (walk_list (xs := rx)) (fun i σ H3 => ∃ y2 la xs y4, σ = [some (nV n), some (.ref ra), y2, some (.ref la), y4, none] ∧ Same H2 H3 ∧ H3 la = some (.lst xs) ∧ DpAll K H3 xs ((((sheets j).take i).flatMap kids).map dT))
        ⟨_, l, [], _, rfl, Same.refl _, hl, .nil⟩ (fun i σ H3 _ h => ?_) (fun i x σ H3 H4 hi h y => ?_) (fun σ H3 h => ?_)⟩
      · obtain ⟨_, _, _, _, _, s4, _⟩ := h
        exact Same.lst s4 hrs
      · obtain ⟨y2, la, xs, y4, rfl, s4, hla, hxs⟩ := h
        obtain ⟨rfl, hx⟩ := y
        obtain ⟨r, e1, e2⟩ := dtt_at hra hx
        have hr2 := (mem_sheets j r).mp (List.mem_of_getElem? e1)
        obtain ⟨rc, rfl, hrr⟩ := dp_row (Dp.same s4 _ _ e2)
        walk_at "q"
        refine ⟨_, r, rfl, .inl (dp_of_row hrr), fun z => by have := hr2.2; rw [z] at this; simp at this, fun m hm hu => ?_⟩
        have hk : m + 1 = (firsts r).length := rgs_max hr2.1 hm hu
        walk_at "q"
        have ek : ((m : Int) + 2).toNat = (firsts r).length + 1 := by omega
        have hk2 := firsts_len r
        refine ⟨_, rfl, by omega, by omega, ?_⟩
        rw [ek]
        refine fun D nD => lcD (hr_same K) (walk_rg (n := (firsts r).length + 1)) (fun h => some (dT (r ++ [h]))) nD (by omega) (fun _ _ => trivial) (fun h x H5 H6 Q1 Q0 acc hh s5 hD y k1 k0 => ?_) (fun H5 xs2 s5 hx5 hda5 _ => ?_)
        · obtain ⟨rfl, rfl⟩ := y
          walk_at "q"
          refine ⟨rfl, ?_⟩
          walk_at "q"
          refine ⟨by show 1 ≤ sizeLine; rw [sizeLine_eq]; decide, fun T2 nT2 => ?_⟩
          refine ⟨rc, T2, _, [nV h], rfl, rfl, Same.tup (s5.trans (Same.new nT2)) hrr, .of upd_same, by rw [List.length_map, sizeLine_eq]; show r.length + 1 ≤ _; omega, fun z => ?_, fun _ z => (nomatch z), fun _ _ p hp => ?_⟩
          · have := congrArg List.length z
            rw [List.length_map, hr2.2] at this
            simp at this
          · refine k1 _ _ _ ((Same.new nT2).trans (Same.new hp)) rfl (ap_row (dp_of_row (.of ?_)) ((Same.new hp) _ _ ((Same.new nT2) _ _ hD)))
            rw [upd_same, List.map_append]
            rfl
        · rw [fm_map] at hda5
          have e : (List.range ((firsts r).length + 1)).map (fun h => dT (r ++ [h])) = (kids r).map dT := by unfold kids; rw [List.map_map]; rfl
          rw [e] at hda5
          have tk : ((sheets j).take (i + 1)).flatMap kids = ((sheets j).take i).flatMap kids ++ kids r := by
            rw [List.take_add_one, e1, List.flatMap_append]
            simp
          have fl := fm_take_len kids (sheets j) (i + 1)
          rw [← sheets_kids] at fl
          refine ⟨la, D, xs, xs2, rfl, rfl, s5 _ _ hla, hx5, ?_, fun p hp => ?_⟩
          · rw [tk, List.length_append] at fl
            rw [dpa_len hxs, dpa_len hda5, List.length_map, List.length_map, sizeLine_eq]
            omega
          · walk_at "q"
            refine ⟨_, p, _, _, rfl, s4.trans (s5.trans (Same.new hp)), upd_same, ?_⟩
            rw [tk, List.map_append]
            exact DpAll.same (Same.new hp) _ _ (dpa_app (DpAll.same s5 _ _ hxs) hda5)
      · obtain ⟨y2, la, xs, y4, rfl, s4, hla, hxs⟩ := h
        rw [hrl, List.take_length, ← sheets_kids] at hxs
        walk_at "q"
        exact ⟨_, _, _, _, rfl, sm.trans (s3.trans s4), .lst (.of hla) hxs⟩
    · obtain ⟨rv, y2, y3, y4, rfl, sm, hrv⟩ := h
      walk_at "q"
      exact q _ _ sm hrv
end
end Kp
set_option Elab.async false
set_option linter.all false
set_option maxRecDepth 100000
set_option maxHeartbeats 4000000
namespace Kp
open PySem PySem.Spec PyProof.Rows L2
local macro_rules | `(tactic| walk_at "q") => `(tactic| repeat (with_reducible first
  | refine q_seq ?_ | refine q_asg ?_ | refine q_name ?_ | refine q_ret ?_ | refine q_drop ?_ | refine q_ifs ?_ | refine q_next ?_ | refine q_par ?_
  | refine q_var (by with_unfolding_all exact rfl) ?_ | refine q_c ?_ | refine q_op ?_ | refine q_un ?_ | refine q_cb ?_ | refine q_cons ?_ | refine q_nil ?_ | refine q_call ?_
  | refine q_test ?_ | refine q_B ?_ | refine q_not ?_ | refine q_and ?_ | refine q_or ?_ | refine q_andV ?_ | refine q_orV ?_ | refine q_notV ?_ | refine q_ifx ?_ | refine q_chain ?_
  | refine q_tup ?_ | refine q_lst ?_ | refine q_bm ?_ | refine q_bm0 ?_ | refine q_yes ?_ | refine q_bl ?_ | refine q_I0 ?_ | refine q_int ?_ | refine q_eqI ?_ | refine q_neI ?_
  | refine q_dsetd ?_ | refine q_dget ?_ | refine q_din ?_ | refine q_dnotin ?_ | refine q_dput ?_ | refine q_sl ?_ | refine q_nopart ?_ | refine q_part ?_ | refine q_exI ?_ | refine q_dnewK ?_
  | refine q_for ?_ | refine q_lc ?_ | refine q_iTup ?_ | refine q_iList ?_ | refine q_iEnumT ?_ | refine q_iEnum ?_ | refine q_iRng1 ?_ | refine q_iRng2 ?_ | refine q_lstRg ?_ | refine q_tupRg ?_
  | refine iteT ?_ | refine iteF ?_ | refine q_nt ?_ | refine q_nf ?_))
abbrev s_law_is_kept : Stmt := topS 44
theorem sc_law_is_kept : FnScope ["frame", "classes", "homes", "number", "one", "k", "letter"] ["frame", "classes"] (defScope s_law_is_kept) := ⟨rfl, rfl, rfl, by decide +kernel, rfl, by decide +kernel, by decide +kernel⟩
abbrev s_law_all_kept : Stmt := topS 48
theorem sc_law_all_kept : FnScope ["frame", "every", "sheet"] ["frame"] (defScope s_law_all_kept) := ⟨rfl, rfl, rfl, by decide +kernel, rfl, by decide +kernel, by decide +kernel⟩
section
variable {P : Program} {w : World} {K : PySem.W.Frag} {mg : Str → Option Value} {base : Heap}
/-! ### _law_is_kept -/
/-- the dict of homes: those of the blocks below b, of the block b the first j -/
structure Hk (kvs : List (L2.Key × V)) (p : List Nat) (b j : Nat) : Prop where
  has : ∀ x, x < p.length → (at0 p x < b ∨ x ∈ (blk p b).take j) → valV kvs (.inl (x : Int)) = some (nV (at0 p x))
theorem hk_put {kvs : List (L2.Key × V)} {p : List Nat} {b j x : Nat} (h : Hk kvs p b j) (hx : (blk p b)[j]? = some x) : Hk (putK kvs (.inl (x : Int)) (nV b)) p b (j + 1) := by
  have hm := mem_blk.mp (List.mem_of_getElem? hx)
  refine ⟨fun y hy hc => ?_⟩
  rw [valV_put]
  by_cases c : (Sum.inl (y : Int) : L2.Key) = .inl (x : Int)
  · have : y = x := by have := Sum.inl.inj c; omega
    rw [if_pos c, this, hm.2]
  · rw [if_neg c]
    refine h.has y hy ?_
    rcases hc with hc | hc
    · exact .inl hc
    · rw [List.take_add_one, hx] at hc
      rcases List.mem_append.mp hc with hc | hc
      · exact .inr hc
      · have : y = x := by simpa using hc
        exact absurd (by rw [this]) c
theorem hk_next {kvs : List (L2.Key × V)} {p : List Nat} {b : Nat} (h : Hk kvs p b (blk p b).length) : Hk kvs p (b + 1) 0 := by
  refine ⟨fun y hy hc => ?_⟩
  rcases hc with hc | hc
  · by_cases c : at0 p y < b
    · exact h.has y hy (.inl c)
    · refine h.has y hy (.inr ?_)
      rw [List.take_length, mem_blk]
      exact ⟨hy, by omega⟩
  · simp at hc
theorem one_val {q : List Nat} : (firsts q).length ≤ 1 ↔ ∀ x ∈ q, ∀ y ∈ q, x = y := by
  constructor
  · intro h x hx y hy
    have h1 := (mem_firsts q x).mpr hx
    have h2 := (mem_firsts q y).mpr hy
    match hf : firsts q with
    | [] => rw [hf] at h1; exact absurd h1 List.not_mem_nil
    | [z] =>
      rw [hf, List.mem_singleton] at h1 h2
      rw [h1, h2]
    | _ :: _ :: _ => rw [hf] at h; simp at h
  · intro h
    have nd := nodup_firsts q
    match hf : firsts q with
    | [] => exact Nat.zero_le _
    | [_] => exact Nat.le_refl _
    | a :: b :: r =>
      rw [hf] at nd
      have ha := (mem_firsts q a).mp (by rw [hf]; simp)
      have hb := (mem_firsts q b).mp (by rw [hf]; simp)
      have := h a ha b hb
      simp [this] at nd
def spLKept (K : PySem.W.Frag) : Sp := fun vs H Q _ => ∃ m v t sh n L p, vs = [m, v] ∧ Dp K H m (dM t sh) ∧ Frm t sh n L ∧ Dp K H v (dLL (blks p)) ∧ num p = p ∧ p.length = n ∧ ∀ H', Same H H' → Q (.bl (keptB t n L p)) H'
theorem ok_law_is_kept (B : Bn K mg) (D : Def K mg "_law_is_kept" s_law_is_kept ["frame", "classes"]) : Cal P w K mg base 1 "_law_is_kept" ["frame", "classes"] (spLKept K) := by
  refine D.cal sc_law_is_kept (fun vs H Q E h => ?_) (fun f cdv A outer s H vs Q E hr h => ?_)
  · obtain ⟨m, v, t, sh, n, L, p, rfl, _⟩ := h
    rfl
  · obtain ⟨m, v, t, sh, n, L, p, rfl, hm, F, hv, hn, hl, q⟩ := h
    have n8 := F.m.n8
    have n1 := F.m.n1
    have l4 := F.m.l4
    have hk1 := firsts_len p
    refine ⟨_, (pss_cons (ps_set (i := 2) sc_law_is_kept.nd rfl (.inr rfl) pe_dnewK)
      (pss_cons (ps_for PassesOwn.never rfl (i_enum B (pv 1)) (g_tup (n := 2) B rfl (pgs_cons (pg_name (i := 3) sc_law_is_kept.nd rfl (Or.inl rfl)) (pgs_cons (pg_name (i := 4) sc_law_is_kept.nd rfl (Or.inl rfl)) pgs_nil)))
      (pss_one (ps_for PassesOwn.never rfl (i_list B (pv 4)) (pg_name (i := 5) sc_law_is_kept.nd rfl (Or.inl rfl))
      (pss_one (ps_dput (hu_of hr) (pv 2) (pv 5) (pv 3) rfl)))))
      (pss_cons (ps_for PassesOwn.never rfl (i_list B (pv 1)) (pg_name (i := 4) sc_law_is_kept.nd rfl (Or.inl rfl))
      (pss_one (ps_for PassesOwn.never rfl (i_range1 B (e_len B (pe_ix (o_ixT B) (pe_ix (o_ixT B) (pv 0) pe_int (fun _ _ => rfl)) pe_int (fun _ _ => rfl)))) (pg_name (i := 6) sc_law_is_kept.nd rfl (Or.inr rfl))
      (pss_one (ps_if (pt_cmpR op_gt (e_lenSet B (pe_lc (own := [("k", 5)]) (g := gName 5) (tt := tYes) rfl sc_law_is_kept.nd (i_list B (pv 4)) (blkOk_by (by kernel_rfl)) (fun _ _ _ _ _ => (pg_name (i := 5) sc_law_is_kept.nd rfl (Or.inl rfl))) (fun _ _ _ _ _ => pts_nil) (fun _ _ _ _ _ => (e_dget hr (pv 2) (pe_ix (o_ixT B) (pe_ix (o_ixT B) (pe_ix (o_ixT B) (pv 0) pe_int (fun _ _ => rfl)) (pv 5) (fun _ _ => rfl)) (pv 6) (fun _ _ => rfl)))))) pe_int (nomark _)) (pss_one (ps_ret pe_bl)) pss_nil)))))
      (pss_one (ps_ret pe_bl))))), ?_⟩
    walk_at "q"
    intro d nd
    have s0 : Same H (upd H d (.dK [])) := Same.new nd
    have hd0 : upd H d (.dK []) d = some (.dK []) := upd_same
    generalize upd H d (.dK []) = H1 at *
    walk_at "q"
    have hvH := hv
    obtain ⟨ca, cx, rfl, hcs, hca⟩ := dp_lst hv
    have bl : (blks p).length = (firsts p).length := by unfold blks; rw [List.length_map, List.length_range]
    have hcl : cx.length = (firsts p).length := by rw [dpa_len hca, List.length_map, bl]
    have gb : ∀ b, b < (firsts p).length → (blks p)[b]? = some (blk p b) := fun b hb => by unfold blks; rw [List.getElem?_map, List.getElem?_range hb]; rfl
    refine ⟨ca, cx, rfl, Same.lst s0 hcs, for_it (walk_enum (xs := cx)) (fun b σ H' => ∃ y3 y4 y5 kvs, σ = [some m, some (.ref ca), some (.ref d), y3, y4, y5, none] ∧ Same H H' ∧ H' d = some (.dK kvs) ∧ kvs.length ≤ b * 100 ∧ Hk kvs p b 0)
      ⟨none, none, none, [], rfl, s0, hd0, Nat.zero_le _, ⟨fun x hx hc => by rcases hc with hc | hc; exact absurd hc (Nat.not_lt_zero _); simp at hc⟩⟩ (fun b σ H' _ h => ?_) (fun b x σ H' H'' hi h y => ?_) (fun σ H' h => ?_)⟩
    · obtain ⟨_, _, _, _, _, sm, _⟩ := h
      exact Same.lst sm hcs
    · obtain ⟨y3, y4, y5, kvs, rfl, sm, hd, few, hk⟩ := h
      obtain ⟨T, x1, y, rfl, nT, rfl, e1, e2⟩ := y
      cases e1
      rw [hcl] at hi
      obtain ⟨l, e3, e4⟩ := dll_at hca e2
      rw [gb b hi] at e3
      cases e3
      refine q_pair upd_same ?_
      have dT' : d ≠ T := fun z => by rw [← z, hd] at nT; cases nT
      have s2 : Same H (upd H' T (.tup [.int (b : Nat), y])) := sm.trans (Same.new nT)
      have hd2 : upd H' T (.tup [.int (b : Nat), y]) d = some (.dK kvs) := by rw [upd_ne dT']; exact hd
      generalize upd H' T (.tup [.int (b : Nat), y]) = H2 at *
      obtain ⟨ya, rfl, hys⟩ := dp_line e4
      have blen := blk_len p b
      walk_at "q"
      refine ⟨ya, rfl, ⟨_, Same.lst s2 hys⟩, for_it (walk_list (xs := (blk p b).map nV)) (fun j σ H3 => ∃ y5 kvs, σ = [some m, some (.ref ca), some (.ref d), some (nV b), some (.ref ya), y5, none] ∧ Same H H3 ∧ H3 d = some (.dK kvs) ∧ kvs.length ≤ b * 100 + j ∧ Hk kvs p b j)
        ⟨_, kvs, rfl, s2, hd2, few, hk⟩ (fun j σ H3 _ h => ?_) (fun j x σ H3 H4 hj h y => ?_) (fun σ H3 h => ?_)⟩
      · obtain ⟨_, _, _, sm, _⟩ := h
        exact Same.lst sm hys
      · obtain ⟨y5, kvs, rfl, sm, hd, few, hk⟩ := h
        obtain ⟨rfl, hx⟩ := y
        rw [List.length_map] at hj
        rw [List.getElem?_map, get_at0 hj] at hx
        cases hx
        walk_at "q"
        refine ⟨d, _, rfl, DPut.k hd (k := .inl (at0 (blk p b) j : Int)) (by rw [sizeLine_eq]; have : b * 100 ≤ 8 * 100 := Nat.mul_le_mul_right _ (by omega); omega), ?_⟩
        exact ⟨_, _, rfl, Same.mut sm nd, upd_same, Nat.le_trans (putK_many _ _ _) (by omega), hk_put hk (get_at0 hj)⟩
      · obtain ⟨y5, kvs, rfl, sm, hd, few, hk⟩ := h
        rw [List.length_map] at few hk
        exact ⟨_, _, _, kvs, rfl, sm, hd, by omega, hk_next hk⟩
    · obtain ⟨y3, y4, y5, kvs, rfl, sm, hd, few, hk⟩ := h
      rw [hcl] at hk
      have hkv : ∀ x, x < n → valV kvs (.inl (x : Int)) = some (nV (at0 p x)) := fun x hx => hk.has x (by omega) (.inl ((rgs_mem hn _).mp (at0_mem (by omega))))
      walk_at "q"
      refine ⟨ca, rfl, ⟨_, Same.lst sm hcs⟩, for_it (walk_list (xs := cx)) (fun b σ H3 => ∃ y3 y4 y5 y6, σ = [some m, some (.ref ca), some (.ref d), y3, y4, y5, y6] ∧ Same H H3 ∧ H3 d = some (.dK kvs) ∧ ∀ b' l, b' < b → l < L → ∀ i ∈ blk p b', ∀ j ∈ blk p b', Rel p (dl t i l) (dl t j l))
        ⟨_, _, _, _, rfl, sm, hd, fun b' l h => absurd h (Nat.not_lt_zero _)⟩ (fun b σ H3 _ h => ?_) (fun b x σ H3 H4 hi h y => ?_) (fun σ H3 h => ?_)⟩
      · obtain ⟨_, _, _, _, _, sm, _⟩ := h
        exact Same.lst sm hcs
      · obtain ⟨y3, y4, y5, y6, rfl, sm, hd, hall⟩ := h
        obtain ⟨rfl, hx⟩ := y
        rw [hcl] at hi
        obtain ⟨l, e3, e4⟩ := dll_at hca hx
        rw [gb b hi] at e3
        cases e3
        obtain ⟨ya, rfl, hys⟩ := dp_line e4
        have blen := blk_len p b
        walk_at "q"
        refine dm_rows (Dp.same sm _ _ hm) fun r hr2 => ?_
        walk_at "q"
        refine F.row_of (a := 0) hr2 (by omega) fun r2 hr3 => ?_
        walk_at "q"
        refine lenT_of hr3 ?_
        rw [List.length_map, (frm_row F (i := 0) (by omega)).2]
        refine ⟨L, rfl, by omega, by omega, for_it (walk_rg (n := L)) (fun l σ H5 => ∃ y3 y5 y6, σ = [some m, some (.ref ca), some (.ref d), y3, some (.ref ya), y5, y6] ∧ Same H H5 ∧ H5 d = some (.dK kvs) ∧ ∀ l', l' < l → ∀ i ∈ blk p b, ∀ j ∈ blk p b, Rel p (dl t i l') (dl t j l'))
          ⟨_, _, _, rfl, sm, hd, fun l' h => absurd h (Nat.not_lt_zero _)⟩ (fun _ _ _ _ _ => trivial) (fun l x σ H5 H6 hl2 h y => ?_) (fun σ H5 h => ?_)⟩
        · obtain ⟨y3, y5, y6, rfl, sm, hd, hal⟩ := h
          obtain ⟨rfl, rfl⟩ := y
          walk_at "q"
          unfold tLenSetN
          walk_at "q"
          refine ⟨ya, rfl, ⟨_, Same.lst sm hys⟩, fun D nD => lcD (hr_same K) (walk_list (xs := (blk p b).map nV)) (fun i => some (dI (at0 p (dl t (at0 (blk p b) i) l)))) nD (by rw [List.length_map]; omega) (fun H' s => Same.lst (sm.trans s) hys) (fun i x H7 H8 Q1 Q0 acc hi2 s7 hD y k1 k0 => ?_) (fun H7 xs2 s7 hx7 hda7 _ => ?_)⟩
          · obtain ⟨rfl, hxx⟩ := y
            rw [List.length_map] at hi2
            have hxx : ((blk p b).map nV)[i]? = some x := hxx
            rw [List.getElem?_map, get_at0 hi2] at hxx
            cases hxx
            have hin : at0 (blk p b) i < n := by
              have := (mem_blk.mp (at0_mem hi2)).1
              omega
            walk_at "q"
            refine ⟨rfl, ?_⟩
            walk_at "q"
            refine dm_rows (Dp.same (sm.trans s7) _ _ hm) fun r hr4 => ?_
            walk_at "q"
            refine F.row_of hr4 hin fun r2 hr5 => ?_
            walk_at "q"
            refine step_of F hr5 hin hl2 ?_
            walk_at "q"
            refine ⟨d, nV (at0 p (dl t (at0 (blk p b) i) l)), rfl, ?_, k1 _ _ _ (Same.refl _) rfl (.int _)⟩
            rw [← hkv _ (F.m.dl_lt hin hl2)]
            exact DGet.k (k := .inl (dl t (at0 (blk p b) i) l : Int)) (s7 _ _ hd)
          · rw [List.length_map, fm_map (blk p b).length fun i => dI (at0 p (dl t (at0 (blk p b) i) l)), map_at0 (blk p b) fun x => dI (at0 p (dl t x l))] at hda7
            have eq : (blk p b).map (fun x => dI (at0 p (dl t x l))) = ((blk p b).map fun x => at0 p (dl t x l)).map dI := by rw [List.map_map]; rfl
            rw [eq] at hda7
            refine ⟨_, .lst (.of hx7) hda7, by rw [List.length_map]; omega, ?_⟩
            walk_at "q"
            refine q_dec (fun c => ?_) (fun c => ?_)
            · walk_at "q"
              have e : keptB t n L p = false := by
                refine Bool.eq_false_iff.mpr fun z => ?_
                have : ¬ (firsts ((blk p b).map fun x => at0 p (dl t x l))).length ≤ 1 := by omega
                refine this (one_val.mpr fun x hx y hy => ?_)
                obtain ⟨i, hi, rfl⟩ := List.mem_map.mp hx
                obtain ⟨j, hj, rfl⟩ := List.mem_map.mp hy
                have hi := mem_blk.mp hi
                have hj := mem_blk.mp hj
                exact keptB_iff.mp z i j l (by omega) (by omega) hl2 (hi.2.trans hj.2.symm)
              rw [e] at q
              exact q _ (sm.trans s7)
            · walk_at "q"
              have ov := one_val.mp (show (firsts ((blk p b).map fun x => at0 p (dl t x l))).length ≤ 1 by omega)
              refine ⟨_, _, _, rfl, sm.trans s7, s7 _ _ hd, fun l' hl' i hi j hj => ?_⟩
              rcases Nat.lt_succ_iff_lt_or_eq.mp hl' with h1 | rfl
              · exact hal l' h1 i hi j hj
              · exact ov _ (List.mem_map.mpr ⟨i, hi, rfl⟩) _ (List.mem_map.mpr ⟨j, hj, rfl⟩)
        · obtain ⟨y3, y5, y6, rfl, sm, hd, hal⟩ := h
          refine ⟨_, _, _, _, rfl, sm, hd, fun b' l hb' hl2 i hi3 j hj => ?_⟩
          rcases Nat.lt_succ_iff_lt_or_eq.mp hb' with h1 | rfl
          · exact hall b' l h1 hl2 i hi3 j hj
          · exact hal l hl2 i hi3 j hj
      · obtain ⟨y3, y4, y5, y6, rfl, sm, hd, hall⟩ := h
        rw [hcl] at hall
        walk_at "q"
        have e : keptB t n L p = true := keptB_iff.mpr fun i j l hi hj hl2 e => hall (at0 p i) l ((rgs_mem hn _).mp (at0_mem (by omega))) hl2 i (mem_blk.mpr ⟨by omega, rfl⟩) j (mem_blk.mpr ⟨by omega, e.symm⟩)
        rw [e] at q
        exact q _ sm
/-! ### _law_all_kept -/
def spAllKept (K : PySem.W.Frag) : Sp := fun vs H Q _ => ∃ m t sh n L, vs = [m] ∧ Dp K H m (dM t sh) ∧ Frm t sh n L ∧ Ret K (dLT (allKept t n L)) H Q
theorem ok_law_all_kept (B : Bn K mg) (Claw_all_sheets : Cal P w K mg base 1 "_law_all_sheets" ["many"] (spSheets K)) (Claw_is_kept : Cal P w K mg base 1 "_law_is_kept" ["frame", "classes"] (spLKept K)) (Claw_classes : Cal P w K mg base 1 "_law_classes" ["sheet"] (spClasses K))
    (D : Def K mg "_law_all_kept" s_law_all_kept ["frame"]) : Cal P w K mg base 2 "_law_all_kept" ["frame"] (spAllKept K) := by
  refine D.cal sc_law_all_kept (fun vs H Q E h => ?_) (fun f cdv A outer s H vs Q E hr h => ?_)
  · obtain ⟨m, t, sh, n, L, rfl, _⟩ := h
    rfl
  · obtain ⟨m, t, sh, n, L, rfl, hm, F, q⟩ := h
    have n8 := F.m.n8
    have n1 := F.m.n1
    refine ⟨_, (pss_cons (ps_set (i := 1) sc_law_all_kept.nd rfl (.inl rfl) (e_call Claw_all_sheets (hr.mono (by decide)) (pa_cons (e_len B (pe_ix (o_ixT B) (pv 0) pe_int (fun _ _ => rfl))) pa_nil)))
      (pss_one (ps_ret (pe_lc (own := [("sheet", 2)]) (g := gName 2) rfl sc_law_all_kept.nd (i_list B (pv 1)) (blkOk_by (by kernel_rfl)) (fun _ _ _ _ _ => (pg_name (i := 2) sc_law_all_kept.nd rfl (Or.inl rfl))) (fun _ _ _ _ _ => (pts_one (pt_val (e_call Claw_is_kept (hr.mono (by decide)) (pa_cons (pv 0) (pa_cons (e_call Claw_classes (hr.mono (by decide)) (pa_cons (pv 2) pa_nil)) pa_nil)))))) (fun _ _ _ _ _ => (pv 2)))))), ?_⟩
    walk_at "q"
    refine dm_rows hm fun r hr2 => ?_
    walk_at "q"
    refine lenT_of hr2 ?_
    rw [List.length_map, F.m.len]
    walk_at "q"
    refine ⟨n, rfl, n1, n8, fun ev H1 s1 he => ?_⟩
    obtain ⟨ea, ex, rfl, hes, hea⟩ := dp_lst he
    have few := sheets_few (k := n - 1) (by omega)
    have hel : ex.length = (sheets (n - 1)).length := by rw [dpa_len hea, List.length_map]
    walk_at "q"
    refine ⟨ea, rfl, ⟨_, hes⟩, fun D nD => lcD (hr_same K) (walk_list (xs := ex)) (fun i => if keptB t n L ((sheets (n - 1)).getD i []) = true then some (dT ((sheets (n - 1)).getD i [])) else none) nD (by omega) (fun H' s => Same.lst s hes) (fun i x H3 H4 Q1 Q0 acc hi s3 hD y k1 k0 => ?_) (fun H3 xs s3 hx hda _ => ?_)⟩
    · obtain ⟨rfl, hxx⟩ := y
      obtain ⟨p, e1, e2⟩ := dtt_at hea hxx
      have hp := (mem_sheets _ p).mp (List.mem_of_getElem? e1)
      have ep : (sheets (n - 1)).getD i [] = p := by rw [List.getD_eq_getElem?_getD, e1]; rfl
      rw [ep] at k1 k0
      walk_at "q"
      refine ⟨rfl, ?_⟩
      walk_at "q"
      refine ⟨x, p, rfl, Dp.same s3 _ _ e2, hp.1, fun z => by have := hp.2; rw [z] at this; simp at this, by omega, fun cv H5 s5 hc => ?_⟩
      walk_at "q"
      refine ⟨m, cv, t, sh, n, L, p, rfl, Dp.same (s1.trans (s3.trans s5)) _ _ hm, F, hc.dp, hp.1, by omega, fun H6 s6 => ?_⟩
      walk_at "q"
      cases hk : keptB t n L p with
      | true =>
        refine iteT ?_
        walk_at "q"
        exact k1 _ _ _ (s5.trans s6) (by rw [hk]; rfl) (ap_row (Dp.same (s3.trans (s5.trans s6)) _ _ e2) ((s5.trans s6) _ _ hD))
      | false => exact iteF (k0 _ (s5.trans s6) (by rw [hk]; rfl))
    · walk_at "q"
      rw [hel, fm_filter _ (fun i => keptB t n L ((sheets (n - 1)).getD i [])) fun i => dT ((sheets (n - 1)).getD i [])] at hda
      have e : ((List.range (sheets (n - 1)).length).filter fun i => keptB t n L ((sheets (n - 1)).getD i [])).map (fun i => dT ((sheets (n - 1)).getD i [])) = (allKept t n L).map dT := by
        have h1 : allKept t n L = ((List.range (sheets (n - 1)).length).map fun i => (sheets (n - 1)).getD i []).filter (keptB t n L) := by
          rw [map_getD (sheets (n - 1)) [] fun p => p, List.map_id']
          rfl
        rw [h1, List.filter_map, List.map_map]
        rfl
      rw [e] at hda
      exact q _ _ (s1.trans s3) (.lst (.of hx) hda)
end
end Kp
set_option Elab.async false
set_option linter.all false
set_option maxRecDepth 100000
set_option maxHeartbeats 4000000
namespace Kp
open PySem PySem.Spec PyProof.Rows L2
local macro_rules | `(tactic| walk_at "q") => `(tactic| repeat (with_reducible first
  | refine q_seq ?_ | refine q_asg ?_ | refine q_name ?_ | refine q_ret ?_ | refine q_drop ?_ | refine q_ifs ?_ | refine q_next ?_ | refine q_par ?_
  | refine q_var (by with_unfolding_all exact rfl) ?_ | refine q_c ?_ | refine q_op ?_ | refine q_un ?_ | refine q_cb ?_ | refine q_cons ?_ | refine q_nil ?_ | refine q_call ?_
  | refine q_test ?_ | refine q_B ?_ | refine q_not ?_ | refine q_and ?_ | refine q_or ?_ | refine q_andV ?_ | refine q_orV ?_ | refine q_notV ?_ | refine q_ifx ?_ | refine q_chain ?_
  | refine q_tup ?_ | refine q_lst ?_ | refine q_bm ?_ | refine q_bm0 ?_ | refine q_yes ?_ | refine q_bl ?_ | refine q_I0 ?_ | refine q_int ?_ | refine q_eqI ?_ | refine q_neI ?_
  | refine q_dsetd ?_ | refine q_dget ?_ | refine q_din ?_ | refine q_dnotin ?_ | refine q_dput ?_ | refine q_sl ?_ | refine q_nopart ?_ | refine q_part ?_ | refine q_exI ?_ | refine q_dnewK ?_
  | refine q_for ?_ | refine q_lc ?_ | refine q_iTup ?_ | refine q_iList ?_ | refine q_iEnumT ?_ | refine q_iEnum ?_ | refine q_iRng1 ?_ | refine q_iRng2 ?_ | refine q_lstRg ?_ | refine q_tupRg ?_
  | refine iteT ?_ | refine iteF ?_ | refine q_nt ?_ | refine q_nf ?_))
abbrev s_law_merged : Stmt := topS 43
theorem sc_law_merged : FnScope ["classes", "one", "far", "one_so", "both", "joint"] ["classes", "one", "far"] (defScope s_law_merged) := ⟨rfl, rfl, rfl, by decide +kernel, rfl, by decide +kernel, by decide +kernel⟩
abbrev s_law_apart : Stmt := topS 45
theorem sc_law_apart : FnScope ["frame", "classes", "one", "letter", "goals", "away", "k", "two"] ["frame", "classes"] (defScope s_law_apart) := ⟨rfl, rfl, rfl, by decide +kernel, rfl, by decide +kernel, by decide +kernel⟩
abbrev s_law_closed : Stmt := topS 46
theorem sc_law_closed : FnScope ["frame", "classes", "found", "both"] ["frame", "classes"] (defScope s_law_closed) := ⟨rfl, rfl, rfl, by decide +kernel, rfl, by decide +kernel, by decide +kernel⟩
theorem any_dL (ps : List (List Nat)) (p : List Nat) : (ps.map dL).any (fun z => PyData.eqv z (dL p)) = decide (p ∈ ps) := by
  rw [List.any_map]
  by_cases c : p ∈ ps
  · rw [decide_eq_true c]
    exact List.any_eq_true.mpr ⟨p, c, by show PyData.eqv (dL p) (dL p) = true; rw [eqv_dL]; simp⟩
  · rw [decide_eq_false c]
    refine Bool.eq_false_iff.mpr fun z => ?_
    obtain ⟨q, hq, e⟩ := List.any_eq_true.mp z
    have e : PyData.eqv (dL q) (dL p) = true := e
    rw [eqv_dL, decide_eq_true_iff] at e
    exact c (e ▸ hq)
theorem fm_filterA {α : Type} (n : Nat) (t : Nat → Bool) (f : Nat → α) : (List.range n).filterMap (fun i => if t i = true then some (f i) else none) = ((List.range n).filter t).map f := by
  induction n with
  | zero => rfl
  | succ n ih =>
    rw [List.range_succ, List.filterMap_append, List.filter_append, List.map_append, ih]
    congr 1
    by_cases h : t n = true
    · simp [h]
    · simp [h]
abbrev zd : List Nat × Addr := ([], 0)
theorem fmZ (z : List (List Nat × Addr)) (t : List Nat → Bool) : (List.range z.length).filterMap (fun i => if t (z.getD i zd).1 = true then some (V.ref (z.getD i zd).2) else none) = (z.filter fun q => t q.1).map fun q => V.ref q.2 := by
  rw [fm_filterA z.length (fun i => t (z.getD i zd).1) fun i => V.ref (z.getD i zd).2]
  have h1 : z.filter (fun q => t q.1) = ((List.range z.length).map fun i => z.getD i zd).filter fun q => t q.1 := by
    rw [map_getD z zd fun q => q, List.map_id']
  rw [h1, List.filter_map, List.map_map]
  rfl
theorem z_at {z : List (List Nat × Addr)} {i : Nat} {x : V} (h : (z.map fun q => V.ref q.2)[i]? = some x) : z.getD i zd ∈ z ∧ x = .ref (z.getD i zd).2 ∧ z[i]? = some (z.getD i zd) := by
  rw [List.getElem?_map] at h
  cases e : z[i]? with
  | none => rw [e] at h; cases h
  | some q =>
    rw [e] at h
    cases h
    have eq : z.getD i zd = q := by rw [List.getD_eq_getElem?_getD, e]; rfl
    rw [eq]
    exact ⟨List.mem_of_getElem? e, rfl, rfl⟩
theorem nats_of : ∀ {l : List Int}, (∀ x ∈ l, ∃ n : Nat, x = n) → l = (l.map Int.toNat).map fun n : Nat => (n : Int)
  | [], _ => rfl
  | x :: l, h => by
    obtain ⟨n, rfl⟩ := h x List.mem_cons_self
    rw [List.map_cons, List.map_cons, ← nats_of fun y hy => h y (List.mem_cons_of_mem _ hy)]
    rfl
theorem perm_nats {l : List Nat} {ns : List Int} (h : ns.Perm (l.map fun n : Nat => (n : Int))) : ∃ js : List Nat, ns = js.map (fun n : Nat => (n : Int)) ∧ js.Perm l := by
  refine ⟨ns.map Int.toNat, nats_of fun x hx => ?_, ?_⟩
  · obtain ⟨n, _, e⟩ := List.mem_map.mp (h.mem_iff.mp hx)
    exact ⟨n, e.symm⟩
  · have := h.map Int.toNat
    rw [List.map_map] at this
    have e : l.map (Int.toNat ∘ fun n : Nat => (n : Int)) = l := by
      have : (Int.toNat ∘ fun n : Nat => (n : Int)) = id := rfl
      rw [this, List.map_id]
    rwa [e] at this
section
variable {P : Program} {w : World} {K : PySem.W.Frag} {mg : Str → Option Value} {base : Heap}
/-! ### _law_merged -/
def spMg (K : PySem.W.Frag) : Sp := fun vs H Q _ => ∃ v n cs a b, vs = [v, nV a, nV b] ∧ LL H v cs ∧ Cls n cs ∧ n ≤ 60 ∧ ∀ js : List Nat, js.Perm (mgB cs a b).flatten → RetLL (mgO cs a b ++ [js]) H Q
theorem ok_law_merged (B : Bn K mg) (D : Def K mg "_law_merged" s_law_merged ["classes", "one", "far"]) : Cal P w K mg base 1 "_law_merged" ["classes", "one", "far"] (spMg K) := by
  refine D.cal sc_law_merged (fun vs H Q E h => ?_) (fun f cdv A outer s H vs Q E hr h => ?_)
  · obtain ⟨v, n, cs, a, b, rfl, _⟩ := h
    rfl
  · obtain ⟨v, n, cs, a, b, rfl, hv, C, hn, q⟩ := h
    refine ⟨_, (pss_cons (ps_asg (pe_tup (pa_cons (pe_lc (own := [("one_so", 3)]) (g := gName 3) rfl sc_law_merged.nd (i_list B (pv 0)) (blkOk_by (by kernel_rfl)) (fun _ _ _ _ _ => (pg_name (i := 3) sc_law_merged.nd rfl (Or.inl rfl))) (fun _ _ _ _ _ => (pts_one (PW.pt (pw_or (pt_cmpR (o_in B) (pv 1) (pv 3) (by rfl)) (pw_or1 (pt_cmpR (o_in B) (pv 2) (pv 3) (by rfl))))))) (fun _ _ _ _ _ => (pv 3))) (pa_cons (pe_lst pa_nil) pa_nil))) (g_tup (n := 2) B rfl (pgs_cons (pg_name (i := 4) sc_law_merged.nd rfl (Or.inr rfl)) (pgs_cons (pg_name (i := 5) sc_law_merged.nd rfl (Or.inl rfl)) pgs_nil))))
      (pss_cons (ps_for PassesOwn.never rfl (i_list B (pv 4)) (pg_name (i := 3) sc_law_merged.nd rfl (Or.inl rfl))
      (pss_one (ps_set (i := 5) sc_law_merged.nd rfl (.inl rfl) (pe_op op_cat (pv 5) (pv 3)))))
      (pss_one (ps_ret (pe_op op_cat (pe_lc (own := [("one_so", 3)]) (g := gName 3) rfl sc_law_merged.nd (i_list B (pv 0)) (blkOk_by (by kernel_rfl)) (fun _ _ _ _ _ => (pg_name (i := 3) sc_law_merged.nd rfl (Or.inl rfl))) (fun _ _ _ _ _ => (pts_one (pt_cmpR (o_notInD B hr) (pv 3) (pv 4) (by rfl)))) (fun _ _ _ _ _ => (pv 3))) (pe_lst (pa_cons (e_blt (r_sortD B) B.sorted (by decide +kernel) (pv 5)) pa_nil))))))), ?_⟩
    obtain ⟨ca, z, rfl, hc, hz, ho⟩ := hv
    have few := C.few
    have hzl : z.length = cs.length := by rw [← hz, List.length_map]
    have hzm : ∀ q ∈ z, q.1 ∈ cs := fun q hq => by rw [← hz]; exact List.mem_map.mpr ⟨q, hq, rfl⟩
    walk_at "q"
    refine ⟨ca, rfl, ⟨_, .of hc⟩, fun D nD => lcV (walk_list (xs := z.map fun q => V.ref q.2)) (fun i => if hasB a b (z.getD i zd).1 = true then some (V.ref (z.getD i zd).2) else none) nD (by rw [List.length_map]; omega) (fun H' s => .of (s _ _ hc)) (fun i x H1 H2 Q1 Q0 hi s1 y k1 k0 => ?_) (fun H1 s1 h1 => ?_)⟩
    · obtain ⟨rfl, hx⟩ := y
      obtain ⟨hq, rfl, _⟩ := z_at hx
      generalize z.getD i zd = r at *
      have hrow := s1 _ _ (ho r hq)
      walk_at "q"
      refine ⟨rfl, ?_⟩
      walk_at "q"
      refine in_L (l := r.1) (dp_of_line (.of hrow)) ?_
      walk_at "q"
      refine q_dec (fun c => ?_) (fun c => ?_)
      · walk_at "q"
        exact k1 _ _ (Same.refl _) (by rw [if_pos (hasB_iff.mpr (.inl c))])
      · walk_at "q"
        refine in_L (l := r.1) (dp_of_line (.of hrow)) ?_
        walk_at "q"
        refine q_dec (fun c2 => ?_) (fun c2 => ?_)
        · walk_at "q"
          exact k1 _ _ (Same.refl _) (by rw [if_pos (hasB_iff.mpr (.inr c2))])
        · exact k0 _ (Same.refl _) (by rw [if_neg fun e => (hasB_iff.mp e).elim c c2])
    · rw [List.length_map, fmZ z (hasB a b)] at h1
      walk_at "q"
      refine ⟨Nat.zero_le _, fun l nl => ⟨by show 2 ≤ sizeLine; rw [sizeLine_eq]; decide, fun T nT => ?_⟩⟩
      refine q_pair upd_same ?_
      have hlT : l ≠ T := fun e => by rw [← e, upd_same] at nT; cases nT
      have s2 : Same H1 (upd (upd H1 l (.lst [])) T (.tup [.ref D, .ref l])) := (Same.new nl).trans (Same.new nT)
      have hl : upd (upd H1 l (.lst [])) T (.tup [.ref D, .ref l]) l = some (.lst []) := by rw [upd_ne hlT, upd_same]
      generalize upd (upd H1 l (.lst [])) T (.tup [.ref D, .ref l]) = H2 at *
      have hD2 := s2 _ _ h1
      have hzb : (z.filter fun q => hasB a b q.1).map (·.1) = mgB cs a b := by
        unfold mgB
        rw [← hz, List.filter_map]
        rfl
      have hob : ∀ q ∈ z.filter fun q => hasB a b q.1, q ∈ z := fun q hq => (List.mem_filter.mp hq).1
      generalize z.filter (fun q => hasB a b q.1) = zb at *
      have tot : (zb.flatMap fun q => q.1).length ≤ n := by
        have h := (split_len (hasB a b) cs).2
        have e : zb.flatMap (fun q => q.1) = (mgB cs a b).flatten := by rw [← hzb]; rfl
        rw [e]
        have := C.tot
        unfold mgB
        omega
      walk_at "q"
      refine ⟨D, rfl, ⟨_, .of hD2⟩, for_it (walk_list (xs := zb.map fun q => V.ref q.2)) (fun i σ H3 => ∃ y3 la, σ = [some (.ref ca), some (nV a), some (nV b), y3, some (.ref D), some (.ref la)] ∧ Same H2 H3 ∧ H3 la = some (.lst (((zb.take i).flatMap fun q => q.1).map nV)))
        ⟨none, l, rfl, Same.refl _, hl⟩ (fun i σ H3 _ h => .of (h.choose_spec.choose_spec.2.1 _ _ hD2)) (fun i x σ H3 H4 hi h y => ?_) (fun σ H3 h => ?_)⟩
      · obtain ⟨y3, la, rfl, s3, hla⟩ := h
        obtain ⟨rfl, hx⟩ := y
        obtain ⟨hq, rfl, hq3⟩ := z_at hx
        generalize zb.getD i zd = r at *
        have hrow := s3 _ _ (s2 _ _ (s1 _ _ (ho r (hob r hq))))
        walk_at "q"
        have tk : (zb.take (i + 1)).flatMap (fun q => q.1) = (zb.take i).flatMap (fun q => q.1) ++ r.1 := by
          rw [List.take_add_one, hq3, List.flatMap_append]
          simp
        have fl := fm_take_len (fun q : List Nat × Addr => q.1) zb (i + 1)
        rw [tk, List.length_append] at fl
        refine ⟨la, r.2, _, _, rfl, rfl, hla, hrow, by rw [List.length_map, List.length_map, sizeLine_eq]; omega, fun p hp => ?_⟩
        walk_at "q"
        refine ⟨_, p, rfl, s3.trans (Same.new hp), ?_⟩
        rw [upd_same, tk, List.map_append]
      · obtain ⟨y3, la, rfl, s3, hla⟩ := h
        rw [List.length_map, List.take_length] at hla
        have s03 := s1.trans (s2.trans s3)
        have hD3 := s3 _ _ hD2
        walk_at "q"
        refine ⟨ca, rfl, ⟨_, .of (s03 _ _ hc)⟩, fun D2 nD2 => lcV (walk_list (xs := z.map fun q => V.ref q.2)) (fun i => if (!decide ((z.getD i zd).1 ∈ mgB cs a b)) = true then some (V.ref (z.getD i zd).2) else none) nD2 (by rw [List.length_map]; omega) (fun H' s => .of (s _ _ (s03 _ _ hc))) (fun i x H5 H6 Q1 Q0 hi s5 y k1 k0 => ?_) (fun H5 s5 h5 => ?_)⟩
        · obtain ⟨rfl, hx⟩ := y
          obtain ⟨hq, rfl, _⟩ := z_at hx
          generalize z.getD i zd = r at *
          have hrow := s5 _ _ (s03 _ _ (ho r hq))
          walk_at "q"
          refine ⟨rfl, ?_⟩
          walk_at "q"
          have hbb := dpa_pairs (K := K) zb (H := H6) fun q hq => s5 _ _ (s03 _ _ (ho q (hob q hq)))
          rw [hzb] at hbb
          refine ⟨dL r.1, (mgB cs a b).map dL, dp_of_line (.of hrow), .lst (.of (s5 _ _ hD3)) hbb, (flat_dL _).shaped, (flat_dLL _).shaped, ?_⟩
          rw [any_dL]
          walk_at "q"
          refine q_ndec (fun c => ?_) (fun c => ?_)
          · walk_at "q"
            exact k1 _ _ (Same.refl _) (by rw [decide_eq_false c]; rfl)
          · exact k0 _ (Same.refl _) (by rw [decide_eq_true c]; rfl)
        · rw [List.length_map, fmZ z fun c => !decide (c ∈ mgB cs a b)] at h5
          walk_at "q"
          refine ⟨la, ((zb.flatMap fun q => q.1).map fun n : Nat => (n : Int)), rfl, .of ?_, by rw [List.length_map]; omega, fun ns' p perm pw np => ?_⟩
          · rw [List.map_map]
            exact s5 _ _ hla
          · obtain ⟨js, rfl, hjs⟩ := perm_nats perm
            rw [List.map_map]
            have hjs : js.Perm (mgB cs a b).flatten := by
              have e : zb.flatMap (fun q => q.1) = (mgB cs a b).flatten := by rw [← hzb]; rfl
              rwa [e] at hjs
            walk_at "q"
            refine ⟨by show 1 ≤ sizeLine; rw [sizeLine_eq]; decide, fun E nE => ?_⟩
            have s6 : Same H5 (upd H5 p (.lst (js.map (V.int ∘ fun n : Nat => (n : Int))))) := Same.new np
            have s7 : Same (upd H5 p (.lst (js.map (V.int ∘ fun n : Nat => (n : Int))))) (upd (upd H5 p (.lst (js.map (V.int ∘ fun n : Nat => (n : Int))))) E (.lst [.ref p])) := Same.new nE
            have zfl := List.length_filter_le (fun q : List Nat × Addr => !decide (q.1 ∈ mgB cs a b)) z
            refine ⟨D2, E, _, _, rfl, rfl, s7 _ _ (s6 _ _ h5), upd_same, by rw [List.length_map, sizeLine_eq]; show _ + 1 ≤ _; omega, fun R nR => ?_⟩
            have s8 := Same.new (o := .lst ((z.filter fun q => !decide (q.1 ∈ mgB cs a b)).map (fun q => V.ref q.2) ++ [.ref p])) nR
            have s58 := s6.trans (s7.trans s8)
            refine q js hjs _ _ (s03.trans (s5.trans s58)) ⟨R, (z.filter fun q => !decide (q.1 ∈ mgB cs a b)) ++ [(js, p)], rfl, by rw [upd_same, List.map_append]; rfl, ?_, fun r hr => ?_⟩
            · rw [List.map_append, ← mgO_alt, ← hz, List.filter_map]
              rfl
            · rcases List.mem_append.mp hr with hr | hr
              · exact s58 _ _ (s5 _ _ (s03 _ _ (ho r (List.mem_filter.mp hr).1)))
              · rw [List.mem_singleton] at hr
                subst hr
                exact s8 _ _ (s7 _ _ upd_same)
/-! ### _law_apart -/
/-- the classes that have both -/
def flt (cs : List (List Nat)) (g k : Nat) : List Nat := (List.range cs.length).filter fun c => decide (k ∈ cs.getD c []) && decide (g ∈ cs.getD c [])
theorem flt_nil {cs : List (List Nat)} {g k : Nat} : flt cs g k = [] ↔ ¬ RCl cs g k := by
  unfold flt RCl
  rw [List.filter_eq_nil_iff]
  constructor
  · rintro h ⟨c, hc, h1, h2⟩
    obtain ⟨i, hi, rfl⟩ := mem_getD hc
    exact h i (List.mem_range.mpr hi) (by rw [decide_eq_true h1, decide_eq_true h2]; rfl)
  · intro h i hi z
    rw [Bool.and_eq_true, decide_eq_true_iff, decide_eq_true_iff] at z
    exact h ⟨_, getD_mem (List.mem_range.mp hi), z.2, z.1⟩
def awy (cs : List (List Nat)) (q : List Nat) : List Nat := ((List.range q.length).filter fun i => decide (flt cs (at0 q 0) (at0 q i) = [])).map (at0 q)
def spApart (K : PySem.W.Frag) : Sp := fun vs H Q _ => ∃ m v t sh n L cs, vs = [m, v] ∧ Dp K H m (dM t sh) ∧ Frm t sh n L ∧ Dp K H v (dLL cs) ∧ Cls n cs ∧
  ((∀ i j l, l < L → RCl cs i j → RCl cs (dl t i l) (dl t j l)) → Ret K (dL []) H Q) ∧ ∀ g a, Apt t L cs g a → Ret K (dL [g, a]) H Q
theorem ok_law_apart (B : Bn K mg) (D : Def K mg "_law_apart" s_law_apart ["frame", "classes"]) : Cal P w K mg base 1 "_law_apart" ["frame", "classes"] (spApart K) := by
  refine D.cal sc_law_apart (fun vs H Q E h => ?_) (fun f cdv A outer s H vs Q E hr h => ?_)
  · obtain ⟨m, v, t, sh, n, L, cs, rfl, _⟩ := h
    rfl
  · obtain ⟨m, v, t, sh, n, L, cs, rfl, hm, F, hv, C, q0, q1⟩ := h
    have n8 := F.m.n8
    have n1 := F.m.n1
    have l4 := F.m.l4
    have few := C.few
    refine ⟨_, (pss_cons (ps_for PassesOwn.never rfl (i_list B (pv 1)) (pg_name (i := 2) sc_law_apart.nd rfl (Or.inl rfl))
      (pss_one (ps_for PassesOwn.never rfl (i_range1 B (e_len B (pe_ix (o_ixT B) (pe_ix (o_ixT B) (pv 0) pe_int (fun _ _ => rfl)) pe_int (fun _ _ => rfl)))) (pg_name (i := 3) sc_law_apart.nd rfl (Or.inr rfl))
      (pss_cons (ps_set (i := 4) sc_law_apart.nd rfl (.inr rfl) (pe_lc (own := [("k", 6)]) (g := gName 6) (tt := tYes) rfl sc_law_apart.nd (i_list B (pv 2)) (blkOk_by (by kernel_rfl)) (fun _ _ _ _ _ => (pg_name (i := 6) sc_law_apart.nd rfl (Or.inl rfl))) (fun _ _ _ _ _ => pts_nil) (fun _ _ _ _ _ => (pe_ix (o_ixT B) (pe_ix (o_ixT B) (pe_ix (o_ixT B) (pv 0) pe_int (fun _ _ => rfl)) (pv 6) (fun _ _ => rfl)) (pv 3) (fun _ _ => rfl)))))
      (pss_cons (ps_setLc (i := 5) (own := [("k", 6)]) (g := gName 6) rfl sc_law_apart.nd rfl rfl (sw_true rfl rfl rfl (by decide +kernel)) (i_list B (pv 4)) (blkOk_by (by kernel_rfl)) (fun _ _ _ _ _ => (pg_name (i := 6) sc_law_apart.nd rfl (Or.inr rfl))) (fun _ _ _ _ _ => (pts_one (pt_cmpR (o_eqD B hr) (pe_lc (own := [("two", 7)]) (g := gName 7) rfl sc_law_apart.nd (i_list B (pv 1)) (blkOk_by (by kernel_rfl)) (fun _ _ _ _ _ => (pg_name (i := 7) sc_law_apart.nd rfl (Or.inl rfl))) (fun _ _ _ _ _ => (pts_one (PW.pt (pw_and (pt_cmpR (o_in B) (pv 6) (pv 7) (by rfl)) (pw_and1 (pt_cmpR (o_in B) (pe_ix (o_ixL B) (pv 4) pe_int (fun _ _ => rfl)) (pv 7) (by rfl))))))) (fun _ _ _ _ _ => pe_int)) (pe_lst pa_nil) (nomark _)))) (fun _ _ _ _ _ => (pv 6)))
      (pss_one (ps_if (pt_cmpR (o_neD B hr) (pv 5) (pe_lst pa_nil) (nomark _)) (pss_one (ps_ret (pe_lst (pa_cons (pe_ix (o_ixL B) (pv 4) pe_int (fun _ _ => rfl)) (pa_cons (pe_ix (o_ixL B) (pv 5) pe_int (fun _ _ => rfl)) pa_nil))))) pss_nil)))))))
      (pss_one (ps_ret (pe_lst pa_nil)))), ?_⟩
    obtain ⟨ca, cx, rfl, hcs, hca⟩ := dp_lst hv
    have hcl : cx.length = cs.length := by rw [dpa_len hca, List.length_map]
    walk_at "q"
    refine ⟨ca, rfl, ⟨_, hcs⟩, for_it (walk_list (xs := cx)) (fun b σ H3 => ∃ y2 y3 y4 y5, σ = [some m, some (.ref ca), y2, y3, y4, y5, none, none] ∧ Same H H3 ∧ ∀ c ∈ cs.take b, ∀ l, l < L → ∀ i ∈ c, ∀ j ∈ c, RCl cs (dl t i l) (dl t j l))
      ⟨_, _, _, _, rfl, Same.refl _, fun c hc => by simp at hc⟩ (fun b σ H3 _ h => ?_) (fun b x σ H3 H4 hi h y => ?_) (fun σ H3 h => ?_)⟩
    · obtain ⟨_, _, _, _, _, sm, _⟩ := h
      exact Same.lst sm hcs
    · obtain ⟨y2, y3, y4, y5, rfl, sm, hall⟩ := h
      obtain ⟨rfl, hx⟩ := y
      obtain ⟨c, e3, e4⟩ := dll_at hca hx
      have hcm := List.mem_of_getElem? e3
      have hc0 : 0 < c.length := List.length_pos_iff.mpr (C.ne c hcm)
      have clen := C.few1 hcm
      obtain ⟨ya, rfl, hys⟩ := dp_line e4
      walk_at "q"
      refine dm_rows (Dp.same sm _ _ hm) fun r hr2 => ?_
      walk_at "q"
      refine F.row_of (a := 0) hr2 (by omega) fun r2 hr3 => ?_
      walk_at "q"
      refine lenT_of hr3 ?_
      rw [List.length_map, (frm_row F (i := 0) (by omega)).2]
      refine ⟨L, rfl, by omega, by omega, for_it (walk_rg (n := L)) (fun l σ H5 => ∃ y3 y4 y5, σ = [some m, some (.ref ca), some (.ref ya), y3, y4, y5, none, none] ∧ Same H H5 ∧ ∀ l', l' < l → ∀ i ∈ c, ∀ j ∈ c, RCl cs (dl t i l') (dl t j l'))
        ⟨_, _, _, rfl, sm, fun l' h => absurd h (Nat.not_lt_zero _)⟩ (fun _ _ _ _ _ => trivial) (fun l x σ H5 H6 hl2 h y => ?_) (fun σ H5 h => ?_)⟩
      · obtain ⟨y3, y4, y5, rfl, sm, hal⟩ := h
        obtain ⟨rfl, rfl⟩ := y
        walk_at "q"
        refine ⟨ya, rfl, ⟨_, Same.lst sm hys⟩, fun D nD => lcD (hr_same K) (walk_list (xs := c.map nV)) (fun i => some (dI (dl t (at0 c i) l))) nD (by rw [List.length_map]; omega) (fun H' s => Same.lst (sm.trans s) hys) (fun i x H7 H8 Q1 Q0 acc hi2 s7 hD y k1 k0 => ?_) (fun H7 xs2 s7 hx7 hda7 _ => ?_)⟩
        · obtain ⟨rfl, hxx⟩ := y
          rw [List.length_map] at hi2
          have hxx : (c.map nV)[i]? = some x := hxx
          rw [List.getElem?_map, get_at0 hi2] at hxx
          cases hxx
          have hin : at0 c i < n := C.low c hcm _ (at0_mem hi2)
          walk_at "q"
          refine ⟨rfl, ?_⟩
          walk_at "q"
          refine dm_rows (Dp.same (sm.trans s7) _ _ hm) fun r hr4 => ?_
          walk_at "q"
          refine F.row_of hr4 hin fun r2 hr5 => ?_
          walk_at "q"
          exact step_of F hr5 hin hl2 (k1 _ _ _ (Same.refl _) rfl (.int _))
        · rw [List.length_map, fm_map c.length fun i => dI (dl t (at0 c i) l), map_at0 c fun x => dI (dl t x l)] at hda7
          have eq : c.map (fun x => dI (dl t x l)) = (c.map fun x => dl t x l).map dI := by rw [List.map_map]; rfl
          rw [eq] at hda7
          have hgm : ∀ x ∈ c.map (fun x => dl t x l), ∃ i ∈ c, x = dl t i l := fun x hx => by
            obtain ⟨i, hi, e⟩ := List.mem_map.mp hx
            exact ⟨i, hi, e.symm⟩
          have hgb : ∀ i ∈ c, dl t i l ∈ c.map (fun x => dl t x l) := fun i hi => List.mem_map.mpr ⟨i, hi, rfl⟩
          have hg0 : 0 < (c.map fun x => dl t x l).length := by rw [List.length_map]; exact hc0
          have hgl : (c.map fun x => dl t x l).length ≤ n := by rw [List.length_map]; exact clen
          generalize (c.map fun x => dl t x l) = gl at *
          have ex2 : xs2 = gl.map nV := dpa_nums_inv hda7
          subst ex2
          have sm7 := sm.trans s7
          walk_at "q"
          refine ⟨D, rfl, ⟨_, .of hx7⟩, fun D2 nD2 => lcD (hr_same K) (walk_list (xs := gl.map nV)) (fun i => if decide (flt cs (at0 gl 0) (at0 gl i) = []) = true then some (dI (at0 gl i)) else none) nD2 (by rw [List.length_map]; omega) (fun H' s => .of (s _ _ hx7)) (fun i x H8 H9 Q1 Q0 acc hi2 s8 hD y k1 k0 => ?_) (fun H8 xs3 s8 hx8 hda8 _ => ?_)⟩
          · obtain ⟨rfl, hxx⟩ := y
            rw [List.length_map] at hi2
            have hxx : (gl.map nV)[i]? = some x := hxx
            rw [List.getElem?_map, get_at0 hi2] at hxx
            cases hxx
            walk_at "q"
            refine ⟨rfl, ?_⟩
            walk_at "q"
            have sm8 := sm7.trans s8
            refine ⟨ca, rfl, ⟨_, Same.lst sm8 hcs⟩, fun D3 nD3 => lcD (hr_same K) (walk_list (xs := cx)) (fun z => if (decide (at0 gl i ∈ cs.getD z []) && decide (at0 gl 0 ∈ cs.getD z [])) = true then some (dI 1) else none) nD3 (by omega) (fun H' s => Same.lst (sm8.trans s) hcs) (fun z x H10 H11 Q3 Q4 acc hi3 s10 hD3 y k3 k4 => ?_) (fun H10 xs4 s10 hx10 hda10 _ => ?_)⟩
            · obtain ⟨rfl, hxx⟩ := y
              obtain ⟨c2, e5, e6⟩ := dll_at hca hxx
              have ec : cs.getD z [] = c2 := by rw [List.getD_eq_getElem?_getD, e5]; rfl
              rw [ec] at k3 k4
              have h6 := Dp.same (sm8.trans s10) _ _ e6
              walk_at "q"
              refine ⟨rfl, ?_⟩
              walk_at "q"
              refine in_L h6 ?_
              walk_at "q"
              refine q_dec (fun c => ?_) (fun c => ?_)
              · walk_at "q"
                refine ixL_num (i := 0) (dp_of_line (.of (s10 _ _ (s8 _ _ hx7)))) hg0 ?_
                walk_at "q"
                refine in_L h6 ?_
                walk_at "q"
                refine q_dec (fun c2 => ?_) (fun c2 => ?_)
                · walk_at "q"
                  exact k3 _ _ _ (Same.refl _) (by rw [decide_eq_true c, decide_eq_true c2]; rfl) (.int _)
                · exact k4 _ (Same.refl _) (by rw [decide_eq_true c, decide_eq_false c2]; rfl)
              · exact k4 _ (Same.refl _) (by rw [decide_eq_false c]; rfl)
            · rw [hcl, fm_filter cs.length (fun z => decide (at0 gl i ∈ cs.getD z []) && decide (at0 gl 0 ∈ cs.getD z [])) fun _ => dI 1] at hda10
              walk_at "q"
              refine ⟨Nat.zero_le _, fun e ne => ?_⟩
              have s11 : Same H10 (upd H10 e (.lst [])) := Same.new ne
              have hfl : (List.range cs.length).filter (fun z => decide (at0 gl i ∈ cs.getD z []) && decide (at0 gl 0 ∈ cs.getD z [])) = flt cs (at0 gl 0) (at0 gl i) := rfl
              rw [hfl] at hda10
              refine ⟨.list ((flt cs (at0 gl 0) (at0 gl i)).map fun _ => dI 1), .list [], .lst (.of (s11 _ _ hx10)) (DpAll.same s11 _ _ hda10), .lst (.of upd_same) .nil, (flat_lst (lim := 0) fun d hd => by obtain ⟨_, _, rfl⟩ := List.mem_map.mp hd; exact flat_int _).shaped, (flat_dL []).shaped, ?_⟩
              have eqq : (PyData.list ((flt cs (at0 gl 0) (at0 gl i)).map fun _ => dI 1)).eqv (.list []) = decide (flt cs (at0 gl 0) (at0 gl i) = []) := by
                cases flt cs (at0 gl 0) (at0 gl i) with
                | nil => simp [PyData.eqv, PyData.eqvAll]
                | cons _ _ => simp [PyData.eqv, PyData.eqvAll]
              rw [eqq]
              walk_at "q"
              refine q_dec (fun c => ?_) (fun c => ?_)
              · walk_at "q"
                exact k1 _ _ (dI (at0 gl i)) (s10.trans s11) (by rw [decide_eq_true c]; rfl) (.int _)
              · exact k0 _ (s10.trans s11) (by rw [decide_eq_false c]; rfl)
          · rw [List.length_map, fm_filter gl.length (fun i => decide (flt cs (at0 gl 0) (at0 gl i) = [])) fun i => dI (at0 gl i)] at hda8
            have ea : ((List.range gl.length).filter fun i => decide (flt cs (at0 gl 0) (at0 gl i) = [])).map (fun i => dI (at0 gl i)) = (awy cs gl).map dI := by unfold awy; rw [List.map_map]; rfl
            rw [ea] at hda8
            have ha : ∀ x, x ∈ awy cs gl ↔ ∃ i, i < gl.length ∧ x = at0 gl i ∧ ¬ RCl cs (at0 gl 0) x := fun x => by
              unfold awy
              rw [List.mem_map]
              constructor
              · rintro ⟨i, hi, rfl⟩
                rw [List.mem_filter, List.mem_range, decide_eq_true_iff] at hi
                exact ⟨i, hi.1, rfl, flt_nil.mp hi.2⟩
              · rintro ⟨i, hi, rfl, h⟩
                exact ⟨i, by rw [List.mem_filter, List.mem_range, decide_eq_true_iff]; exact ⟨hi, flt_nil.mpr h⟩, rfl⟩
            generalize awy cs gl = aw at *
            have sm8 := sm7.trans s8
            walk_at "q"
            refine ⟨Nat.zero_le _, fun e ne => ?_⟩
            have s9 : Same H8 (upd H8 e (.lst [])) := Same.new ne
            have haw : Dp K (upd H8 e (.lst [])) (.ref D2) (dL aw) := .lst (.of (s9 _ _ hx8)) (DpAll.same s9 _ _ hda8)
            refine ⟨dL aw, dL [], haw, .lst (.of upd_same) .nil, (flat_dL _).shaped, (flat_dL []).shaped, ?_⟩
            rw [eqv_dL]
            walk_at "q"
            refine q_ndec (fun hne => ?_) (fun hne => ?_)
            · walk_at "q"
              refine ixL_num (i := 0) (dp_of_line (.of (s9 _ _ (s8 _ _ hx7)))) hg0 ?_
              walk_at "q"
              have h0 : 0 < aw.length := List.length_pos_iff.mpr hne
              refine ixL_num (i := 0) haw h0 ?_
              walk_at "q"
              refine ⟨by show 2 ≤ sizeLine; rw [sizeLine_eq]; decide, fun R nR => ?_⟩
              obtain ⟨i, hi, e1, hn⟩ := (ha _).mp (at0_mem h0)
              obtain ⟨i0, hi0, eg0⟩ := hgm _ (at0_mem hg0)
              obtain ⟨i1, hi1, eg1⟩ := hgm _ (at0_mem hi)
              refine q1 (at0 gl 0) (at0 aw 0) ⟨i0, i1, l, hl2, ⟨c, hcm, hi0, hi1⟩, eg0, e1.trans eg1, hn⟩ _ _ ((sm8.trans s9).trans (Same.new nR)) (dp_of_line (.of upd_same))
            · walk_at "q"
              refine ⟨_, _, _, rfl, sm8.trans s9, fun l' hl' i hi j hj => ?_⟩
              rcases Nat.lt_succ_iff_lt_or_eq.mp hl' with h1 | rfl
              · exact hal l' h1 i hi j hj
              · have all0 : ∀ x ∈ gl, RCl cs (at0 gl 0) x := fun x hx => by
                  obtain ⟨k, hk, rfl⟩ := mem_at0 hx
                  refine Classical.byContradiction fun h => ?_
                  have := (ha _).mpr ⟨k, hk, rfl, h⟩
                  rw [hne] at this
                  exact absurd this List.not_mem_nil
                exact RCl.eqv C (RCl.symm (all0 _ (hgb i hi))) (all0 _ (hgb j hj))
      · obtain ⟨y3, y4, y5, rfl, sm, hal⟩ := h
        refine ⟨_, _, _, _, rfl, sm, fun c' hc' l hl2 i hi j hj => ?_⟩
        rw [List.take_add_one, e3, List.mem_append] at hc'
        rcases hc' with h1 | h1
        · exact hall c' h1 l hl2 i hi j hj
        · have : c' = c := by simpa using h1
          subst this
          exact hal l hl2 i hi j hj
    · obtain ⟨y2, y3, y4, y5, rfl, sm, hall⟩ := h
      rw [hcl, List.take_length] at hall
      walk_at "q"
      refine ⟨Nat.zero_le _, fun e ne => q0 (fun i j l hl2 h => ?_) _ _ (sm.trans (Same.new ne)) (.lst (.of upd_same) .nil)⟩
      obtain ⟨c, hc, h1, h2⟩ := h
      exact hall c hc l hl2 i h1 j h2
/-! ### _law_closed -/
def spClosed (K : PySem.W.Frag) : Sp := fun vs H Q _ => ∃ m v t sh n L cs, vs = [m, v] ∧ Dp K H m (dM t sh) ∧ Frm t sh n L ∧ LL H v cs ∧ Cls n cs ∧ ∀ ds, Cls n ds → Lub n (Cl t n L) (RCl cs) (tol n ds) → RetLL ds H Q
theorem ok_law_closed (B : Bn K mg) (Claw_apart : Cal P w K mg base 1 "_law_apart" ["frame", "classes"] (spApart K)) (Claw_merged : Cal P w K mg base 1 "_law_merged" ["classes", "one", "far"] (spMg K)) (D : Def K mg "_law_closed" s_law_closed ["frame", "classes"]) :
    Cal P w K mg base 2 "_law_closed" ["frame", "classes"] (spClosed K) := by
  refine D.cal sc_law_closed (fun vs H Q E h => ?_) (fun f cdv A outer s H vs Q E hr h => ?_)
  · obtain ⟨m, v, t, sh, n, L, cs, rfl, _⟩ := h
    rfl
  · obtain ⟨m, v, t, sh, n, L, cs0, rfl, hm, F, hv, C, q⟩ := h
    have n8 := F.m.n8
    refine ⟨_, (pss_cons (ps_par (i := 2) (j := 3) (by rfl) sc_law_closed.nd rfl rfl (by decide) rfl rfl (pa_cons (pv 1) (pa_cons (e_call Claw_apart (hr.mono (by decide)) (pa_cons (pv 0) (pa_cons (pv 1) pa_nil))) pa_nil)) (by rfl))
      (pss_cons (ps_while PassesOwn.never (pt_cmpR (o_neD B hr) (pv 3) (pe_lst pa_nil) (nomark _))
      (pss_cons (ps_set (i := 2) sc_law_closed.nd rfl (.inl rfl) (e_call Claw_merged (hr.mono (by decide)) (pa_cons (pv 2) (pa_cons (pe_ix (o_ixL B) (pv 3) pe_int (fun _ _ => rfl)) (pa_cons (pe_ix (o_ixL B) (pv 3) pe_int (fun _ _ => rfl)) pa_nil)))))
      (pss_one (ps_set (i := 3) sc_law_closed.nd rfl (.inl rfl) (e_call Claw_apart (hr.mono (by decide)) (pa_cons (pv 0) (pa_cons (pv 2) pa_nil)))))))
      (pss_one (ps_ret (pv 2))))), ?_⟩
    -- what is known of the two that _law_apart gives
    have ap : ∀ (cs : List (List Nat)) (H1 : Hp) (fv : V) (Q1 : VK), Same H H1 → LL H1 fv cs → Cls n cs → (∀ bv H2 bs, Same H1 H2 → Dp K H2 bv (dL bs) → (bs = [] ∧ (∀ i j l, l < L → RCl cs i j → RCl cs (dl t i l) (dl t j l))) ∨ (∃ g a, bs = [g, a] ∧ Apt t L cs g a) → Q1 bv H2) → spApart K ([m, fv] ++ []) H1 Q1 E0 := by
      intro cs H1 fv Q1 s1 hf C1 k
      exact ⟨m, fv, t, sh, n, L, cs, rfl, Dp.same s1 _ _ hm, F, hf.dp, C1, fun h bv H2 s2 hb => k bv H2 [] s2 hb (.inl ⟨rfl, h⟩), fun g a h bv H2 s2 hb => k bv H2 [g, a] s2 hb (.inr ⟨g, a, rfl, h⟩)⟩
    walk_at "q"
    refine ap cs0 H v _ (Same.refl _) hv C fun bv H1 bs s1 hb hbs => ?_
    walk_at "q"
    refine ⟨v, bv, rfl, ?_⟩
    walk_at "q"
    refine ⟨fun mm σ H6 => ∃ fv bv cs bs, σ = [some m, some v, some fv, some bv] ∧ mm = cs.length ∧ Same H H6 ∧ LL H6 fv cs ∧ Cw t n L cs0 cs ∧ Dp K H6 bv (dL bs) ∧ ((bs = [] ∧ (∀ i j l, l < L → RCl cs i j → RCl cs (dl t i l) (dl t j l))) ∨ (∃ g a, bs = [g, a] ∧ Apt t L cs g a)),
      ⟨_, v, bv, cs0, bs, rfl, rfl, s1, hv.same s1, cw_start C, hb, hbs⟩, fun mm σ H6 h => ?_⟩
    obtain ⟨fv, bv, cs, bs, rfl, rfl, s6, hf, W, hb, hbs⟩ := h
    walk_at "q"
    refine ⟨Nat.zero_le _, fun e ne => ?_⟩
    have s7 : Same H6 (upd H6 e (.lst [])) := Same.new ne
    refine ⟨dL bs, dL [], Dp.same s7 _ _ hb, .lst (.of upd_same) .nil, (flat_dL _).shaped, (flat_dL []).shaped, ?_⟩
    rw [eqv_dL]
    generalize upd H6 e (.lst []) = H7 at *
    walk_at "q"
    refine q_ndec (fun hne => ?_) (fun hne => ?_)
    · refine ⟨_, fun _ _ h => h, ?_⟩
      rcases hbs with ⟨rfl, _⟩ | ⟨g, a, rfl, hap⟩
      · exact absurd rfl hne
      · have hb7 := Dp.same s7 _ _ hb
        walk_at "q"
        refine ixL_num (i := 0) hb7 (by simp) ?_
        walk_at "q"
        refine ixL_num (i := 1) hb7 (by simp) ?_
        walk_at "q"
        refine ⟨fv, n, cs, g, a, rfl, hf.same s7, W.cls, by omega, fun js hj gv H8 s8 hg => ?_⟩
        obtain ⟨W2, lt, _, _⟩ := cw_step F.m W hap hj
        walk_at "q"
        have s08 := s6.trans (s7.trans s8)
        refine ap _ H8 gv _ s08 hg W2.cls fun bv2 H9 bs2 s9 hb2 hbs2 => ?_
        walk_at "q"
        exact ⟨_, lt, gv, bv2, _, bs2, rfl, rfl, s08.trans s9, hg.same s9, W2, hb2, hbs2⟩
    · walk_at "q"
      rcases hbs with ⟨_, hcl⟩ | ⟨g, a, rfl, _⟩
      · exact q cs W.cls (cw_end F.m W hcl) fv H7 (s6.trans s7) (hf.same s7)
      · exact absurd hne (by simp)
end
end Kp
set_option Elab.async false
set_option linter.all false
set_option maxRecDepth 100000
set_option maxHeartbeats 4000000
namespace Kp
open PySem PySem.Spec PyProof.Rows L2
local macro_rules | `(tactic| walk_at "q") => `(tactic| repeat (with_reducible first
  | refine q_seq ?_ | refine q_asg ?_ | refine q_name ?_ | refine q_ret ?_ | refine q_drop ?_ | refine q_ifs ?_ | refine q_next ?_ | refine q_par ?_
  | refine q_var (by with_unfolding_all exact rfl) ?_ | refine q_c ?_ | refine q_op ?_ | refine q_un ?_ | refine q_cb ?_ | refine q_cons ?_ | refine q_nil ?_ | refine q_call ?_
  | refine q_test ?_ | refine q_B ?_ | refine q_not ?_ | refine q_and ?_ | refine q_or ?_ | refine q_andV ?_ | refine q_orV ?_ | refine q_notV ?_ | refine q_ifx ?_ | refine q_chain ?_
  | refine q_tup ?_ | refine q_lst ?_ | refine q_bm ?_ | refine q_bm0 ?_ | refine q_yes ?_ | refine q_bl ?_ | refine q_I0 ?_ | refine q_int ?_ | refine q_eqI ?_ | refine q_neI ?_
  | refine q_dsetd ?_ | refine q_dget ?_ | refine q_din ?_ | refine q_dnotin ?_ | refine q_dput ?_ | refine q_sl ?_ | refine q_nopart ?_ | refine q_part ?_ | refine q_exI ?_ | refine q_dnewK ?_
  | refine q_for ?_ | refine q_lc ?_ | refine q_iTup ?_ | refine q_iList ?_ | refine q_iEnumT ?_ | refine q_iEnum ?_ | refine q_iRng1 ?_ | refine q_iRng2 ?_ | refine q_lstRg ?_ | refine q_tupRg ?_
  | refine iteT ?_ | refine iteF ?_ | refine q_nt ?_ | refine q_nf ?_))
abbrev s_law_begun : Stmt := topS 37
theorem sc_law_begun : FnScope ["script", "k", "cells", "cell", "great", "seed"] ["script", "k"] (defScope s_law_begun) := ⟨rfl, rfl, rfl, by decide +kernel, rfl, by decide +kernel, by decide +kernel⟩
abbrev s_law_draw : Stmt := topS 38
theorem sc_law_draw : FnScope ["m", "many", "found", "spot", "cells", "added", "cell", "blend"] ["m", "many"] (defScope s_law_draw) := ⟨rfl, rfl, rfl, by decide +kernel, rfl, by decide +kernel, by decide +kernel⟩
abbrev s_law_of : Stmt := topS 39
theorem sc_law_of : FnScope ["m", "some"] ["m", "some"] (defScope s_law_of) := ⟨rfl, rfl, rfl, by decide +kernel, rfl, by decide +kernel, by decide +kernel⟩
abbrev s_law_sheet : Stmt := topS 49
theorem sc_law_sheet : FnScope ["m", "many", "found", "k"] ["m", "many"] (defScope s_law_sheet) := ⟨rfl, rfl, rfl, by decide +kernel, rfl, by decide +kernel, by decide +kernel⟩
/-! ### the store of the draws -/
abbrev stK (l s : Int) (ca : Addr) (k : Nat) : List (L2.Key × V) := [(.inr "left", .int l), (.inr "seed", .int s), (.inr "cells", .ref ca), (.inr "spot", nV k)]
def St (H : Hp) (d ca : Addr) (b : Nat) : Prop := ∃ (l s : Int) (k : Nat), H d = some (.dK (stK l s ca k)) ∧ k ≤ b
theorem stK_left (l s : Int) (ca : Addr) (k : Nat) : valV (stK l s ca k) (.inr "left") = some (.int l) := valV_pos rfl
theorem stK_seed (l s : Int) (ca : Addr) (k : Nat) : valV (stK l s ca k) (.inr "seed") = some (.int s) := by
  unfold stK
  rw [valV_neg (show ¬ (Sum.inr "left" : L2.Key) = .inr "seed" by decide), valV_pos rfl]
theorem stK_cells (l s : Int) (ca : Addr) (k : Nat) : valV (stK l s ca k) (.inr "cells") = some (.ref ca) := by
  unfold stK
  rw [valV_neg (show ¬ (Sum.inr "left" : L2.Key) = .inr "cells" by decide), valV_neg (show ¬ (Sum.inr "seed" : L2.Key) = .inr "cells" by decide), valV_pos rfl]
theorem stK_spot (l s : Int) (ca : Addr) (k : Nat) : valV (stK l s ca k) (.inr "spot") = some (nV k) := by
  unfold stK
  rw [valV_neg (show ¬ (Sum.inr "left" : L2.Key) = .inr "spot" by decide), valV_neg (show ¬ (Sum.inr "seed" : L2.Key) = .inr "spot" by decide), valV_neg (show ¬ (Sum.inr "cells" : L2.Key) = .inr "spot" by decide), valV_pos rfl]
theorem put_left (l s : Int) (ca : Addr) (k : Nat) (l' : Int) : putK (stK l s ca k) (.inr "left") (.int l') = stK l' s ca k := by
  unfold putK stK
  rw [if_pos (by simp)]
  have h1 : ¬ (Sum.inr "seed" : L2.Key) = .inr "left" := by decide
  have h2 : ¬ (Sum.inr "cells" : L2.Key) = .inr "left" := by decide
  have h3 : ¬ (Sum.inr "spot" : L2.Key) = .inr "left" := by decide
  simp only [List.map_cons, List.map_nil, if_neg h1, if_neg h2, if_neg h3, if_true]
theorem put_spot (l s : Int) (ca : Addr) (k k' : Nat) : putK (stK l s ca k) (.inr "spot") (nV k') = stK l s ca k' := by
  unfold putK stK
  rw [if_pos (by simp)]
  have h1 : ¬ (Sum.inr "seed" : L2.Key) = .inr "spot" := by decide
  have h2 : ¬ (Sum.inr "cells" : L2.Key) = .inr "spot" := by decide
  have h3 : ¬ (Sum.inr "left" : L2.Key) = .inr "spot" := by decide
  simp only [List.map_cons, List.map_nil, if_neg h1, if_neg h2, if_neg h3, if_true]
theorem St.up {H : Hp} {d ca : Addr} {a b : Nat} (h : St H d ca a) (k : a ≤ b) : St H d ca b := by
  obtain ⟨l, s, j, e, hj⟩ := h
  exact ⟨l, s, j, e, by omega⟩
theorem St.same {H H' : Hp} {d ca : Addr} {a : Nat} (h : St H d ca a) (s : Same H H') : St H' d ca a := by
  obtain ⟨l, z, j, e, hj⟩ := h
  exact ⟨l, z, j, s _ _ e, hj⟩
theorem St.ne {H : Hp} {d ca x : Addr} {a : Nat} (h : St H d ca a) (n : ∀ kvs, H x ≠ some (.dK kvs)) : d ≠ x := by
  obtain ⟨l, z, j, e, hj⟩ := h
  rintro rfl
  exact n _ e
theorem St.put {H : Hp} {d ca x : Addr} {a : Nat} {o : HO} (h : St H d ca a) (n : ∀ kvs, H x ≠ some (.dK kvs)) : St (upd H x o) d ca a := by
  have ne := h.ne n
  obtain ⟨l, z, j, e, hj⟩ := h
  exact ⟨l, z, j, by rw [upd_ne ne]; exact e, hj⟩
abbrev Sc (K : PySem.W.Frag) (H : Hp) (ca : Addr) : Prop := ∃ zs : List Int, zs ≠ [] ∧ SqL K H ca (zs.map V.int)
theorem Sc.keep {K : PySem.W.Frag} {H H' : Hp} {ca : Addr} (h : Sc K H ca) (s : Keep H H') : Sc K H' ca := by
  obtain ⟨zs, h1, h2⟩ := h
  exact ⟨zs, h1, Keep.lst s h2⟩
/-- a law's store -/
structure Stt (K : PySem.W.Frag) (H : Hp) (d ca : Addr) (b : Nat) : Prop where
  st : St H d ca b
  sc : Sc K H ca
theorem Stt.same {K : PySem.W.Frag} {H H' : Hp} {d ca : Addr} {a : Nat} (h : Stt K H d ca a) (s : Same H H') : Stt K H' d ca a := ⟨h.st.same s, h.sc.keep (Keep.of s)⟩
theorem Stt.up {K : PySem.W.Frag} {H : Hp} {d ca : Addr} {a b : Nat} (h : Stt K H d ca a) (k : a ≤ b) : Stt K H d ca b := ⟨h.st.up k, h.sc⟩
section
variable {P : Program} {w : World} {K : PySem.W.Frag} {mg : Str → Option Value} {base : Heap}
/-! ### _law_draw -/
def spDraw (K : PySem.W.Frag) : Sp := fun vs H Q _ => ∃ d ca many b, vs = [.ref d, nV many] ∧ Stt K H d ca b ∧ b ≤ 1000000 ∧ 1 ≤ many ∧ many ≤ 1000000 ∧ ∀ (r : Nat) (H' : Hp), Keep H H' → Stt K H' d ca (b + 1) → r < many → Q (nV r) H'
theorem nat_of {x : Int} {n : Nat} (h0 : 0 ≤ x) (h : x < n) : ∃ r : Nat, x = r ∧ r < n := ⟨x.toNat, by omega, by omega⟩
theorem ok_law_draw (B : Bn K mg) (D : Def K mg "_law_draw" s_law_draw ["m", "many"]) : Cal P w K mg base 1 "_law_draw" ["m", "many"] (spDraw K) := by
  refine D.cal sc_law_draw (fun vs H Q E h => ?_) (fun f cdv A outer s H vs Q E hr h => ?_)
  · obtain ⟨d, ca, many, b, rfl, _⟩ := h
    rfl
  · obtain ⟨d, ca, many, b, rfl, ⟨⟨l, sd, k, hd, hk⟩, zs, hz, hcs⟩, hb, m1, m2, q⟩ := h
    refine ⟨_, (pss_cons (ps_if (pt_cmpR op_gt (e_dget hr (pv 0) pe_str) pe_int (nomark _)) (pss_cons (ps_set (i := 2) sc_law_draw.nd rfl (.inl rfl) (pe_op op_mod (e_int B (e_dget hr (pv 0) pe_str)) (pv 1)))
      (pss_cons (ps_dput (hu_of hr) (pv 0) pe_str (pe_op op_fdiv (e_dget hr (pv 0) pe_str) (pv 1)) rfl)
      (pss_one (ps_ret (pv 2))))) pss_nil)
      (pss_cons (ps_set (i := 3) sc_law_draw.nd rfl (.inl rfl) (e_dget hr (pv 0) pe_str))
      (pss_cons (ps_dput (hu_of hr) (pv 0) pe_str (pe_op op_add (pv 3) pe_int) rfl)
      (pss_cons (ps_par (i := 4) (j := 5) (by rfl) sc_law_draw.nd rfl rfl (by decide) rfl rfl (pa_cons (e_dget hr (pv 0) pe_str) (pa_cons (pe_op op_add (e_dget hr (pv 0) pe_str) (pe_op op_mul (pe_op op_mul pe_int (pv 3)) (pv 3))) pa_nil)) (by rfl))
      (pss_cons (ps_set (i := 6) sc_law_draw.nd rfl (.inl rfl) (pe_ix (o_ixL B) (pv 4) (pe_op op_mod (e_int B (pv 3)) (e_len B (pv 4))) (fun _ _ => rfl)))
      (pss_cons (ps_set (i := 7) sc_law_draw.nd rfl (.inl rfl) (pe_op op_mod (e_int B (pe_op op_add (pe_op op_mul (pv 6) (pe_op op_add (pe_op op_mul pe_int (pv 3)) pe_int)) (pv 5))) pe_int))
      (pss_cons (ps_set (i := 7) sc_law_draw.nd rfl (.inl rfl) (pe_op op_mod (e_int B (pe_op op_add (pe_op op_add (pe_op op_mul (pv 7) (pv 7)) (pe_op op_mul pe_int (pv 3))) (e_dget hr (pv 0) pe_str))) pe_int))
      (pss_one (ps_ret (pe_op op_mod (pe_op op_fdiv (pe_op op_mod (e_int B (pe_op op_add (pe_op op_mul (pv 7) pe_int) (pv 3))) pe_int) pe_int) (pv 1))))))))))), ?_⟩
    have gl : DGet H d (.str "left") (some (.int l)) := by rw [← stK_left l sd ca k]; exact DGet.k (k := .inr "left") hd
    walk_at "q"
    refine ⟨d, _, rfl, gl, ?_⟩
    walk_at "q"
    refine q_dec (fun c => ?_) (fun c => ?_)
    · walk_at "q"
      refine ⟨d, _, rfl, gl, ?_⟩
      walk_at "q"
      refine q_I (by omega) ?_
      walk_at "q"
      refine ⟨d, _, rfl, gl, ?_⟩
      walk_at "q"
      refine q_I ⟨by omega, by omega⟩ ?_
      walk_at "q"
      refine ⟨d, _, rfl, DPut.k (k := .inr "left") hd (by show 4 < sizeLine; rw [sizeLine_eq]; decide), ?_⟩
      rw [put_left]
      walk_at "q"
      obtain ⟨r, er, hr⟩ := nat_of (Int.emod_nonneg l (b := (many : Int)) (by omega)) (Int.emod_lt_of_pos l (by omega))
      rw [er]
      exact q r _ (Keep.put (Keep.refl _) hd rfl) ⟨⟨_, _, k, upd_same, by omega⟩, zs, hz, Keep.lst (Keep.put (Keep.refl _) hd rfl) hcs⟩ hr
    · walk_at "q"
      have gs : DGet H d (.str "spot") (some (nV k)) := by rw [← stK_spot l sd ca k]; exact DGet.k (k := .inr "spot") hd
      refine ⟨d, _, rfl, gs, ?_⟩
      walk_at "q"
      refine ⟨d, _, rfl, DPut.k (k := .inr "spot") hd (by show 4 < sizeLine; rw [sizeLine_eq]; decide), ?_⟩
      rw [show V.int ((k : Int) + 1) = nV (k + 1) from rfl, put_spot]
      have kp : Keep H (upd H d (.dK (stK l sd ca (k + 1)))) := Keep.put (Keep.refl _) hd rfl
      have hd2 : upd H d (.dK (stK l sd ca (k + 1))) d = some (.dK (stK l sd ca (k + 1))) := upd_same
      generalize upd H d (.dK (stK l sd ca (k + 1))) = H2 at *
      have gc : DGet H2 d (.str "cells") (some (.ref ca)) := by rw [← stK_cells l sd ca (k + 1)]; exact DGet.k (k := .inr "cells") hd2
      have ge : DGet H2 d (.str "seed") (some (.int sd)) := by rw [← stK_seed l sd ca (k + 1)]; exact DGet.k (k := .inr "seed") hd2
      walk_at "q"
      refine ⟨d, _, rfl, gc, ?_⟩
      walk_at "q"
      refine ⟨d, _, rfl, ge, ?_⟩
      walk_at "q"
      refine q_I (.inl ⟨by omega, by omega⟩) ?_
      walk_at "q"
      refine q_I (.inr ⟨by omega, by omega⟩) ?_
      walk_at "q"
      refine ⟨_, _, rfl, ?_⟩
      have hc2 := Keep.lst kp hcs
      walk_at "q"
      refine ⟨ca, _, rfl, .inl hc2, ?_⟩
      walk_at "q"
      rw [List.length_map]
      have hzl := List.length_pos_iff.mpr hz
      refine q_I (by omega) ?_
      walk_at "q"
      obtain ⟨j, ej, hj⟩ := nat_of (Int.emod_nonneg (k : Int) (b := (zs.length : Int)) (by omega)) (Int.emod_lt_of_pos (k : Int) (by omega))
      rw [ej]
      refine ⟨ca, zs.map V.int, _, .int (zs[j]), rfl, rfl, hc2, atI_nat (by rw [List.getElem?_map, List.getElem?_eq_getElem hj]; rfl), ?_⟩
      walk_at "q"
      refine q_I (.inl ⟨by omega, by omega⟩) ?_
      walk_at "q"
      refine q_I (.inr ⟨by omega, by omega⟩) ?_
      walk_at "q"
      refine q_I (by decide) ?_
      walk_at "q"
      generalize zs[j] * (2 * (k : Int) + 3) + (sd + 40503 * (k : Int) * (k : Int)) = b0
      have hb0 := Int.emod_nonneg b0 (b := 2147483647) (by decide)
      have hb1 := Int.emod_lt_of_pos b0 (b := 2147483647) (by decide)
      generalize b0 % 2147483647 = b1 at *
      refine q_I (.inl ⟨by omega, by omega⟩) ?_
      walk_at "q"
      refine q_I (.inl ⟨by omega, by omega⟩) ?_
      walk_at "q"
      refine ⟨d, _, rfl, ge, ?_⟩
      walk_at "q"
      refine q_I (by decide) ?_
      walk_at "q"
      generalize b1 * b1 + 69621 * (k : Int) + sd = b2
      have hb2 := Int.emod_nonneg b2 (b := 2147483629) (by decide)
      have hb3 := Int.emod_lt_of_pos b2 (b := 2147483629) (by decide)
      generalize b2 % 2147483629 = b3 at *
      refine q_I (.inr ⟨by decide, by decide⟩) ?_
      walk_at "q"
      refine q_I (by decide) ?_
      walk_at "q"
      refine q_I ⟨by decide, by decide⟩ ?_
      walk_at "q"
      refine q_I (by omega) ?_
      generalize (b3 * 48271 + (k : Int)) % 2147483647 / 11 = b4
      obtain ⟨r, er, hr⟩ := nat_of (Int.emod_nonneg b4 (b := (many : Int)) (by omega)) (Int.emod_lt_of_pos b4 (by omega))
      rw [er]
      exact q r H2 kp ⟨⟨l, sd, k + 1, hd2, by omega⟩, zs, hz, hc2⟩ hr
/-! ### _law_of -/
def spOf (K : PySem.W.Frag) : Sp := fun vs H Q _ => ∃ d ca v p b, vs = [.ref d, v] ∧ Stt K H d ca b ∧ b < 1000000 ∧ Dp K H v (dL p) ∧ p ≠ [] ∧ p.length ≤ 1000 ∧ ∀ x ∈ p, ∀ H', Keep H H' → Stt K H' d ca (b + 1) → Q (nV x) H'
theorem ok_law_of (B : Bn K mg) (Claw_draw : Cal P w K mg base 1 "_law_draw" ["m", "many"] (spDraw K)) (D : Def K mg "_law_of" s_law_of ["m", "some"]) : Cal P w K mg base 2 "_law_of" ["m", "some"] (spOf K) := by
  refine D.cal sc_law_of (fun vs H Q E h => ?_) (fun f cdv A outer s H vs Q E hr h => ?_)
  · obtain ⟨d, ca, v, p, b, rfl, _⟩ := h
    rfl
  · obtain ⟨d, ca, v, p, b, rfl, hs, hb, hv, hp, hlen, q⟩ := h
    refine ⟨_, (pss_one (ps_ret (pe_ix (o_ixL B) (pv 1) (e_call Claw_draw (hr.mono (by decide)) (pa_cons (pv 0) (pa_cons (e_len B (pv 1)) pa_nil))) (fun _ _ => rfl)))), ?_⟩
    walk_at "q"
    refine lenL_of hv ?_
    rw [List.length_map]
    have := List.length_pos_iff.mpr hp
    walk_at "q"
    refine ⟨d, ca, p.length, b, rfl, hs, by omega, by omega, by omega, fun r H1 k1 s1 hr => ?_⟩
    refine ixL_num (Dp.keep k1 _ _ hv) hr ?_
    exact q _ (at0_mem hr) H1 k1 s1
/-! ### _law_sheet -/
def spSheet (K : PySem.W.Frag) : Sp := fun vs H Q _ => ∃ d ca n b, vs = [.ref d, nV n] ∧ Stt K H d ca b ∧ b ≤ 500000 ∧ 1 ≤ n ∧ n ≤ 8 ∧ ∀ (p : List Nat) (v : V) (H' : Hp), Keep H H' → Stt K H' d ca (b + 2 * n) → Dp K H' v (dT p) → p.length = n → Q v H'
theorem min_nat {i j : Nat} : ∃ m : Nat, (if (j : Int) < i then (j : Int) else i) = (m : Int) ∧ m ≤ i ∧ m ≤ j ∧ (m = i ∨ m = j) := by
  by_cases c : (j : Int) < i
  · exact ⟨j, if_pos c, by omega, by omega, .inr rfl⟩
  · exact ⟨i, if_neg c, by omega, by omega, .inl rfl⟩
theorem ok_law_sheet (B : Bn K mg) (Claw_draw : Cal P w K mg base 1 "_law_draw" ["m", "many"] (spDraw K)) (D : Def K mg "_law_sheet" s_law_sheet ["m", "many"]) : Cal P w K mg base 2 "_law_sheet" ["m", "many"] (spSheet K) := by
  refine D.cal sc_law_sheet (fun vs H Q E h => ?_) (fun f cdv A outer s H vs Q E hr h => ?_)
  · obtain ⟨d, ca, n, b, rfl, _⟩ := h
    rfl
  · obtain ⟨d, ca, n, b, rfl, hs, hb, h1, h8, q⟩ := h
    refine ⟨_, (pss_cons (ps_set (i := 2) sc_law_sheet.nd rfl (.inl rfl) (pe_lst (pa_cons pe_int pa_nil)))
      (pss_cons (ps_for PassesOwn.never rfl (i_range1 B (pe_op op_sub (pv 1) pe_int)) (pg_name (i := 3) sc_law_sheet.nd rfl (Or.inl rfl))
      (pss_one (ps_expr (e_bm B PySem.F.plainAttrs_list PySem.F.slot_list_append PySem.F.type_list_append mt_append (pv 2) (pa_cons (e_call Claw_draw (hr.mono (by decide)) (pa_cons (pv 0) (pa_cons (e_min2 B (pe_op op_add (e_maxN B hr (pv 2)) pe_int) (pe_op op_add (pe_op op_add pe_int (e_call Claw_draw (hr.mono (by decide)) (pa_cons (pv 0) (pa_cons (pe_op op_add (pv 1) pe_int) pa_nil)))) pe_int)) pa_nil))) pa_nil)))))
      (pss_one (ps_ret (e_tuple B (pv 2)))))), ?_⟩
    walk_at "q"
    refine ⟨by show 1 ≤ sizeLine; rw [sizeLine_eq]; decide, fun l nl => ?_⟩
    have k0 : Keep H (upd H l (.lst [nV 0])) := Keep.of (Same.new nl)
    have s0 := hs.same (Same.new (o := .lst [nV 0]) nl)
    have hl0 : upd H l (.lst [nV 0]) l = some (.lst ([0].map nV)) := upd_same
    show tSeq _ _ _ _ (upd H l (.lst [nV 0]))
    generalize upd H l (.lst [nV 0]) = H1 at *
    walk_at "q"
    have en : ((n : Int) - 1).toNat = n - 1 := by omega
    refine ⟨_, rfl, by omega, by omega, ?_⟩
    rw [en]
    refine for_it (walk_rg (n := n - 1)) (fun j σ H' => ∃ y3 p, σ = [some (.ref d), some (nV n), some (.ref l), y3] ∧ Keep H H' ∧ Stt K H' d ca (b + 2 * j) ∧ H' l = some (.lst (p.map nV)) ∧ p.length = j + 1 ∧ ∀ x ∈ p, x ≤ 100)
      ⟨none, [0], rfl, k0, s0, hl0, rfl, fun x hx => by rw [List.mem_singleton] at hx; omega⟩ (fun _ _ _ _ _ => trivial) (fun j x σ H' H'' hj h y => ?_) (fun σ H' h => ?_)
    · obtain ⟨y3, p, rfl, kp, st, hl, hp, hx⟩ := h
      obtain ⟨rfl, rfl⟩ := y
      walk_at "q"
      refine ⟨ty_of hl, ?_⟩
      walk_at "q"
      refine ⟨_, p, rfl, .inr (dp_of_line (.of hl)), fun z => by rw [z] at hp; simp at hp, fun m hm hu => ?_⟩
      have hm100 := hx m hm
      walk_at "q"
      refine ⟨d, ca, n + 1, _, rfl, st, by omega, by omega, by omega, fun r H3 k3 s3 hr3 => ?_⟩
      walk_at "q"
      refine ⟨((m + 2 : Nat) : Int), ((1 + r + 1 : Nat) : Int), rfl, ?_⟩
      obtain ⟨mm, em, m1, m2, m3⟩ := min_nat (i := m + 2) (j := 1 + r + 1)
      rw [em]
      walk_at "q"
      refine ⟨d, ca, mm, _, rfl, s3, by omega, by omega, by omega, fun r2 H4 k4 s4 hr4 => ?_⟩
      have hl4 := k4 _ _ rfl (k3 _ _ rfl hl)
      walk_at "q"
      refine app_of hl4 (by rw [List.length_map]; omega) ?_
      have kp4 := (kp.trans (k3.trans k4))
      have kp5 : Keep H (upd H4 l (.lst (p.map nV ++ [nV r2]))) := Keep.mut kp4 nl
      refine ⟨_, p ++ [r2], rfl, kp5, ⟨(s4.st.up (by omega)).put fun kvs e => (by rw [hl4] at e; cases e), hs.sc.keep kp5⟩, by rw [upd_same, List.map_append]; rfl, by rw [List.length_append, hp]; rfl, fun x hx2 => ?_⟩
      rcases List.mem_append.mp hx2 with hx2 | hx2
      · exact hx x hx2
      · rw [List.mem_singleton] at hx2
        omega
    · obtain ⟨y3, p, rfl, kp, st, hl, hp, hx⟩ := h
      walk_at "q"
      exact tup_of hl (dpa_nums _) fun v H' s' hv => q p v H' (kp.trans (Keep.of s')) ((st.same s').up (by omega)) hv (by omega)
/-! ### _law_begun -/
theorem cut_ints (zs : List Int) (lo hi : Option Int) : ∃ ws : List Int, cutV (zs.map V.int) lo hi = ws.map V.int ∧ ws.length ≤ zs.length := by
  refine ⟨(zs.drop (HT.sIx (zs.map V.int).length 0 lo)).take (HT.sIx (zs.map V.int).length (zs.map V.int).length hi - HT.sIx (zs.map V.int).length 0 lo), ?_, ?_⟩
  · unfold cutV
    rw [List.map_take, List.map_drop]
  · rw [List.length_take, List.length_drop]
    omega
theorem dpa_ints {H : Hp} : ∀ zs : List Int, DpAll K H (zs.map V.int) (zs.map PyData.int)
  | [] => .nil
  | z :: zs => .cons (.int z) (dpa_ints zs)
theorem dpa_ints_inv {H : Hp} : ∀ {zs : List Int} {xs : List V}, DpAll K H xs (zs.map PyData.int) → xs = zs.map V.int
  | [], _, h => by cases h; rfl
  | z :: zs, _, h => by
    cases h with
    | cons a t => cases a; rw [dpa_ints_inv t]; rfl
theorem merge_st (l s : Int) (ca : Addr) (k : Nat) : mergeK [] (stK l s ca k) = stK l s ca k := by
  have e2 : valV [((.inr "left" : L2.Key), V.int l)] (.inr "seed") = none := by rw [valV_neg (show ¬ (Sum.inr "left" : L2.Key) = .inr "seed" by decide)]; rfl
  have e3 : valV [((.inr "left" : L2.Key), V.int l), (.inr "seed", .int s)] (.inr "cells") = none := by rw [valV_neg (show ¬ (Sum.inr "left" : L2.Key) = .inr "cells" by decide), valV_neg (show ¬ (Sum.inr "seed" : L2.Key) = .inr "cells" by decide)]; rfl
  have e4 : valV [((.inr "left" : L2.Key), V.int l), (.inr "seed", .int s), (.inr "cells", .ref ca)] (.inr "spot") = none := by
    rw [valV_neg (show ¬ (Sum.inr "left" : L2.Key) = .inr "spot" by decide), valV_neg (show ¬ (Sum.inr "seed" : L2.Key) = .inr "spot" by decide), valV_neg (show ¬ (Sum.inr "cells" : L2.Key) = .inr "spot" by decide)]; rfl
  show putK (putK (putK (putK ([] : List (L2.Key × V)) (Sum.inr "left" : L2.Key) (V.int l)) (Sum.inr "seed" : L2.Key) (V.int s)) (Sum.inr "cells" : L2.Key) (V.ref ca)) (Sum.inr "spot" : L2.Key) (nV k) = _
  rw [putK_new _ (show valV ([] : List (L2.Key × V)) (.inr "left") = none from rfl), List.nil_append, putK_new _ e2, List.singleton_append, putK_new _ e3]
  exact putK_new _ e4
def spBegun (K : PySem.W.Frag) : Sp := fun vs H Q _ => ∃ (a : Addr) (k : Nat) (zs : List Int), vs = [.ref a, nV k] ∧ SqL K H a (zs.map V.int) ∧ zs.length ≤ 63 ∧ k ≤ 100 ∧ ∀ d ca H', Same H H' → Stt K H' d ca 0 → Q (.ref d) H'
theorem ok_law_begun (B : Bn K mg) (D : Def K mg "_law_begun" s_law_begun ["script", "k"]) : Cal P w K mg base 1 "_law_begun" ["script", "k"] (spBegun K) := by
  refine D.cal sc_law_begun (fun vs H Q E h => ?_) (fun f cdv A outer s H vs Q E hr h => ?_)
  · obtain ⟨a, k, zs, rfl, _⟩ := h
    rfl
  · obtain ⟨a, k, zs, rfl, hs, hl, hk, q⟩ := h
    refine ⟨_, (pss_cons (ps_set (i := 2) sc_law_begun.nd rfl (.inl rfl) (pe_op op_cat (pe_slice (o_slL B) (pv 0) (po_some (pv 1)) po_none) (pe_slice (o_slL B) (pv 0) po_none (po_some (pv 1)))))
      (pss_cons (ps_setLc (i := 4) (own := [("cell", 3)]) (g := gName 3) rfl sc_law_begun.nd rfl rfl (sw_true rfl rfl rfl (by decide +kernel)) (i_list B (pv 2)) (blkOk_by (by kernel_rfl)) (fun _ _ _ _ _ => (pg_name (i := 3) sc_law_begun.nd rfl (Or.inl rfl))) (fun _ _ _ _ _ => (pts_one (pt_cmpR op_ge (pv 3) (pe_op op_pow pe_int pe_int) (nomark _)))) (fun _ _ _ _ _ => (pv 3)))
      (pss_cons (ps_set (i := 5) sc_law_begun.nd rfl (.inl rfl) (pe_op op_add pe_int (pv 1)))
      (pss_cons (ps_for PassesOwn.never rfl (i_list B (pv 2)) (pg_name (i := 3) sc_law_begun.nd rfl (Or.inl rfl))
      (pss_one (ps_set (i := 5) sc_law_begun.nd rfl (.inl rfl) (pe_op op_mod (e_int B (pe_op op_add (pe_op op_mul (pv 5) pe_int) (pv 3))) pe_int))))
      (pss_one (ps_ret (pe_disp (pps_cons pe_str (pe_ifExp (pt_cmpR (o_neD B hr) (pv 4) (pe_lst pa_nil) (nomark _)) (pe_ix (o_ixL B) (pv 4) pe_int (fun _ _ => rfl)) pe_int) (pps_cons pe_str (pv 5) (pps_cons pe_str (pe_op op_cat (pv 2) (pe_lst (pa_cons (pe_op op_add (pe_op op_mul pe_int (pv 1)) pe_int) pa_nil))) (pps_cons pe_str pe_int pps_nil)))) (by rfl) (by rfl) (fun z => by cases z) (by decide)))))))), ?_⟩
    walk_at "q"
    obtain ⟨w1, ew1, lw1⟩ := cut_ints zs (some (k : Int)) none
    obtain ⟨w2, ew2, lw2⟩ := cut_ints zs none (some (k : Int))
    refine ⟨a, _, rfl, hs, fun p1 np1 => ?_⟩
    rw [ew1]
    walk_at "q"
    have s1 : Same H (upd H p1 (.lst (w1.map V.int))) := Same.new np1
    refine ⟨a, _, rfl, Same.lst s1 hs, fun p2 np2 => ?_⟩
    rw [ew2]
    have s2 : Same (upd H p1 (.lst (w1.map V.int))) (upd (upd H p1 (.lst (w1.map V.int))) p2 (.lst (w2.map V.int))) := Same.new np2
    refine ⟨p1, p2, _, _, rfl, rfl, s2 _ _ upd_same, upd_same, by rw [List.length_map, List.length_map, sizeLine_eq]; omega, fun c nc => ?_⟩
    rw [← List.map_append]
    have s3 := Same.new (o := .lst ((w1 ++ w2).map V.int)) nc
    have sH := s1.trans (s2.trans s3)
    have hc : upd (upd (upd H p1 (.lst (w1.map V.int))) p2 (.lst (w2.map V.int))) c (.lst ((w1 ++ w2).map V.int)) c = some (.lst ((w1 ++ w2).map V.int)) := upd_same
    have hw : (w1 ++ w2).length ≤ 200 := by rw [List.length_append]; omega
    generalize upd (upd (upd H p1 (.lst (w1.map V.int))) p2 (.lst (w2.map V.int))) c (.lst ((w1 ++ w2).map V.int)) = H1 at *
    generalize w1 ++ w2 = ws at *
    walk_at "q"
    refine ⟨c, rfl, ⟨_, .of hc⟩, fun D nD => lcD (hr_same K) (walk_list (xs := ws.map V.int)) (fun i => if decide (ws.getD i 0 ≥ 10 ^ (18 : Int).toNat) = true then some (PyData.int (ws.getD i 0)) else none) nD (by rw [List.length_map]; omega) (fun H' s => .of (s _ _ hc)) (fun i x H3 H4 Q1 Q0 acc hi s3 hD y k1 k0 => ?_) (fun H3 xs s3 hx hda _ => ?_)⟩
    · obtain ⟨rfl, hxx⟩ := y
      rw [List.length_map] at hi
      have hxx : (ws.map V.int)[i]? = some x := hxx
      rw [List.getElem?_map, List.getElem?_eq_getElem hi] at hxx
      cases hxx
      have eg : ws.getD i 0 = ws[i] := by rw [List.getD_eq_getElem?_getD, List.getElem?_eq_getElem hi]; rfl
      rw [eg] at k1 k0
      walk_at "q"
      refine ⟨rfl, ?_⟩
      walk_at "q"
      refine q_I ⟨by decide, by decide, by decide⟩ ?_
      walk_at "q"
      refine q_dec (fun e => ?_) (fun e => ?_)
      · walk_at "q"
        exact k1 _ _ (.int ws[i]) (Same.refl _) (by rw [decide_eq_true e]; rfl) (.int _)
      · exact k0 _ (Same.refl _) (by rw [decide_eq_false e]; rfl)
    · rw [List.length_map, fm_filter ws.length (fun i => decide (ws.getD i 0 ≥ 10 ^ (18 : Int).toNat)) fun i => PyData.int (ws.getD i 0)] at hda
      have eg : ((List.range ws.length).filter fun i => decide (ws.getD i 0 ≥ 10 ^ (18 : Int).toNat)).map (fun i => PyData.int (ws.getD i 0)) = (((List.range ws.length).filter fun i => decide (ws.getD i 0 ≥ 10 ^ (18 : Int).toNat)).map fun i => ws.getD i 0).map PyData.int := by rw [List.map_map]; rfl
      rw [eg] at hda
      generalize (((List.range ws.length).filter fun i => decide (ws.getD i 0 ≥ 10 ^ (18 : Int).toNat)).map fun i => ws.getD i 0) = gs at *
      have hc3 := s3 _ _ hc
      walk_at "q"
      refine ⟨c, rfl, ⟨_, .of hc3⟩, for_it (walk_list (xs := ws.map V.int)) (fun i σ H4 => ∃ (y3 : Option V) (sd : Int), σ = [some (.ref a), some (nV k), some (.ref c), y3, some (.ref D), some (.int sd)] ∧ H4 = H3) ⟨_, _, rfl, rfl⟩ (fun i σ H4 _ h => by obtain ⟨_, _, _, rfl⟩ := h; exact .of hc3) (fun i x σ H4 H5 hi h y => ?_) (fun σ H4 h => ?_)⟩
      · obtain ⟨y3, sd, rfl, rfl⟩ := h
        obtain ⟨rfl, hxx⟩ := y
        rw [List.length_map] at hi
        rw [List.getElem?_map, List.getElem?_eq_getElem hi] at hxx
        cases hxx
        walk_at "q"
        refine q_I (.inr ⟨by decide, by decide⟩) ?_
        walk_at "q"
        refine q_I (by decide) ?_
        exact ⟨_, _, rfl, rfl⟩
      · obtain ⟨y3, sd, rfl, rfl⟩ := h
        walk_at "q"
        intro d nd
        unfold tPairs
        walk_at "q"
        have sd1 : Same H4 (upd H4 d (.dK [])) := Same.new nd
        have hdd : upd H4 d (.dK []) d = some (.dK []) := upd_same
        generalize upd H4 d (.dK []) = H5 at *
        refine ⟨Nat.zero_le _, fun e ne => ?_⟩
        have s6 : Same H5 (upd H5 e (.lst [])) := Same.new ne
        refine ⟨.list (gs.map PyData.int), .list [], .lst (.of (s6 _ _ (sd1 _ _ hx))) (DpAll.same (sd1.trans s6) _ _ hda), .lst (.of upd_same) .nil, (flat_lst (lim := 0) fun d hd => by obtain ⟨_, _, rfl⟩ := List.mem_map.mp hd; exact flat_int _).shaped, (flat_dL []).shaped, ?_⟩
        have eqq : (PyData.list (gs.map PyData.int)).eqv (.list []) = decide (gs = []) := by
          cases gs with
          | nil => simp [PyData.eqv, PyData.eqvAll]
          | cons _ _ => simp [PyData.eqv, PyData.eqvAll]
        rw [eqq]
        have s5 := (s3.trans sd1).trans s6
        have fin : ∀ y : Int, tPairs [(tC (V.str "seed"), tVar 5), (tC (V.str "cells"), tOp rCat (tVar 2) (tLst (tCons (tOp (rI0 fun i j => V.int (i + j)) (tOp (rI CMul fun i j => V.int (i * j)) (tC (V.int 41)) (tVar 1)) (tC (V.int 3))) tNil))), (tC (V.str "spot"), tC (V.int 0))]
            [some (V.ref a), some (nV k), some (V.ref c), y3, some (V.ref D), some (V.int sd)] (upd H5 e (.lst [])) fun ps H2 => H2 d = some (.dK []) ∧ ∃ kvs : List (L2.Key × V), (V.str "left", V.int y) :: ps = kvs.map (fun kv => (kV kv.1, kv.2)) ∧ kvs.length ≤ 15 ∧ Q (.ref d) (upd H2 d (.dK (mergeK [] kvs))) := by
          intro y
          have hd6 := s6 _ _ hdd
          have hc6 := s5 _ _ hc
          generalize upd H5 e (.lst []) = H6 at *
          unfold tPairs
          walk_at "q"
          unfold tPairs
          walk_at "q"
          refine q_I (.inl ⟨by decide, by decide⟩) ?_
          walk_at "q"
          refine ⟨by show 1 ≤ sizeLine; rw [sizeLine_eq]; decide, fun r nr => ?_⟩
          have s7 : Same H6 (upd H6 r (.lst [V.int (41 * (k : Int) + 3)])) := Same.new nr
          refine ⟨c, r, _, _, rfl, rfl, s7 _ _ hc6, upd_same, by rw [List.length_map, sizeLine_eq]; show _ + 1 ≤ _; omega, fun p np => ?_⟩
          unfold tPairs
          walk_at "q"
          unfold tPairs
          have s8 : Same (upd H6 r (.lst [V.int (41 * (k : Int) + 3)])) (upd (upd H6 r (.lst [V.int (41 * (k : Int) + 3)])) p (.lst (ws.map V.int ++ [V.int (41 * (k : Int) + 3)]))) := Same.new np
          refine ⟨s8 _ _ (s7 _ _ hd6), stK y sd p 0, rfl, by show 4 ≤ 15; decide, ?_⟩
          rw [merge_st]
          have hpd : p ≠ d := fun z => by subst z; have := s7 _ _ hd6; rw [np] at this; cases this
          refine q d p _ (Same.mut ((sH.trans s5).trans (s7.trans s8)) ?_) ⟨⟨y, sd, 0, upd_same, Nat.le_refl _⟩, ws ++ [41 * (k : Int) + 3], by simp, .of ?_⟩
          · cases e : H d with
            | none => rfl
            | some o => have := (sH.trans s3) _ _ e; rw [nd] at this; cases this
          · rw [upd_ne hpd, upd_same, List.map_append]
            rfl
        walk_at "q"
        refine q_ndec (fun hne => ?_) (fun hne => ?_)
        · walk_at "q"
          cases gs with
          | nil => exact absurd rfl hne
          | cons g0 gs =>
            refine ixL_of (i := 0) (ds := (g0 :: gs).map PyData.int) (.lst (.of (s6 _ _ (sd1 _ _ hx))) (DpAll.same (sd1.trans s6) _ _ hda)) rfl fun u hu => ?_
            obtain rfl := dp_int hu
            exact fin g0
        · walk_at "q"
          exact fin 0
end
end Kp
set_option Elab.async false
set_option linter.all false
set_option maxRecDepth 100000
set_option maxHeartbeats 4000000
namespace Kp
open PySem PySem.Spec PyProof.Rows L2
local macro_rules | `(tactic| walk_at "q") => `(tactic| repeat (with_reducible first
  | refine q_seq ?_ | refine q_asg ?_ | refine q_name ?_ | refine q_ret ?_ | refine q_drop ?_ | refine q_ifs ?_ | refine q_next ?_ | refine q_par ?_
  | refine q_var (by with_unfolding_all exact rfl) ?_ | refine q_c ?_ | refine q_op ?_ | refine q_un ?_ | refine q_cb ?_ | refine q_cons ?_ | refine q_nil ?_ | refine q_call ?_
  | refine q_test ?_ | refine q_B ?_ | refine q_not ?_ | refine q_and ?_ | refine q_or ?_ | refine q_andV ?_ | refine q_orV ?_ | refine q_notV ?_ | refine q_ifx ?_ | refine q_chain ?_
  | refine q_tup ?_ | refine q_lst ?_ | refine q_bm ?_ | refine q_bm0 ?_ | refine q_yes ?_ | refine q_bl ?_ | refine q_I0 ?_ | refine q_int ?_ | refine q_eqI ?_ | refine q_neI ?_
  | refine q_dsetd ?_ | refine q_dget ?_ | refine q_din ?_ | refine q_dnotin ?_ | refine q_dput ?_ | refine q_sl ?_ | refine q_nopart ?_ | refine q_part ?_ | refine q_exI ?_ | refine q_dnewK ?_
  | refine q_for ?_ | refine q_lc ?_ | refine q_iTup ?_ | refine q_iList ?_ | refine q_iEnumT ?_ | refine q_iEnum ?_ | refine q_iRng1 ?_ | refine q_iRng2 ?_ | refine q_lstRg ?_ | refine q_tupRg ?_
  | refine iteT ?_ | refine iteF ?_ | refine q_nt ?_ | refine q_nf ?_))
abbrev s_law_frame : Stmt := topS 40
theorem sc_law_frame : FnScope ["m", "most", "wide", "many", "letters", "k", "rows", "turn", "kind", "step", "half", "goal", "row"] ["m", "most", "wide"] (defScope s_law_frame) := ⟨rfl, rfl, rfl, by decide +kernel, rfl, by decide +kernel, by decide +kernel⟩
section
variable {P : Program} {w : World} {K : PySem.W.Frag} {mg : Str → Option Value} {base : Heap}
theorem cut_goal {x : Int} {n : Nat} (h0 : 0 ≤ x) (hn : 1 ≤ n) : ∃ g : Nat, (if (n : Int) - 1 < x then (n : Int) - 1 else x) = (g : Int) ∧ g < n := by
  by_cases c : (n : Int) - 1 < x
  · exact ⟨n - 1, by rw [if_pos c]; omega, by omega⟩
  · exact ⟨x.toNat, by rw [if_neg c]; omega, by omega⟩
theorem Stt.mut {H H0 : Hp} {d ca x : Addr} {b : Nat} {o : HO} (h : Stt K H d ca b) (c : Sc K H0 ca) (k : Keep H0 (upd H x o)) (n : ∀ kvs, H x ≠ some (.dK kvs)) : Stt K (upd H x o) d ca b := ⟨h.st.put n, c.keep k⟩
def spFrame (K : PySem.W.Frag) : Sp := fun vs H Q _ => ∃ d ca mo wi b, vs = [.ref d, nV mo, nV wi] ∧ Stt K H d ca b ∧ b ≤ 100000 ∧ 1 ≤ mo ∧ mo ≤ 8 ∧ 1 ≤ wi ∧ wi ≤ 4 ∧
  ∀ t sh n L v H', Keep H H' → Stt K H' d ca (b + 1000) → Dp K H' v (dM t sh) → Frm t sh n L → n ≤ mo → Q v H'
theorem ok_law_frame (B : Bn K mg) (Claw_draw : Cal P w K mg base 1 "_law_draw" ["m", "many"] (spDraw K)) (Claw_of : Cal P w K mg base 2 "_law_of" ["m", "some"] (spOf K)) (D : Def K mg "_law_frame" s_law_frame ["m", "most", "wide"]) : Cal P w K mg base 3 "_law_frame" ["m", "most", "wide"] (spFrame K) := by
  refine D.cal sc_law_frame (fun vs H Q E h => ?_) (fun f cdv A outer s H vs Q E hr h => ?_)
  · obtain ⟨d, ca, mo, wi, b, rfl, _⟩ := h
    rfl
  · obtain ⟨d, ca, mo, wi, b, rfl, hs, hb, m1, m8, w1, w4, q⟩ := h
    refine ⟨_, (pss_cons (ps_par (i := 3) (j := 4) (by rfl) sc_law_frame.nd rfl rfl (by decide) rfl rfl (pa_cons (pe_op op_add pe_int (e_call Claw_draw (hr.mono (by decide)) (pa_cons (pv 0) (pa_cons (pv 1) pa_nil)))) (pa_cons (pe_op op_add pe_int (e_call Claw_draw (hr.mono (by decide)) (pa_cons (pv 0) (pa_cons (pv 2) pa_nil)))) pa_nil)) (by rfl))
      (pss_cons (ps_setLc (i := 6) (own := [("k", 5)]) (g := gName 5) (tt := tYes) rfl sc_law_frame.nd rfl rfl (sw_true rfl rfl rfl (by decide +kernel)) (i_range1 B (pv 3)) (blkOk_by (by kernel_rfl)) (fun _ _ _ _ _ => (pg_name (i := 5) sc_law_frame.nd rfl (Or.inl rfl))) (fun _ _ _ _ _ => pts_nil) (fun _ _ _ _ _ => (pe_lst pa_nil)))
      (pss_cons (ps_for PassesOwn.never rfl (i_range1 B (pv 4)) (pg_name (i := 7) sc_law_frame.nd rfl (Or.inl rfl))
      (pss_cons (ps_par (i := 8) (j := 9) (by rfl) sc_law_frame.nd rfl rfl (by decide) rfl rfl (pa_cons (e_call Claw_draw (hr.mono (by decide)) (pa_cons (pv 0) (pa_cons pe_int pa_nil))) (pa_cons (pe_op op_add pe_int (e_call Claw_draw (hr.mono (by decide)) (pa_cons (pv 0) (pa_cons (e_max2 B (pe_op op_sub (pv 3) pe_int) pe_int) pa_nil)))) pa_nil)) (by rfl))
      (pss_cons (ps_set (i := 10) sc_law_frame.nd rfl (.inl rfl) (pe_op op_add pe_int (e_call Claw_draw (hr.mono (by decide)) (pa_cons (pv 0) (pa_cons (pv 3) pa_nil)))))
      (pss_one (ps_for PassesOwn.never rfl (i_range1 B (pv 3)) (pg_name (i := 5) sc_law_frame.nd rfl (Or.inl rfl))
      (pss_cons (ps_set (i := 11) sc_law_frame.nd rfl (.inl rfl) (e_call Claw_draw (hr.mono (by decide)) (pa_cons (pv 0) (pa_cons (pv 3) pa_nil))))
      (pss_cons (ps_if (pt_cmpR op_lt (pv 8) pe_int (nomark _)) (pss_one (ps_set (i := 11) sc_law_frame.nd rfl (.inl rfl) (pe_op op_mod (e_int B (pe_op op_add (pv 5) (pv 9))) (pv 3)))) pss_nil)
      (pss_cons (ps_if (pt_cmpR op_eq (pv 8) pe_int (nomark _)) (pss_one (ps_set (i := 11) sc_law_frame.nd rfl (.inl rfl) (pe_op op_add (pe_op op_mul (e_int B (pe_op op_fdiv (pv 5) (pv 10))) (pv 10)) (pe_op op_mod (e_int B (pe_op op_add (pv 5) pe_int)) (pv 10))))) pss_nil)
      (pss_cons (ps_if (pt_cmpR op_eq (pv 8) pe_int (nomark _)) (pss_one (ps_set (i := 11) sc_law_frame.nd rfl (.inl rfl) (pe_op op_mod (e_int B (pv 5)) (pv 10)))) pss_nil)
      (pss_one (ps_expr (e_bm B PySem.F.plainAttrs_list PySem.F.slot_list_append PySem.F.type_list_append mt_append (pe_ix (o_ixL B) (pv 6) (pv 5) (fun _ _ => rfl)) (pa_cons (e_min2 B (pv 11) (pe_op op_sub (pv 3) pe_int)) pa_nil)))))))))))))
      (pss_one (ps_ret (pe_tup (pa_cons (e_tuple B (pe_lc (own := [("row", 12)]) (g := gName 12) (tt := tYes) rfl sc_law_frame.nd (i_list B (pv 6)) (blkOk_by (by kernel_rfl)) (fun _ _ _ _ _ => (pg_name (i := 12) sc_law_frame.nd rfl (Or.inl rfl))) (fun _ _ _ _ _ => pts_nil) (fun _ _ _ _ _ => (e_tuple B (pv 12))))) (pa_cons (e_tuple B (pe_lc (own := [("k", 5)]) (g := gName 5) (tt := tYes) rfl sc_law_frame.nd (i_range1 B (pv 3)) (blkOk_by (by kernel_rfl)) (fun _ _ _ _ _ => (pg_name (i := 5) sc_law_frame.nd rfl (Or.inl rfl))) (fun _ _ _ _ _ => pts_nil) (fun _ _ _ _ _ => (e_call Claw_of (hr.mono (by decide)) (pa_cons (pv 0) (pa_cons (pe_lst (pa_cons pe_int (pa_cons pe_int (pa_cons pe_int (pa_cons pe_int pa_nil))))) pa_nil)))))) pa_nil)))))))), ?_⟩
    walk_at "q"
    refine ⟨d, ca, mo, b, rfl, hs, by omega, m1, by omega, fun r1 H1 k1 s1 hr1 => ?_⟩
    walk_at "q"
    refine ⟨d, ca, wi, _, rfl, s1, by omega, w1, by omega, fun r2 H2 k2 s2 hr2 => ?_⟩
    walk_at "q"
    refine ⟨nV (1 + r1), nV (1 + r2), rfl, ?_⟩
    have hn1 : 1 ≤ 1 + r1 := by omega
    have hnm : 1 + r1 ≤ mo := by omega
    have hL1 : 1 ≤ 1 + r2 := by omega
    have hL4 : 1 + r2 ≤ wi := by omega
    have k02 := k1.trans k2
    clear hr1 hr2
    generalize 1 + r1 = n at *
    generalize 1 + r2 = L at *
    walk_at "q"
    refine ⟨n, rfl, by omega, by omega, ?_⟩
    intro D nD
    refine lc_it (walk_rg (n := n)) (fun i H' => Same H2 H' ∧ ∃ as, as.length = i ∧ H' D = some (.lst (as.map V.ref)) ∧ D ∉ as ∧ Holds H2 H' as fun _ => []) ⟨Same.new nD, [], rfl, upd_same, List.not_mem_nil, List.nodup_nil, fun i a e => by simp at e⟩ (fun _ _ _ _ => trivial) (fun i x H' H'' hi h y => ?_) (fun H3 h => ?_)
    · obtain ⟨sm, as, hl, hD, nm, ho⟩ := h
      obtain ⟨rfl, rfl⟩ := y
      walk_at "q"
      refine ⟨rfl, ?_⟩
      walk_at "q"
      refine ⟨Nat.zero_le _, fun l nl => ⟨as.map V.ref, ?_, ?_, ?_⟩⟩
      · have : D ≠ l := fun z => by rw [← z, hD] at nl; cases nl
        rw [upd_ne this, hD]
      · rw [List.length_map, sizeLine_eq]; omega
      · have hDl : D ≠ l := fun z => by rw [← z, hD] at nl; cases nl
        have nH : H2 l = none := by
          cases e : H2 l with
          | none => rfl
          | some o => rw [sm l o e] at nl; cases nl
        have nal : l ∉ as := fun z => by
          obtain ⟨j, hj⟩ := List.getElem?_of_mem z
          rw [(ho.2 j l hj).2] at nl
          cases nl
        have e0 : upd (upd H'' l (.lst [])) D (.lst (as.map V.ref ++ [.ref l])) l = some (.lst []) := by rw [upd_ne hDl.symm, upd_same]
        refine ⟨Same.mut (sm.trans (Same.new nl)) nD, as ++ [l], by rw [List.length_append, hl]; rfl, by rw [upd_same, List.map_append]; rfl, ?_, Holds.snoc (Holds.keep ho fun a ha => ?_) nH nal e0⟩
        · rw [List.mem_append, List.mem_singleton]
          exact fun z => z.elim nm hDl
        · rw [upd_ne (fun z => nm (by rw [← z]; exact ha)), upd_ne (fun z => nal (by rw [← z]; exact ha))]
    · obtain ⟨sm, as, hl, hD3, nm, ho3⟩ := h
      have sc2 := s2.sc
      walk_at "q"
      refine ⟨L, rfl, by omega, by omega, for_it (walk_rg (n := L)) (fun j σ H' => ∃ (y5 y7 y8 y9 y10 y11 : Option V) (R : Nat → List Nat), σ = [some (.ref d), some (nV mo), some (nV wi), some (nV n), some (nV L), y5, some (.ref D), y7, y8, y9, y10, y11, none] ∧ Keep H2 H' ∧ Stt K H' d ca (b + 2 + 11 * j) ∧ H' D = some (.lst (as.map V.ref)) ∧ Holds H2 H' as (fun i => (R i).map nV) ∧ ∀ i, i < n → (R i).length = j ∧ ∀ x ∈ R i, x < n)
        ⟨_, _, _, _, _, _, fun _ => [], rfl, Keep.of sm, (s2.same sm).up (by omega), hD3, ho3, fun i hi => ⟨rfl, fun x hx => absurd hx List.not_mem_nil⟩⟩ (fun _ _ _ _ _ => trivial) (fun j x σ H' H'' hj h y => ?_) (fun σ H' h => ?_)⟩
      · obtain ⟨y5, y7, y8, y9, y10, y11, R, rfl, kp, st, hD, ho, hR⟩ := h
        obtain ⟨rfl, rfl⟩ := y
        walk_at "q"
        refine ⟨d, ca, 5, _, rfl, st, by omega, by omega, by omega, fun rk H5 k5 s5 hk5 => ?_⟩
        walk_at "q"
        refine ⟨(n : Int) - 1, 1, rfl, ?_⟩
        obtain ⟨mx, emx, x1, x8⟩ : ∃ mx : Nat, (if (1 : Int) > (n : Int) - 1 then 1 else (n : Int) - 1) = (mx : Int) ∧ 1 ≤ mx ∧ mx ≤ 8 := by
          by_cases c : (1 : Int) > (n : Int) - 1
          · exact ⟨1, by rw [if_pos c]; rfl, by omega, by omega⟩
          · exact ⟨n - 1, by rw [if_neg c]; omega, by omega, by omega⟩
        rw [emx]
        walk_at "q"
        refine ⟨d, ca, mx, _, rfl, s5, by omega, x1, by omega, fun rs H6 k6 s6 hrs => ?_⟩
        walk_at "q"
        refine ⟨nV rk, nV (1 + rs), rfl, ?_⟩
        walk_at "q"
        refine ⟨d, ca, n, _, rfl, s6, by omega, hn1, by omega, fun rh H7 k7 s7 hrh => ?_⟩
        walk_at "q"
        have k57 := k5.trans (k6.trans k7)
        refine ⟨n, rfl, by omega, by omega, for_it (walk_rg (n := n)) (fun k σ H8 => ∃ (y5 y11 : Option V) (R : Nat → List Nat), σ = [some (.ref d), some (nV mo), some (nV wi), some (nV n), some (nV L), y5, some (.ref D), some (nV j), some (nV rk), some (nV (1 + rs)), some (nV (1 + rh)), y11, none] ∧ Keep H2 H8 ∧ Stt K H8 d ca (b + 2 + 11 * j + 3 + k) ∧ H8 D = some (.lst (as.map V.ref)) ∧ Holds H2 H8 as (fun i => (R i).map nV) ∧ ∀ i, i < n → (R i).length = (if i < k then j + 1 else j) ∧ ∀ x ∈ R i, x < n)
          ⟨_, _, R, rfl, kp.trans k57, s7, k57 _ _ rfl hD, Holds.keep ho fun a ha => ?_, fun i hi => ⟨by rw [if_neg (Nat.not_lt_zero i)]; exact (hR i hi).1, (hR i hi).2⟩⟩ (fun _ _ _ _ _ => trivial) (fun k x σ H8 H9 hk h y => ?_) (fun σ H8 h => ?_)⟩
        · obtain ⟨i, hi⟩ := List.getElem?_of_mem ha
          rw [(ho.2 i a hi).2]
          exact k57 _ _ rfl (ho.2 i a hi).2
        · obtain ⟨y5, y11, R, rfl, kp, st, hD, ho, hR⟩ := h
          obtain ⟨rfl, rfl⟩ := y
          walk_at "q"
          refine ⟨d, ca, n, _, rfl, st, by omega, hn1, by omega, fun rg H10 k10 s10 hrg => ?_⟩
          have kp10 := kp.trans k10
          have hD10 := k10 _ _ rfl hD
          have ho10 : Holds H2 H10 as (fun i => (R i).map nV) := Holds.keep ho fun a ha => by
            obtain ⟨i, hi⟩ := List.getElem?_of_mem ha
            rw [(ho.2 i a hi).2]
            exact k10 _ _ rfl (ho.2 i a hi).2
          -- the append
          have fin : ∀ (z : Int) (De : Ends), 0 ≤ z → (∀ (R' : Nat → List Nat) (y : Option V) (H11 : Hp), Keep H2 H11 → Stt K H11 d ca (b + 2 + 11 * j + 3 + (k + 1)) → H11 D = some (.lst (as.map V.ref)) → Holds H2 H11 as (fun i => (R' i).map nV) → (∀ i, i < n → (R' i).length = (if i < k + 1 then j + 1 else j) ∧ ∀ x ∈ R' i, x < n) →
                De.nx [some (.ref d), some (nV mo), some (nV wi), some (nV n), some (nV L), some (nV k), some (.ref D), some (nV j), some (nV rk), some (nV (1 + rs)), some (nV (1 + rh)), some (V.int z), none] H11) →
              tDrop (tBM K "list" rAppend (tOp (rIxL K) (tVar 6) (tVar 5)) (tCons (tCB rMin2 (tCons (tVar 11) (tCons (tOp (rI0 fun i j => V.int (i - j)) (tVar 3) (tC (V.int 1))) tNil))) tNil)) De
                [some (.ref d), some (nV mo), some (nV wi), some (nV n), some (nV L), some (nV k), some (.ref D), some (nV j), some (nV rk), some (nV (1 + rs)), some (nV (1 + rh)), some (V.int z), none] H10 := by
            intro z De hz kk
            have hka : k < as.length := by omega
            have ha : as[k]? = some (as[k]) := List.getElem?_eq_getElem hka
            have hrow := (ho10.2 _ _ ha).2
            have nrow := (ho10.2 _ _ ha).1
            walk_at "q"
            refine ⟨D, as.map V.ref, _, .ref (as[k]), rfl, rfl, .of hD10, atI_nat (by rw [List.getElem?_map, ha]; rfl), ty_of hrow, ?_⟩
            walk_at "q"
            refine ⟨z, (n : Int) - 1, rfl, ?_⟩
            obtain ⟨g, eg, hg⟩ := cut_goal hz hn1
            rw [eg]
            walk_at "q"
            refine app_of hrow (by rw [List.length_map, (hR k hk).1]; split <;> omega) ?_
            have kq : Keep H2 (upd H10 as[k] (.lst ((R k).map nV ++ [nV g]))) := Keep.mut kp10 nrow
            have hDa : D ≠ as[k] := fun z => nm (by rw [z]; exact List.getElem_mem _)
            refine kk (fun i => if i = k then R k ++ [g] else R i) none _ kq ((s10.up (by omega)).mut sc2 kq fun kvs e => (by rw [hrow] at e; cases e)) (by rw [upd_ne hDa]; exact hD10) (Holds.rows (Holds.set ho10 ha _) fun i hi => ?_) fun i hi => ?_
            · by_cases c : i = k
              · rw [if_pos c, if_pos c, List.map_append]; rfl
              · rw [if_neg c, if_neg c]
            · by_cases c : i = k
              · subst c
                rw [if_pos rfl, if_pos (Nat.lt_succ_self i), List.length_append, (hR i hi).1, if_neg (Nat.lt_irrefl i)]
                refine ⟨rfl, fun x hx => ?_⟩
                rcases List.mem_append.mp hx with hx | hx
                · exact (hR i hi).2 x hx
                · rw [List.mem_singleton] at hx
                  omega
              · rw [if_neg c, (hR i hi).1]
                refine ⟨?_, (hR i hi).2⟩
                by_cases c2 : i < k
                · rw [if_pos c2, if_pos (by omega)]
                · rw [if_neg c2, if_neg (by omega)]
          have fin2 : ∀ (z : Int) (De : Ends), 0 ≤ z → De.nx = (fun σ H8 => ∃ (y5 y11 : Option V) (R : Nat → List Nat), σ = [some (.ref d), some (nV mo), some (nV wi), some (nV n), some (nV L), y5, some (.ref D), some (nV j), some (nV rk), some (nV (1 + rs)), some (nV (1 + rh)), y11, none] ∧ Keep H2 H8 ∧ Stt K H8 d ca (b + 2 + 11 * j + 3 + (k + 1)) ∧ H8 D = some (.lst (as.map V.ref)) ∧ Holds H2 H8 as (fun i => (R i).map nV) ∧ ∀ i, i < n → (R i).length = (if i < k + 1 then j + 1 else j) ∧ ∀ x ∈ R i, x < n) →
              tDrop (tBM K "list" rAppend (tOp (rIxL K) (tVar 6) (tVar 5)) (tCons (tCB rMin2 (tCons (tVar 11) (tCons (tOp (rI0 fun i j => V.int (i - j)) (tVar 3) (tC (V.int 1))) tNil))) tNil)) De
                [some (.ref d), some (nV mo), some (nV wi), some (nV n), some (nV L), some (nV k), some (.ref D), some (nV j), some (nV rk), some (nV (1 + rs)), some (nV (1 + rh)), some (V.int z), none] H10 := by
            intro z De hz e
            refine fin z De hz fun R' y H11 a1 a2 a3 a4 a5 => ?_
            rw [e]
            exact ⟨_, _, R', rfl, a1, a2, a3, a4, a5⟩
          clear fin
          walk_at "q"
          have hrk : rk < 2 ∨ rk = 2 ∨ rk = 3 ∨ 4 ≤ rk := by omega
          rcases hrk with c | c | c | c
          · refine q_dec (fun _ => ?_) (fun z => (z (by omega)).elim)
            walk_at "q"
            refine q_I (by omega) ?_
            walk_at "q"
            refine q_dec (fun z => absurd (V.int.inj z) (by omega)) (fun _ => ?_)
            walk_at "q"
            refine q_dec (fun z => absurd (V.int.inj z) (by omega)) (fun _ => ?_)
            refine q_next ?_
            exact fin2 _ _ (Int.emod_nonneg _ (by omega)) rfl
          · refine q_dec (fun z => absurd z (by omega)) (fun _ => ?_)
            walk_at "q"
            refine q_dec (fun _ => ?_) (fun z => (z (by rw [c]; rfl)).elim)
            walk_at "q"
            refine q_I ⟨by omega, by omega⟩ ?_
            walk_at "q"
            have hdiv : (0 : Int) ≤ (k : Int) / ((1 + rh : Nat) : Int) := Int.ediv_nonneg (by omega) (by omega)
            refine q_I (.inr ⟨by omega, by omega⟩) ?_
            walk_at "q"
            refine q_I (by omega) ?_
            walk_at "q"
            refine q_dec (fun z => absurd (V.int.inj z) (by omega)) (fun _ => ?_)
            refine q_next ?_
            exact fin2 _ _ (Int.add_nonneg (Int.mul_nonneg hdiv (by omega)) (Int.emod_nonneg _ (by omega))) rfl
          · refine q_dec (fun z => absurd z (by omega)) (fun _ => ?_)
            walk_at "q"
            refine q_dec (fun z => absurd (V.int.inj z) (by omega)) (fun _ => ?_)
            walk_at "q"
            refine q_dec (fun _ => ?_) (fun z => (z (by rw [c]; rfl)).elim)
            walk_at "q"
            refine q_I (by omega) ?_
            refine q_name ?_
            exact fin2 _ _ (Int.emod_nonneg _ (by omega)) rfl
          · refine q_dec (fun z => absurd z (by omega)) (fun _ => ?_)
            walk_at "q"
            refine q_dec (fun z => absurd (V.int.inj z) (by omega)) (fun _ => ?_)
            walk_at "q"
            refine q_dec (fun z => absurd (V.int.inj z) (by omega)) (fun _ => ?_)
            refine q_next ?_
            exact fin2 _ _ (by omega) rfl
        · obtain ⟨y5, y11, R, rfl, kp, st, hD, ho, hR⟩ := h
          exact ⟨_, _, _, _, _, _, R, rfl, kp, st.up (by omega), hD, ho, fun i hi => ⟨by rw [(hR i hi).1, if_pos hi], (hR i hi).2⟩⟩
      · obtain ⟨y5, y7, y8, y9, y10, y11, R, rfl, kp, st, hD, ho, hR⟩ := h
        walk_at "q"
        refine ⟨D, rfl, ⟨_, .of hD⟩, fun D2 nD2 => lcD (hr_same K) (walk_list (xs := as.map V.ref)) (fun i => some (dT (R i))) nD2 (by rw [List.length_map]; omega) (fun H' s => .of (s _ _ hD)) (fun i x H8 H9 Q1 Q0 acc hi s8 hD8 y k1 k0 => ?_) (fun H8 xs s8 hx hda _ => ?_)⟩
        · obtain ⟨rfl, hxx⟩ := y
          rw [List.length_map] at hi
          have hxx : (as.map V.ref)[i]? = some x := hxx
          rw [List.getElem?_map, List.getElem?_eq_getElem hi] at hxx
          cases hxx
          have hrow := (ho.2 i _ (List.getElem?_eq_getElem hi)).2
          walk_at "q"
          refine ⟨rfl, ?_⟩
          walk_at "q"
          exact tup_of (s8 _ _ hrow) (dpa_nums _) fun v H10 s10 hv => k1 v H10 _ s10 rfl (ap_row hv (s10 _ _ hD8))
        · rw [List.length_map, fm_map as.length fun i => dT (R i), hl] at hda
          have e : (List.range n).map (fun i => dT (R i)) = ((List.range n).map R).map dT := by rw [List.map_map]; rfl
          rw [e] at hda
          have F : ∀ sh : List Nat, sh.length = n → (∀ x ∈ sh, x ≤ 9) → Frm ((List.range n).map R) sh n L := fun sh h1 h2 => by
            refine ⟨⟨by rw [List.length_map, List.length_range], hn1, by omega, hL1, by omega, fun r hr => ?_, fun r hr x hx => ?_⟩, h1, h2⟩
            · obtain ⟨i, hi, rfl⟩ := List.mem_map.mp hr
              exact (hR i (List.mem_range.mp hi)).1
            · obtain ⟨i, hi, rfl⟩ := List.mem_map.mp hr
              exact (hR i (List.mem_range.mp hi)).2 x hx
          generalize (List.range n).map R = t at *
          walk_at "q"
          refine tup_of hx hda fun tv H10 s10 htv => ?_
          have st10 := (st.same s8).same s10
          have kp10 := kp.trans (Keep.of (s8.trans s10))
          walk_at "q"
          refine ⟨n, rfl, by omega, by omega, fun D3 nD3 => lc_it (walk_rg (n := n)) (fun i H' => Keep H10 H' ∧ Stt K H' d ca (b + 2 + 11 * L + i) ∧ ∃ p : List Nat, p.length = i ∧ (∀ x ∈ p, x ≤ 9) ∧ H' D3 = some (.lst (p.map nV))) ⟨Keep.of (Same.new nD3), st10.same (Same.new nD3), [], rfl, fun x hx => absurd hx List.not_mem_nil, upd_same⟩ (fun _ _ _ _ => trivial) (fun i x H' H'' hi h y => ?_) (fun H11 h => ?_)⟩
          · obtain ⟨kq, stq, p, hp, hp9, hD3'⟩ := h
            obtain ⟨rfl, rfl⟩ := y
            walk_at "q"
            refine ⟨rfl, ?_⟩
            walk_at "q"
            refine ⟨by show 4 ≤ sizeLine; rw [sizeLine_eq]; decide, fun l nl => ?_⟩
            refine ⟨d, ca, .ref l, [0, 0, 1, 2], _, rfl, stq.same (Same.new nl), by omega, dp_of_line (.of (by rw [upd_same]; rfl)), by simp, by simp, fun x hx H12 k12 s12 => ?_⟩
            have kl : Keep H'' H12 := (Keep.of (Same.new nl)).trans k12
            have hD12 := kl _ _ rfl hD3'
            have km : Keep H10 (upd H12 D3 (.lst (p.map nV ++ [nV x]))) := Keep.mut (kq.trans kl) nD3
            refine ⟨p.map nV, hD12, by rw [List.length_map, sizeLine_eq]; omega, km, s12.mut st10.sc km fun kvs e => (by rw [hD12] at e; cases e), p ++ [x], by rw [List.length_append, hp]; rfl, fun z hz => ?_, by rw [upd_same, List.map_append]; rfl⟩
            rcases List.mem_append.mp hz with hz | hz
            · exact hp9 z hz
            · rw [List.mem_singleton] at hz
              subst hz
              simp at hx
              omega
          · obtain ⟨kq, stq, p, hp, hp9, hD3'⟩ := h
            walk_at "q"
            refine tup_of hD3' (dpa_nums _) fun sv H12 s12 hsv => ?_
            walk_at "q"
            refine ⟨by show 2 ≤ sizeLine; rw [sizeLine_eq]; decide, fun T nT => ?_⟩
            have sT : Same H12 (upd H12 T (.tup [tv, sv])) := Same.new nT
            refine q t p n L _ _ ((k02.trans kp10).trans (kq.trans (Keep.of (s12.trans sT)))) (((stq.same s12).same sT).up (by omega)) (.tup (.of upd_same) (.cons (Dp.keep (kq.trans (Keep.of (s12.trans sT))) _ _ htv) (.cons (Dp.same sT _ _ hsv) .nil))) (F p hp hp9) hnm
end
end Kp
set_option Elab.async false
set_option linter.all false
set_option maxRecDepth 100000
set_option maxHeartbeats 4000000
namespace Kp
open PySem PySem.Spec PyProof.Rows L2
/-! ### a def's promise where nothing is being shown -/
structure FnG (P : Program) (w : World) (K : PySem.W.Frag) (mg : Str → Option Value) (base : Heap) (CX : CXT) (k : Nat) (f : Addr) (fd : FuncData) (ps : List Str) (sp : Sp) : Prop where
  arity : ∀ vs H Q E, sp vs H Q E → vs.length = ps.length
  go : ∀ (A : Around) (outer : List Env) (s : Shared) (H : Hp) (args : Args) (us : List Value) (vs : List V) (Q : VK) (E : XK), A.guards = some [] → Room k A → Env0 P w K mg base A outer s H → BindsTo s fd args (ps.zip us) → Vals vs us → sp vs H Q E →
    codeAny (model P w) A (.call (.ref f) args) (CR CX outer P w H s Q E) s
section
variable {P : Program} {w : World} {K : PySem.W.Frag} {mg : Str → Option Value} {base : Heap}
theorem Fun.okG {CX : CXT} {k : Nat} {f : Addr} {fd : FuncData} {name qual : Str} {st : Stmt} {N ps : List Str} {sp : Sp} (F : Fun K name qual st f fd) (S : FnScope N ps (defScope st)) (ar : ∀ vs H Q E, sp vs H Q E → vs.length = ps.length)
    (body : ∀ (cdv : Value) (A : Around) (outer : List Env) (s : Shared) (H : Hp) (vs : List V) (Q : VK) (E : XK), A.guards = some [] → Room k (A.deeper (envOfC qual (defScope st) s.heap.objs.size f cdv)) → sp vs H Q E →
      ∃ t, PSs (cxOf CX P w K mg base N qual (defScope st) f cdv A outer s H E) (defBody st) t ∧ t { nx := fun _ H' => Q .non H', rt := Q } (start N vs) H) : FnG P w K mg base CX (k + 1) f fd ps sp := by
  obtain ⟨oc, od, kV, doc, pm, an, cdv, ct, osl, rfl, lk, hcd⟩ := F.ex
  refine ⟨ar, fun A outer s H args us vs Q E hgd hr e0 hbind rv hsp => ?_⟩
  have held : ∀ b o, base.get? b = some o → s.heap.get? b = some o := fun b o e => (e0.bs b o e).1
  have kinds : ∀ y ∈ ps.zip us, (defScope st).names.lookup y.1 = some .local ∨ ((defScope st).names.lookup y.1 = some .cell ∧ ((cellsFrom (s.heap.objs.size + 1) (defScope st).names []).lookup y.1).isSome = true) := fun y hy =>
    (S.par y.1 (List.of_mem_zip (b := y.2) hy).1).imp id fun c => ⟨c, PySem.W.cellsFrom_some _ _ _ (.inl c)⟩
  refine codeAny_call_function hr.depth (e0.mod.kin.keeps held _ _ lk) rfl S.co S.gen rfl (PySem.W.codeRec_of (e0.mod.kin.keeps held) hcd) (hbind _ _ _ _ (wpAny_newFunctionEnv_cells S.kind kinds fun env he s1 x => ?_))
  subst he
  refine ⟨(e0.mod.nolimit.keeps held).keeps x.toInCall.keep, codeAny_func ?_⟩
  obtain ⟨t, ht, hq⟩ := body cdv A outer s H vs Q E hgd (hr.deeper _) hsp
  have J0 : Inv (cxOf CX P w K mg base N qual (defScope st) f cdv A outer s H E) [] (start N vs) H s1 := inv_start S hr.hd e0 (ar _ _ _ _ hsp) rv x
  refine wpAny_mono (ht.run [] s1 (start N vs) H _ J0 hq) (fun fl s' => ?_) fun _ _ z => z
  have out : ∀ (σ' : L2.St) (H' : Hp) (v : V) (u : Value), Inv (cxOf CX P w K mg base N qual (defScope st) f cdv A outer s H E) [] σ' H' s' → RelV v u → Q v H' → CE outer P w H s Q u s' := fun _ H' v _ J r q => ⟨v, H', J.os, J.bare, J.base, J.hok, r, q⟩
  match fl with
  | .ret u => rintro ⟨v, σ', H', J, r, q⟩; exact out _ _ _ _ J r q
  | .next => rintro ⟨σ', H', J, q⟩; exact out _ _ .non .none J rfl q
  | .brk => rintro ⟨_, _, _, q⟩; exact q.elim
  | .cont => rintro ⟨_, _, _, q⟩; exact q.elim
theorem Fun.okN {k : Nat} {f : Addr} {fd : FuncData} {name qual : Str} {st : Stmt} {N ps : List Str} {sp : Sp} (F : Fun K name qual st f fd) (S : FnScope N ps (defScope st)) (ar : ∀ vs H Q E, sp vs H Q E → vs.length = ps.length)
    (body : ∀ (f : Addr) (cdv : Value) (A : Around) (outer : List Env) (s : Shared) (H : Hp) (vs : List V) (Q : VK) (E : XK), A.guards = some [] → Room k (A.deeper (envOfC qual (defScope st) s.heap.objs.size f cdv)) → sp vs H Q E →
      ∃ t, PSs (cxOf CX0 P w K mg base N qual (defScope st) f cdv A outer s H E).nox (defBody st) t ∧ t { nx := fun _ H' => Q .non H', rt := Q } (start N vs) H) : FnG P w K mg base CX0 (k + 1) f fd ps sp := by
  refine Fun.okG F S ar fun cdv A outer s H vs Q E hgd hr h => ?_
  obtain ⟨t, h1, h2⟩ := body f cdv A outer s H vs Q E hgd hr h
  exact ⟨t, h1.nox, h2⟩
/-- as its callers know it -/
structure CalG (P : Program) (w : World) (K : PySem.W.Frag) (mg : Str → Option Value) (base : Heap) (k : Nat) (name : Str) (ps : List Str) (sp : Sp) : Prop where
  ex : ∃ f fd, FnG P w K mg base CX0 k f fd ps sp ∧ mg name = some (.ref f) ∧ PySem.W.keepIn K (.ref f) = true ∧ Binds K fd ps []
theorem Def.calG {name : Str} {st : Stmt} {N ps : List Str} {k : Nat} {sp : Sp} (D : Def K mg name st ps) (S : FnScope N ps (defScope st)) (ar : ∀ vs H Q E, sp vs H Q E → vs.length = ps.length)
    (body : ∀ (f : Addr) (cdv : Value) (A : Around) (outer : List Env) (s : Shared) (H : Hp) (vs : List V) (Q : VK) (E : XK), A.guards = some [] → Room k (A.deeper (envOfC name (defScope st) s.heap.objs.size f cdv)) → sp vs H Q E →
      ∃ t, PSs (cxOf CX0 P w K mg base N name (defScope st) f cdv A outer s H E).nox (defBody st) t ∧ t { nx := fun _ H' => Q .non H', rt := Q } (start N vs) H) : CalG P w K mg base (k + 1) name ps sp := by
  obtain ⟨f, fd, F, g, b⟩ := D.ex
  exact ⟨f, fd, Fun.okN F S ar body, g, F.kp, b⟩
section
variable {X : Cx} {k : Nat} {name : Str} {ps : List Str} {sp : Sp} {e : Expr} {es : List Expr} {t : TA} {p pos : Pos} {A : Around}
theorem e_callG (C : CalG P w K mg base k name ps sp) (hgd : A.guards = some []) (hr : Room k A) (ha : PA X (e :: es) t) (hX : X.prog = P ∧ X.w = w ∧ X.K = K ∧ X.mg = mg ∧ X.base = base ∧ X.A = A := by exact ⟨rfl, rfl, rfl, rfl, rfl, rfl⟩) (hg : Gl X name := by rfl) (hdb : (name == ("__debug__" : Str)) = false := by decide)
    (he : starEach (e :: es) X.env = (false, eval e X.env) :: starEach es X.env := by rfl) (hpl : (backTo pos (starEach es X.env)).any (·.1) = false := by rfl) :
    PE X (.Call (.Name name p) (e :: es) [] pos) (tCall sp [] E0 t) := by
  obtain ⟨rfl, rfl, rfl, rfl, rfl, rfl⟩ := hX
  obtain ⟨f, fd, F, g, kp, b⟩ := C.ex
  refine ⟨fun pins s σ H Q I h => wpAny_Call_Name_kw (ld_glob I hg g ?_ hdb)⟩
  refine PySem.W.callWith_K (h₀ := X.base) I.ok.mod.kin kp (thn (ha.run pos pins s σ H _ I h) fun us s1 ⟨vs, H1, I1, r, q⟩ => ⟨I1.kIn, ?_⟩) he hpl
  have r0 : Vals (vs ++ []) (us ++ []) := r.append .nil
  have ln : (us ++ []).length = ps.length := r0.length.symm.trans (F.arity _ _ _ _ q)
  refine wpAny_call (codeAny_mono (F.go X.A X.stack s1 H1 ⟨us, []⟩ (us ++ []) (vs ++ []) Q E0 hgd hr I1.env0 (b s1 us I1.kIn ln) r0 q) fun r s' hq => ?_)
  match r with
  | .error e => exact pass0 pins σ H1 s1 e s' I1 hq
  | .ok (.ret u) => exact I1.after hq
  | .ok .next => exact hq.elim
  | .ok .brk => exact hq.elim
  | .ok .cont => exact hq.elim
end
/-! ### the head -/
/-- what the law's call needs to know of the heap: the script alone -/
def scr (K : PySem.W.Frag) (a : Addr) (vs : List Value) (ns : List Int) : Hp := fun b => if b = a ∧ K.lookup a = none then some (.frz { cls := .type "list", data := .seq vs.toArray } (.lst (ns.map V.int))) else none
theorem scr_at {a b : Addr} {vs : List Value} {ns : List Int} {o : HO} (h : scr K a vs ns b = some o) : b = a ∧ K.lookup a = none ∧ o = .frz { cls := .type "list", data := .seq vs.toArray } (.lst (ns.map V.int)) := by
  unfold scr at h
  by_cases c : b = a ∧ K.lookup a = none
  · rw [if_pos c] at h
    exact ⟨c.1, c.2, (Option.some.inj h).symm⟩
  · rw [if_neg c] at h; cases h
theorem law_callG {mb : Str → Option Value} {CX : CXT} {k : Nat} {fa a : Addr} {fd : FuncData} {x : Str} {sp : Sp} {s₁ : Shared} {vs : List Value} {ns : List Int}
    (KX : K.In s₁.heap) (hns : s₁.heap.Ns mainGlobals mg) (hb : s₁.heap.Ns builtinsNs mb) (hbb : ∀ x : Str, x ≠ "__name__" → mb x = bootBuiltins x) (hlim : s₁.heap.NoLimit) (hg : s₁.gens = #[])
    (ha : s₁.heap.get? a = some { cls := .type "list", data := .seq vs.toArray }) (hi : IntsAre vs ns) (hl : ns.length ≤ sizeLine) (hr : Room k callerA)
    (F : ∀ base : Heap, K.In base → base.Ns mainGlobals mg → FnG P w K mg base CX k fa fd [x] sp) (hbind : ∀ (s : Shared) (u : Value), BindsTo s fd ⟨[u], []⟩ [(x, u)])
    (hsp : ∀ H : Hp, SqL K H a (ns.map V.int) → sp [.ref a] H (fun v _ => v = .bl true) fun _ _ _ => False)
    (hCX : ∀ H e s', CX [] H s₁ (fun _ _ _ => False) e s' → False) :
    codeAny (model P w) callerA (.call (.ref fa) ⟨[.ref a], []⟩) (fun r s' => r = .ok (.ret (.bool true)) ∧ OldK s₁.heap s'.heap ∧ s'.os = s₁.os ∧ AllBare s'.gens) s₁ := by
  have rv := vals_ints hi
  have lenV := hi.length
  have stay : ∀ b o, s₁.heap.get? b = some o → scr K a vs ns b = none → (hidT s₁.heap (scr K a vs ns)).get? b = some o := fun b o e n => hidT_get e n
  have dicts : ∀ (b : Addr) (m : Str → Option Value), s₁.heap.Ns b m → (hidT s₁.heap (scr K a vs ns)).Ns b m := fun b m ⟨o, es, ep, e, d, r⟩ => ⟨o, es, ep, stay b o e (by
    cases q : scr K a vs ns b with
    | none => rfl
    | some u =>
      obtain ⟨rfl, _, _⟩ := scr_at q
      rw [ha] at e
      cases e
      exact absurd (show Data.seq vs.toArray _ = Data.dict es ep from d) (fun z => nomatch z)), d, r⟩
  have kin : K.In (hidT s₁.heap (scr K a vs ns)) := fun b o e => stay b o (KX b o e) (by
    cases q : scr K a vs ns b with
    | none => rfl
    | some u =>
      obtain ⟨rfl, n, _⟩ := scr_at q
      rw [n] at e; cases e)
  have md : Mod K mg (hidT s₁.heap (scr K a vs ns)) := ⟨kin, dicts _ _ hns, ⟨mb, dicts _ _ hb, hbb⟩, hlim.imp fun mc h => ⟨dicts _ _ h.1, h.2⟩⟩
  have ok : HOk P w (scr K a vs ns) s₁.heap := fun b o e => by
    obtain ⟨rfl, _, rfl⟩ := scr_at e
    exact ⟨ha, by rw [List.length_map]; exact hl, vs, _, rv, ha⟩
  have sq : SqL K (scr K a vs ns) a (ns.map V.int) := by
    cases hk : K.lookup a with
    | some o =>
      have e := KX a o hk
      rw [ha] at e
      cases e
      exact .inr ⟨_, vs.toArray, _, hk, rfl, rfl, rfl, by rw [List.size_toArray, lenV]; exact hl, by simpa using rv⟩
    | none => exact .inl (.inr ⟨_, if_pos ⟨rfl, hk⟩⟩)
  have e0 : Env0 P w K mg (hidT s₁.heap (scr K a vs ns)) callerA [] s₁ (scr K a vs ns) := ⟨rfl, md, fun b o e => of_hidT e, Nat.le_of_eq (hidT_size _ _), trivial, fun b hb => absurd (show b ∈ ([] : List Addr) from hb) List.not_mem_nil, ok, .of_eq hg⟩
  refine codeAny_mono ((F _ kin (dicts _ _ hns)).go callerA [] s₁ _ ⟨[.ref a], []⟩ [.ref a] [.ref a] _ _ rfl hr e0 (hbind s₁ (.ref a)) (.cons rfl .nil) (hsp _ sq)) fun r s' h => ?_
  match r, h with
  | .error e, h => exact (hCX _ e s' h).elim
  | .ok .next, h => exact h.elim
  | .ok .brk, h => exact h.elim
  | .ok .cont, h => exact h.elim
  | .ok (.ret u), ⟨v, H', os, bare, un, ok', ru, q⟩ =>
    obtain rfl : v = .bl true := q
    obtain rfl : u = Value.bool true := ru
    refine ⟨rfl, OldK.of_keep fun b o e => ?_, os, bare⟩
    cases q : scr K a vs ns b with
    | none => exact un.keep b o e q (fun z => absurd (show b ∈ ([] : List Addr) from z) List.not_mem_nil) (by simp)
    | some t =>
      obtain ⟨rfl, _, rfl⟩ := scr_at q
      obtain ⟨e2, _⟩ := ok' b _ (un.frzs b _ _ q)
      rw [ha] at e
      cases e
      exact e2
end
theorem walk_ofG {l : PySem.W.OpenLaw} {n k : Nat} {q : Program} {loose : List Str} {XP : (Str → Option Value) → Heap → Prop} {YP : World → Heap → Prop} {d : DefRec} {K : Params → PySem.W.Frag} {sp : PySem.W.Frag → Sp} {x : Str}
    (hn : l.most = some n) (hn2 : n ≤ sizeLine) (hdf : d.params.defaults = []) (hr : Room k callerA) (hY : ∀ (w : World) (h : Heap), YP w h → (K w.params).In h)
    (F : ∀ (w : World) (mg : Str → Option Value) (fa : Addr) (h : Heap), (K w.params).In h → h.Ns mainGlobals mg → mg d.name = some (.ref fa) →
      ∃ fd : FuncData, (∀ (s : Shared) (u : Value), BindsTo s fd ⟨[u], []⟩ [(x, u)]) ∧ ∀ base : Heap, (K w.params).In base → base.Ns mainGlobals mg → FnG l.prog w (K w.params) mg base CX0 k fa fd [x] (sp (K w.params)))
    (hsp : ∀ (K : PySem.W.Frag) (H : Hp) (a : Addr) (ns : List Int), ns.length ≤ n → SqL K H a (ns.map V.int) → sp K [.ref a] H (fun v _ => v = .bl true) fun _ _ _ => False)
    (hCX : ∀ (H : Hp) (s : Shared) (e : Value) (s' : Shared), CX0 [] H s (fun _ _ _ => False) e s' → False) :
    PySem.W.WalkO q loose XP YP l.row.toRowW d [] (fun f vs => PySem.call f vs) := by
  refine Att.attach_call hn hdf fun w s₀ s₁ mg mb fa o pm cd doc a vs ns G Y ho hd hcd hmg hobj hints hlen hg => ?_
  obtain ⟨fd, hb, hF⟩ := F w mg fa _ (hY w _ Y) G.T.g hmg
  exact law_callG (hY w _ Y) G.T.g G.T.b G.T.builtins G.T.nolimit hg hobj hints (Nat.le_trans hlen hn2) hr hF hb (fun H hS => hsp (K w.params) H a ns hlen hS) fun H e s' => hCX H s₁ e s'
end Kp
set_option Elab.async false
set_option linter.all false
set_option maxRecDepth 100000
set_option maxHeartbeats 4000000
namespace Kp
open PySem PySem.Spec PyProof.Rows L2
local macro_rules | `(tactic| walk_at "q") => `(tactic| repeat (with_reducible first
  | refine q_seq ?_ | refine q_asg ?_ | refine q_name ?_ | refine q_ret ?_ | refine q_drop ?_ | refine q_ifs ?_ | refine q_next ?_ | refine q_par ?_
  | refine q_var (by with_unfolding_all exact rfl) ?_ | refine q_c ?_ | refine q_op ?_ | refine q_un ?_ | refine q_cb ?_ | refine q_cons ?_ | refine q_nil ?_ | refine q_call ?_
  | refine q_test ?_ | refine q_B ?_ | refine q_not ?_ | refine q_and ?_ | refine q_or ?_ | refine q_andV ?_ | refine q_orV ?_ | refine q_notV ?_ | refine q_ifx ?_ | refine q_chain ?_
  | refine q_tup ?_ | refine q_lst ?_ | refine q_bm ?_ | refine q_bm0 ?_ | refine q_yes ?_ | refine q_bl ?_ | refine q_I0 ?_ | refine q_int ?_ | refine q_eqI ?_ | refine q_neI ?_
  | refine q_dsetd ?_ | refine q_dget ?_ | refine q_din ?_ | refine q_dnotin ?_ | refine q_dput ?_ | refine q_sl ?_ | refine q_nopart ?_ | refine q_part ?_ | refine q_exI ?_ | refine q_dnewK ?_
  | refine q_for ?_ | refine q_lc ?_ | refine q_iTup ?_ | refine q_iList ?_ | refine q_iEnumT ?_ | refine q_iEnum ?_ | refine q_iRng1 ?_ | refine q_iRng2 ?_ | refine q_lstRg ?_ | refine q_tupRg ?_
  | refine iteT ?_ | refine iteF ?_ | refine q_nt ?_ | refine q_nf ?_))
abbrev s_law_is_told : Stmt := topS 51
theorem sc_law_is_told : FnScope ["m", "frame", "many", "ahead", "every", "turn", "sheet", "due", "told", "a", "b", "apart", "k"] ["m", "frame"] (defScope s_law_is_told) := ⟨rfl, rfl, rfl, by decide +kernel, rfl, by decide +kernel, by decide +kernel⟩
/-! ### data that repr shows -/
structure Rp (lim wt : Nat) (d : PyData) : Prop where
  sh : d.showable = true
  nd : d.hasDict = false
  lv : d.leavesShort 13 = true
  dp : d.depth ≤ lim
  wt : d.weight ≤ wt
theorem rp_nat {n : Nat} (h : n ≤ 9) : Rp 0 4 (dI n) := by
  have : ∀ n : Nat, n ≤ 9 → PyData.showable (dI n) = true ∧ PyData.hasDict (dI n) = false ∧ PyData.leavesShort 13 (dI n) = true ∧ PyData.depth (dI n) ≤ 0 ∧ PyData.weight (dI n) ≤ 4 := by
    intro n h
    match n, h with
    | 0, _ => exact ⟨by decide +kernel, by decide +kernel, by decide +kernel, by decide +kernel, by decide +kernel⟩
    | 1, _ => exact ⟨by decide +kernel, by decide +kernel, by decide +kernel, by decide +kernel, by decide +kernel⟩
    | 2, _ => exact ⟨by decide +kernel, by decide +kernel, by decide +kernel, by decide +kernel, by decide +kernel⟩
    | 3, _ => exact ⟨by decide +kernel, by decide +kernel, by decide +kernel, by decide +kernel, by decide +kernel⟩
    | 4, _ => exact ⟨by decide +kernel, by decide +kernel, by decide +kernel, by decide +kernel, by decide +kernel⟩
    | 5, _ => exact ⟨by decide +kernel, by decide +kernel, by decide +kernel, by decide +kernel, by decide +kernel⟩
    | 6, _ => exact ⟨by decide +kernel, by decide +kernel, by decide +kernel, by decide +kernel, by decide +kernel⟩
    | 7, _ => exact ⟨by decide +kernel, by decide +kernel, by decide +kernel, by decide +kernel, by decide +kernel⟩
    | 8, _ => exact ⟨by decide +kernel, by decide +kernel, by decide +kernel, by decide +kernel, by decide +kernel⟩
    | 9, _ => exact ⟨by decide +kernel, by decide +kernel, by decide +kernel, by decide +kernel, by decide +kernel⟩
  obtain ⟨a, b, c, d, e⟩ := this n h
  exact ⟨a, b, c, d, e⟩
theorem rp_bool (b : Bool) : Rp 0 0 (.bool b) := by
  cases b <;> exact ⟨by decide +kernel, by decide +kernel, by decide +kernel, by decide +kernel, by decide +kernel⟩
theorem Rp.up {l w l' w' : Nat} {d : PyData} (h : Rp l w d) (a : l ≤ l') (b : w ≤ w') : Rp l' w' d := ⟨h.sh, h.nd, h.lv, Nat.le_trans h.dp a, Nat.le_trans h.wt b⟩
theorem rp_all {l w : Nat} : ∀ {ds : List PyData}, (∀ d ∈ ds, Rp l w d) → PyData.showableAll ds = true ∧ PyData.hasDictAll ds = false ∧ PyData.leavesShortAll 13 ds = true ∧ PyData.depthAll ds ≤ l ∧ PyData.weightAll ds ≤ ds.length * (w + 1)
  | [], _ => ⟨by simp [PyData.showableAll], by simp [PyData.hasDictAll], by simp [PyData.leavesShortAll], by simp [PyData.depthAll], by simp [PyData.weightAll]⟩
  | d :: ds, h => by
    obtain ⟨h1, h2, h3, h4, h5⟩ := rp_all fun d hd => h d (List.mem_cons_of_mem _ hd)
    obtain ⟨g1, g2, g3, g4, g5⟩ := h d List.mem_cons_self
    refine ⟨by simp [PyData.showableAll, g1, h1], by simp [PyData.hasDictAll, g2, h2], by simp [PyData.leavesShortAll, g3, h3], ?_, ?_⟩
    · simp [PyData.depthAll]
      omega
    · simp only [PyData.weightAll, List.length_cons]
      rw [Nat.succ_mul]
      omega
theorem rp_lst {l w : Nat} {ds : List PyData} (h : ∀ d ∈ ds, Rp l w d) : Rp (l + 1) (ds.length * (w + 1)) (.list ds) := by
  obtain ⟨h1, h2, h3, h4, h5⟩ := rp_all h
  exact ⟨by simpa only [PyData.showable] using h1, by simpa only [PyData.hasDict] using h2, by simpa only [PyData.leavesShort] using h3, by simp [PyData.depth]; omega, by simpa only [PyData.weight] using h5⟩
theorem rp_tup {l w : Nat} {ds : List PyData} (h : ∀ d ∈ ds, Rp l w d) : Rp (l + 1) (ds.length * (w + 1)) (.tuple ds) := by
  obtain ⟨h1, h2, h3, h4, h5⟩ := rp_all h
  exact ⟨by simpa only [PyData.showable] using h1, by simpa only [PyData.hasDict] using h2, by simpa only [PyData.leavesShort] using h3, by simp [PyData.depth]; omega, by simpa only [PyData.weight] using h5⟩
theorem rp_dT {p : List Nat} (h : ∀ x ∈ p, x ≤ 9) (hl : p.length ≤ 10) : Rp 1 50 (dT p) :=
  (rp_tup (w := 4) fun d hd => by obtain ⟨x, hx, rfl⟩ := List.mem_map.mp hd; exact rp_nat (h x hx)).up (Nat.le_refl _) (by rw [List.length_map]; omega)
theorem rp_dTT {t : List (List Nat)} (h : ∀ p ∈ t, p.length ≤ 10 ∧ ∀ x ∈ p, x ≤ 9) : Rp 2 (t.length * 51) (dTT t) :=
  (rp_tup (w := 50) fun d hd => by obtain ⟨x, hx, rfl⟩ := List.mem_map.mp hd; exact rp_dT (h x hx).2 (h x hx).1).up (Nat.le_refl _) (by rw [List.length_map]; exact Nat.le_refl _)
section
variable {P : Program} {w : World} {K : PySem.W.Frag} {mg : Str → Option Value} {base : Heap}
theorem repr_of {H : Hp} {Q : VK} {v : V} {d : PyData} {l wt : Nat} (h : Dp K H v d) (hv : ∃ a, v = .ref a) (r : Rp l wt d) (hl : l ≤ 60) (hw : wt ≤ 1048576) (q : Q (.str d.shown) H) : rRepr K [v] H Q :=
  ⟨v, d, rfl, h, hv, r.sh, r.nd, Nat.le_trans r.dp hl, PyData.shown_fits (by decide) (by decide) r.lv (Nat.le_trans r.wt hw), q⟩
theorem dpt_ref {H : Hp} {v : V} {ds : List PyData} (h : Dp K H v (.tuple ds)) : ∃ a, v = .ref a := by
  obtain ⟨a, _, rfl, _⟩ := dp_tup h
  exact ⟨a, rfl⟩
theorem q_neS {H : Hp} {Q : VK} {a b : Str} (e : a = b) (q : Q (.bl false) H) : rNe (.str a) (.str b) H Q := by
  subst e
  refine ⟨rfl, ?_⟩
  rw [decide_eq_true rfl]
  exact q
theorem q_eqS {H : Hp} {Q : VK} {a b : Str} (e : a = b) (q : Q (.bl true) H) : rEq (.str a) (.str b) H Q := by
  subst e
  refine ⟨rfl, ?_⟩
  rw [decide_eq_true rfl]
  exact q
theorem frm_rp {t : List (List Nat)} {sh : List Nat} {n L : Nat} (F : Frm t sh n L) : Rp 3 2000 (dM t sh) := by
  have M := F.m
  have n8 := M.n8
  have l4 := M.l4
  have r1 : Rp 2 800 (dTT t) := (rp_dTT fun p hp => ⟨by rw [M.row p hp]; omega, fun x hx => by have := M.low p hp x hx; omega⟩).up (Nat.le_refl _) (by rw [M.len]; omega)
  have r2 : Rp 2 800 (dT sh) := (rp_dT F.slow (by rw [F.slen]; omega)).up (by decide) (by decide)
  refine (rp_tup (l := 2) (w := 800) (ds := [dTT t, dT sh]) fun d hd => ?_).up (by decide) (by show 2 * 801 ≤ 2000; decide)
  rcases List.mem_cons.mp hd with rfl | hd
  · exact r1
  · rw [List.mem_singleton] at hd
    subst hd
    exact r2
theorem rgs_rp {p : List Nat} {n : Nat} (hn : num p = p) (hl : p.length = n) (h8 : n ≤ 8) : Rp 1 50 (dT p) := rp_dT (fun x hx => by have := rgs_lt hn hx; omega) (by omega)
theorem sheets_720 {k : Nat} (h : k ≤ 5) : (sheets k).length ≤ 720 := by
  refine Nat.le_trans (sheets_len k) ?_
  match k, h with
  | 0, _ => decide
  | 1, _ => decide
  | 2, _ => decide
  | 3, _ => decide
  | 4, _ => decide
  | 5, _ => decide
theorem allKept_rp {t : List (List Nat)} {sh : List Nat} {n L : Nat} (F : Frm t sh n L) (h6 : n ≤ 6) : Rp 2 36720 (dTT (allKept t n L)) := by
  have n1 := F.m.n1
  have few := sheets_720 (k := n - 1) (by omega)
  have h2 : (allKept t n L).length ≤ (sheets (n - 1)).length := List.length_filter_le _ _
  refine (rp_dTT fun p hp => ?_).up (Nat.le_refl _) (by omega)
  obtain ⟨a, b, _⟩ := (mem_allKept n1).mp hp
  exact ⟨by omega, fun x hx => by have := rgs_lt a hx; omega⟩
theorem two_rp {l w : Nat} {d : PyData} (h : Rp l w d) : Rp (l + 1) (2 * (w + 1)) (.list [d, d]) := rp_lst (ds := [d, d]) fun e he => by
  rcases List.mem_cons.mp he with rfl | he
  · exact h
  · rw [List.mem_singleton] at he
    subst he
    exact h
theorem four_rp {b : Bool} {p : List Nat} (h : Rp 1 50 (dT p)) : Rp 2 300 (.list [.bool b, dT p, .bool b, dT p]) := (rp_lst (l := 1) (w := 50) (ds := [.bool b, dT p, .bool b, dT p]) fun e he => by
  have hb := (rp_bool b).up (l' := 1) (w' := 50) (by decide) (by decide)
  rcases List.mem_cons.mp he with rfl | he
  · exact hb
  · rcases List.mem_cons.mp he with rfl | he
    · exact h
    · rcases List.mem_cons.mp he with rfl | he
      · exact hb
      · rw [List.mem_singleton] at he
        subst he
        exact h).up (Nat.le_refl _) (by show 4 * 51 ≤ 300; decide)
/-- tuple(a list) -/
theorem tup_sq {H : Hp} {Q : VK} {p : Addr} {xs : List V} {ds : List PyData} (h : SqL K H p xs) (ha : DpAll K H xs ds) (q : Ret K (.tuple ds) H Q) : rTup K [.ref p] H Q :=
  ⟨p, xs, rfl, .inl ⟨h, fun l hl => q _ _ (Same.new hl) (dp_new_tup ha hl)⟩⟩
/-! ### _law_is_told -/
def spIsTold (K : PySem.W.Frag) : Sp := fun vs H Q _ => ∃ d ca v t sh n L b, vs = [.ref d, v] ∧ Stt K H d ca b ∧ b ≤ 200000 ∧ Dp K H v (dM t sh) ∧ Frm t sh n L ∧ n ≤ 6 ∧ ∀ H', Keep H H' → Q (.bl true) H'
theorem ok_law_is_told (B : Bn K mg) (Ckept_partings : Cal P w K mg base 6 "kept_partings" ["machine"] (spKeptP K)) (Cis_kept : Cal P w K mg base 6 "is_kept" ["machine", "parting"] (spKeptBy K)) (Cleast_kept : Cal P w K mg base 6 "least_kept" ["machine", "parting"] (spOver K))
    (Cdrawn : Cal P w K mg base 5 "drawn" ["machine", "one", "far"] (spDrawnIn K)) (Claw_all_kept : Cal P w K mg base 2 "_law_all_kept" ["frame"] (spAllKept K)) (Claw_numbered : Cal P w K mg base 1 "_law_numbered" ["sheet"] (spLNum K))
    (Claw_sheet : Cal P w K mg base 2 "_law_sheet" ["m", "many"] (spSheet K)) (Claw_told_of : Cal P w K mg base 1 "_law_told_of" ["many", "classes"] (spTold K)) (Claw_closed : Cal P w K mg base 2 "_law_closed" ["frame", "classes"] (spClosed K))
    (Claw_classes : Cal P w K mg base 1 "_law_classes" ["sheet"] (spClasses K)) (Claw_merged : Cal P w K mg base 1 "_law_merged" ["classes", "one", "far"] (spMg K)) (D : Def K mg "_law_is_told" s_law_is_told ["m", "frame"]) :
    CalG P w K mg base 7 "_law_is_told" ["m", "frame"] (spIsTold K) := by
  refine D.calG sc_law_is_told (fun vs H Q E h => ?_) (fun f cdv A outer s H vs Q E hgd hr h => ?_)
  · obtain ⟨d, ca, v, t, sh, n, L, b, rfl, _⟩ := h
    rfl
  · obtain ⟨d, ca, fv, t, sh, n, L, b, rfl, st, hb, hm, F, h6, q⟩ := h
    have n1 := F.m.n1
    have rF := frm_rp F
    have rA := allKept_rp F h6
    refine ⟨_, (pss_cons (ps_par (i := 2) (j := 3) (by rfl) sc_law_is_told.nd rfl rfl (by decide) rfl rfl (pa_cons (e_len B (pe_ix (o_ixT B) (pv 1) pe_int (fun _ _ => rfl))) (pa_cons (e_blt (cr_repr hr.units hgd) B.repr (by decide +kernel) (pv 1)) pa_nil)) (by rfl))
      (pss_cons (ps_set (i := 4) sc_law_is_told.nd rfl (.inl rfl) (e_tuple B (e_call Claw_all_kept (hr.mono (by decide)) (pa_cons (pv 1) pa_nil))))
      (pss_cons (ps_if (pt_cmpR op_ne (e_blt (cr_repr hr.units hgd) B.repr (by decide +kernel) (pe_lst (pa_cons (e_call Ckept_partings (hr.mono (by decide)) (pa_cons (pv 1) pa_nil)) (pa_cons (e_call Ckept_partings (hr.mono (by decide)) (pa_cons (pv 1) pa_nil)) pa_nil)))) (e_blt (cr_repr hr.units hgd) B.repr (by decide +kernel) (pe_lst (pa_cons (pv 4) (pa_cons (pv 4) pa_nil)))) (nomark _)) (pss_one (ps_ret pe_bl)) pss_nil)
      (pss_cons (ps_for PassesOwn.never rfl (i_range1 B pe_int) (pg_name (i := 5) sc_law_is_told.nd rfl (Or.inl rfl))
      (pss_cons (ps_set (i := 6) sc_law_is_told.nd rfl (.inl rfl) (e_call Claw_numbered (hr.mono (by decide)) (pa_cons (e_call Claw_sheet (hr.mono (by decide)) (pa_cons (pv 0) (pa_cons (pv 2) pa_nil))) pa_nil)))
      (pss_cons (ps_set (i := 7) sc_law_is_told.nd rfl (.inl rfl) (pe_lst (pa_cons (pe_cmpR (o_inTD B hr) (pv 6) (pv 4) (by rfl)) (pa_cons (e_call Claw_told_of (hr.mono (by decide)) (pa_cons (pv 2) (pa_cons (e_call Claw_closed (hr.mono (by decide)) (pa_cons (pv 1) (pa_cons (e_call Claw_classes (hr.mono (by decide)) (pa_cons (pv 6) pa_nil)) pa_nil))) pa_nil))) pa_nil))))
      (pss_cons (ps_set (i := 8) sc_law_is_told.nd rfl (.inl rfl) (pe_lst (pa_cons (e_call Cis_kept (hr.mono (by decide)) (pa_cons (pv 1) (pa_cons (pv 6) pa_nil))) (pa_cons (e_call Cleast_kept (hr.mono (by decide)) (pa_cons (pv 1) (pa_cons (pv 6) pa_nil))) (pa_cons (e_call Cis_kept (hr.mono (by decide)) (pa_cons (pv 1) (pa_cons (pv 6) pa_nil))) (pa_cons (e_call Cleast_kept (hr.mono (by decide)) (pa_cons (pv 1) (pa_cons (pv 6) pa_nil))) pa_nil))))))
      (pss_one (ps_if (PW.pt (pw_or (pt_cmpR op_ne (e_blt (cr_repr hr.units hgd) B.repr (by decide +kernel) (pv 8)) (e_blt (cr_repr hr.units hgd) B.repr (by decide +kernel) (pe_op op_rep (pv 7) pe_int)) (nomark _)) (pw_or1 (pt_cmpR (o_notInTD B hr) (pe_ix (o_ixL B) (pv 7) pe_int (fun _ _ => rfl)) (pv 4) (by rfl))))) (pss_one (ps_ret pe_bl)) pss_nil))))))
      (pss_cons (ps_for PassesOwn.never rfl (i_range1 B (pv 2)) (pg_name (i := 9) sc_law_is_told.nd rfl (Or.inl rfl))
      (pss_one (ps_for PassesOwn.never rfl (i_range1 B (pv 2)) (pg_name (i := 10) sc_law_is_told.nd rfl (Or.inl rfl))
      (pss_cons (ps_setLc (i := 11) (own := [("k", 12)]) (g := gName 12) (tt := tYes) rfl sc_law_is_told.nd rfl rfl (sw_true rfl rfl rfl (by decide +kernel)) (i_range1 B (pv 2)) (blkOk_by (by kernel_rfl)) (fun _ _ _ _ _ => (pg_name (i := 12) sc_law_is_told.nd rfl (Or.inl rfl))) (fun _ _ _ _ _ => pts_nil) (fun _ _ _ _ _ => (pe_lst (pa_cons (pv 12) pa_nil))))
      (pss_cons (ps_set (i := 7) sc_law_is_told.nd rfl (.inl rfl) (e_call Claw_told_of (hr.mono (by decide)) (pa_cons (pv 2) (pa_cons (e_call Claw_closed (hr.mono (by decide)) (pa_cons (pv 1) (pa_cons (e_call Claw_merged (hr.mono (by decide)) (pa_cons (pv 11) (pa_cons (pv 9) (pa_cons (pv 10) pa_nil)))) pa_nil))) pa_nil))))
      (pss_one (ps_if (PW.pt (pw_or (pt_cmpR op_ne (e_blt (cr_repr hr.units hgd) B.repr (by decide +kernel) (e_call Cdrawn (hr.mono (by decide)) (pa_cons (pv 1) (pa_cons (pv 9) (pa_cons (pv 10) pa_nil))))) (e_blt (cr_repr hr.units hgd) B.repr (by decide +kernel) (pv 7)) (nomark _)) (pw_or1 (pt_cmpR (o_notInTD B hr) (pv 7) (pv 4) (by rfl))))) (pss_one (ps_ret pe_bl)) pss_nil)))))))
      (pss_one (ps_ret (pe_cmpR op_eq (e_blt (cr_repr hr.units hgd) B.repr (by decide +kernel) (pv 1)) (pv 3) (nomark _))))))))), ?_⟩
    walk_at "q"
    refine dm_rows hm fun r hr2 => ?_
    walk_at "q"
    refine lenT_of hr2 ?_
    rw [List.length_map, F.m.len]
    walk_at "q"
    walk_at "q"
    refine repr_of hm (dpt_ref hm) rF (by decide) (by decide) ?_
    refine ⟨_, _, rfl, ?_⟩
    walk_at "q"
    refine ⟨fv, t, sh, n, L, rfl, hm, F, fun ev0 H1 s1 he0 => ?_⟩
    obtain ⟨e0a, e0x, rfl, he0s, he0a⟩ := dp_lst he0
    walk_at "q"
    refine tup_sq he0s he0a fun ev H2 s2 he => ?_
    have s02 := s1.trans s2
    walk_at "q"
    -- the kept ones, twice
    refine ⟨fv, t, sh, n, L, rfl, Dp.same s02 _ _ hm, F, fun k1 H3 s3 hk1 => ?_⟩
    walk_at "q"
    refine ⟨fv, t, sh, n, L, rfl, Dp.same (s02.trans s3) _ _ hm, F, fun k2 H4 s4 hk2 => ?_⟩
    walk_at "q"
    refine ⟨by show 2 ≤ sizeLine; rw [sizeLine_eq]; decide, fun l1 nl1 => ?_⟩
    have s5 : Same H4 (upd H4 l1 (.lst [k1, k2])) := Same.new nl1
    walk_at "q"
    refine repr_of (d := .list [dTT (allKept t n L), dTT (allKept t n L)]) (.lst (.of upd_same) (.cons (Dp.same (s4.trans s5) _ _ hk1) (.cons (Dp.same s5 _ _ hk2) .nil))) ⟨_, rfl⟩ (two_rp rA) (by decide) (by decide) ?_
    have s05 := s02.trans (s3.trans (s4.trans s5))
    have he5 := Dp.same (s3.trans (s4.trans s5)) _ _ he
    generalize upd H4 l1 (.lst [k1, k2]) = H5 at *
    walk_at "q"
    refine ⟨by show 2 ≤ sizeLine; rw [sizeLine_eq]; decide, fun l2 nl2 => ?_⟩
    have s6 : Same H5 (upd H5 l2 (.lst [ev, ev])) := Same.new nl2
    walk_at "q"
    refine repr_of (d := .list [dTT (allKept t n L), dTT (allKept t n L)]) (.lst (.of upd_same) (.cons (Dp.same s6 _ _ he5) (.cons (Dp.same s6 _ _ he5) .nil))) ⟨_, rfl⟩ (two_rp rA) (by decide) (by decide) ?_
    have s06 := s05.trans s6
    have he6 := Dp.same s6 _ _ he5
    generalize upd H5 l2 (.lst [ev, ev]) = H6 at *
    walk_at "q"
    refine q_neS rfl ?_
    walk_at "q"
    -- the sheets drawn
    refine ⟨5, rfl, by decide, by decide, for_it (walk_rg (n := 5)) (fun j σ H' => ∃ y5 y6 y7 y8, σ = [some (.ref d), some fv, some (nV n), some (.str (dM t sh).shown), some ev, y5, y6, y7, y8, none, none, none, none] ∧ Keep H6 H' ∧ Stt K H' d ca (b + 100 * j))
      ⟨_, _, _, _, rfl, Keep.refl _, (st.same s06).up (by omega)⟩ (fun _ _ _ _ _ => trivial) (fun j x σ H' H'' hj h y => ?_) (fun σ H' h => ?_)⟩
    · obtain ⟨y5, y6, y7, y8, rfl, kp, st2⟩ := h
      obtain ⟨rfl, rfl⟩ := y
      walk_at "q"
      refine ⟨d, ca, n, _, rfl, st2, by omega, n1, by omega, fun p0 v0 H7 k7 st7 hv0 hp0 => ?_⟩
      walk_at "q"
      refine ⟨v0, p0, rfl, hv0, by omega, fun pv H8 s8 hp => ?_⟩
      have hn : num (num p0) = num p0 := num_num p0
      have hl : (num p0).length = n := by rw [num_len]; exact hp0
      generalize num p0 = p at *
      have st8 := st7.same s8
      have kp8 := kp.trans (k7.trans (Keep.of s8))
      have hm8 : Dp K H8 fv (dM t sh) := Dp.keep kp8 _ _ (Dp.same s06 _ _ hm)
      have he8 := Dp.keep kp8 _ _ he6
      have hpne : p ≠ [] := fun z => by rw [z] at hl; simp at hl; omega
      walk_at "q"
      refine ⟨dT p, _, hp, he8, (flat_dT p).shaped, (flat_dTT _).shaped, ?_⟩
      rw [any_dT]
      have mk : decide (p ∈ allKept t n L) = keptB t n L p := by
        cases hk : keptB t n L p with
        | true => exact decide_eq_true ((mem_allKept n1).mpr ⟨hn, hl, keptB_iff.mp hk⟩)
        | false => exact decide_eq_false fun z => by rw [keptB_iff.mpr ((mem_allKept n1).mp z).2.2] at hk; cases hk
      rw [mk]
      walk_at "q"
      refine ⟨pv, p, rfl, hp, hn, hpne, by omega, fun cv H9 s9 hc => ?_⟩
      have hcl := blks_cls hn
      rw [hl] at hcl
      walk_at "q"
      refine ⟨fv, cv, t, sh, n, L, _, rfl, Dp.same s9 _ _ hm8, F, hc, hcl, fun ds hds lub gv H10 s10 hg => ?_⟩
      have lub := sheet_lub hn hl lub
      walk_at "q"
      refine ⟨gv, n, ds, rfl, hg.dp, hds, by omega, fun tv H11 s11 ht => ?_⟩
      generalize tol n ds = c at *
      have cak : c ∈ allKept t n L := (mem_allKept n1).mpr ⟨lub.rgs, lub.len, lub.cl⟩
      have rc := rgs_rp lub.rgs lub.len (by omega)
      walk_at "q"
      refine ⟨by show 2 ≤ sizeLine; rw [sizeLine_eq]; decide, fun du ndu => ?_⟩
      have s12 : Same H11 (upd H11 du (.lst [.bl (keptB t n L p), tv])) := Same.new ndu
      have hdu : upd H11 du (.lst [.bl (keptB t n L p), tv]) du = some (.lst [.bl (keptB t n L p), tv]) := upd_same
      have s812 := s9.trans (s10.trans (s11.trans s12))
      generalize upd H11 du (.lst [.bl (keptB t n L p), tv]) = H12 at *
      have hm12 := Dp.same s812 _ _ hm8
      have hp12 := Dp.same s812 _ _ hp
      have ht12 := Dp.same s12 _ _ ht
      have he12 := Dp.same s812 _ _ he8
      walk_at "q"
      refine ⟨fv, pv, t, sh, n, L, p, rfl, hm12, F, hp12, hl, hn, fun H13 s13 => ?_⟩
      walk_at "q"
      refine ⟨fv, pv, t, sh, n, L, p, rfl, Dp.same s13 _ _ hm12, F, Dp.same s13 _ _ hp12, hl, hn, fun c1 hc1 a1 H14 s14 ha1 => ?_⟩
      obtain rfl := hc1.uniq lub
      walk_at "q"
      have s1214 := s13.trans s14
      refine ⟨fv, pv, t, sh, n, L, p, rfl, Dp.same s1214 _ _ hm12, F, Dp.same s1214 _ _ hp12, hl, hn, fun H15 s15 => ?_⟩
      walk_at "q"
      have s1215 := s1214.trans s15
      refine ⟨fv, pv, t, sh, n, L, p, rfl, Dp.same s1215 _ _ hm12, F, Dp.same s1215 _ _ hp12, hl, hn, fun c2 hc2 a2 H16 s16 ha2 => ?_⟩
      obtain rfl := hc2.uniq lub
      walk_at "q"
      refine ⟨by show 4 ≤ sizeLine; rw [sizeLine_eq]; decide, fun tl ntl => ?_⟩
      have s17 : Same H16 (upd H16 tl (.lst [.bl (keptB t n L p), .ref a1, .bl (keptB t n L p), .ref a2])) := Same.new ntl
      have htl : upd H16 tl (.lst [.bl (keptB t n L p), .ref a1, .bl (keptB t n L p), .ref a2]) tl = some (.lst [.bl (keptB t n L p), .ref a1, .bl (keptB t n L p), .ref a2]) := upd_same
      have s1217 := s1215.trans (s16.trans s17)
      have ha1' := (s15.trans (s16.trans s17)) _ _ ha1
      have ha2' := s17 _ _ ha2
      generalize upd H16 tl (.lst [.bl (keptB t n L p), .ref a1, .bl (keptB t n L p), .ref a2]) = H17 at *
      walk_at "q"
      walk_at "q"
      refine repr_of (d := .list [.bool (keptB t n L p), dT c2, .bool (keptB t n L p), dT c2]) (.lst (.of htl) (.cons (.bl _) (.cons (dp_of_row (.of ha1')) (.cons (.bl _) (.cons (dp_of_row (.of ha2')) .nil))))) ⟨_, rfl⟩ (four_rp rc) (by decide) (by decide) ?_
      walk_at "q"
      refine ⟨du, 2, _, rfl, rfl, s1217 _ _ hdu, by decide, by decide, by show 2 * 2 ≤ sizeLine; rw [sizeLine_eq]; decide, fun l3 nl3 => ?_⟩
      have s18 : Same H17 (upd H17 l3 (.lst (List.replicate (2 : Int).toNat [V.bl (keptB t n L p), tv]).flatten)) := Same.new nl3
      have hl3 : upd H17 l3 (.lst (List.replicate (2 : Int).toNat [V.bl (keptB t n L p), tv]).flatten) l3 = some (.lst [.bl (keptB t n L p), tv, .bl (keptB t n L p), tv]) := by rw [upd_same]; rfl
      have ht18 := Dp.same (s1217.trans s18) _ _ ht12
      walk_at "q"
      refine repr_of (d := .list [.bool (keptB t n L p), dT c2, .bool (keptB t n L p), dT c2]) (.lst (.of hl3) (.cons (.bl _) (.cons ht18 (.cons (.bl _) (.cons ht18 .nil))))) ⟨_, rfl⟩ (four_rp rc) (by decide) (by decide) ?_
      have s1218 := s1217.trans s18
      generalize upd H17 l3 (.lst (List.replicate (2 : Int).toNat [V.bl (keptB t n L p), tv]).flatten) = H18 at *
      walk_at "q"
      refine q_neS rfl ?_
      walk_at "q"
      refine ixL_of (i := 1) (ds := [.bool (keptB t n L p), dT c2]) (.lst (.of (s1218 _ _ hdu)) (.cons (.bl _) (.cons ht18 .nil))) rfl fun u hu => ?_
      walk_at "q"
      refine ⟨dT c2, _, hu, Dp.same s1218 _ _ he12, (flat_dT _).shaped, (flat_dTT _).shaped, ?_⟩
      rw [any_dT, decide_eq_true cak]
      walk_at "q"
      exact ⟨_, _, _, _, rfl, kp8.trans (Keep.of (s812.trans s1218)), (st8.same (s812.trans s1218)).up (by omega)⟩
    · obtain ⟨y5, y6, y7, y8, rfl, kp, st2⟩ := h
      have hm7 := Dp.keep kp _ _ (Dp.same s06 _ _ hm)
      have he7 := Dp.keep kp _ _ he6
      walk_at "q"
      refine ⟨n, rfl, by omega, by omega, for_it (walk_rg (n := n)) (fun a σ H1 => ∃ y7 y9 y10 y11, σ = [some (.ref d), some fv, some (nV n), some (.str (dM t sh).shown), some ev, y5, y6, y7, y8, y9, y10, y11, none] ∧ Same H' H1)
        ⟨_, _, _, _, rfl, Same.refl _⟩ (fun _ _ _ _ _ => trivial) (fun a x σ H1 H2 ha h y => ?_) (fun σ H1 h => ?_)⟩
      · obtain ⟨y7, y9, y10, y11, rfl, sm⟩ := h
        obtain ⟨rfl, rfl⟩ := y
        walk_at "q"
        refine ⟨n, rfl, by omega, by omega, for_it (walk_rg (n := n)) (fun b σ H1 => ∃ y7 y10 y11, σ = [some (.ref d), some fv, some (nV n), some (.str (dM t sh).shown), some ev, y5, y6, y7, y8, some (nV a), y10, y11, none] ∧ Same H' H1)
          ⟨_, _, _, rfl, sm⟩ (fun _ _ _ _ _ => trivial) (fun b x σ H1 H2 hb h y => ?_) (fun σ H1 h => ?_)⟩
        · obtain ⟨y7, y10, y11, rfl, sm⟩ := h
          obtain ⟨rfl, rfl⟩ := y
          walk_at "q"
          refine ⟨n, rfl, by omega, by omega, ?_⟩
          intro D nD
          refine lc_it (walk_rg (n := n)) (fun i H3 => Same H2 H3 ∧ ∃ z : List (List Nat × Addr), H3 D = some (.lst (z.map fun q => V.ref q.2)) ∧ z.map (·.1) = (List.range i).map (fun k => [k]) ∧ ∀ q ∈ z, q.2 ≠ D ∧ H3 q.2 = some (.lst (q.1.map nV))) ⟨Same.new nD, [], upd_same, rfl, fun q hq => absurd hq List.not_mem_nil⟩ (fun _ _ _ _ => trivial) (fun i x H3 H4 hi h y => ?_) (fun H3 h => ?_)
          · obtain ⟨s3, z, hD, hz, ho⟩ := h
            obtain ⟨rfl, rfl⟩ := y
            walk_at "q"
            refine ⟨rfl, ?_⟩
            walk_at "q"
            refine ⟨by show 1 ≤ sizeLine; rw [sizeLine_eq]; decide, fun l nl => ?_⟩
            have hlD : l ≠ D := fun e => by rw [e, hD] at nl; cases nl
            have sl := Same.new (o := .lst [nV i]) nl
            refine ⟨_, sl _ _ hD, ?_, Same.mut (s3.trans sl) nD, z ++ [([i], l)], by rw [upd_same, List.map_append]; rfl, by rw [List.map_append, hz, List.range_succ, List.map_append]; rfl, fun q hq => ?_⟩
            · have := congrArg List.length hz
              rw [List.length_map, List.length_map, List.length_range] at this
              rw [List.length_map, this, sizeLine_eq]
              omega
            · rcases List.mem_append.mp hq with hq | hq
              · exact ⟨(ho q hq).1, by rw [upd_ne (ho q hq).1]; exact sl _ _ (ho q hq).2⟩
              · rw [List.mem_singleton] at hq
                subst hq
                exact ⟨hlD, by rw [upd_ne hlD]; exact upd_same⟩
          · obtain ⟨s3, z, hD, hz, ho⟩ := h
            have hap : LL H3 (.ref D) (ones n) := ⟨D, z, rfl, hD, hz, fun q hq => (ho q hq).2⟩
            have sm3 := sm.trans s3
            walk_at "q"
            refine ⟨.ref D, n, ones n, a, b, rfl, hap, ones_cls n, by omega, fun js hjs gv H4 s4 hg => ?_⟩
            walk_at "q"
            refine ⟨fv, gv, t, sh, n, L, _, rfl, Dp.same (sm3.trans s4) _ _ hm7, F, hg, mg_cls (ones_cls n) ha hb hjs, fun ds hds lub cv H5 s5 hc => ?_⟩
            have lub := pair_lub ha hb hjs lub
            walk_at "q"
            refine ⟨cv, n, ds, rfl, hc.dp, hds, by omega, fun tv H6 s6 ht => ?_⟩
            generalize tol n ds = c at *
            have cak : c ∈ allKept t n L := (mem_allKept n1).mpr ⟨lub.rgs, lub.len, lub.cl⟩
            have rc := rgs_rp lub.rgs lub.len (by omega)
            have sm6 := sm3.trans (s4.trans (s5.trans s6))
            walk_at "q"
            refine ⟨fv, t, sh, n, L, a, b, rfl, Dp.same sm6 _ _ hm7, F, ha, hb, fun c1 hc1 a1 H7 s7 ha1 => ?_⟩
            obtain rfl := hc1.uniq lub
            walk_at "q"
            refine repr_of (dp_of_row (p := c1) (.of ha1)) ⟨_, rfl⟩ rc (by decide) (by decide) ?_
            walk_at "q"
            have ht7 := Dp.same s7 _ _ ht
            walk_at "q"
            refine repr_of ht7 (dpt_ref ht7) rc (by decide) (by decide) ?_
            walk_at "q"
            refine q_neS rfl ?_
            walk_at "q"
            refine ⟨dT c1, _, ht7, Dp.same (sm6.trans s7) _ _ he7, (flat_dT _).shaped, (flat_dTT _).shaped, ?_⟩
            rw [any_dT, decide_eq_true cak]
            walk_at "q"
            exact ⟨_, _, _, rfl, sm6.trans s7⟩
        · obtain ⟨y7, y10, y11, rfl, sm⟩ := h
          exact ⟨_, _, _, _, rfl, sm⟩
      · obtain ⟨y7, y9, y10, y11, rfl, sm⟩ := h
        have hm8 := Dp.same sm _ _ hm7
        walk_at "q"
        walk_at "q"
        refine repr_of hm8 (dpt_ref hm8) rF (by decide) (by decide) ?_
        walk_at "q"
        refine q_eqS rfl ?_
        exact q _ ((Keep.of s06).trans (kp.trans (Keep.of sm)))
end
end Kp
set_option Elab.async false
set_option linter.all false
set_option maxRecDepth 100000
set_option maxHeartbeats 4000000
namespace Kp
open PySem PySem.Spec PyProof.Rows L2
local macro_rules | `(tactic| walk_at "q") => `(tactic| repeat (with_reducible first
  | refine q_seq ?_ | refine q_asg ?_ | refine q_name ?_ | refine q_ret ?_ | refine q_drop ?_ | refine q_ifs ?_ | refine q_next ?_ | refine q_par ?_
  | refine q_var (by with_unfolding_all exact rfl) ?_ | refine q_c ?_ | refine q_op ?_ | refine q_un ?_ | refine q_cb ?_ | refine q_cons ?_ | refine q_nil ?_ | refine q_call ?_
  | refine q_test ?_ | refine q_B ?_ | refine q_not ?_ | refine q_and ?_ | refine q_or ?_ | refine q_andV ?_ | refine q_orV ?_ | refine q_notV ?_ | refine q_ifx ?_ | refine q_chain ?_
  | refine q_tup ?_ | refine q_lst ?_ | refine q_bm ?_ | refine q_bm0 ?_ | refine q_yes ?_ | refine q_bl ?_ | refine q_I0 ?_ | refine q_int ?_ | refine q_eqI ?_ | refine q_neI ?_
  | refine q_dsetd ?_ | refine q_dget ?_ | refine q_din ?_ | refine q_dnotin ?_ | refine q_dput ?_ | refine q_sl ?_ | refine q_nopart ?_ | refine q_part ?_ | refine q_exI ?_ | refine q_dnewK ?_
  | refine q_for ?_ | refine q_lc ?_ | refine q_iTup ?_ | refine q_iList ?_ | refine q_iEnumT ?_ | refine q_iEnum ?_ | refine q_iRng1 ?_ | refine q_iRng2 ?_ | refine q_lstRg ?_ | refine q_tupRg ?_
  | refine iteT ?_ | refine iteF ?_ | refine q_nt ?_ | refine q_nf ?_))
abbrev s_law_hand_right : Stmt := topS 53
theorem sc_law_hand_right : FnScope ["told", "due", "flips", "stays", "k"] [] (defScope s_law_hand_right) := ⟨rfl, rfl, rfl, by decide +kernel, rfl, by decide +kernel, by decide +kernel⟩
section
variable {P : Program} {w : World} {K : PySem.W.Frag} {mg : Str → Option Value} {base : Heap}
theorem ring_frm {n : Nat} (h1 : 1 ≤ n) (h8 : n ≤ 8) : Frm (ringT n) (List.replicate n 0) n 1 := by
  refine ⟨⟨by unfold ringT; rw [List.length_map, List.length_range], h1, h8, by decide, by decide, fun r hr => ?_, fun r hr x hx => ?_⟩, List.length_replicate, fun x hx => ?_⟩
  · obtain ⟨i, hi, rfl⟩ := List.mem_map.mp hr
    rfl
  · obtain ⟨i, hi, rfl⟩ := List.mem_map.mp hr
    rw [List.mem_singleton] at hx
    rw [hx]
    exact Nat.mod_lt _ (by omega)
  · rw [List.eq_of_mem_replicate hx]
    omega
theorem flip_frm : Frm flipT (List.replicate 6 0) 6 2 := by
  refine ⟨⟨by decide, by decide, by decide, by decide, by decide, by decide, by decide⟩, by decide, by decide⟩
theorem stay_frm : Frm stayT [0, 1, 2, 3, 4] 5 1 := by
  refine ⟨⟨by decide, by decide, by decide, by decide, by decide, by decide, by decide⟩, by decide, by decide⟩
theorem rep_rows (n : Nat) (p : List Nat) : (List.replicate n (p.map nV)).flatten = ((List.replicate n p).flatten).map nV := by
  induction n with
  | zero => rfl
  | succ n ih => rw [List.replicate_succ, List.flatten_cons, ih, List.replicate_succ, List.flatten_cons, List.map_append]
/-- (p) * n -/
theorem row_times {H : Hp} {Q : VK} {l : Addr} {p : List Nat} {n : Nat} (h : SqT K H l (p.map nV)) (hne : p ≠ []) (h1 : 1 ≤ n) (h2 : n ≤ 1000) (h3 : p.length ≤ 1000) (q : Ret K (dT (List.replicate n p).flatten) H Q) : rTimes K (.ref l) (.int (n : Int)) H Q := by
  refine times_of h (fun z => hne (List.map_eq_nil_iff.mp z)) h1 h2 (by rw [List.length_map]; exact h3) fun a H' ha hh => ?_
  rw [rep_rows] at ha
  refine q _ H' ?_ (dp_of_row ha)
  rcases hh with rfl | ⟨p, hp, rfl⟩
  · exact Same.refl _
  · exact Same.new hp
/-- a row written out -/
theorem row_new {H : Hp} {T : Addr} (p : List Nat) {xs : List V} (e : xs = p.map nV) : Dp K (upd H T (.tup xs)) (.ref T) (dT p) := dp_of_row (.of (by rw [upd_same, e]))
def spHand : Sp := fun vs H Q _ => vs = [] ∧ ∀ H', Same H H' → Q (.bl true) H'
theorem ok_law_hand_right (B : Bn K mg) (Ckept_partings : Cal P w K mg base 6 "kept_partings" ["machine"] (spKeptP K)) (Cis_kept : Cal P w K mg base 6 "is_kept" ["machine", "parting"] (spKeptBy K)) (Cleast_kept : Cal P w K mg base 6 "least_kept" ["machine", "parting"] (spOver K))
    (Cdrawn : Cal P w K mg base 5 "drawn" ["machine", "one", "far"] (spDrawnIn K)) (Claw_ring : Cal P w K mg base 1 "_law_ring" ["many"] (spRing K)) (D : Def K mg "_law_hand_right" s_law_hand_right []) : Cal P w K mg base 7 "_law_hand_right" [] spHand := by
  refine D.cal sc_law_hand_right (fun vs H Q E h => ?_) (fun f cdv A outer s H vs Q E hr h => ?_)
  · obtain ⟨rfl, _⟩ := h
    rfl
  · obtain ⟨rfl, q⟩ := h
    have two : ∀ {x : Nat}, x ≤ 1000 → x ≤ sizeLine := fun h => by rw [sizeLine_eq]; omega
    refine ⟨_, (pss_cons (ps_set (i := 0) sc_law_hand_right.nd rfl (.inl rfl) (pe_lst (pa_cons (e_call Ckept_partings (hr.mono (by decide)) (pa_cons (e_call Claw_ring (hr.mono (by decide)) (pa_cons pe_int pa_nil)) pa_nil)) (pa_cons (e_call Ckept_partings (hr.mono (by decide)) (pa_cons (e_call Claw_ring (hr.mono (by decide)) (pa_cons pe_int pa_nil)) pa_nil)) (pa_cons (e_call Ckept_partings (hr.mono (by decide)) (pa_cons (e_call Claw_ring (hr.mono (by decide)) (pa_cons pe_int pa_nil)) pa_nil)) pa_nil)))))
      (pss_cons (ps_set (i := 1) sc_law_hand_right.nd rfl (.inl rfl) (pe_tup (pa_cons (pe_op (o_repT B) (pe_tup (pa_cons pe_int pa_nil)) pe_int) (pa_cons (pe_op (o_repT B) (pe_tup (pa_cons pe_int (pa_cons pe_int pa_nil))) pe_int) (pa_cons (pe_op (o_repT B) (pe_tup (pa_cons pe_int (pa_cons pe_int (pa_cons pe_int (pa_cons pe_int pa_nil))))) pe_int) (pa_cons (pe_tup (pa_cons pe_int (pa_cons pe_int (pa_cons pe_int (pa_cons pe_int (pa_cons pe_int (pa_cons pe_int (pa_cons pe_int (pa_cons pe_int pa_nil))))))))) pa_nil))))))
      (pss_cons (ps_if (pt_cmpR (o_neD B hr) (pv 0) (pe_lst (pa_cons (pv 1) (pa_cons (pe_tup (pa_cons (pe_op (o_repT B) (pe_tup (pa_cons pe_int pa_nil)) pe_int) (pa_cons (pe_tup (pa_cons pe_int (pa_cons pe_int (pa_cons pe_int (pa_cons pe_int (pa_cons pe_int (pa_cons pe_int (pa_cons pe_int pa_nil)))))))) pa_nil))) (pa_cons (pe_tup (pa_cons (pe_tup (pa_cons pe_int pa_nil)) pa_nil)) pa_nil)))) (nomark _)) (pss_one (ps_ret pe_bl)) pss_nil)
      (pss_cons (ps_set (i := 2) sc_law_hand_right.nd rfl (.inl rfl) (pe_tup (pa_cons (pe_tup (pa_cons pe_int (pa_cons pe_int pa_nil))) (pa_cons (pe_tup (pa_cons pe_int (pa_cons pe_int pa_nil))) (pa_cons (pe_tup (pa_cons pe_int (pa_cons pe_int pa_nil))) (pa_cons (pe_tup (pa_cons pe_int (pa_cons pe_int pa_nil))) (pa_cons (pe_tup (pa_cons pe_int (pa_cons pe_int pa_nil))) (pa_cons (pe_tup (pa_cons pe_int (pa_cons pe_int pa_nil))) pa_nil))))))))
      (pss_cons (ps_set (i := 0) sc_law_hand_right.nd rfl (.inl rfl) (e_call Ckept_partings (hr.mono (by decide)) (pa_cons (pe_tup (pa_cons (pv 2) (pa_cons (pe_op (o_repT B) (pe_tup (pa_cons pe_int pa_nil)) pe_int) pa_nil))) pa_nil)))
      (pss_cons (ps_set (i := 1) sc_law_hand_right.nd rfl (.inl rfl) (pe_tup (pa_cons (pe_op (o_repT B) (pe_tup (pa_cons pe_int pa_nil)) pe_int) (pa_cons (pe_tup (pa_cons pe_int (pa_cons pe_int (pa_cons pe_int (pa_cons pe_int (pa_cons pe_int (pa_cons pe_int pa_nil))))))) (pa_cons (pe_tup (pa_cons pe_int (pa_cons pe_int (pa_cons pe_int (pa_cons pe_int (pa_cons pe_int (pa_cons pe_int pa_nil))))))) (pa_cons (pe_tup (pa_cons pe_int (pa_cons pe_int (pa_cons pe_int (pa_cons pe_int (pa_cons pe_int (pa_cons pe_int pa_nil))))))) (pa_cons (pe_tup (pa_cons pe_int (pa_cons pe_int (pa_cons pe_int (pa_cons pe_int (pa_cons pe_int (pa_cons pe_int pa_nil))))))) pa_nil)))))))
      (pss_cons (ps_if (pt_cmpR (o_neD B hr) (pv 0) (pe_op (o_catA B) (pv 1) (pe_tup (pa_cons (pe_tup (pa_cons pe_int (pa_cons pe_int (pa_cons pe_int (pa_cons pe_int (pa_cons pe_int (pa_cons pe_int pa_nil))))))) pa_nil))) (nomark _)) (pss_one (ps_ret pe_bl)) pss_nil)
      (pss_cons (ps_set (i := 3) sc_law_hand_right.nd rfl (.inl rfl) (pe_tup (pa_cons (e_tuple B (pe_lc (own := [("k", 4)]) (g := gName 4) (tt := tYes) rfl sc_law_hand_right.nd (i_range1 B pe_int) (blkOk_by (by kernel_rfl)) (fun _ _ _ _ _ => (pg_name (i := 4) sc_law_hand_right.nd rfl (Or.inl rfl))) (fun _ _ _ _ _ => pts_nil) (fun _ _ _ _ _ => (pe_tup (pa_cons (pv 4) pa_nil))))) (pa_cons (pe_tup (pa_cons pe_int (pa_cons pe_int (pa_cons pe_int (pa_cons pe_int (pa_cons pe_int pa_nil)))))) pa_nil))))
      (pss_cons (ps_set (i := 0) sc_law_hand_right.nd rfl (.inl rfl) (pe_lst (pa_cons (e_len B (e_call Ckept_partings (hr.mono (by decide)) (pa_cons (pv 3) pa_nil))) (pa_cons (e_call Cdrawn (hr.mono (by decide)) (pa_cons (pv 3) (pa_cons pe_int (pa_cons pe_int pa_nil)))) (pa_cons (e_call Cleast_kept (hr.mono (by decide)) (pa_cons (pv 3) (pa_cons (pe_tup (pa_cons pe_int (pa_cons pe_int (pa_cons pe_int (pa_cons pe_int (pa_cons pe_int pa_nil)))))) pa_nil))) pa_nil)))))
      (pss_cons (ps_expr (e_bm B PySem.F.plainAttrs_list PySem.F.slot_list_append PySem.F.type_list_append mt_append (pv 0) (pa_cons (e_call Cis_kept (hr.mono (by decide)) (pa_cons (pv 3) (pa_cons (pe_op (o_repT B) (pe_tup (pa_cons pe_int pa_nil)) pe_int) pa_nil))) pa_nil)))
      (pss_one (ps_ret (pe_and (pe_cmpR (o_eqD B hr) (pv 0) (pe_lst (pa_cons pe_int (pa_cons (pe_tup (pa_cons pe_int (pa_cons pe_int (pa_cons pe_int (pa_cons pe_int (pa_cons pe_int pa_nil)))))) (pa_cons (pe_tup (pa_cons pe_int (pa_cons pe_int (pa_cons pe_int (pa_cons pe_int (pa_cons pe_int pa_nil)))))) (pa_cons pe_bl pa_nil))))) (nomark _)) (pe_one (pe_cmpR (o_eqD B hr) (e_call Cdrawn (hr.mono (by decide)) (pa_cons (e_call Claw_ring (hr.mono (by decide)) (pa_cons pe_int pa_nil)) (pa_cons pe_int (pa_cons pe_int pa_nil)))) (pe_op (o_repT B) (pe_tup (pa_cons pe_int (pa_cons pe_int (pa_cons pe_int (pa_cons pe_int pa_nil))))) pe_int) (nomark _)))))))))))))))), ?_⟩
    walk_at "q"
    refine ⟨8, rfl, by decide, by decide, fun m8 H1 s1 hm8 => ?_⟩
    walk_at "q"
    refine ⟨m8, _, _, 8, 1, rfl, hm8, ring_frm (by decide) (by decide), fun v8 H2 s2 h8 => ?_⟩
    rw [ak8] at h8
    walk_at "q"
    refine ⟨7, rfl, by decide, by decide, fun m7 H3 s3 hm7 => ?_⟩
    walk_at "q"
    refine ⟨m7, _, _, 7, 1, rfl, hm7, ring_frm (by decide) (by decide), fun v7 H4 s4 h7 => ?_⟩
    rw [ak7] at h7
    walk_at "q"
    refine ⟨1, rfl, by decide, by decide, fun m1 H5 s5 hm1 => ?_⟩
    walk_at "q"
    refine ⟨m1, _, _, 1, 1, rfl, hm1, ring_frm (by decide) (by decide), fun v1 H6 s6 h1 => ?_⟩
    rw [ak1] at h1
    walk_at "q"
    refine ⟨two (by show 3 ≤ 1000; decide), fun tl ntl => ?_⟩
    have hT : Dp K (upd H6 tl (.lst [v8, v7, v1])) (.ref tl) (.list [dTT a8, dTT [[0, 0, 0, 0, 0, 0, 0], [0, 1, 2, 3, 4, 5, 6]], dTT [[0]]]) :=
      dp_new_lst (.cons (Dp.same (s3.trans (s4.trans (s5.trans s6))) _ _ h8) (.cons (Dp.same (s5.trans s6) _ _ h7) (.cons h1 .nil))) ntl
    have s07 : Same H (upd H6 tl (.lst [v8, v7, v1])) := ((s1.trans s2).trans (s3.trans s4)).trans ((s5.trans s6).trans (Same.new ntl))
    walk_at "q"
    generalize upd H6 tl (.lst [v8, v7, v1]) = H7 at *
    refine ⟨two (by show 1 ≤ 1000; decide), fun T1 n1 => ?_⟩
    walk_at "q"
    refine row_times (p := [0]) (n := 8) (.of (by rw [upd_same]; rfl)) (by simp) (by decide) (by decide) (by simp) fun v1 G1 g1 d1 => ?_
    have d1 : Dp K G1 v1 (dT [0, 0, 0, 0, 0, 0, 0, 0]) := d1
    have s1 : Same H7 G1 := (Same.new n1).trans g1
    clear g1 n1
    walk_at "q"
    refine ⟨two (by show 2 ≤ 1000; decide), fun T2 n2 => ?_⟩
    walk_at "q"
    refine row_times (p := [0, 1]) (n := 4) (.of (by rw [upd_same]; rfl)) (by simp) (by decide) (by decide) (by simp) fun v2 G2 g2 d2 => ?_
    have d2 : Dp K G2 v2 (dT [0, 1, 0, 1, 0, 1, 0, 1]) := d2
    have s2 : Same G1 G2 := (Same.new n2).trans g2
    clear g2 n2
    walk_at "q"
    refine ⟨two (by show 4 ≤ 1000; decide), fun T3 n3 => ?_⟩
    walk_at "q"
    refine row_times (p := [0, 1, 2, 3]) (n := 2) (.of (by rw [upd_same]; rfl)) (by simp) (by decide) (by decide) (by simp) fun v3 G3 g3 d3 => ?_
    have d3 : Dp K G3 v3 (dT [0, 1, 2, 3, 0, 1, 2, 3]) := d3
    have s3 : Same G2 G3 := (Same.new n3).trans g3
    clear g3 n3
    walk_at "q"
    refine ⟨two (by show 8 ≤ 1000; decide), fun T4 n4 => ?_⟩
    have d4 : Dp K (upd G3 T4 (.tup [V.int 0, V.int 1, V.int 2, V.int 3, V.int 4, V.int 5, V.int 6, V.int 7])) (.ref T4) (dT [0, 1, 2, 3, 4, 5, 6, 7]) := row_new [0, 1, 2, 3, 4, 5, 6, 7] rfl
    have s4 : Same G3 (upd G3 T4 (.tup [V.int 0, V.int 1, V.int 2, V.int 3, V.int 4, V.int 5, V.int 6, V.int 7])) := Same.new n4
    walk_at "q"
    generalize upd G3 T4 (.tup [V.int 0, V.int 1, V.int 2, V.int 3, V.int 4, V.int 5, V.int 6, V.int 7]) = G4 at *
    refine ⟨two (by show 4 ≤ 1000; decide), fun T5 n5 => ?_⟩
    have s5 : Same G4 (upd G4 T5 (.tup [v1, v2, v3, .ref T4])) := Same.new n5
    have d5 : Dp K (upd G4 T5 (.tup [v1, v2, v3, .ref T4])) (.ref T5) (dTT a8) := dp_new_tup (.cons (Dp.same (Same.trans s2 (Same.trans s3 s4)) _ _ d1) (.cons (Dp.same (Same.trans s3 s4) _ _ d2) (.cons (Dp.same s4 _ _ d3) (.cons (Dp.same (Same.refl _) _ _ d4) .nil)))) n5
    walk_at "q"
    generalize upd G4 T5 (.tup [v1, v2, v3, .ref T4]) = G5 at *
    refine ⟨two (by show 1 ≤ 1000; decide), fun T6 n6 => ?_⟩
    walk_at "q"
    refine row_times (p := [0]) (n := 7) (.of (by rw [upd_same]; rfl)) (by simp) (by decide) (by decide) (by simp) fun v6 G6 g6 d6 => ?_
    have d6 : Dp K G6 v6 (dT [0, 0, 0, 0, 0, 0, 0]) := d6
    have s6 : Same G5 G6 := (Same.new n6).trans g6
    clear g6 n6
    walk_at "q"
    refine ⟨two (by show 7 ≤ 1000; decide), fun T7 n7 => ?_⟩
    have d7 : Dp K (upd G6 T7 (.tup [V.int 0, V.int 1, V.int 2, V.int 3, V.int 4, V.int 5, V.int 6])) (.ref T7) (dT [0, 1, 2, 3, 4, 5, 6]) := row_new [0, 1, 2, 3, 4, 5, 6] rfl
    have s7 : Same G6 (upd G6 T7 (.tup [V.int 0, V.int 1, V.int 2, V.int 3, V.int 4, V.int 5, V.int 6])) := Same.new n7
    walk_at "q"
    generalize upd G6 T7 (.tup [V.int 0, V.int 1, V.int 2, V.int 3, V.int 4, V.int 5, V.int 6]) = G7 at *
    refine ⟨two (by show 2 ≤ 1000; decide), fun T8 n8 => ?_⟩
    have s8 : Same G7 (upd G7 T8 (.tup [v6, .ref T7])) := Same.new n8
    have d8 : Dp K (upd G7 T8 (.tup [v6, .ref T7])) (.ref T8) (dTT [[0, 0, 0, 0, 0, 0, 0], [0, 1, 2, 3, 4, 5, 6]]) := dp_new_tup (.cons (Dp.same s7 _ _ d6) (.cons (Dp.same (Same.refl _) _ _ d7) .nil)) n8
    walk_at "q"
    generalize upd G7 T8 (.tup [v6, .ref T7]) = G8 at *
    refine ⟨two (by show 1 ≤ 1000; decide), fun T9 n9 => ?_⟩
    have d9 : Dp K (upd G8 T9 (.tup [V.int 0])) (.ref T9) (dT [0]) := row_new [0] rfl
    have s9 : Same G8 (upd G8 T9 (.tup [V.int 0])) := Same.new n9
    walk_at "q"
    generalize upd G8 T9 (.tup [V.int 0]) = G9 at *
    refine ⟨two (by show 1 ≤ 1000; decide), fun T10 n10 => ?_⟩
    have s10 : Same G9 (upd G9 T10 (.tup [.ref T9])) := Same.new n10
    have d10 : Dp K (upd G9 T10 (.tup [.ref T9])) (.ref T10) (dTT [[0]]) := dp_new_tup (.cons (Dp.same (Same.refl _) _ _ d9) .nil) n10
    walk_at "q"
    generalize upd G9 T10 (.tup [.ref T9]) = G10 at *
    refine ⟨two (by show 3 ≤ 1000; decide), fun T11 n11 => ?_⟩
    have s11 : Same G10 (upd G10 T11 (.lst [.ref T5, .ref T8, .ref T10])) := Same.new n11
    have d11 : Dp K (upd G10 T11 (.lst [.ref T5, .ref T8, .ref T10])) (.ref T11) (.list [dTT a8, dTT [[0, 0, 0, 0, 0, 0, 0], [0, 1, 2, 3, 4, 5, 6]], dTT [[0]]]) := dp_new_lst (.cons (Dp.same (Same.trans s6 (Same.trans s7 (Same.trans s8 (Same.trans s9 s10)))) _ _ d5) (.cons (Dp.same (Same.trans s9 s10) _ _ d8) (.cons (Dp.same (Same.refl _) _ _ d10) .nil))) n11
    walk_at "q"
    generalize upd G10 T11 (.lst [.ref T5, .ref T8, .ref T10]) = G11 at *
    refine ⟨.list [dTT a8, dTT [[0, 0, 0, 0, 0, 0, 0], [0, 1, 2, 3, 4, 5, 6]], dTT [[0]]], .list [dTT a8, dTT [[0, 0, 0, 0, 0, 0, 0], [0, 1, 2, 3, 4, 5, 6]], dTT [[0]]], (Dp.same (Same.trans s1 (Same.trans s2 (Same.trans s3 (Same.trans s4 (Same.trans s5 (Same.trans s6 (Same.trans s7 (Same.trans s8 (Same.trans s9 (Same.trans s10 s11)))))))))) _ _ hT), (Dp.same (Same.refl _) _ _ d11), by decide +kernel, by decide +kernel, ?_⟩
    rw [show PyData.eqv (.list [dTT a8, dTT [[0, 0, 0, 0, 0, 0, 0], [0, 1, 2, 3, 4, 5, 6]], dTT [[0]]]) (.list [dTT a8, dTT [[0, 0, 0, 0, 0, 0, 0], [0, 1, 2, 3, 4, 5, 6]], dTT [[0]]]) = true by decide +kernel]
    walk_at "q"
    refine ⟨two (by show 2 ≤ 1000; decide), fun T12 n12 => ?_⟩
    have d12 : Dp K (upd G11 T12 (.tup [V.int 1, V.int 3])) (.ref T12) (dT [1, 3]) := row_new [1, 3] rfl
    have s12 : Same G11 (upd G11 T12 (.tup [V.int 1, V.int 3])) := Same.new n12
    walk_at "q"
    generalize upd G11 T12 (.tup [V.int 1, V.int 3]) = G12 at *
    refine ⟨two (by show 2 ≤ 1000; decide), fun T13 n13 => ?_⟩
    have d13 : Dp K (upd G12 T13 (.tup [V.int 2, V.int 5])) (.ref T13) (dT [2, 5]) := row_new [2, 5] rfl
    have s13 : Same G12 (upd G12 T13 (.tup [V.int 2, V.int 5])) := Same.new n13
    walk_at "q"
    generalize upd G12 T13 (.tup [V.int 2, V.int 5]) = G13 at *
    refine ⟨two (by show 2 ≤ 1000; decide), fun T14 n14 => ?_⟩
    have d14 : Dp K (upd G13 T14 (.tup [V.int 0, V.int 4])) (.ref T14) (dT [0, 4]) := row_new [0, 4] rfl
    have s14 : Same G13 (upd G13 T14 (.tup [V.int 0, V.int 4])) := Same.new n14
    walk_at "q"
    generalize upd G13 T14 (.tup [V.int 0, V.int 4]) = G14 at *
    refine ⟨two (by show 2 ≤ 1000; decide), fun T15 n15 => ?_⟩
    have d15 : Dp K (upd G14 T15 (.tup [V.int 4, V.int 0])) (.ref T15) (dT [4, 0]) := row_new [4, 0] rfl
    have s15 : Same G14 (upd G14 T15 (.tup [V.int 4, V.int 0])) := Same.new n15
    walk_at "q"
    generalize upd G14 T15 (.tup [V.int 4, V.int 0]) = G15 at *
    refine ⟨two (by show 2 ≤ 1000; decide), fun T16 n16 => ?_⟩
    have d16 : Dp K (upd G15 T16 (.tup [V.int 5, V.int 2])) (.ref T16) (dT [5, 2]) := row_new [5, 2] rfl
    have s16 : Same G15 (upd G15 T16 (.tup [V.int 5, V.int 2])) := Same.new n16
    walk_at "q"
    generalize upd G15 T16 (.tup [V.int 5, V.int 2]) = G16 at *
    refine ⟨two (by show 2 ≤ 1000; decide), fun T17 n17 => ?_⟩
    have d17 : Dp K (upd G16 T17 (.tup [V.int 3, V.int 1])) (.ref T17) (dT [3, 1]) := row_new [3, 1] rfl
    have s17 : Same G16 (upd G16 T17 (.tup [V.int 3, V.int 1])) := Same.new n17
    walk_at "q"
    generalize upd G16 T17 (.tup [V.int 3, V.int 1]) = G17 at *
    refine ⟨two (by show 6 ≤ 1000; decide), fun T18 n18 => ?_⟩
    have s18 : Same G17 (upd G17 T18 (.tup [.ref T12, .ref T13, .ref T14, .ref T15, .ref T16, .ref T17])) := Same.new n18
    have d18 : Dp K (upd G17 T18 (.tup [.ref T12, .ref T13, .ref T14, .ref T15, .ref T16, .ref T17])) (.ref T18) (dTT flipT) := dp_new_tup (.cons (Dp.same (Same.trans s13 (Same.trans s14 (Same.trans s15 (Same.trans s16 s17)))) _ _ d12) (.cons (Dp.same (Same.trans s14 (Same.trans s15 (Same.trans s16 s17))) _ _ d13) (.cons (Dp.same (Same.trans s15 (Same.trans s16 s17)) _ _ d14) (.cons (Dp.same (Same.trans s16 s17) _ _ d15) (.cons (Dp.same s17 _ _ d16) (.cons (Dp.same (Same.refl _) _ _ d17) .nil)))))) n18
    walk_at "q"
    generalize upd G17 T18 (.tup [.ref T12, .ref T13, .ref T14, .ref T15, .ref T16, .ref T17]) = G18 at *
    refine ⟨two (by show 1 ≤ 1000; decide), fun T19 n19 => ?_⟩
    walk_at "q"
    refine row_times (p := [0]) (n := 6) (.of (by rw [upd_same]; rfl)) (by simp) (by decide) (by decide) (by simp) fun v19 G19 g19 d19 => ?_
    have d19 : Dp K G19 v19 (dT [0, 0, 0, 0, 0, 0]) := d19
    have s19 : Same G18 G19 := (Same.new n19).trans g19
    clear g19 n19
    walk_at "q"
    refine ⟨two (by show 2 ≤ 1000; decide), fun T20 n20 => ?_⟩
    have s20 : Same G19 (upd G19 T20 (.tup [.ref T18, v19])) := Same.new n20
    have d20 : Dp K (upd G19 T20 (.tup [.ref T18, v19])) (.ref T20) (dM flipT (List.replicate 6 0)) := dp_new_tup (.cons (Dp.same s19 _ _ d18) (.cons (Dp.same (Same.refl _) _ _ d19) .nil)) n20
    walk_at "q"
    generalize upd G19 T20 (.tup [.ref T18, v19]) = G20 at *
    refine ⟨.ref T20, _, _, 6, 2, rfl, (Dp.same (Same.refl _) _ _ d20), flip_frm, fun vf Hf sf hf => ?_⟩
    rw [ak6] at hf
    walk_at "q"
    refine ⟨two (by show 1 ≤ 1000; decide), fun T21 n21 => ?_⟩
    walk_at "q"
    refine row_times (p := [0]) (n := 6) (.of (by rw [upd_same]; rfl)) (by simp) (by decide) (by decide) (by simp) fun v21 G21 g21 d21 => ?_
    have d21 : Dp K G21 v21 (dT [0, 0, 0, 0, 0, 0]) := d21
    have s21 : Same Hf G21 := (Same.new n21).trans g21
    clear g21 n21
    walk_at "q"
    refine ⟨two (by show 6 ≤ 1000; decide), fun T22 n22 => ?_⟩
    have d22 : Dp K (upd G21 T22 (.tup [V.int 0, V.int 0, V.int 0, V.int 1, V.int 1, V.int 1])) (.ref T22) (dT [0, 0, 0, 1, 1, 1]) := row_new [0, 0, 0, 1, 1, 1] rfl
    have s22 : Same G21 (upd G21 T22 (.tup [V.int 0, V.int 0, V.int 0, V.int 1, V.int 1, V.int 1])) := Same.new n22
    walk_at "q"
    generalize upd G21 T22 (.tup [V.int 0, V.int 0, V.int 0, V.int 1, V.int 1, V.int 1]) = G22 at *
    refine ⟨two (by show 6 ≤ 1000; decide), fun T23 n23 => ?_⟩
    have d23 : Dp K (upd G22 T23 (.tup [V.int 0, V.int 1, V.int 2, V.int 0, V.int 1, V.int 2])) (.ref T23) (dT [0, 1, 2, 0, 1, 2]) := row_new [0, 1, 2, 0, 1, 2] rfl
    have s23 : Same G22 (upd G22 T23 (.tup [V.int 0, V.int 1, V.int 2, V.int 0, V.int 1, V.int 2])) := Same.new n23
    walk_at "q"
    generalize upd G22 T23 (.tup [V.int 0, V.int 1, V.int 2, V.int 0, V.int 1, V.int 2]) = G23 at *
    refine ⟨two (by show 6 ≤ 1000; decide), fun T24 n24 => ?_⟩
    have d24 : Dp K (upd G23 T24 (.tup [V.int 0, V.int 1, V.int 2, V.int 1, V.int 2, V.int 0])) (.ref T24) (dT [0, 1, 2, 1, 2, 0]) := row_new [0, 1, 2, 1, 2, 0] rfl
    have s24 : Same G23 (upd G23 T24 (.tup [V.int 0, V.int 1, V.int 2, V.int 1, V.int 2, V.int 0])) := Same.new n24
    walk_at "q"
    generalize upd G23 T24 (.tup [V.int 0, V.int 1, V.int 2, V.int 1, V.int 2, V.int 0]) = G24 at *
    refine ⟨two (by show 6 ≤ 1000; decide), fun T25 n25 => ?_⟩
    have d25 : Dp K (upd G24 T25 (.tup [V.int 0, V.int 1, V.int 2, V.int 2, V.int 0, V.int 1])) (.ref T25) (dT [0, 1, 2, 2, 0, 1]) := row_new [0, 1, 2, 2, 0, 1] rfl
    have s25 : Same G24 (upd G24 T25 (.tup [V.int 0, V.int 1, V.int 2, V.int 2, V.int 0, V.int 1])) := Same.new n25
    walk_at "q"
    generalize upd G24 T25 (.tup [V.int 0, V.int 1, V.int 2, V.int 2, V.int 0, V.int 1]) = G25 at *
    refine ⟨two (by show 5 ≤ 1000; decide), fun T26 n26 => ?_⟩
    have s26 : Same G25 (upd G25 T26 (.tup [v21, .ref T22, .ref T23, .ref T24, .ref T25])) := Same.new n26
    have d26 : Dp K (upd G25 T26 (.tup [v21, .ref T22, .ref T23, .ref T24, .ref T25])) (.ref T26) (dTT [[0, 0, 0, 0, 0, 0], [0, 0, 0, 1, 1, 1], [0, 1, 2, 0, 1, 2], [0, 1, 2, 1, 2, 0], [0, 1, 2, 2, 0, 1]]) := dp_new_tup (.cons (Dp.same (Same.trans s22 (Same.trans s23 (Same.trans s24 s25))) _ _ d21) (.cons (Dp.same (Same.trans s23 (Same.trans s24 s25)) _ _ d22) (.cons (Dp.same (Same.trans s24 s25) _ _ d23) (.cons (Dp.same s25 _ _ d24) (.cons (Dp.same (Same.refl _) _ _ d25) .nil))))) n26
    walk_at "q"
    generalize upd G25 T26 (.tup [v21, .ref T22, .ref T23, .ref T24, .ref T25]) = G26 at *
    refine ⟨two (by show 6 ≤ 1000; decide), fun T27 n27 => ?_⟩
    have d27 : Dp K (upd G26 T27 (.tup [V.int 0, V.int 1, V.int 2, V.int 3, V.int 4, V.int 5])) (.ref T27) (dT [0, 1, 2, 3, 4, 5]) := row_new [0, 1, 2, 3, 4, 5] rfl
    have s27 : Same G26 (upd G26 T27 (.tup [V.int 0, V.int 1, V.int 2, V.int 3, V.int 4, V.int 5])) := Same.new n27
    walk_at "q"
    generalize upd G26 T27 (.tup [V.int 0, V.int 1, V.int 2, V.int 3, V.int 4, V.int 5]) = G27 at *
    refine ⟨two (by show 1 ≤ 1000; decide), fun T28 n28 => ?_⟩
    have s28 : Same G27 (upd G27 T28 (.tup [.ref T27])) := Same.new n28
    have d28 : Dp K (upd G27 T28 (.tup [.ref T27])) (.ref T28) (dTT [[0, 1, 2, 3, 4, 5]]) := dp_new_tup (.cons (Dp.same (Same.refl _) _ _ d27) .nil) n28
    walk_at "q"
    generalize upd G27 T28 (.tup [.ref T27]) = G28 at *
    obtain ⟨da, dx, e1, dsq, dall⟩ := dp_tup (Dp.same (Same.trans s27 s28) _ _ d26)
    obtain ⟨ta, tx, e2, tsq, tall⟩ := dp_tup (Dp.same (Same.refl _) _ _ d28)
    have dl := dpa_len dall
    have tl6 := dpa_len tall
    refine ⟨da, ta, dx, tx, e1, e2, dsq, tsq, by rw [dl, tl6]; exact two (by decide), fun z => (by rw [z] at dl; cases dl), fun _ z => (by rw [z] at tl6; cases tl6), fun _ _ p6 np6 => ?_⟩
    have s6n : Same G28 (upd G28 p6 (.tup (dx ++ tx))) := Same.new np6
    have d6n : Dp K (upd G28 p6 (.tup (dx ++ tx))) (.ref p6) (dTT a6) := dp_new_tup (dpa_app dall tall) np6
    generalize upd G28 p6 (.tup (dx ++ tx)) = G6n at *
    refine ⟨dTT a6, dTT a6, (Dp.same (Same.trans s21 (Same.trans s22 (Same.trans s23 (Same.trans s24 (Same.trans s25 (Same.trans s26 (Same.trans s27 (Same.trans s28 s6n)))))))) _ _ hf), d6n, by decide +kernel, by decide +kernel, ?_⟩
    rw [show PyData.eqv (dTT a6) (dTT a6) = true by decide +kernel]
    walk_at "q"
    refine ⟨5, rfl, by decide, by decide, fun D nD => lcD (hr_same K) (walk_rg (n := 5)) (fun k => some (dT [k])) nD (by decide) (fun _ _ => trivial) (fun k x H5 H6 Q1 Q0 acc hk sq5 hD y k1 k0 => ?_) (fun H5 xs sq5 hx hda _ => ?_)⟩
    · obtain ⟨rfl, rfl⟩ := y
      walk_at "q"
      refine ⟨rfl, ?_⟩
      walk_at "q"
      refine ⟨two (by show 1 ≤ 1000; decide), fun T nT => k1 _ _ _ (Same.new nT) rfl (ap_row (row_new [k] rfl) (by rw [upd_ne]; exact hD; rintro rfl; rw [hD] at nT; cases nT))⟩
    walk_at "q"
    rw [fm_map] at hda
    have hda : DpAll K H5 xs (stayT.map dT) := hda
    refine tup_of hx hda fun vt Ht st ht => ?_
    have sS : Same G6n Ht := sq5.trans st
    walk_at "q"
    refine ⟨two (by show 5 ≤ 1000; decide), fun T29 n29 => ?_⟩
    have d29 : Dp K (upd Ht T29 (.tup [V.int 0, V.int 1, V.int 2, V.int 3, V.int 4])) (.ref T29) (dT [0, 1, 2, 3, 4]) := row_new [0, 1, 2, 3, 4] rfl
    have s29 : Same Ht (upd Ht T29 (.tup [V.int 0, V.int 1, V.int 2, V.int 3, V.int 4])) := Same.new n29
    walk_at "q"
    generalize upd Ht T29 (.tup [V.int 0, V.int 1, V.int 2, V.int 3, V.int 4]) = G29 at *
    refine ⟨two (by show 2 ≤ 1000; decide), fun T30 n30 => ?_⟩
    have s30 : Same G29 (upd G29 T30 (.tup [vt, .ref T29])) := Same.new n30
    have d30 : Dp K (upd G29 T30 (.tup [vt, .ref T29])) (.ref T30) (dM stayT [0, 1, 2, 3, 4]) := dp_new_tup (.cons (Dp.same s29 _ _ ht) (.cons (Dp.same (Same.refl _) _ _ d29) .nil)) n30
    walk_at "q"
    generalize upd G29 T30 (.tup [vt, .ref T29]) = G30 at *
    refine ⟨.ref T30, _, _, 5, 1, rfl, (Dp.same (Same.refl _) _ _ d30), stay_frm, fun vs5 Hs ss hs5 => ?_⟩
    walk_at "q"
    refine lenT_of hs5 ?_
    rw [List.length_map, ak5]
    walk_at "q"
    refine ⟨.ref T30, _, _, 5, 1, 1, 3, rfl, (Dp.same ss _ _ d30), stay_frm, by decide, by decide, fun c hc ad Hd sd hd => ?_⟩
    obtain rfl := draw5 hc
    walk_at "q"
    refine ⟨two (by show 5 ≤ 1000; decide), fun T31 n31 => ?_⟩
    have d31 : Dp K (upd Hd T31 (.tup [V.int 0, V.int 0, V.int 0, V.int 1, V.int 1])) (.ref T31) (dT [0, 0, 0, 1, 1]) := row_new [0, 0, 0, 1, 1] rfl
    have s31 : Same Hd (upd Hd T31 (.tup [V.int 0, V.int 0, V.int 0, V.int 1, V.int 1])) := Same.new n31
    walk_at "q"
    generalize upd Hd T31 (.tup [V.int 0, V.int 0, V.int 0, V.int 1, V.int 1]) = G31 at *
    refine ⟨.ref T30, .ref T31, _, _, 5, 1, _, rfl, (Dp.same (Same.trans ss (Same.trans sd s31)) _ _ d30), stay_frm, (Dp.same (Same.refl _) _ _ d31), by decide, by decide +kernel, fun c hc al Hl sl hl => ?_⟩
    obtain rfl := own_is hc (by decide +kernel) (by decide) (stay_kept _)
    walk_at "q"
    refine ⟨two (by show 3 ≤ 1000; decide), fun tb ntb => ?_⟩
    have stb : Same Hl (upd Hl tb (.lst [V.int 52, .ref ad, .ref al])) := Same.new ntb
    have htb : upd Hl tb (.lst [V.int 52, .ref ad, .ref al]) tb = some (.lst [V.int 52, .ref ad, .ref al]) := upd_same
    walk_at "q"
    refine ⟨ty_of htb, ?_⟩
    generalize upd Hl tb (.lst [V.int 52, .ref ad, .ref al]) = Gtb at *
    walk_at "q"
    refine ⟨two (by show 1 ≤ 1000; decide), fun T32 n32 => ?_⟩
    walk_at "q"
    refine row_times (p := [0]) (n := 5) (.of (by rw [upd_same]; rfl)) (by simp) (by decide) (by decide) (by simp) fun v32 G32 g32 d32 => ?_
    have d32 : Dp K G32 v32 (dT [0, 0, 0, 0, 0]) := d32
    have s32 : Same Gtb G32 := (Same.new n32).trans g32
    clear g32 n32
    walk_at "q"
    refine ⟨.ref T30, v32, _, _, 5, 1, _, rfl, (Dp.same (Same.trans ss (Same.trans sd (Same.trans s31 (Same.trans sl (Same.trans stb s32))))) _ _ d30), stay_frm, (Dp.same (Same.refl _) _ _ d32), by decide, by decide +kernel, fun Hk sk => ?_⟩
    rw [stay_kept]
    walk_at "q"
    have htk : Hk tb = some (.lst [V.int 52, .ref ad, .ref al]) := (Same.trans s32 sk) _ _ htb
    refine app_of htk (by show 3 < 100000; decide) ?_
    have hda4 : DpAll K (hide Hk tb) [V.int 52, .ref ad, .ref al, .bl true] [.int 52, dT [0, 1, 2, 1, 3], dT [0, 0, 0, 1, 1], .bool true] := .cons (.int _) (.cons (ap_row (Dp.same (Same.trans s31 (Same.trans sl (Same.trans stb (Same.trans s32 sk)))) _ _ (dp_of_row (p := [0, 1, 2, 1, 3]) (.of hd))) htk) (.cons (ap_row (Dp.same (Same.trans stb (Same.trans s32 sk)) _ _ (dp_of_row (p := [0, 0, 0, 1, 1]) (.of hl))) htk) (.cons (.bl _) .nil)))
    have nH : H7 tb = none := by
      cases e : H7 tb with
      | none => rfl
      | some o => have := (Same.trans s1 (Same.trans s2 (Same.trans s3 (Same.trans s4 (Same.trans s5 (Same.trans s6 (Same.trans s7 (Same.trans s8 (Same.trans s9 (Same.trans s10 (Same.trans s11 (Same.trans s12 (Same.trans s13 (Same.trans s14 (Same.trans s15 (Same.trans s16 (Same.trans s17 (Same.trans s18 (Same.trans s19 (Same.trans s20 (Same.trans sf (Same.trans s21 (Same.trans s22 (Same.trans s23 (Same.trans s24 (Same.trans s25 (Same.trans s26 (Same.trans s27 (Same.trans s28 (Same.trans s6n (Same.trans sS (Same.trans s29 (Same.trans s30 (Same.trans ss (Same.trans sd (Same.trans s31 sl)))))))))))))))))))))))))))))))))))) _ _ e; rw [ntb] at this; cases this
    have sA : Same H (upd Hk tb (.lst ([V.int 52, .ref ad, .ref al] ++ [.bl true]))) := Same.mut (s07.trans (Same.trans s1 (Same.trans s2 (Same.trans s3 (Same.trans s4 (Same.trans s5 (Same.trans s6 (Same.trans s7 (Same.trans s8 (Same.trans s9 (Same.trans s10 (Same.trans s11 (Same.trans s12 (Same.trans s13 (Same.trans s14 (Same.trans s15 (Same.trans s16 (Same.trans s17 (Same.trans s18 (Same.trans s19 (Same.trans s20 (Same.trans sf (Same.trans s21 (Same.trans s22 (Same.trans s23 (Same.trans s24 (Same.trans s25 (Same.trans s26 (Same.trans s27 (Same.trans s28 (Same.trans s6n (Same.trans sS (Same.trans s29 (Same.trans s30 (Same.trans ss (Same.trans sd (Same.trans s31 (Same.trans sl (Same.trans stb (Same.trans s32 sk)))))))))))))))))))))))))))))))))))))))) (by
      cases e : H tb with
      | none => rfl
      | some o => have := s07 _ _ e; rw [nH] at this; cases this)
    have hE : Dp K (upd Hk tb (.lst ([V.int 52, .ref ad, .ref al] ++ [.bl true]))) (.ref tb) (.list [.int 52, dT [0, 1, 2, 1, 3], dT [0, 0, 0, 1, 1], .bool true]) := .lst (.of upd_same) (DpAll.unhide (l := tb) (by rw [hide_upd]; exact hda4))
    generalize upd Hk tb (.lst ([V.int 52, .ref ad, .ref al] ++ [.bl true])) = HE at *
    walk_at "q"
    refine ⟨two (by show 5 ≤ 1000; decide), fun T33 n33 => ?_⟩
    have d33 : Dp K (upd HE T33 (.tup [V.int 0, V.int 1, V.int 2, V.int 1, V.int 3])) (.ref T33) (dT [0, 1, 2, 1, 3]) := row_new [0, 1, 2, 1, 3] rfl
    have s33 : Same HE (upd HE T33 (.tup [V.int 0, V.int 1, V.int 2, V.int 1, V.int 3])) := Same.new n33
    walk_at "q"
    generalize upd HE T33 (.tup [V.int 0, V.int 1, V.int 2, V.int 1, V.int 3]) = G33 at *
    refine ⟨two (by show 5 ≤ 1000; decide), fun T34 n34 => ?_⟩
    have d34 : Dp K (upd G33 T34 (.tup [V.int 0, V.int 0, V.int 0, V.int 1, V.int 1])) (.ref T34) (dT [0, 0, 0, 1, 1]) := row_new [0, 0, 0, 1, 1] rfl
    have s34 : Same G33 (upd G33 T34 (.tup [V.int 0, V.int 0, V.int 0, V.int 1, V.int 1])) := Same.new n34
    walk_at "q"
    generalize upd G33 T34 (.tup [V.int 0, V.int 0, V.int 0, V.int 1, V.int 1]) = G34 at *
    refine ⟨two (by show 4 ≤ 1000; decide), fun T35 n35 => ?_⟩
    have s35 : Same G34 (upd G34 T35 (.lst [V.int 52, .ref T33, .ref T34, .bl true])) := Same.new n35
    have d35 : Dp K (upd G34 T35 (.lst [V.int 52, .ref T33, .ref T34, .bl true])) (.ref T35) (.list [.int 52, dT [0, 1, 2, 1, 3], dT [0, 0, 0, 1, 1], .bool true]) := dp_new_lst (.cons (.int _) (.cons (Dp.same s34 _ _ d33) (.cons (Dp.same (Same.refl _) _ _ d34) (.cons (.bl _) .nil)))) n35
    walk_at "q"
    generalize upd G34 T35 (.lst [V.int 52, .ref T33, .ref T34, .bl true]) = G35 at *
    refine ⟨.list [.int 52, dT [0, 1, 2, 1, 3], dT [0, 0, 0, 1, 1], .bool true], .list [.int 52, dT [0, 1, 2, 1, 3], dT [0, 0, 0, 1, 1], .bool true], (Dp.same (Same.trans s33 (Same.trans s34 s35)) _ _ hE), (Dp.same (Same.refl _) _ _ d35), by decide +kernel, by decide +kernel, ?_⟩
    rw [show PyData.eqv (.list [.int 52, dT [0, 1, 2, 1, 3], dT [0, 0, 0, 1, 1], .bool true]) (.list [.int 52, dT [0, 1, 2, 1, 3], dT [0, 0, 0, 1, 1], .bool true]) = true by decide +kernel]
    walk_at "q"
    refine ⟨8, rfl, by decide, by decide, fun m9 H9 s9 hm9 => ?_⟩
    walk_at "q"
    refine ⟨m9, _, _, 8, 1, 7, 3, rfl, hm9, ring_frm (by decide) (by decide), by decide, by decide, fun c hc az Hz sz hz => ?_⟩
    obtain rfl := draw8 hc
    walk_at "q"
    refine ⟨two (by show 4 ≤ 1000; decide), fun T36 n36 => ?_⟩
    walk_at "q"
    refine row_times (p := [0, 1, 2, 3]) (n := 2) (.of (by rw [upd_same]; rfl)) (by simp) (by decide) (by decide) (by simp) fun v36 G36 g36 d36 => ?_
    have d36 : Dp K G36 v36 (dT [0, 1, 2, 3, 0, 1, 2, 3]) := d36
    have s36 : Same Hz G36 := (Same.new n36).trans g36
    clear g36 n36
    refine ⟨dT [0, 1, 2, 3, 0, 1, 2, 3], dT [0, 1, 2, 3, 0, 1, 2, 3], (Dp.same s36 _ _ (dp_of_row (p := [0, 1, 2, 3, 0, 1, 2, 3]) (.of hz))), (Dp.same (Same.refl _) _ _ d36), by decide +kernel, by decide +kernel, ?_⟩
    rw [show PyData.eqv (dT [0, 1, 2, 3, 0, 1, 2, 3]) (dT [0, 1, 2, 3, 0, 1, 2, 3]) = true by decide +kernel]
    exact q _ (sA.trans (Same.trans s33 (Same.trans s34 (Same.trans s35 (Same.trans s9 (Same.trans sz s36))))))
end
end Kp
set_option Elab.async false
set_option linter.all false
set_option maxRecDepth 100000
set_option maxHeartbeats 4000000
namespace Kp
open PySem PySem.Spec PyProof.Rows L2
local macro_rules | `(tactic| walk_at "q") => `(tactic| repeat (with_reducible first
  | refine q_seq ?_ | refine q_asg ?_ | refine q_name ?_ | refine q_ret ?_ | refine q_drop ?_ | refine q_ifs ?_ | refine q_next ?_ | refine q_par ?_
  | refine q_var (by with_unfolding_all exact rfl) ?_ | refine q_c ?_ | refine q_op ?_ | refine q_un ?_ | refine q_cb ?_ | refine q_cons ?_ | refine q_nil ?_ | refine q_call ?_
  | refine q_test ?_ | refine q_B ?_ | refine q_not ?_ | refine q_and ?_ | refine q_or ?_ | refine q_andV ?_ | refine q_orV ?_ | refine q_notV ?_ | refine q_ifx ?_ | refine q_chain ?_
  | refine q_tup ?_ | refine q_lst ?_ | refine q_bm ?_ | refine q_bm0 ?_ | refine q_yes ?_ | refine q_bl ?_ | refine q_I0 ?_ | refine q_int ?_ | refine q_eqI ?_ | refine q_neI ?_
  | refine q_dsetd ?_ | refine q_dget ?_ | refine q_din ?_ | refine q_dnotin ?_ | refine q_dput ?_ | refine q_sl ?_ | refine q_nopart ?_ | refine q_part ?_ | refine q_exI ?_ | refine q_dnewK ?_
  | refine q_for ?_ | refine q_lc ?_ | refine q_iTup ?_ | refine q_iList ?_ | refine q_iEnumT ?_ | refine q_iEnum ?_ | refine q_iRng1 ?_ | refine q_iRng2 ?_ | refine q_lstRg ?_ | refine q_tupRg ?_
  | refine iteT ?_ | refine iteF ?_ | refine q_nt ?_ | refine q_nf ?_))
abbrev s_law : Stmt := topS 54
theorem sc_law : FnScope ["script", "k", "m"] ["script"] (defScope s_law) := ⟨rfl, rfl, rfl, by decide +kernel, rfl, by decide +kernel, by decide +kernel⟩
section
variable {P : Program} {w : World} {K : PySem.W.Frag} {mg : Str → Option Value} {base : Heap}
def spLaw (K : PySem.W.Frag) : Sp := fun vs H Q _ => ∃ (a : Addr) (ns : List Int), vs = [.ref a] ∧ SqL K H a (ns.map V.int) ∧ ns.length ≤ 63 ∧ ∀ H', Q (.bl true) H'
theorem ok_law {f0 : Addr} {fd : FuncData} (B : Bn K mg) (Claw_begun : Cal P w K mg base 1 "_law_begun" ["script", "k"] (spBegun K)) (Claw_frame : Cal P w K mg base 3 "_law_frame" ["m", "most", "wide"] (spFrame K)) (Claw_is_told : CalG P w K mg base 7 "_law_is_told" ["m", "frame"] (spIsTold K))
    (Claw_hand_right : Cal P w K mg base 7 "_law_hand_right" [] spHand) (F : Fun K "law" "law" s_law f0 fd) : FnG P w K mg base CX0 8 f0 fd ["script"] (spLaw K) := by
  refine Fun.okN F sc_law (fun vs H Q E h => ?_) (fun f cdv A outer s H vs Q E hgd hr h => ?_)
  · obtain ⟨a, ns, rfl, _⟩ := h
    rfl
  · obtain ⟨a, ns, rfl, hs, hl, q⟩ := h
    have hgd : (A.deeper (envOfC "law" (defScope s_law) s.heap.objs.size f cdv)).guards = some [] := hgd
    refine ⟨_, (pss_cons (ps_for PassesOwn.never rfl (i_range1 B (pe_op op_add pe_int (e_min2 B (e_len B (pv 0)) pe_int))) (pg_name (i := 1) sc_law.nd rfl (Or.inl rfl))
      (pss_cons (ps_set (i := 2) sc_law.nd rfl (.inl rfl) (e_call Claw_begun (hr.mono (by decide)) (pa_cons (pv 0) (pa_cons (pv 1) pa_nil))))
      (pss_one (ps_if (pt_not (pt_val (e_callG Claw_is_told hgd (hr.mono (by decide)) (pa_cons (pv 2) (pa_cons (e_call Claw_frame (hr.mono (by decide)) (pa_cons (pv 2) (pa_cons pe_int (pa_cons pe_int pa_nil)))) pa_nil))))) (pss_one (ps_ret pe_bl)) pss_nil))))
      (pss_one (ps_ret (e_call0 Claw_hand_right (hr.mono (by decide)))))), ?_⟩
    walk_at "q"
    refine ⟨a, _, rfl, .inl hs, ?_⟩
    rw [List.length_map]
    walk_at "q"
    refine ⟨_, _, rfl, ?_⟩
    obtain ⟨mm, em, m1, m2, m3⟩ := min_nat (i := ns.length) (j := 4)
    rw [show (if (4 : Int) < (ns.length : Int) then (4 : Int) else (ns.length : Int)) = (mm : Int) from em]
    walk_at "q"
    have en : ((3 : Int) + (mm : Int)).toNat = 3 + mm := by omega
    refine ⟨_, rfl, by omega, by omega, ?_⟩
    rw [en]
    refine for_it (walk_rg (n := 3 + mm)) (fun j σ H' => ∃ y1 y2, σ = [some (.ref a), y1, y2] ∧ Keep H H') ⟨_, _, rfl, Keep.refl _⟩ (fun _ _ _ _ _ => trivial) (fun j x σ H' H'' hj h y => ?_) (fun σ H' h => ?_)
    · obtain ⟨y1, y2, rfl, kp⟩ := h
      obtain ⟨rfl, rfl⟩ := y
      walk_at "q"
      refine ⟨a, j, ns, rfl, Keep.lst kp hs, hl, by omega, fun d ca H1 s1 st => ?_⟩
      walk_at "q"
      refine ⟨d, ca, 6, 3, 0, rfl, st, by decide, by decide, by decide, by decide, by decide, fun t sh n L v H2 k2 st2 hm F h6 => ?_⟩
      walk_at "q"
      refine ⟨d, ca, v, t, sh, n, L, _, rfl, st2, by omega, hm, F, h6, fun H3 k3 => ?_⟩
      walk_at "q"
      exact ⟨_, _, rfl, kp.trans ((Keep.of s1).trans (k2.trans k3))⟩
    · obtain ⟨y1, y2, rfl, kp⟩ := h
      walk_at "q"
      exact ⟨rfl, fun H1 s1 => q H1⟩
end
end Kp
set_option Elab.async false
set_option linter.all false
set_option maxRecDepth 100000
set_option maxHeartbeats 4000000
namespace Kp
open PySem PySem.Spec PyProof.Rows L2
/-! ### what the top has written -/
theorem def_mk {K : PySem.W.Frag} {h : Heap} {mg : Str → Option Value} {f : Addr} {name : Str} {st : Stmt} {ps : List Str} {od an : Option Addr} {sl : Array (Option Value)} {oc kV dc pm cd ct : Value} (X : K.In h) (G : h.Ns mainGlobals mg)
    (a : PySem.W.nsIn K mainGlobals name = some (some (.ref f))) (l : K.lookup f = some ⟨oc, od, .func (PySem.W.fnOf name name (defArgs st) (defBody st) (defScope st) .none kV dc pm an cd ct), sl⟩) (c : PySem.W.codeIn K cd name = true) (k : PySem.W.keepIn K (.ref f) = true)
    (b : ∀ (kV doc pm : Value) (an : Option Addr) (cdv ct : Value) (us : List Value), us.length = ps.length → bindArgs (PySem.W.fnOf name name (defArgs st) (defBody st) (defScope st) .none kV doc pm an cdv ct) ⟨us, []⟩ = pure (ps.zip us)) : Def K mg name st ps :=
  ⟨⟨f, _, fun_mk l c k, PySem.W.mg_of X G a, (fun_mk l c k).binds b⟩⟩
theorem law_mk {P : Program} {w : World} {K : PySem.W.Frag} {h : Heap} {mg : Str → Option Value} {fa f : Addr} {od an : Option Addr} {sl : Array (Option Value)} {oc kV dc pm cd ct : Value} (X : K.In h) (G : h.Ns mainGlobals mg) (hfa : mg "law" = some (.ref fa))
    (a : PySem.W.nsIn K mainGlobals "law" = some (some (.ref f))) (l : K.lookup f = some ⟨oc, od, .func (PySem.W.fnOf "law" "law" (defArgs s_law) (defBody s_law) (defScope s_law) .none kV dc pm an cd ct), sl⟩) (c : PySem.W.codeIn K cd "law" = true) (k : PySem.W.keepIn K (.ref f) = true)
    (W : ∀ (fd : FuncData) (base : Heap), Fun K "law" "law" s_law fa fd → FnG P w K mg base CX0 8 fa fd ["script"] (spLaw K)) :
    ∃ fd : FuncData, (∀ (s : Shared) (v : Value), BindsTo s fd ⟨[v], []⟩ [("script", v)]) ∧ ∀ base : Heap, K.In base → base.Ns mainGlobals mg → FnG P w K mg base CX0 8 fa fd ["script"] (spLaw K) := by
  have e := hfa.symm.trans (PySem.W.mg_of X G a)
  cases e
  exact ⟨PySem.W.fnOf "law" "law" (defArgs s_law) (defBody s_law) (defScope s_law) .none kV dc pm an cd ct, fun s v => .of_eq rfl, fun base _ _ => W _ base (fun_mk l c k)⟩
theorem whole {P : Program} {w : World} {K : PySem.W.Frag} {mg : Str → Option Value} {fa : Addr} (B : Bn K mg) (g8 : ∃ t, mg "MOST_STANDINGS" = some (.int 8 t)) (g4 : ∃ t, mg "MOST_LETTERS" = some (.int 4 t)) (g9 : ∃ t, mg "MOST_SHOWN" = some (.int 9 t))
    (Dis_whole : Def K mg "is_whole" s_is_whole ["value", "least", "most"])
    (Dis_line : Def K mg "is_line" s_is_line ["value", "letters"])
    (Dsize_of : Def K mg "size_of" s_size_of ["machine"])
    (Dwrong_in_table : Def K mg "wrong_in_table" s_wrong_in_table ["value"])
    (Dwrong_place : Def K mg "wrong_place" s_wrong_place ["thing"])
    (Dneed_machine : Def K mg "need_machine" s_need_machine ["thing"])
    (Dletters_of : Def K mg "letters_of" s_letters_of ["machine"])
    (Dneed_standing : Def K mg "need_standing" s_need_standing ["machine", "standing"])
    (Dnumbered : Def K mg "numbered" s_numbered ["keys"])
    (Dsingle_of : Def K mg "single_of" s_single_of ["machine"])
    (Dmerged : Def K mg "merged" s_merged ["parting", "one", "far"])
    (Dis_parting_of : Def K mg "is_parting_of" s_is_parting_of ["machine", "value"])
    (Dneed_parting : Def K mg "need_parting" s_need_parting ["machine", "parting"])
    (Dblocks_of : Def K mg "blocks_of" s_blocks_of ["parting"])
    (Djoined : Def K mg "joined" s_joined ["parting", "other"])
    (Dled_to : Def K mg "led_to" s_led_to ["machine", "parting", "other"])
    (Dis_kept_by : Def K mg "is_kept_by" s_is_kept_by ["machine", "parting"])
    (Dis_kept : Def K mg "is_kept" s_is_kept ["machine", "parting"])
    (Dkept_over : Def K mg "kept_over" s_kept_over ["machine", "parting"])
    (Ddrawn_in : Def K mg "drawn_in" s_drawn_in ["machine", "one", "far"])
    (Ddrawn : Def K mg "drawn" s_drawn ["machine", "one", "far"])
    (Dleast_kept : Def K mg "least_kept" s_least_kept ["machine", "parting"])
    (Dpairs_in : Def K mg "pairs_in" s_pairs_in ["machine"])
    (Dkept_in : Def K mg "kept_in" s_kept_in ["machine"])
    (Dkept_partings : Def K mg "kept_partings" s_kept_partings ["machine"])
    (Dlaw_told_of : Def K mg "_law_told_of" s_law_told_of ["many", "classes"])
    (Dlaw_classes : Def K mg "_law_classes" s_law_classes ["sheet"])
    (Dlaw_numbered : Def K mg "_law_numbered" s_law_numbered ["sheet"])
    (Dlaw_ring : Def K mg "_law_ring" s_law_ring ["many"])
    (Dlaw_all_sheets : Def K mg "_law_all_sheets" s_law_all_sheets ["many"])
    (Dlaw_is_kept : Def K mg "_law_is_kept" s_law_is_kept ["frame", "classes"])
    (Dlaw_all_kept : Def K mg "_law_all_kept" s_law_all_kept ["frame"])
    (Dlaw_merged : Def K mg "_law_merged" s_law_merged ["classes", "one", "far"])
    (Dlaw_apart : Def K mg "_law_apart" s_law_apart ["frame", "classes"])
    (Dlaw_closed : Def K mg "_law_closed" s_law_closed ["frame", "classes"])
    (Dlaw_draw : Def K mg "_law_draw" s_law_draw ["m", "many"])
    (Dlaw_of : Def K mg "_law_of" s_law_of ["m", "some"])
    (Dlaw_sheet : Def K mg "_law_sheet" s_law_sheet ["m", "many"])
    (Dlaw_begun : Def K mg "_law_begun" s_law_begun ["script", "k"])
    (Dlaw_frame : Def K mg "_law_frame" s_law_frame ["m", "most", "wide"])
    (Dlaw_is_told : Def K mg "_law_is_told" s_law_is_told ["m", "frame"])
    (Dlaw_hand_right : Def K mg "_law_hand_right" s_law_hand_right [])
    (fd : FuncData) (base : Heap) (F : Fun K "law" "law" s_law fa fd) : FnG P w K mg base CX0 8 fa fd ["script"] (spLaw K) := by
  have Cis_whole := ok_is_whole (P := P) (w := w) (base := base) B Dis_whole
  have Cis_line := ok_is_line (P := P) (w := w) (base := base) B g4 Dis_line
  have Csize_of := ok_size_of (P := P) (w := w) (base := base) B Dsize_of
  have Cwrong_in_table := ok_wrong_in_table (P := P) (w := w) (base := base) B g8 Cis_line Cis_whole Dwrong_in_table
  have Cwrong_place := ok_wrong_place (P := P) (w := w) (base := base) B g9 Cwrong_in_table Cis_whole Dwrong_place
  have Cneed_machine := ok_need_machine (P := P) (w := w) (base := base) B Cwrong_place Dneed_machine
  have Cletters_of := ok_letters_of (P := P) (w := w) (base := base) B Dletters_of
  have Cneed_standing := ok_need_standing (P := P) (w := w) (base := base) B Cis_whole Csize_of Dneed_standing
  have Cnumbered := ok_numbered (P := P) (w := w) (base := base) B Dnumbered
  have Csingle_of := ok_single_of (P := P) (w := w) (base := base) B Csize_of Dsingle_of
  have Cmerged := ok_merged (P := P) (w := w) (base := base) B Dmerged
  have Cis_parting_of := ok_is_parting_of (P := P) (w := w) (base := base) B Csize_of Cis_whole Cnumbered Dis_parting_of
  have Cneed_parting := ok_need_parting (P := P) (w := w) (base := base) B Cneed_machine Cis_parting_of Dneed_parting
  have Cblocks_of := ok_blocks_of (P := P) (w := w) (base := base) B Dblocks_of
  have Cjoined := ok_joined (P := P) (w := w) (base := base) B Cblocks_of Cmerged Cnumbered Djoined
  have Cled_to := ok_led_to (P := P) (w := w) (base := base) B Cletters_of Dled_to
  have Cis_kept_by := ok_is_kept_by (P := P) (w := w) (base := base) B Cled_to Dis_kept_by
  have Cis_kept := ok_is_kept (P := P) (w := w) (base := base) B Cis_kept_by Cneed_parting Dis_kept
  have Ckept_over := ok_kept_over (P := P) (w := w) (base := base) B Csingle_of Cblocks_of Cmerged Cletters_of Cnumbered Dkept_over
  have Cdrawn_in := ok_drawn_in (P := P) (w := w) (base := base) B Csingle_of Cmerged Cnumbered Ckept_over Ddrawn_in
  have Cdrawn := ok_drawn (P := P) (w := w) (base := base) B Cneed_machine Cneed_standing Cdrawn_in Ddrawn
  have Cleast_kept := ok_least_kept (P := P) (w := w) (base := base) B Cneed_parting Ckept_over Dleast_kept
  have Cpairs_in := ok_pairs_in (P := P) (w := w) (base := base) B Csize_of Dpairs_in
  have Ckept_in := ok_kept_in (P := P) (w := w) (base := base) B Csingle_of Cpairs_in Cdrawn_in Cjoined Dkept_in
  have Ckept_partings := ok_kept_partings (P := P) (w := w) (base := base) B Cneed_machine Ckept_in Dkept_partings
  have Claw_told_of := ok_law_told_of (P := P) (w := w) (base := base) B Dlaw_told_of
  have Claw_classes := ok_law_classes (P := P) (w := w) (base := base) B Dlaw_classes
  have Claw_numbered := ok_law_numbered (P := P) (w := w) (base := base) B Dlaw_numbered
  have Claw_ring := ok_law_ring (P := P) (w := w) (base := base) B Dlaw_ring
  have Claw_all_sheets := ok_law_all_sheets (P := P) (w := w) (base := base) B Dlaw_all_sheets
  have Claw_is_kept := ok_law_is_kept (P := P) (w := w) (base := base) B Dlaw_is_kept
  have Claw_all_kept := ok_law_all_kept (P := P) (w := w) (base := base) B Claw_all_sheets Claw_is_kept Claw_classes Dlaw_all_kept
  have Claw_merged := ok_law_merged (P := P) (w := w) (base := base) B Dlaw_merged
  have Claw_apart := ok_law_apart (P := P) (w := w) (base := base) B Dlaw_apart
  have Claw_closed := ok_law_closed (P := P) (w := w) (base := base) B Claw_apart Claw_merged Dlaw_closed
  have Claw_draw := ok_law_draw (P := P) (w := w) (base := base) B Dlaw_draw
  have Claw_of := ok_law_of (P := P) (w := w) (base := base) B Claw_draw Dlaw_of
  have Claw_sheet := ok_law_sheet (P := P) (w := w) (base := base) B Claw_draw Dlaw_sheet
  have Claw_begun := ok_law_begun (P := P) (w := w) (base := base) B Dlaw_begun
  have Claw_frame := ok_law_frame (P := P) (w := w) (base := base) B Claw_draw Claw_of Dlaw_frame
  have Claw_is_told := ok_law_is_told (P := P) (w := w) (base := base) B Ckept_partings Cis_kept Cleast_kept Cdrawn Claw_all_kept Claw_numbered Claw_sheet Claw_told_of Claw_closed Claw_classes Claw_merged Dlaw_is_told
  have Claw_hand_right := ok_law_hand_right (P := P) (w := w) (base := base) B Ckept_partings Cis_kept Cleast_kept Cdrawn Claw_ring Dlaw_hand_right
  exact ok_law B Claw_begun Claw_frame Claw_is_told Claw_hand_right F
end Kp
open PySem PySem.W PyProof.Rows
set_option maxHeartbeats 0 in
theorem PySem.Challenge.cw_keptpartings_k05_whole_kept_partings_holds : PySem.Challenge.rw_keptpartings_k05_whole_kept_partings.Holds := by
  w_on; o_law; k_head; (case hw => w_witness2)
  k_fill
  refine Kp.walk_ofG (l := PySem.Challenge.rw_keptpartings_k05_whole_kept_partings) (n := 63) (k := 8) (x := "script") (sp := Kp.spLaw) rfl (by decide) rfl ⟨rfl, by decide, by decide⟩ (fun w h Y => PySem.W.kIn_of Y) ?F (fun _ _ a ns hl hS => ⟨a, ns, rfl, hS, hl, fun _ => rfl⟩) (fun _ _ _ _ z => z)
  case F =>
    intro w mg fa h KX G hmg
    have z_len : mg "len" = none := PySem.W.mg_none_of KX G (by k_is)
    have z_range : mg "range" = none := PySem.W.mg_none_of KX G (by k_is)
    have z_tuple : mg "tuple" = none := PySem.W.mg_none_of KX G (by k_is)
    have z_list : mg "list" = none := PySem.W.mg_none_of KX G (by k_is)
    have z_max : mg "max" = none := PySem.W.mg_none_of KX G (by k_is)
    have z_min : mg "min" = none := PySem.W.mg_none_of KX G (by k_is)
    have z_int : mg "int" = none := PySem.W.mg_none_of KX G (by k_is)
    have z_bool : mg "bool" = none := PySem.W.mg_none_of KX G (by k_is)
    have z_isinstance : mg "isinstance" = none := PySem.W.mg_none_of KX G (by k_is)
    have z_all : mg "all" = none := PySem.W.mg_none_of KX G (by k_is)
    have z_sorted : mg "sorted" = none := PySem.W.mg_none_of KX G (by k_is)
    have z_enumerate : mg "enumerate" = none := PySem.W.mg_none_of KX G (by k_is)
    have z_set : mg "set" = none := PySem.W.mg_none_of KX G (by k_is)
    have z_repr : mg "repr" = none := PySem.W.mg_none_of KX G (by k_is)
    have g_MOST_STANDINGS : ∃ t, mg "MOST_STANDINGS" = some (.int 8 t) := ⟨_, PySem.W.mg_of KX G (by k_is)⟩
    have g_MOST_LETTERS : ∃ t, mg "MOST_LETTERS" = some (.int 4 t) := ⟨_, PySem.W.mg_of KX G (by k_is)⟩
    have g_MOST_SHOWN : ∃ t, mg "MOST_SHOWN" = some (.int 9 t) := ⟨_, PySem.W.mg_of KX G (by k_is)⟩
    have D_is_whole := Kp.def_mk (name := "is_whole") (st := Kp.s_is_whole) (ps := ["value", "least", "most"]) KX G (by k_is) (by k_is) (by k_is) (by k_is) (fun _ _ _ _ _ _ us hl => match us, hl with | [_, _, _], _ => rfl)
    have D_is_line := Kp.def_mk (name := "is_line") (st := Kp.s_is_line) (ps := ["value", "letters"]) KX G (by k_is) (by k_is) (by k_is) (by k_is) (fun _ _ _ _ _ _ us hl => match us, hl with | [_, _], _ => rfl)
    have D_size_of := Kp.def_mk (name := "size_of") (st := Kp.s_size_of) (ps := ["machine"]) KX G (by k_is) (by k_is) (by k_is) (by k_is) (fun _ _ _ _ _ _ us hl => match us, hl with | [_], _ => rfl)
    have D_wrong_in_table := Kp.def_mk (name := "wrong_in_table") (st := Kp.s_wrong_in_table) (ps := ["value"]) KX G (by k_is) (by k_is) (by k_is) (by k_is) (fun _ _ _ _ _ _ us hl => match us, hl with | [_], _ => rfl)
    have D_wrong_place := Kp.def_mk (name := "wrong_place") (st := Kp.s_wrong_place) (ps := ["thing"]) KX G (by k_is) (by k_is) (by k_is) (by k_is) (fun _ _ _ _ _ _ us hl => match us, hl with | [_], _ => rfl)
    have D_need_machine := Kp.def_mk (name := "need_machine") (st := Kp.s_need_machine) (ps := ["thing"]) KX G (by k_is) (by k_is) (by k_is) (by k_is) (fun _ _ _ _ _ _ us hl => match us, hl with | [_], _ => rfl)
    have D_letters_of := Kp.def_mk (name := "letters_of") (st := Kp.s_letters_of) (ps := ["machine"]) KX G (by k_is) (by k_is) (by k_is) (by k_is) (fun _ _ _ _ _ _ us hl => match us, hl with | [_], _ => rfl)
    have D_need_standing := Kp.def_mk (name := "need_standing") (st := Kp.s_need_standing) (ps := ["machine", "standing"]) KX G (by k_is) (by k_is) (by k_is) (by k_is) (fun _ _ _ _ _ _ us hl => match us, hl with | [_, _], _ => rfl)
    have D_numbered := Kp.def_mk (name := "numbered") (st := Kp.s_numbered) (ps := ["keys"]) KX G (by k_is) (by k_is) (by k_is) (by k_is) (fun _ _ _ _ _ _ us hl => match us, hl with | [_], _ => rfl)
    have D_single_of := Kp.def_mk (name := "single_of") (st := Kp.s_single_of) (ps := ["machine"]) KX G (by k_is) (by k_is) (by k_is) (by k_is) (fun _ _ _ _ _ _ us hl => match us, hl with | [_], _ => rfl)
    have D_merged := Kp.def_mk (name := "merged") (st := Kp.s_merged) (ps := ["parting", "one", "far"]) KX G (by k_is) (by k_is) (by k_is) (by k_is) (fun _ _ _ _ _ _ us hl => match us, hl with | [_, _, _], _ => rfl)
    have D_is_parting_of := Kp.def_mk (name := "is_parting_of") (st := Kp.s_is_parting_of) (ps := ["machine", "value"]) KX G (by k_is) (by k_is) (by k_is) (by k_is) (fun _ _ _ _ _ _ us hl => match us, hl with | [_, _], _ => rfl)
    have D_need_parting := Kp.def_mk (name := "need_parting") (st := Kp.s_need_parting) (ps := ["machine", "parting"]) KX G (by k_is) (by k_is) (by k_is) (by k_is) (fun _ _ _ _ _ _ us hl => match us, hl with | [_, _], _ => rfl)
    have D_blocks_of := Kp.def_mk (name := "blocks_of") (st := Kp.s_blocks_of) (ps := ["parting"]) KX G (by k_is) (by k_is) (by k_is) (by k_is) (fun _ _ _ _ _ _ us hl => match us, hl with | [_], _ => rfl)
    have D_joined := Kp.def_mk (name := "joined") (st := Kp.s_joined) (ps := ["parting", "other"]) KX G (by k_is) (by k_is) (by k_is) (by k_is) (fun _ _ _ _ _ _ us hl => match us, hl with | [_, _], _ => rfl)
    have D_led_to := Kp.def_mk (name := "led_to") (st := Kp.s_led_to) (ps := ["machine", "parting", "other"]) KX G (by k_is) (by k_is) (by k_is) (by k_is) (fun _ _ _ _ _ _ us hl => match us, hl with | [_, _, _], _ => rfl)
    have D_is_kept_by := Kp.def_mk (name := "is_kept_by") (st := Kp.s_is_kept_by) (ps := ["machine", "parting"]) KX G (by k_is) (by k_is) (by k_is) (by k_is) (fun _ _ _ _ _ _ us hl => match us, hl with | [_, _], _ => rfl)
    have D_is_kept := Kp.def_mk (name := "is_kept") (st := Kp.s_is_kept) (ps := ["machine", "parting"]) KX G (by k_is) (by k_is) (by k_is) (by k_is) (fun _ _ _ _ _ _ us hl => match us, hl with | [_, _], _ => rfl)
    have D_kept_over := Kp.def_mk (name := "kept_over") (st := Kp.s_kept_over) (ps := ["machine", "parting"]) KX G (by k_is) (by k_is) (by k_is) (by k_is) (fun _ _ _ _ _ _ us hl => match us, hl with | [_, _], _ => rfl)
    have D_drawn_in := Kp.def_mk (name := "drawn_in") (st := Kp.s_drawn_in) (ps := ["machine", "one", "far"]) KX G (by k_is) (by k_is) (by k_is) (by k_is) (fun _ _ _ _ _ _ us hl => match us, hl with | [_, _, _], _ => rfl)
    have D_drawn := Kp.def_mk (name := "drawn") (st := Kp.s_drawn) (ps := ["machine", "one", "far"]) KX G (by k_is) (by k_is) (by k_is) (by k_is) (fun _ _ _ _ _ _ us hl => match us, hl with | [_, _, _], _ => rfl)
    have D_least_kept := Kp.def_mk (name := "least_kept") (st := Kp.s_least_kept) (ps := ["machine", "parting"]) KX G (by k_is) (by k_is) (by k_is) (by k_is) (fun _ _ _ _ _ _ us hl => match us, hl with | [_, _], _ => rfl)
    have D_pairs_in := Kp.def_mk (name := "pairs_in") (st := Kp.s_pairs_in) (ps := ["machine"]) KX G (by k_is) (by k_is) (by k_is) (by k_is) (fun _ _ _ _ _ _ us hl => match us, hl with | [_], _ => rfl)
    have D_kept_in := Kp.def_mk (name := "kept_in") (st := Kp.s_kept_in) (ps := ["machine"]) KX G (by k_is) (by k_is) (by k_is) (by k_is) (fun _ _ _ _ _ _ us hl => match us, hl with | [_], _ => rfl)
    have D_kept_partings := Kp.def_mk (name := "kept_partings") (st := Kp.s_kept_partings) (ps := ["machine"]) KX G (by k_is) (by k_is) (by k_is) (by k_is) (fun _ _ _ _ _ _ us hl => match us, hl with | [_], _ => rfl)
    have D_law_told_of := Kp.def_mk (name := "_law_told_of") (st := Kp.s_law_told_of) (ps := ["many", "classes"]) KX G (by k_is) (by k_is) (by k_is) (by k_is) (fun _ _ _ _ _ _ us hl => match us, hl with | [_, _], _ => rfl)
    have D_law_classes := Kp.def_mk (name := "_law_classes") (st := Kp.s_law_classes) (ps := ["sheet"]) KX G (by k_is) (by k_is) (by k_is) (by k_is) (fun _ _ _ _ _ _ us hl => match us, hl with | [_], _ => rfl)
    have D_law_numbered := Kp.def_mk (name := "_law_numbered") (st := Kp.s_law_numbered) (ps := ["sheet"]) KX G (by k_is) (by k_is) (by k_is) (by k_is) (fun _ _ _ _ _ _ us hl => match us, hl with | [_], _ => rfl)
    have D_law_ring := Kp.def_mk (name := "_law_ring") (st := Kp.s_law_ring) (ps := ["many"]) KX G (by k_is) (by k_is) (by k_is) (by k_is) (fun _ _ _ _ _ _ us hl => match us, hl with | [_], _ => rfl)
    have D_law_all_sheets := Kp.def_mk (name := "_law_all_sheets") (st := Kp.s_law_all_sheets) (ps := ["many"]) KX G (by k_is) (by k_is) (by k_is) (by k_is) (fun _ _ _ _ _ _ us hl => match us, hl with | [_], _ => rfl)
    have D_law_is_kept := Kp.def_mk (name := "_law_is_kept") (st := Kp.s_law_is_kept) (ps := ["frame", "classes"]) KX G (by k_is) (by k_is) (by k_is) (by k_is) (fun _ _ _ _ _ _ us hl => match us, hl with | [_, _], _ => rfl)
    have D_law_all_kept := Kp.def_mk (name := "_law_all_kept") (st := Kp.s_law_all_kept) (ps := ["frame"]) KX G (by k_is) (by k_is) (by k_is) (by k_is) (fun _ _ _ _ _ _ us hl => match us, hl with | [_], _ => rfl)
    have D_law_merged := Kp.def_mk (name := "_law_merged") (st := Kp.s_law_merged) (ps := ["classes", "one", "far"]) KX G (by k_is) (by k_is) (by k_is) (by k_is) (fun _ _ _ _ _ _ us hl => match us, hl with | [_, _, _], _ => rfl)
    have D_law_apart := Kp.def_mk (name := "_law_apart") (st := Kp.s_law_apart) (ps := ["frame", "classes"]) KX G (by k_is) (by k_is) (by k_is) (by k_is) (fun _ _ _ _ _ _ us hl => match us, hl with | [_, _], _ => rfl)
    have D_law_closed := Kp.def_mk (name := "_law_closed") (st := Kp.s_law_closed) (ps := ["frame", "classes"]) KX G (by k_is) (by k_is) (by k_is) (by k_is) (fun _ _ _ _ _ _ us hl => match us, hl with | [_, _], _ => rfl)
    have D_law_draw := Kp.def_mk (name := "_law_draw") (st := Kp.s_law_draw) (ps := ["m", "many"]) KX G (by k_is) (by k_is) (by k_is) (by k_is) (fun _ _ _ _ _ _ us hl => match us, hl with | [_, _], _ => rfl)
    have D_law_of := Kp.def_mk (name := "_law_of") (st := Kp.s_law_of) (ps := ["m", "some"]) KX G (by k_is) (by k_is) (by k_is) (by k_is) (fun _ _ _ _ _ _ us hl => match us, hl with | [_, _], _ => rfl)
    have D_law_sheet := Kp.def_mk (name := "_law_sheet") (st := Kp.s_law_sheet) (ps := ["m", "many"]) KX G (by k_is) (by k_is) (by k_is) (by k_is) (fun _ _ _ _ _ _ us hl => match us, hl with | [_, _], _ => rfl)
    have D_law_begun := Kp.def_mk (name := "_law_begun") (st := Kp.s_law_begun) (ps := ["script", "k"]) KX G (by k_is) (by k_is) (by k_is) (by k_is) (fun _ _ _ _ _ _ us hl => match us, hl with | [_, _], _ => rfl)
    have D_law_frame := Kp.def_mk (name := "_law_frame") (st := Kp.s_law_frame) (ps := ["m", "most", "wide"]) KX G (by k_is) (by k_is) (by k_is) (by k_is) (fun _ _ _ _ _ _ us hl => match us, hl with | [_, _, _], _ => rfl)
    have D_law_is_told := Kp.def_mk (name := "_law_is_told") (st := Kp.s_law_is_told) (ps := ["m", "frame"]) KX G (by k_is) (by k_is) (by k_is) (by k_is) (fun _ _ _ _ _ _ us hl => match us, hl with | [_, _], _ => rfl)
    have D_law_hand_right := Kp.def_mk (name := "_law_hand_right") (st := Kp.s_law_hand_right) (ps := []) KX G (by k_is) (by k_is) (by k_is) (by k_is) (fun _ _ _ _ _ _ us hl => match us, hl with | [], _ => rfl)
    refine' Kp.law_mk KX G hmg ?a ?l ?c ?k (fun fd base F => Kp.whole ⟨z_len, z_range, z_tuple, z_list, z_max, z_min, z_int, z_bool, z_isinstance, z_all, z_sorted, z_enumerate, z_set, z_repr⟩ g_MOST_STANDINGS g_MOST_LETTERS g_MOST_SHOWN D_is_whole D_is_line D_size_of D_wrong_in_table D_wrong_place D_need_machine D_letters_of D_need_standing D_numbered D_single_of D_merged D_is_parting_of D_need_parting D_blocks_of D_joined D_led_to D_is_kept_by D_is_kept D_kept_over D_drawn_in D_drawn D_least_kept D_pairs_in D_kept_in D_kept_partings D_law_told_of D_law_classes D_law_numbered D_law_ring D_law_all_sheets D_law_is_kept D_law_all_kept D_law_merged D_law_apart D_law_closed D_law_draw D_law_of D_law_sheet D_law_begun D_law_frame D_law_is_told D_law_hand_right fd base F)
    (case a => k_is); (case l => k_is); (case c => k_is); (case k => k_is)
