import PyProof.Rows.All
import Wide.All
import OpenK.AllK
import Wide.FinOn
import HandS.ForMost
import HandS.Wide
import HandS.WideBits
import HandS.IsInst
import HandS.Zip
import HandS.Rev
import HandS.SortInts
import HandS.SortRule
import HandS.TupAny
import HandS.Defaults
import HandS.Walk
import HandS.Deep
import HandS.Conv
import HandS.Strs
import HandS.DictTup
import HandS.More
import KE.DataCmp
import HandS.Lambda
import KE.KNest
import KE.DatumOrd
import HandS.SortKw
import KE.KDictPairs
import HandS.Flow
import KE.SortKeyHeap
import KE.KMinKey
import KE.DataMinKey
import HandS.Style
import HandS.SetFor
import KE.KIndexOf
import KE.GoesEnum
import KE.GoesZip
import HandS.SetKeys
import HandS.ForExc
import HandS.ExcOwn
import HandS.TryOnly
import HandS.WordsExc
import HandS.HeadHook1
import HandS.Head0
import HandS.Head1
import HandS.Head2
import HandS.HeadEnd
import HandS.HeadHook2
import HandS.HeadHook3
import HandS.HeadHook4
import HandS.HeadWalk
import KE.KNestM
import PySem.Challenge.RW_refpack_k38_loads_and_excesses
set_option Elab.async false
set_option linter.all false
set_option maxRecDepth 100000
/-! plain: sorted lists of ints, greatest and least -/
namespace Ma
def srt (xs : List Int) : List Int := xs.mergeSort fun a b => decide (a ≤ b)
theorem srt_perm (xs : List Int) : (srt xs).Perm xs := List.mergeSort_perm xs _
theorem srt_sorted (xs : List Int) : (srt xs).Pairwise (· ≤ ·) := by
  have h := List.pairwise_mergeSort (le := fun a b : Int => decide (a ≤ b)) (fun a b c h1 h2 => by
    simp only [decide_eq_true_eq] at *
    omega) (fun a b => by
    simp only [Bool.or_eq_true, decide_eq_true_eq]
    omega) xs
  exact h.imp fun z => of_decide_eq_true z
theorem srt_uniq {xs ys : List Int} (h : ys.Perm xs) (hs : ys.Pairwise (· ≤ ·)) : ys = srt xs :=
  List.Perm.eq_of_pairwise (le := (· ≤ ·)) (fun a b _ _ h1 h2 => Int.le_antisymm h1 h2) hs (srt_sorted xs) (h.trans (srt_perm xs).symm)
theorem srt_of_perm {xs ys : List Int} (h : xs.Perm ys) : srt xs = srt ys := srt_uniq ((srt_perm xs).trans h) (srt_sorted xs)
theorem srt_mem {xs : List Int} {x : Int} : x ∈ srt xs ↔ x ∈ xs := (srt_perm xs).mem_iff
theorem srt_len (xs : List Int) : (srt xs).length = xs.length := (srt_perm xs).length_eq
theorem srt_id {xs : List Int} (h : xs.Pairwise (· ≤ ·)) : srt xs = xs := (srt_uniq (List.Perm.refl _) h).symm
theorem srt_nil : srt [] = [] := by simp [srt]
/-! pairs of ints, by the first and then by the second -/
def lePB (e f : Int × Int) : Bool := decide (e.1 < f.1 ∨ (e.1 = f.1 ∧ e.2 ≤ f.2))
def srtP (xs : List (Int × Int)) : List (Int × Int) := xs.mergeSort lePB
theorem lePB_iff {e f : Int × Int} : lePB e f = true ↔ e.1 < f.1 ∨ (e.1 = f.1 ∧ e.2 ≤ f.2) := decide_eq_true_iff
theorem srtP_perm (xs : List (Int × Int)) : (srtP xs).Perm xs := List.mergeSort_perm xs _
theorem srtP_sorted (xs : List (Int × Int)) : (srtP xs).Pairwise fun e f => e.1 < f.1 ∨ (e.1 = f.1 ∧ e.2 ≤ f.2) := by
  have h := List.pairwise_mergeSort (le := lePB) (fun a b c h1 h2 => by
    rw [lePB_iff] at *
    omega) (fun a b => by
    rw [Bool.or_eq_true, lePB_iff, lePB_iff]
    omega) xs
  exact h.imp fun z => lePB_iff.mp z
theorem srtP_uniq {xs ys : List (Int × Int)} (h : ys.Perm xs) (hs : ys.Pairwise fun e f => e.1 < f.1 ∨ (e.1 = f.1 ∧ e.2 ≤ f.2)) : ys = srtP xs :=
  List.Perm.eq_of_pairwise (le := fun e f : Int × Int => e.1 < f.1 ∨ (e.1 = f.1 ∧ e.2 ≤ f.2)) (fun a b _ _ h1 h2 => Prod.ext (by omega) (by omega)) hs (srtP_sorted xs) (h.trans (srtP_perm xs).symm)
theorem srtP_len (xs : List (Int × Int)) : (srtP xs).length = xs.length := (srtP_perm xs).length_eq
theorem srtP_mem {xs : List (Int × Int)} {x : Int × Int} : x ∈ srtP xs ↔ x ∈ xs := (srtP_perm xs).mem_iff
/-! pairs of ints, by the second (the greatest first) and then by the first -/
def leKB (e f : Int × Int) : Bool := decide (f.2 < e.2 ∨ (e.2 = f.2 ∧ e.1 ≤ f.1))
def srtK (xs : List (Int × Int)) : List (Int × Int) := xs.mergeSort leKB
theorem leKB_iff {e f : Int × Int} : leKB e f = true ↔ f.2 < e.2 ∨ (e.2 = f.2 ∧ e.1 ≤ f.1) := decide_eq_true_iff
theorem srtK_perm (xs : List (Int × Int)) : (srtK xs).Perm xs := List.mergeSort_perm xs _
theorem srtK_sorted (xs : List (Int × Int)) : (srtK xs).Pairwise fun e f => f.2 < e.2 ∨ (e.2 = f.2 ∧ e.1 ≤ f.1) := by
  have h := List.pairwise_mergeSort (le := leKB) (fun a b c h1 h2 => by
    rw [leKB_iff] at *
    omega) (fun a b => by
    rw [Bool.or_eq_true, leKB_iff, leKB_iff]
    omega) xs
  exact h.imp fun z => leKB_iff.mp z
theorem srtK_uniq {xs ys : List (Int × Int)} (h : ys.Perm xs) (hs : ys.Pairwise fun e f => f.2 < e.2 ∨ (e.2 = f.2 ∧ e.1 ≤ f.1)) : ys = srtK xs :=
  List.Perm.eq_of_pairwise (le := fun e f : Int × Int => f.2 < e.2 ∨ (e.2 = f.2 ∧ e.1 ≤ f.1)) (fun a b _ _ h1 h2 => Prod.ext (by omega) (by omega)) hs (srtK_sorted xs) (h.trans (srtK_perm xs).symm)
theorem srtK_len (xs : List (Int × Int)) : (srtK xs).length = xs.length := (srtK_perm xs).length_eq
theorem srtK_mem {xs : List (Int × Int)} {x : Int × Int} : x ∈ srtK xs ↔ x ∈ xs := (srtK_perm xs).mem_iff
/-- the greatest, or d -/
def maxD (d : Int) : List Int → Int
  | [] => d
  | x :: xs => xs.foldl max x
def minD (d : Int) : List Int → Int
  | [] => d
  | x :: xs => xs.foldl min x
theorem foldl_max : ∀ (xs : List Int) (x : Int), (xs.foldl max x ∈ x :: xs) ∧ ∀ y ∈ x :: xs, y ≤ xs.foldl max x
  | [], x => ⟨List.mem_cons_self, fun y hy => by rw [List.mem_singleton.mp hy]; exact Int.le_refl _⟩
  | z :: zs, x => by
    obtain ⟨h1, h2⟩ := foldl_max zs (max x z)
    rw [List.foldl_cons]
    have hx := h2 _ List.mem_cons_self
    refine ⟨?_, fun y hy => ?_⟩
    · rcases List.mem_cons.mp h1 with e | e
      · rw [e]
        rcases Int.le_total x z with l | l
        · rw [Int.max_eq_right l]; exact List.mem_cons_of_mem _ List.mem_cons_self
        · rw [Int.max_eq_left l]; exact List.mem_cons_self
      · exact List.mem_cons_of_mem _ (List.mem_cons_of_mem _ e)
    · rcases List.mem_cons.mp hy with e | e
      · subst e; omega
      · rcases List.mem_cons.mp e with e | e
        · subst e; omega
        · exact h2 y (List.mem_cons_of_mem _ e)
theorem foldl_min : ∀ (xs : List Int) (x : Int), (xs.foldl min x ∈ x :: xs) ∧ ∀ y ∈ x :: xs, xs.foldl min x ≤ y
  | [], x => ⟨List.mem_cons_self, fun y hy => by rw [List.mem_singleton.mp hy]; exact Int.le_refl _⟩
  | z :: zs, x => by
    obtain ⟨h1, h2⟩ := foldl_min zs (min x z)
    rw [List.foldl_cons]
    have hx := h2 _ List.mem_cons_self
    refine ⟨?_, fun y hy => ?_⟩
    · rcases List.mem_cons.mp h1 with e | e
      · rw [e]
        rcases Int.le_total x z with l | l
        · rw [Int.min_eq_left l]; exact List.mem_cons_self
        · rw [Int.min_eq_right l]; exact List.mem_cons_of_mem _ List.mem_cons_self
      · exact List.mem_cons_of_mem _ (List.mem_cons_of_mem _ e)
    · rcases List.mem_cons.mp hy with e | e
      · subst e; omega
      · rcases List.mem_cons.mp e with e | e
        · subst e; omega
        · exact h2 y (List.mem_cons_of_mem _ e)
theorem maxD_nil {d : Int} : maxD d [] = d := rfl
theorem minD_nil {d : Int} : minD d [] = d := rfl
theorem maxD_mem {d : Int} {xs : List Int} (h : xs ≠ []) : maxD d xs ∈ xs := by
  cases xs with
  | nil => exact absurd rfl h
  | cons x xs => exact (foldl_max xs x).1
theorem maxD_le {d : Int} {xs : List Int} {y : Int} (h : y ∈ xs) : y ≤ maxD d xs := by
  cases xs with
  | nil => cases h
  | cons x xs => exact (foldl_max xs x).2 y h
theorem minD_mem {d : Int} {xs : List Int} (h : xs ≠ []) : minD d xs ∈ xs := by
  cases xs with
  | nil => exact absurd rfl h
  | cons x xs => exact (foldl_min xs x).1
theorem minD_le {d : Int} {xs : List Int} {y : Int} (h : y ∈ xs) : minD d xs ≤ y := by
  cases xs with
  | nil => cases h
  | cons x xs => exact (foldl_min xs x).2 y h
theorem maxD_uniq {d m : Int} {xs : List Int} (h : m ∈ xs) (h2 : ∀ y ∈ xs, y ≤ m) : m = maxD d xs :=
  Int.le_antisymm (maxD_le h) (h2 _ (maxD_mem fun e => by rw [e] at h; cases h))
theorem minD_uniq {d m : Int} {xs : List Int} (h : m ∈ xs) (h2 : ∀ y ∈ xs, m ≤ y) : m = minD d xs :=
  Int.le_antisymm (h2 _ (minD_mem fun e => by rw [e] at h; cases h)) (minD_le h)
theorem maxD_perm {d : Int} {xs ys : List Int} (h : xs.Perm ys) : maxD d xs = maxD d ys := by
  by_cases e : xs = []
  · subst e
    rw [h.nil_eq]
  · exact maxD_uniq (h.mem_iff.mp (maxD_mem e)) fun y hy => maxD_le (h.mem_iff.mpr hy)
theorem minD_perm {d : Int} {xs ys : List Int} (h : xs.Perm ys) : minD d xs = minD d ys := by
  by_cases e : xs = []
  · subst e
    rw [h.nil_eq]
  · exact minD_uniq (h.mem_iff.mp (minD_mem e)) fun y hy => minD_le (h.mem_iff.mpr hy)
/-- strictly ascending lists with the same elements are the same -/
theorem asc_ext {xs ys : List Int} (hx : xs.Pairwise (· < ·)) (hy : ys.Pairwise (· < ·)) (h : ∀ x, x ∈ xs ↔ x ∈ ys) : xs = ys := by
  induction xs generalizing ys with
  | nil =>
    cases ys with
    | nil => rfl
    | cons y ys => exact nomatch (h y).mpr List.mem_cons_self
  | cons x xs ih =>
    cases ys with
    | nil => exact nomatch (h x).mp List.mem_cons_self
    | cons y ys =>
      obtain ⟨a1, a2⟩ := List.pairwise_cons.mp hx
      obtain ⟨b1, b2⟩ := List.pairwise_cons.mp hy
      have e : x = y := by
        rcases List.mem_cons.mp ((h x).mp List.mem_cons_self) with e | e
        · exact e
        · rcases List.mem_cons.mp ((h y).mpr List.mem_cons_self) with e2 | e2
          · exact e2.symm
          · have := b1 x e
            have := a1 y e2
            omega
      subst e
      congr 1
      refine ih a2 b2 fun z => ⟨fun hz => ?_, fun hz => ?_⟩
      · rcases List.mem_cons.mp ((h z).mp (List.mem_cons_of_mem _ hz)) with e | e
        · subst e
          have := a1 z hz
          omega
        · exact e
      · rcases List.mem_cons.mp ((h z).mpr (List.mem_cons_of_mem _ hz)) with e | e
        · subst e
          have := b1 z hz
          omega
        · exact e
/-- the different elements of an ascending list -/
def dd : List Int → List Int
  | [] => []
  | x :: xs => x :: (dd xs).filter fun y => decide (y ≠ x)
theorem dd_mem : ∀ {xs : List Int} {x : Int}, x ∈ dd xs ↔ x ∈ xs
  | [], _ => Iff.rfl
  | y :: ys, x => by
    unfold dd
    rw [List.mem_cons, List.mem_cons, List.mem_filter, dd_mem, decide_eq_true_eq]
    by_cases e : x = y
    · simp [e]
    · simp [e]
theorem dd_asc : ∀ {xs : List Int}, xs.Pairwise (· ≤ ·) → (dd xs).Pairwise (· < ·)
  | [], _ => List.Pairwise.nil
  | y :: ys, h => by
    obtain ⟨h1, h2⟩ := List.pairwise_cons.mp h
    unfold dd
    refine List.pairwise_cons.mpr ⟨fun z hz => ?_, (dd_asc h2).filter _⟩
    obtain ⟨z1, z2⟩ := List.mem_filter.mp hz
    have := h1 z (dd_mem.mp z1)
    have := of_decide_eq_true z2
    omega
/-- the different elements, ascending -/
def dst (xs : List Int) : List Int := dd (srt xs)
theorem dst_mem {xs : List Int} {x : Int} : x ∈ dst xs ↔ x ∈ xs := dd_mem.trans srt_mem
theorem dst_asc (xs : List Int) : (dst xs).Pairwise (· < ·) := dd_asc (srt_sorted xs)
theorem dd_len : ∀ xs : List Int, (dd xs).length ≤ xs.length
  | [] => Nat.le_refl _
  | x :: xs => by
    unfold dd
    have h := List.length_filter_le (fun y => decide (y ≠ x)) (dd xs)
    have := dd_len xs
    rw [List.length_cons, List.length_cons]
    omega
theorem dst_len (xs : List Int) : (dst xs).length ≤ xs.length := by
  have h := dd_len (srt xs)
  rw [srt_len] at h
  exact h
theorem dst_uniq {xs ys : List Int} (h : ys.Pairwise (· < ·)) (hm : ∀ x, x ∈ ys ↔ x ∈ xs) : ys = dst xs := asc_ext h (dst_asc xs) fun x => (hm x).trans dst_mem.symm
theorem dst_perm {xs ys : List Int} (h : xs.Perm ys) : dst xs = dst ys := by
  unfold dst
  rw [srt_of_perm h]
end Ma

/-! plain: frequencies -/
namespace Ma
def putI (ks : List (Int × Int)) (k v : Int) : List (Int × Int) := if (ks.any fun p => decide (p.1 = k)) = true then ks.map (fun p => if p.1 = k then (p.1, v) else p) else ks ++ [(k, v)]
def getI (ks : List (Int × Int)) (k : Int) : Option Int := (ks.find? fun p => decide (p.1 = k)).map (·.2)
structure Tl (pre : List Int) (ks : List (Int × Int)) : Prop where
  nd : (ks.map (·.1)).Nodup
  mem : ∀ x c, (x, c) ∈ ks ↔ x ∈ pre ∧ c = (pre.count x : Nat)
  len : ks.length ≤ pre.length
theorem tl_nil : Tl [] [] := ⟨List.nodup_nil, fun x c => by simp, Nat.le_refl _⟩
theorem getI_some {ks : List (Int × Int)} {k v : Int} (nd : (ks.map (·.1)).Nodup) (h : (k, v) ∈ ks) : getI ks k = some v := by
  unfold getI
  cases e : ks.find? fun p => decide (p.1 = k) with
  | none => exact absurd (decide_eq_true rfl) (List.find?_eq_none.mp e _ h)
  | some p =>
    have h1 := List.mem_of_find?_eq_some e
    have h2 : p.1 = k := by simpa using List.find?_some e
    obtain ⟨a, b⟩ := p
    have h2 : a = k := h2
    subst h2
    obtain ⟨i, hi, e1⟩ := List.getElem_of_mem h
    obtain ⟨j, hj, e2⟩ := List.getElem_of_mem h1
    have := (List.nodup_iff_pairwise_ne.mp nd)
    have key := List.pairwise_iff_getElem.mp this
    have eij : i = j := by
      rcases Nat.lt_trichotomy i j with z | z | z
      · have := key i j (by simpa using hi) (by simpa using hj) z
        rw [List.getElem_map, List.getElem_map, e1, e2] at this
        exact absurd rfl this
      · exact z
      · have := key j i (by simpa using hj) (by simpa using hi) z
        rw [List.getElem_map, List.getElem_map, e1, e2] at this
        exact absurd rfl this
    subst eij
    rw [e1] at e2
    cases e2
    rfl
theorem getI_none {ks : List (Int × Int)} {k : Int} (h : ∀ v, (k, v) ∉ ks) : getI ks k = none := by
  unfold getI
  rw [Option.map_eq_none_iff, List.find?_eq_none]
  intro p hp e
  obtain ⟨a, b⟩ := p
  have e : a = k := by simpa using e
  subst e
  exact h b hp
theorem Tl.step {pre : List Int} {ks : List (Int × Int)} (T : Tl pre ks) (v : Int) : Tl (pre ++ [v]) (putI ks v ((getI ks v).getD 0 + 1)) := by
  have cnt : ∀ x, (pre ++ [v]).count x = pre.count x + (if v = x then 1 else 0) := fun x => by
    rw [List.count_append, List.count_singleton]
    by_cases e : v = x <;> simp [e]
  by_cases hv : v ∈ pre
  · have hm := (T.mem v _).mpr ⟨hv, rfl⟩
    rw [getI_some T.nd hm]
    unfold putI
    have ha : (ks.any fun p => decide (p.1 = v)) = true := List.any_eq_true.mpr ⟨_, hm, decide_eq_true rfl⟩
    rw [if_pos ha]
    refine ⟨?_, fun x c => ?_, by rw [List.length_map, List.length_append]; have := T.len; omega⟩
    · have e : (ks.map fun p => if p.1 = v then (p.1, (some ((pre.count v : Nat) : Int)).getD 0 + 1) else p).map (·.1) = ks.map (·.1) := by
        rw [List.map_map]
        refine List.map_congr_left fun p _ => ?_
        show (if p.1 = v then _ else p).1 = p.1
        split <;> rfl
      rw [e]
      exact T.nd
    · rw [List.mem_map, cnt]
      constructor
      · rintro ⟨⟨a, b⟩, hp, e⟩
        obtain ⟨h1, h2⟩ := (T.mem a b).mp hp
        by_cases z : a = v
        · rw [if_pos z] at e
          cases e
          refine ⟨List.mem_append_left _ h1, ?_⟩
          subst z
          rw [if_pos rfl]
          show ((List.count a pre : Nat) : Int) + 1 = ((List.count a pre + 1 : Nat) : Int)
          omega
        · rw [if_neg z] at e
          cases e
          refine ⟨List.mem_append_left _ h1, ?_⟩
          rw [if_neg fun z' => z z'.symm, h2]
          rfl
      · rintro ⟨h1, h2⟩
        have hx : x ∈ pre := by
          rcases List.mem_append.mp h1 with z | z
          · exact z
          · rw [List.mem_singleton.mp z]
            exact hv
        refine ⟨(x, (pre.count x : Nat)), (T.mem x _).mpr ⟨hx, rfl⟩, ?_⟩
        by_cases z : x = v
        · rw [if_pos z, h2, if_pos z.symm, z]
          show (v, ((List.count v pre : Nat) : Int) + 1) = _
          congr 1
        · rw [if_neg z, h2, if_neg fun z' => z z'.symm]
          rfl
  · have hn : ∀ c, (v, c) ∉ ks := fun c h => hv ((T.mem v c).mp h).1
    rw [getI_none hn]
    unfold putI
    have ha : ¬ (ks.any fun p => decide (p.1 = v)) = true := fun h => by
      obtain ⟨⟨a, b⟩, hp, e⟩ := List.any_eq_true.mp h
      have e : a = v := of_decide_eq_true e
      subst e
      exact hn b hp
    rw [if_neg ha]
    refine ⟨?_, fun x c => ?_, by rw [List.length_append, List.length_append]; have := T.len; simp; omega⟩
    · rw [List.map_append]
      refine List.nodup_append.mpr ⟨T.nd, by simp, fun a hA b hb e => ?_⟩
      rw [List.mem_map] at hA
      obtain ⟨⟨p, c⟩, hp, rfl⟩ := hA
      have hb : b = v := by simpa using hb
      subst hb
      have e : p = b := e
      subst e
      exact hn c hp
    · rw [List.mem_append, T.mem, List.mem_singleton, cnt]
      constructor
      · rintro (⟨h1, h2⟩ | e)
        · have z : v ≠ x := fun e => hv (by rw [e]; exact h1)
          exact ⟨List.mem_append_left _ h1, by rw [if_neg z, h2]; rfl⟩
        · cases e
          refine ⟨List.mem_append_right _ (List.mem_singleton.mpr rfl), ?_⟩
          rw [if_pos rfl, List.count_eq_zero.mpr hv]
          rfl
      · rintro ⟨h1, h2⟩
        by_cases z : v = x
        · right
          subst z
          rw [h2, if_pos rfl, List.count_eq_zero.mpr hv]
          rfl
        · left
          rw [if_neg z] at h2
          rcases List.mem_append.mp h1 with q | q
          · exact ⟨q, by rw [h2]; rfl⟩
          · exact absurd (List.mem_singleton.mp q).symm z
def freq (ns : List Int) : List (Int × Int) := (dst ns).map fun x => (x, (ns.count x : Nat))
theorem Tl.freq {ns : List Int} {ks zs : List (Int × Int)} (T : Tl ns ks) (hp : zs.Perm ks) (hs : zs.Pairwise fun e f => ¬ (f.1 < e.1 ∨ f.1 = e.1 ∧ f.2 < e.2)) : zs = freq ns := by
  have hnd : (zs.map (·.1)).Nodup := (hp.map _).nodup_iff.mpr T.nd
  have hm : ∀ x c, (x, c) ∈ zs ↔ x ∈ ns ∧ c = (ns.count x : Nat) := fun x c => hp.mem_iff.trans (T.mem x c)
  have hk : zs.map (·.1) = dst ns := by
    refine dst_uniq ?_ fun x => ?_
    · rw [List.pairwise_map]
      have h2 := List.pairwise_map.mp (List.nodup_iff_pairwise_ne.mp hnd)
      exact (List.Pairwise.and hs h2).imp fun {a b} h => by
        have h1 := h.1
        have h2 := h.2
        omega
    · rw [List.mem_map]
      constructor
      · rintro ⟨⟨a, b⟩, h, rfl⟩
        exact ((hm a b).mp h).1
      · intro h
        exact ⟨(x, (ns.count x : Nat)), (hm _ _).mpr ⟨h, rfl⟩, rfl⟩
  unfold Ma.freq
  rw [← hk, List.map_map]
  have e : ∀ p ∈ zs, p = ((fun x => (x, ((ns.count x : Nat) : Int))) ∘ fun x : Int × Int => x.1) p := fun p h => by
    obtain ⟨a, b⟩ := p
    rw [((hm a b).mp h).2]
    rfl
  conv => lhs; rw [← List.map_id zs]
  exact List.map_congr_left e
def rowsOf (ns : List Int) (x : Int) : List Nat := (List.range ns.length).filter fun k => decide (ns.getD k 0 = x)
theorem rowsOf_snoc (ns : List Int) (v x : Int) : rowsOf (ns ++ [v]) x = rowsOf ns x ++ if v = x then [ns.length] else [] := by
  unfold rowsOf
  rw [List.length_append, List.length_singleton, List.range_succ, List.filter_append]
  have e1 : (List.range ns.length).filter (fun k => decide ((ns ++ [v]).getD k 0 = x)) = (List.range ns.length).filter fun k => decide (ns.getD k 0 = x) := by
    refine List.filter_congr fun k hk => ?_
    have hk := List.mem_range.mp hk
    rw [List.getD_eq_getElem?_getD, List.getElem?_append_left hk, ← List.getD_eq_getElem?_getD]
  rw [e1]
  congr 1
  have e2 : (ns ++ [v]).getD ns.length 0 = v := by simp
  by_cases h : v = x
  · rw [if_pos h, List.filter_cons_of_pos (by rw [e2]; exact decide_eq_true h)]
    rfl
  · rw [if_neg h, List.filter_cons_of_neg (by rw [e2]; simpa using h)]
    rfl
theorem rowsOf_nil_of {ns : List Int} {x : Int} (h : x ∉ ns) : rowsOf ns x = [] := by
  unfold rowsOf
  rw [List.filter_eq_nil_iff]
  intro k hk e
  have hk := List.mem_range.mp hk
  have e := of_decide_eq_true e
  rw [List.getD_eq_getElem?_getD, List.getElem?_eq_getElem hk] at e
  exact h (by rw [← e]; exact List.getElem_mem hk)
def groups (ns : List Int) : List (List Nat) := (dst ns).map (rowsOf ns)
end Ma

set_option maxHeartbeats 4000000
/-! DL part B0: tuples whose object is known to have no dict of its own; rules that make such ones; their methods. -/
namespace L2
open PySem PySem.Spec PyProof.Rows
/-- a tuple's object without a dict -/
def PlO (o : Obj) : Prop := o.cls = .type "tuple" ∧ o.dict = none
abbrev HO.pt (o : Obj) (xs : List V) : HO := .frz o (.tup xs)
/-- a tuple without a dict that is never written -/
def PlT (K : PySem.W.Frag) (H : Hp) (a : Addr) (xs : List V) : Prop :=
  (∃ o, PlO o ∧ H a = some (HO.pt o xs)) ∨
    ∃ (o : Obj) (its : Array Value) (n : Nat), K.lookup a = some o ∧ o.cls = .type "tuple" ∧ o.dict = none ∧ o.data = .seq its n ∧ its.size ≤ sizeLine ∧ Vals xs its.toList
theorem PlT.sqt {K : PySem.W.Frag} {H : Hp} {a : Addr} {xs : List V} (h : PlT K H a xs) : SqT K H a xs := by
  rcases h with ⟨o, _, e⟩ | ⟨o, its, n, e, c, _, r⟩
  · exact .inl (.inr ⟨o, e⟩)
  · exact .inr ⟨o, its, n, e, c, r⟩
theorem PlT.upd {K : PySem.W.Frag} {H : Hp} {a : Addr} {o : Obj} {xs : List V} (p : PlO o) : PlT K (upd H a (HO.pt o xs)) a xs := .inl ⟨o, p, upd_same⟩
theorem plo_new {its : Array Value} : PlO { cls := .type "tuple", data := .seq its } := ⟨rfl, rfl⟩
theorem pt_ok {P : Program} {w : World} {H : Hp} {h : Heap} {a : Addr} {xs : List V} {its : List Value} (z : xs.length ≤ sizeLine) (r : Vals xs its) (e : h.get? a = some { cls := .type "tuple", data := .seq its.toArray }) :
    ObjOk P w H h a (HO.pt { cls := .type "tuple", data := .seq its.toArray } xs) := ⟨e, z, its, r, ⟨_, e, rfl, _, rfl⟩⟩
/-- what is made: a new plain tuple -/
def NewT (H : Hp) (xs : List V) (Q : VK) : Prop := ∀ (p : Addr) (o : Obj), PlO o → H p = none → Q (.ref p) (upd H p (HO.pt o xs))
section
variable {X : Cx} {es : List Expr} {pos : Pos}
def tTupP (t : TA) : TE := fun σ H Q => t σ H fun xs H1 => xs.length ≤ sizeLine ∧ NewT H1 xs Q
theorem pe_tupP {t : TA} {x1} (h : PA X es t) : PE X (.Tuple es x1 pos) (tTupP t) := by
  refine ⟨fun pins s σ H Q I hq => ?_⟩
  refine wpAny_Tuple_spliced (thn (h.run pos pins s σ H _ I hq) fun us s1 ⟨xs, H1, I1, r, z, q⟩ => ⟨by rw [← r.length]; exact z, ?_⟩)
  have hf : H1 s1.heap.objs.size = none := I1.hok.fresh (Nat.le_refl _)
  exact ⟨.ref s1.heap.objs.size, _, I1.laid (t' := s1.toks) (fun b u e => Heap.get?_push_of_some _ e) (Nat.le_refl _) (pt_ok z r (Heap.get?_push_size _ rfl)), rfl, q _ _ plo_new hf⟩
/-- t + u -/
def rCatP (K : PySem.W.Frag) : R2 := fun x y H Q => ∃ a b xs ys, x = .ref a ∧ y = .ref b ∧ SqT K H a xs ∧ SqT K H b ys ∧ xs.length + ys.length ≤ sizeLine ∧
  (xs = [] → Q (.ref b) H) ∧ (xs ≠ [] → ys = [] → Q (.ref a) H) ∧ (xs ≠ [] → ys ≠ [] → NewT H (xs ++ ys) Q)
theorem op_catP : OpR X (binaryOp .Add) (rCatP X.K) := by
  intro pins s σ H x y v u Q I rx ry h
  obtain ⟨a, b, xs, ys, rfl, rfl, ha, hb, hz, q0, q1, q2⟩ := h
  cases rx
  cases ry
  obtain ⟨its, r1, p1, _⟩ := I.tuple ha
  obtain ⟨its2, r2, p2, _⟩ := I.tuple hb
  by_cases hx : xs = []
  · subst hx
    cases r1
    exact cat_tup0 p1 p2 ⟨.ref b, H, I, rfl, q0 rfl⟩
  · refine HT.cat_tup p1 p2 (fun z => hx (r1.nil_iff.mp z)) (fun z => ⟨.ref a, H, I, rfl, q1 hx (r2.nil_iff.mp z)⟩) (fun z => ?_) (by rw [← r1.length, ← r2.length]; exact hz)
    exact ⟨.ref s.heap.objs.size, _, I.laid (t' := s.toks) (fun b ob q => Heap.get?_push_of_some _ q) (Nat.le_refl _) (pt_ok (by rw [List.length_append]; exact hz) (r1.append r2) (Heap.get?_push_size _ rfl)), rfl, q2 hx (fun w => z (r2.nil_iff.mpr w)) _ _ plo_new (I.hok.fresh (Nat.le_refl _))⟩
/-- t[lo:hi] -/
def rSlP (K : PySem.W.Frag) : V → Option Int → Option Int → Hp → VK → Prop := fun x lo hi H Q => ∃ a xs, x = .ref a ∧ SqT K H a xs ∧
  (HT.sIx xs.length 0 lo = 0 ∧ HT.sIx xs.length xs.length hi = xs.length → Q (.ref a) H) ∧ (¬ (HT.sIx xs.length 0 lo = 0 ∧ HT.sIx xs.length xs.length hi = xs.length) → NewT H (cutV xs lo hi) Q)
theorem sl_tupP : SlR X (rSlP X.K) := by
  intro pins s σ H x v vl vu lo hi sl Q I rx hs pl pu h
  obtain ⟨a, xs, rfl, hx, q1, q2⟩ := h
  cases rx
  obtain ⟨its, r, ht, hz⟩ := I.tuple hx
  have hlen : its.toArray.size = xs.length := by rw [List.size_toArray]; exact r.length.symm
  refine ⟨"tuple", _, PyProof.Rows.slot_tuple_getitem.lookup, ht.typeIs, ?_⟩
  by_cases hw : HT.sIx xs.length 0 lo = 0 ∧ HT.sIx xs.length xs.length hi = xs.length
  · exact getItem_tuple_whole ht hs pl pu (by rw [hlen]; exact hw) ⟨.ref a, H, I, rfl, q1 hw⟩
  · refine HT.getItem_tuple_cut ht hs pl pu (by rw [hlen]; exact hw) ?_ (by rw [hlen]; exact hz)
    rw [hlen]
    exact ⟨.ref s.heap.objs.size, _, I.laid (t' := s.toks) (fun b ob q => Heap.get?_push_of_some _ q) (Nat.le_refl _) (pt_ok (Nat.le_trans (cutV_length xs lo hi) hz) ((r.drop (HT.sIx xs.length 0 lo)).take (HT.sIx xs.length xs.length hi - HT.sIx xs.length 0 lo)) (Heap.get?_push_size _ rfl)), rfl, q2 hw _ _ plo_new (I.hok.fresh (Nat.le_refl _))⟩
/-- tuple(x) -/
def rTupP (K : PySem.W.Frag) : List V → Hp → VK → Prop := fun xs H Q => ∃ p ys, xs = [.ref p] ∧ ((SqL K H p ys ∧ NewT H ys Q) ∨ (SqT K H p ys ∧ Q (.ref p) H))
theorem call_tupleP : CallR X (.type "tuple") (rTupP X.K) := by
  intro pins s σ H xs us Q I r h
  obtain ⟨p, ys, rfl, h⟩ := h
  obtain ⟨u, rfl, rx⟩ := vals1 r
  cases rx
  rcases h with ⟨hq, q⟩ | ⟨hq, q⟩
  · obtain ⟨its, r', pl, hz⟩ := I.list hq
    have hlen := r'.length
    refine call_tuple_list pl.isList (fun h' kp => ?_) (by simp only [List.size_toArray] <;> omega)
    have I1 : Inv X pins σ H { s with heap := h' } := I.kept (t' := s.toks) kp
    exact ⟨.ref h'.objs.size, _, I1.laid (t' := s.toks) (fun b o e => Heap.get?_push_of_some _ e) (Nat.le_refl _) (pt_ok hz r' (Heap.get?_push_size _ rfl)), rfl, q _ _ plo_new (I1.hok.fresh (Nat.le_refl _))⟩
  · obtain ⟨its, r', pl, hz⟩ := I.tuple hq
    exact call_tuple_same pl ⟨.ref p, H, I, rfl, q⟩
/-- tuple(reversed(x)), x a list -/
def tTupRevP (K : PySem.W.Frag) (te : TE) : TE := fun σ H Q => te σ H fun v H1 => ∃ (a : Addr) (xs : List V), v = .ref a ∧ SqL K H1 a xs ∧ NewT H1 xs.reverse Q
theorem pe_tupRevP {e : Expr} {te : TE} {p p2 pos pos2 : Pos} (hc : X.calm = true) (hg : Gl X "tuple") (hm : X.mg "tuple" = none) (hg2 : Gl X "reversed") (hm2 : X.mg "reversed" = none) (he : PE X e te)
    (hs : starEach [e] X.env = (false, eval e X.env) :: starEach [] X.env := by rfl)
    (hs2 : starEach [.Call (.Name "reversed" p2) [e] [] pos2] X.env = (false, eval (.Call (.Name "reversed" p2) [e] [] pos2) X.env) :: starEach [] X.env := by rfl) :
    PE X (.Call (.Name "tuple" p) [.Call (.Name "reversed" p2) [e] [] pos2] [] pos) (tTupRevP X.K te) := by
  refine ⟨fun pins s σ H Q I h => ?_⟩
  refine Call_ (ld_blt I hg hm boot_tuple (PyProof.Rows.callWith_type1 (args_cons (Call_ (ld_blt I hg2 hm2 PyProof.Rows.boot_reversed (PyProof.Rows.callWith_type1 (args_cons (thn (he.run pins s σ H _ I h) fun u s1 ⟨v, H1, I1, r1, q1⟩ => args_nil ?_) hs) hs rfl))) hs2) hs2 rfl))
  obtain ⟨a, xs, ev, hq, q⟩ := q1
  subst ev
  obtain rfl : u = Value.ref a := r1
  obtain ⟨its, rv, p', hz⟩ := I1.list hq
  refine call_reversed_list p'.isList (args_nil ?_)
  have k0 : ∀ b o, s1.heap.get? b = some o → (s1.heap.push (revObj a ((its.toArray.size : Int) - 1))).get? b = some o := fun b o e => Heap.get?_push_of_some _ e
  have I2 : Inv X pins σ H1 { s1 with heap := s1.heap.push (revObj a ((its.toArray.size : Int) - 1)) } := I1.kept (t' := s1.toks) k0
  obtain ⟨f0, f1, f2, f3, f4, f5⟩ := I1.fpOk (H' := H1) (b := s1.heap.objs.size) (Nat.le_refl _) (I1.hok.fresh (Nat.le_refl _))
  have hl := p'.isList
  obtain ⟨ol, hol, _⟩ := id hl
  have hne : a ≠ s1.heap.objs.size := Nat.ne_of_lt (Heap.lt_size hol)
  have hn : its.toArray.size ≤ sizeLine := by rw [List.size_toArray, ← rv.length]; exact hz
  refine RT.call_tuple_rev (s := { s1 with heap := s1.heap.push (revObj a ((its.toArray.size : Int) - 1)) }) (I1.ok.hd hc) ⟨_, Heap.get?_push_size _ rfl, rfl, rfl⟩ (hl.push _) hne hn fun h' tk acc hk hi => ?_
  have I3 : Inv X pins σ H1 { s1 with heap := h', toks := tk } := I2.turned (t' := tk) (fun b o hb e => hk b o hb e) f0 f1 f3 f4 f5
  have ok := pt_ok (P := X.prog) (w := X.w) (H := upd H1 h'.objs.size (HO.pt { cls := .type "tuple", data := .seq acc.toList.toArray } xs.reverse)) (h := h'.push { cls := .type "tuple", data := .seq acc.toList.toArray }) (by rw [List.length_reverse]; exact hz) (RT.vals_rev rv hi) (Heap.get?_push_size _ rfl)
  have e0 : acc.toList.toArray = acc := Array.toArray_toList
  rw [e0] at ok
  exact ⟨.ref h'.objs.size, _, I3.laid (t' := tk) (fun c o e => Heap.get?_push_of_some _ e) (Nat.le_refl _) ok, rfl, q _ _ plo_new (I3.hok.fresh (Nat.le_refl _))⟩
/-- tuple(range(..)) -/
def tTupRgP (te : St → Hp → (Int → Int → Hp → Prop) → Prop) : TE := fun σ H Q => te σ H fun a b H1 => RgOk a b ∧ NewT H1 (rgV a b) Q
theorem pe_tupRgP {e : Expr} {te : St → Hp → (Int → Int → Hp → Prop) → Prop} {p pos : Pos} (hc : X.calm = true) (hg : Gl X "tuple") (hm : X.mg "tuple" = none) (he : PRg X e te) (na : starEach [e] X.env = (false, eval e X.env) :: starEach [] X.env := by rfl) : PE X (.Call (.Name "tuple" p) [e] [] pos) (tTupRgP te) := by
  refine ⟨fun pins s σ H Q I h => ?_⟩
  refine Call_ (ld_blt I hg hm boot_tuple (PyProof.Rows.callWith_type1 (args_cons (thn (he pins s σ H _ I h) fun x s1 ⟨r, a, b, t, u, v, H1, ex, hr, I1, ok, q⟩ => args_nil ?_) na) na))
  subst ex
  obtain ⟨b1, b2, b3, b4, b5⟩ := ok
  refine call_tuple_range (n := (b - a).toNat) (I1.ok.hd hc) hr (small_one b1 b2 b3 b4) (rangeSize_nat a b) b5 fun h' tk acc hk hi => ?_
  have I2 : Inv X pins σ H1 { s1 with heap := h', toks := tk } := I1.kept hk
  have ok := pt_ok (P := X.prog) (w := X.w) (H := upd H1 h'.objs.size (HO.pt { cls := .type "tuple", data := .seq acc.toList.toArray } (rgV a b))) (h := h'.push { cls := .type "tuple", data := .seq acc.toList.toArray }) (by rw [rgV_length, sizeLine_eq]; omega) (vals_rg hi) (Heap.get?_push_size _ rfl)
  have e0 : acc.toList.toArray = acc := Array.toArray_toList
  rw [e0] at ok
  exact ⟨.ref h'.objs.size, _, I2.laid (t' := tk) (fun c o e => Heap.get?_push_of_some _ e) (Nat.le_refl _) ok, rfl, q _ _ plo_new (I2.hok.fresh (Nat.le_refl _))⟩
/-! methods of a plain tuple -/
theorem PlT.obj {pins : List (Addr × Obj)} {σ : St} {H : Hp} {s : Shared} {a : Addr} {xs : List V} (I : Inv X pins σ H s) (h : PlT X.K H a xs) : ∃ o, s.heap.get? a = some o ∧ o.cls = .type "tuple" ∧ o.dict = none := by
  rcases h with ⟨o, p, e⟩ | ⟨o, its, n, e, c, d, _⟩
  · obtain ⟨q, _⟩ := I.hok a _ e
    exact ⟨o, q, p.1, p.2⟩
  · exact ⟨o, I.kIn a o e, c, d⟩
def tBMT (K : PySem.W.Frag) (r : V → List V → Hp → VK → Prop) (to : TE) (t : TA) : TE := fun σ H Q => to σ H fun x H1 => (∃ a xs, x = .ref a ∧ PlT K H1 a xs) ∧ t σ H1 fun xs H2 => r x xs H2 Q
theorem pe_bmT {o e : Expr} {es : List Expr} {to : TE} {t : TA} {name : Str} {apos cpos : Pos} {id : String} {r : V → List V → Hp → VK → Prop} (pa : PlainAttrs "tuple") (slot : Slot "tuple" name id) (hty : typeOf (.builtin id) = pure (.type "method_descriptor")) (hm : MtR X id r) (ho : PE X o to) (ha : PA X (e :: es) t)
    (hbase : attributeBase o name X.env (eval o X.env) = eval o X.env := by rfl)
    (hfew : ((backTo cpos (starEach (e :: es) X.env)).all (fun x => !x.1) && (backToKw cpos (keywordEach [] X.env)).all (fun x => x.1.isSome)
      && decide ((e :: es).length + ([] : List Keyword).length + (if ([] : List Keyword).isEmpty then 0 else 1) < 30)) = true := by rfl)
    (hline : (apos.endLine == cpos.line) = true := by rfl) (hs : starEach (e :: es) X.env = (false, eval e X.env) :: starEach es X.env := by rfl) (hplain : (backTo cpos (starEach es X.env)).any (·.1) = false := by rfl) :
    PE X (.Call (.Attribute o name apos) (e :: es) [] cpos) (tBMT X.K r to t) := by
  refine ⟨fun pins s σ H Q I h => ?_⟩
  refine wpAny_Call_method_late hbase hfew hline rfl (thn (ho.run pins s σ H _ I h) fun v s1 ⟨x, H1, I1, r1, ty, q1⟩ => ?_)
  obtain ⟨a, xs, rfl, pl⟩ := ty
  obtain ⟨ob, e1, e2, e3⟩ := pl.obj I1
  cases r1
  refine ⟨"tuple", id, pa, slot, hty, ⟨ob, e1, e2⟩, fun b eb => (by cases eb; exact ⟨ob, e1, e3⟩), ?_⟩
  have hA := ha.run cpos pins s1 σ H1 _ I1 q1
  rw [hs] at hA ⊢
  refine Calls.callWith_builtin (by show (false || (backTo cpos (starEach es X.env)).any (·.1)) = false; rw [hplain] <;> rfl) (Calls.evalArgs_plain ?_)
  exact thn hA fun us s2 ⟨vs, H2, I2, r2, q2⟩ => hm pins s2 σ H2 (.ref a) vs (.ref a) us Q I2 rfl r2 q2
theorem flat_ints (ys : List Int) : (ys.map V.int).all flatV = true := by
  rw [List.all_map]
  exact List.all_eq_true.mpr fun _ _ => rfl
/-- t.index(x), ints -/
theorem mt_tup_indexI : MtR X "tuple.index" (fun x xs H Q => ∃ p, ∃ ys : List Int, ∃ z, x = .ref p ∧ xs = [.int z] ∧ SqT X.K H p (ys.map V.int) ∧ z ∈ ys ∧ Q (.int (ys.idxOf z : Nat)) H) := by
  intro pins s σ H x xs v us Q I rx rs h
  obtain ⟨p, ys, z, rfl, rfl, hq, hmem, q⟩ := h
  cases rx
  obtain ⟨u, rfl, t, rfl⟩ := vals1 rs
  obtain ⟨its, r, pl, hz⟩ := I.tuple hq
  obtain ⟨⟨cls, dd, dt, sl⟩, ho, hc, n, hd⟩ := pl
  simp only at hc hd
  subst hc
  subst hd
  have hl : its.toArray.size = ys.length := by rw [List.size_toArray, ← r.length, List.length_map]
  have hi := List.idxOf_lt_length_of_mem hmem
  have hj : ys.idxOf z < its.toArray.size := by rw [hl]; exact hi
  have at' : ∀ (m : Nat) (hm : m < its.toArray.size), ∃ y t', ys[m]? = some y ∧ its.toArray[m] = Value.int y t' := fun m hm => by
    have hm' : m < ys.length := by rw [← hl]; exact hm
    obtain ⟨w, hw, t', hw'⟩ := r.get (i := m) (x := .int ys[m]) (by simp [hm'])
    refine ⟨ys[m], t', List.getElem?_eq_getElem hm', ?_⟩
    have e := (List.getElem?_eq_some_iff.mp hw).2
    rw [← hw', ← e]
    simp
  refine call_meets PySem.F.slot_tuple_index ⟨_, ho, rfl⟩ PySem.F.entry_tuple_index (PySem.F.args_tuple_index_2 _ _) (TI.tuple_indexAt p its.toArray n dd sl (.int z t) (eqU (.int z)) (ys.idxOf z) hj ?_ ?_)
    ⟨ho, fun w hw => mem_eqAt (x := .int z) ⟨t, rfl⟩ rfl r (flat_ints ys) w (by simpa using hw), ⟨.int (ys.idxOf z : Nat), H, I.tok _, ⟨_, rfl⟩, q⟩⟩
  · obtain ⟨y, t', h1, h2⟩ := at' _ hj
    have e : y = z := by
      rw [List.getElem?_eq_getElem hi] at h1
      exact (Option.some.inj h1).symm.trans (List.getElem_idxOf hi)
    rw [h2, e]
    show (z == z) = true
    exact beq_self_eq_true z
  · intro m hm hmj
    obtain ⟨y, t', h1, h2⟩ := at' m hm
    rw [h2]
    show (y == z) = false
    refine beq_eq_false_iff_ne.mpr fun e => ?_
    have hm' : m < ys.length := by rw [← hl]; exact hm
    rw [List.getElem?_eq_getElem hm'] at h1
    have h3 : ys[m] = z := (Option.some.inj h1).trans e
    have h4 : (ys[m] == z) = false := List.not_of_lt_findIdx (p := (· == z)) hmj
    rw [h3, beq_self_eq_true] at h4
    cases h4
end
end L2

set_option maxHeartbeats 4000000
/-! DL part B1: sorted(x), x a list of pairs of ints. -/
namespace L2
open PySem PySem.Spec PyProof.Rows L2
section
variable {X : Cx}
def rSortP (K : PySem.W.Frag) : List V → Hp → VK → Prop := fun vs H Q => ∃ (a : Addr) (zs : List (Addr × Int × Int)), vs = [.ref a] ∧ SqL K H a (zs.map fun z => V.ref z.1) ∧ (∀ z ∈ zs, SqT K H z.1 [.int z.2.1, .int z.2.2]) ∧
  ∀ (qs : List (Addr × Int × Int)) (p : Addr), qs.Perm zs → (qs.map (·.2)).Pairwise (fun e f => SrtO.lexB f e = false) → H p = none → Q (.ref p) (upd H p (.lst (qs.map fun z => V.ref z.1)))
open Classical in
theorem cr_sortedPL : CallR X (.builtin "sorted") (rSortP X.K) := by
  intro pins s σ H vs us Q I r h
  obtain ⟨a, zs, rfl, hs, hx, q⟩ := h
  obtain ⟨its, rv, hl, hz⟩ := I.list hs
  obtain rfl := Vals.ref1 r
  have eI : its = zs.map fun z => Value.ref z.1 := by
    clear hs hx q hl hz
    induction zs generalizing its with
    | nil =>
      cases rv
      rfl
    | cons z zs ih =>
      cases rv with
      | cons r1 r2 =>
        cases r1
        rw [ih _ r2]
        rfl
  have hex : ∀ v : Value, ∃ e : Int × Int, ∀ z ∈ zs, v = Value.ref z.1 → z.2 = e := fun v => by
    by_cases hv : ∃ z ∈ zs, v = Value.ref z.1
    · obtain ⟨z, hz1, rfl⟩ := hv
      refine ⟨z.2, fun z2 h2 e2 => ?_⟩
      have e3 : z.1 = z2.1 := Value.ref.inj e2
      have h3 := hx z2 h2
      rw [← e3] at h3
      have e4 := I.tuple_inj h3 (hx z hz1)
      injection e4 with e5 e6
      injection e6 with e7 _
      injection e5 with e5
      injection e7 with e7
      exact Prod.ext e5 e7
    · exact ⟨(0, 0), fun z h1 h2 => absurd ⟨z, h1, h2⟩ hv⟩
  obtain ⟨kf, hkf⟩ := Classical.axiomOfChoice hex
  refine SrtO.sorted_pairsO (k := kf) hl.isList (by rw [← rv.length]; exact hz) (fun v hv => ?_) fun h' d out h1 h2 kp hd hn => ?_
  · rw [eI] at hv
    obtain ⟨z, hz1, rfl⟩ := List.mem_map.mp hv
    obtain ⟨its2, r2, pl, _⟩ := I.tuple (hx z hz1)
    obtain ⟨u1, u2, rfl, ri, rj⟩ := vals2 r2
    obtain ⟨t1, rfl⟩ := ri
    obtain ⟨t2, rfl⟩ := rj
    obtain ⟨o, ho, hc, n, hdt⟩ := pl
    rw [← hkf _ z hz1 rfl]
    exact ⟨z.1, o, t1, t2, n, rfl, ho, hc, hdt⟩
  · obtain ⟨n, hn⟩ := hn
    have hp : out.Perm (zs.map fun z => Value.ref z.1) := by rw [← eI]; exact h2.perm
    obtain ⟨qs, pq, eq⟩ := perm_lift (fun z : Addr × Int × Int => Value.ref z.1) hp zs rfl
    have hmem : ∀ z ∈ qs, z ∈ zs := fun z h => pq.mem_iff.mp h
    have hsort : (qs.map (·.2)).Pairwise (fun e f => SrtO.lexB f e = false) := by
      rw [← eq, SrtO.Srtd, List.pairwise_map] at h1
      rw [List.pairwise_map]
      refine List.Pairwise.imp_of_mem (fun {x y} hx hy h => ?_) h1
      have h' : SrtO.lexB (kf (.ref y.1)) (kf (.ref x.1)) = false := h
      rw [← hkf _ x (hmem x hx) rfl, ← hkf _ y (hmem y hy) rfl] at h'
      exact h'
    have rv2 : Vals (qs.map fun z => V.ref z.1) out := by
      rw [← eq]
      exact vals_maps (fun z : Addr × Int × Int => V.ref z.1) (fun z => Value.ref z.1) qs fun _ _ => rfl
    have hlen : (qs.map fun z => V.ref z.1).length ≤ sizeLine := by
      have e := pq.length_eq
      rw [List.length_map] at hz ⊢
      omega
    exact ⟨.ref d, _, I.laid (t' := s.toks) (o := .lst (qs.map fun z => V.ref z.1)) kp hd ⟨hlen, out, n, rv2, hn⟩, rfl, q qs d pq hsort (I.hok.fresh hd)⟩
/-- a list's or a tuple's method -/
def tBM2 (K : PySem.W.Frag) (r r' : V → List V → Hp → VK → Prop) (to : TE) (t : TA) : TE := fun σ H Q => to σ H fun x H1 => ((∃ a xs, x = .ref a ∧ SqL K H1 a xs) ∧ t σ H1 fun xs H2 => r x xs H2 Q) ∨ ((∃ a xs, x = .ref a ∧ PlT K H1 a xs) ∧ t σ H1 fun xs H2 => r' x xs H2 Q)
theorem pe_bm2 {o e : Expr} {es : List Expr} {to : TE} {t : TA} {name : Str} {apos cpos : Pos} {id id' : String} {r r' : V → List V → Hp → VK → Prop} (slot : Slot "list" name id) (hty : typeOf (.builtin id) = pure (.type "method_descriptor")) (hm : MtR X id r)
    (slot' : Slot "tuple" name id') (hty' : typeOf (.builtin id') = pure (.type "method_descriptor")) (hm' : MtR X id' r') (ho : PE X o to) (ha : PA X (e :: es) t)
    (hbase : attributeBase o name X.env (eval o X.env) = eval o X.env := by rfl)
    (hfew : ((backTo cpos (starEach (e :: es) X.env)).all (fun x => !x.1) && (backToKw cpos (keywordEach [] X.env)).all (fun x => x.1.isSome)
      && decide ((e :: es).length + ([] : List Keyword).length + (if ([] : List Keyword).isEmpty then 0 else 1) < 30)) = true := by rfl)
    (hline : (apos.endLine == cpos.line) = true := by rfl) (hs : starEach (e :: es) X.env = (false, eval e X.env) :: starEach es X.env := by rfl) (hplain : (backTo cpos (starEach es X.env)).any (·.1) = false := by rfl) :
    PE X (.Call (.Attribute o name apos) (e :: es) [] cpos) (tBM2 X.K r r' to t) := by
  refine ⟨fun pins s σ H Q I h => ?_⟩
  refine wpAny_Call_method_late hbase hfew hline rfl (thn (ho.run pins s σ H _ I h) fun v s1 ⟨x, H1, I1, r1, ty⟩ => ?_)
  rcases ty with ⟨⟨a, xs, rfl, pl⟩, q1⟩ | ⟨⟨a, xs, rfl, pl⟩, q1⟩
  · obtain ⟨h1, h2⟩ := tyV_is (T := "list") I1 r1 (.inl ⟨rfl, xs, pl⟩)
    refine ⟨"list", id, PySem.F.plainAttrs_list, slot, hty, h1, h2, ?_⟩
    have hA := ha.run cpos pins s1 σ H1 _ I1 q1
    rw [hs] at hA ⊢
    refine Calls.callWith_builtin (by show (false || (backTo cpos (starEach es X.env)).any (·.1)) = false; rw [hplain] <;> rfl) (Calls.evalArgs_plain ?_)
    exact thn hA fun us s2 ⟨vs, H2, I2, r2, q2⟩ => hm pins s2 σ H2 (.ref a) vs v us Q I2 r1 r2 q2
  · obtain ⟨ob, e1, e2, e3⟩ := pl.obj I1
    cases r1
    refine ⟨"tuple", id', PySem.F.plainAttrs_tuple, slot', hty', ⟨ob, e1, e2⟩, fun b eb => (by cases eb; exact ⟨ob, e1, e3⟩), ?_⟩
    have hA := ha.run cpos pins s1 σ H1 _ I1 q1
    rw [hs] at hA ⊢
    refine Calls.callWith_builtin (by show (false || (backTo cpos (starEach es X.env)).any (·.1)) = false; rw [hplain] <;> rfl) (Calls.evalArgs_plain ?_)
    exact thn hA fun us s2 ⟨vs, H2, I2, r2, q2⟩ => hm' pins s2 σ H2 (.ref a) vs (.ref a) us Q I2 rfl r2 q2
end
end L2

set_option maxHeartbeats 4000000
/-! DL: a layer of plain data over HandS. Part A: data, stores, the mini syntax, its meaning as predicate transformers. -/
namespace DL
open PySem PySem.Spec PyProof.Rows L2

abbrev D := PyData

/-- the law's script: a list that is read and never written -/
def scrD (ns : List Int) : D := .dict [(.none, .list (ns.map PyData.int))]
/-! ### the meaning of operators on data -/
/-- a range object -/
def rgoD (lo hi : Int) : D := .dict [(.int lo, .int hi)]
/-- a dict made of pairs of ints -/
def dctD (ps : List (Int × Int)) : D := .dict ((.bool true, .none) :: ps.map fun p => (.int p.1, .int p.2))
def kvsD : List (D × D) → Option (List (Int × Int))
  | [] => some []
  | (.int i, .int j) :: r => (kvsD r).map ((i, j) :: ·)
  | _ :: _ => none
def dctOf : D → Option (List (Int × Int))
  | .dict ((.bool true, .none) :: r) => kvsD r
  | _ => none
/-- a reference of which nothing is told -/
def opqD (a : Nat) : D := .dict [(.bool false, .int (a : Nat))]
/-- the last pair's value -/
def lastP (ps : List (Int × Int)) (k : Int) : Option Int := (ps.reverse.find? fun p => decide (p.1 = k)).map (·.2)
def isMut : D → Bool
  | .list _ => true
  | _ => false
mutual
def flatD : D → Bool
  | .list _ => false
  | .dict _ => false
  | .tuple xs => flatDs xs
  | _ => true
def flatDs : List D → Bool
  | [] => true
  | x :: xs => flatD x && flatDs xs
end
def scalD : D → Bool
  | .none => true
  | .bool _ => true
  | .int _ => true
  | .str _ => true
  | _ => false

def mulOk (i j : Int) : Prop := (-(2 ^ 64) < i ∧ i < 2 ^ 64) ∨ (-(2 ^ 64) < j ∧ j < 2 ^ 64) ∨ CMulW i j
def cutL {α : Type} (xs : List α) (lo hi : Option Int) : List α := (xs.drop (HT.sIx xs.length 0 lo)).take (HT.sIx xs.length xs.length hi - HT.sIx xs.length 0 lo)

def intsD : List D → Option (List Int)
  | [] => some []
  | .int i :: r => (intsD r).map (i :: ·)
  | _ :: _ => none
/-- pairs of ints -/
def ipD (p : Int × Int) : D := .tuple [.int p.1, .int p.2]
def pairsD : List D → Option (List (Int × Int))
  | [] => some []
  | .tuple [.int i, .int j] :: r => (pairsD r).map ((i, j) :: ·)
  | _ :: _ => none
def leP (e f : Int × Int) : Prop := e.1 < f.1 ∨ (e.1 = f.1 ∧ e.2 ≤ f.2)
/-- by the second, the greatest first, then by the first -/
def leK (e f : Int × Int) : Prop := f.2 < e.2 ∨ (e.2 = f.2 ∧ e.1 ≤ f.1)
abbrev P1 := (D → Prop) → Prop
def binS : Operator → D → D → P1
  | .Add, .int i, .int j, Q => Q (.int (i + j))
  | .Add, .str x, .str y, Q => x.length + y.length ≤ sizeLine ∧ Q (.str (x ++ y))
  | .Add, .tuple xs, .tuple ys, Q => xs.length + ys.length ≤ sizeLine ∧ Q (.tuple (xs ++ ys))
  | .Add, .list xs, .list ys, Q => xs.length + ys.length ≤ sizeLine ∧ Q (.list (xs ++ ys))
  | .Sub, .int i, .int j, Q => Q (.int (i - j))
  | .Mult, .int i, .int j, Q => mulOk i j ∧ Q (.int (i * j))
  | .Mult, .list xs, .int k, Q => (-(2 ^ 63) ≤ k ∧ k < 2 ^ 63 ∧ xs.length * k.toNat ≤ sizeLine) ∧ Q (.list (List.replicate k.toNat xs).flatten)
  | .FloorDiv, .int i, .int j, Q => CDivW i j ∧ Q (.int (i / j))
  | .Mod, .int i, .int j, Q => 0 < j ∧ Q (.int (i % j))
  | .Pow, .int i, .int j, Q => CPow i j ∧ Q (.int (i ^ j.toNat))
  | .LShift, .int i, .int j, Q => CShl i j ∧ Q (.int (i * 2 ^ j.toNat))
  | .RShift, .int i, .int j, Q => 0 ≤ j ∧ Q (.int (i / 2 ^ j.toNat))
  | .BitAnd, .int i, .int j, Q => Q (.int (Builtin.bitAnd i j))
  | _, _, _, _ => False

/-- == of two data -/
def eqS (x y : D) (Q : Bool → Prop) : Prop := match x, y with
  | .int i, .int j => Q (decide (i = j))
  | .str a, .str b => Q (decide (a = b))
  | .none, .none => Q true
  | .bool a, .bool b => Q (decide (a = b))
  | x, y => (SeqAt.shaped x = true ∧ SeqAt.shaped y = true) ∧ Q (PyData.eqv x y)
def inS (x y : D) (Q : Bool → Prop) : Prop := match y with
  | .list ys => ((scalD x = true ∧ ys.all scalD = true) ∨ (SeqAt.shaped x = true ∧ SeqAt.shaped (.list ys) = true)) ∧ Q (ys.any fun z => PyData.eqv z x)
  | .tuple ys => (scalD x = true ∧ ys.all scalD = true) ∧ Q (ys.any fun z => PyData.eqv z x)
  | _ => False
def isNon : D → Bool
  | .none => true
  | _ => false
/-- data that may be ordered -/
def ordOk (x y : D) : Bool := SeqAt.shaped x && (SeqAt.shaped y && (PySem.W.alike x y && decide (PyData.depth x ≤ 64)))
def cmpS : CmpOp → D → D → (Bool → Prop) → Prop
  | .Eq, x, y, Q => eqS x y Q
  | .NotEq, x, y, Q => eqS x y fun b => Q (!b)
  | .Lt, .int i, .int j, Q => Q (decide (i < j))
  | .Lt, .tuple xs, .tuple ys, Q => ∃ ns ms, intsD xs = some ns ∧ intsD ys = some ms ∧ Q (HT.lexLt ns ms)
  | .Lt, .list xs, .list ys, Q => ordOk (.list xs) (.list ys) = true ∧ Q (PySem.W.dataLt (.list xs) (.list ys))
  | .Gt, .list xs, .list ys, Q => ordOk (.list xs) (.list ys) = true ∧ Q (PySem.W.dataLt (.list ys) (.list xs))
  | .LtE, .int i, .int j, Q => Q (decide (i ≤ j))
  | .Gt, .int i, .int j, Q => Q (decide (j < i))
  | .GtE, .int i, .int j, Q => Q (decide (j ≤ i))
  | .In, x, y, Q => inS x y Q
  | .NotIn, x, y, Q => inS x y fun b => Q (!b)
  | .Is, x, .none, Q => Q (isNon x)
  | .IsNot, x, .none, Q => Q (!isNon x)
  | _, _, _, _ => False
def truS : D → (Bool → Prop) → Prop
  | .none, Q => Q false
  | .bool b, Q => Q b
  | .int i, Q => Q (i != 0)
  | .list xs, Q => Q (!xs.isEmpty)
  | .tuple xs, Q => Q (!xs.isEmpty)
  | _, _ => False
def unS : UnaryOp → D → P1
  | .USub, .int i, Q => Q (.int (-i))
  | _, _, _ => False
def idxS : D → D → P1
  | .list xs, .int i, Q => ∃ d, atI xs i = some d ∧ Q d
  | .tuple xs, .int i, Q => ∃ d, atI xs i = some d ∧ Q d
  | .str z, .int i, Q => ∃ c, (z.length ≤ sizeLine ∧ atI z.cps.toList i = some c) ∧ Q (.str ⟨#[c]⟩)
  | _, _, _ => False
def slcS (x : D) (l h : Option Int) (Q : D → Prop) : Prop := match x with
  | .list xs => Q (.list (cutL xs l h))
  | .tuple xs => Q (.tuple (cutL xs l h))
  | .str z => z.length ≤ sizeLine ∧ Q (.str (cutS z l h))
  | _ => False

def notDct : D → Prop → Prop
  | .dict _, _ => False
  | _, p => p
/-! ### built-in functions -/
inductive Bf where
  | len | int | abs | max | min | sum | list | tuple | sorted | all | any | isI | isB | isS | isT | maxD | minD | tupRev | revL | srtR | tupRng | srtP | srtK | minK | maxP | minP | rngO | dctO
  deriving DecidableEq
def strsD : List D → Option (List Str)
  | [] => some []
  | .str i :: r => (strsD r).map (i :: ·)
  | _ :: _ => none
def boolsD : List D → Option (List Bool)
  | [] => some []
  | .bool i :: r => (boolsD r).map (i :: ·)
  | _ :: _ => none
def seqOf : D → Option (List D)
  | .list xs => some xs
  | .tuple xs => some xs
  | .dict [(.none, .list xs)] => some xs
  | _ => none
def rangeD0 (a b : Int) : List D := (List.range (b - a).toNat).map fun i => .int (a + (i : Nat))
/-- the signs of a text -/
def signsD (z : Str) : List D := z.cps.toList.map fun c => .str ⟨#[c]⟩
/-- what a walk draws -/
def itOf : D → Option (List D)
  | .str z => some (signsD z)
  | .dict [(.int lo, .int hi)] => if (-(2 ^ 62) ≤ lo ∧ lo < 2 ^ 62) ∧ -(2 ^ 62) ≤ hi ∧ hi < 2 ^ 62 then some (rangeD0 lo hi) else none
  | d => seqOf d
def lenS : D → P1
  | .list xs, Q => Q (.int xs.length)
  | .tuple xs, Q => Q (.int xs.length)
  | .str z, Q => z.length ≤ sizeLine ∧ Q (.int z.length)
  | _, _ => False
def rangeD (a b : Int) : List D := (List.range (b - a).toNat).map fun i => .int (a + (i : Nat))
/-- the greatest (true) or the least of a sequence of ints -/
def isMx (gt : Bool) (ns : List Int) (m : Int) : Prop := m ∈ ns ∧ ∀ y ∈ ns, if gt = true then y ≤ m else m ≤ y
def isMxP (gt : Bool) (ps : List (Int × Int)) (m : Int × Int) : Prop := m ∈ ps ∧ ∀ y ∈ ps, if gt = true then leP y m else leP m y
/-- a triple's third item, an int -/
def thirdD : D → Option Int
  | .tuple [_, _, .int k] => some k
  | _ => none
def bfS : Bf → List D → P1
  | .len, [x], Q => lenS x Q
  | .int, [.int i], Q => Q (.int i)
  | .int, [.bool b], Q => Q (.int (if b = true then 1 else 0))
  | .abs, [.int i], Q => Q (.int (if i < 0 then -i else i))
  | .max, [.int i, .int j], Q => Q (.int (if j > i then j else i))
  | .min, [.int i, .int j], Q => Q (.int (if j < i then j else i))
  | .list, [.list xs], Q => Q (.list xs)
  | .list, [.tuple xs], Q => Q (.list xs)
  | .list, [.dict [(.none, .list xs)]], Q => Q (.list xs)
  | .tuple, [.list xs], Q => Q (.tuple xs)
  | .tuple, [.tuple xs], Q => Q (.tuple xs)
  | .max, [x], Q => ∃ xs ns, seqOf x = some xs ∧ intsD xs = some ns ∧ 0 < ns.length ∧ ∀ m, isMx true ns m → Q (.int m)
  | .min, [x], Q => ∃ xs ns, seqOf x = some xs ∧ intsD xs = some ns ∧ 0 < ns.length ∧ ∀ m, isMx false ns m → Q (.int m)
  | .maxD, [x, .int z], Q => ∃ xs ns, seqOf x = some xs ∧ intsD xs = some ns ∧ (ns = [] → Q (.int z)) ∧ ∀ m, isMx true ns m → Q (.int m)
  | .minD, [x, .int z], Q => ∃ xs ns, seqOf x = some xs ∧ intsD xs = some ns ∧ (ns = [] → Q (.int z)) ∧ ∀ m, isMx false ns m → Q (.int m)
  | .sorted, [x], Q => ∃ xs ns, seqOf x = some xs ∧ intsD xs = some ns ∧ ∀ ms : List Int, ms.Perm ns → ms.Pairwise (· ≤ ·) → Q (.list (ms.map PyData.int))
  | .isI, [x], Q => notDct x (Q (.bool (match x with | .int _ => true | .bool _ => true | _ => false)))
  | .isB, [x], Q => notDct x (Q (.bool (match x with | .bool _ => true | _ => false)))
  | .isS, [x], Q => notDct x (Q (.bool (match x with | .str _ => true | _ => false)))
  | .isT, [x], Q => notDct x (Q (.bool (match x with | .tuple _ => true | _ => false)))
  | .sum, [.list xs], Q => ∃ ns, intsD xs = some ns ∧ Q (.int ns.sum)
  | .all, [.list xs], Q => ∃ bs, boolsD xs = some bs ∧ Q (.bool (bs.all id))
  | .any, [.list xs], Q => ∃ bs, boolsD xs = some bs ∧ Q (.bool (bs.any id))
  | .rngO, [.int n], Q => Q (rgoD 0 n)
  | .dctO, [.tuple xs], Q => ∃ ps, pairsD xs = some ps ∧ Q (dctD ps)
  | .list, [.dict [(.int lo, .int hi)]], Q => (0 ≤ lo ∧ lo ≤ 16777216 ∧ 0 ≤ hi ∧ hi ≤ 16777216) ∧ Q (.list (rangeD0 lo hi))
  | .tupRev, [.list xs], Q => Q (.tuple xs.reverse)
  | .revL, [.list xs], Q => Q (.list xs.reverse)
  | .revL, [.tuple xs], Q => Q (.tuple xs.reverse)
  | .srtR, [.list xs], Q => ∃ ns, intsD xs = some ns ∧ ∀ ms : List Int, ms.Perm ns → ms.Pairwise (· ≥ ·) → Q (.list (ms.map PyData.int))
  | .maxP, [x], Q => ∃ xs ps, seqOf x = some xs ∧ pairsD xs = some ps ∧ 0 < ps.length ∧ ∀ m, isMxP true ps m → Q (ipD m)
  | .minP, [x], Q => ∃ xs ps, seqOf x = some xs ∧ pairsD xs = some ps ∧ 0 < ps.length ∧ ∀ m, isMxP false ps m → Q (ipD m)
  | .srtP, [.list xs], Q => ∃ ps, pairsD xs = some ps ∧ ∀ qs : List (Int × Int), qs.Perm ps → qs.Pairwise leP → Q (.list (qs.map ipD))
  | .srtK, [x], Q => ∃ xs ps, seqOf x = some xs ∧ pairsD xs = some ps ∧ ∀ qs : List (Int × Int), qs.Perm ps → qs.Pairwise leK → Q (.list (qs.map ipD))
  | .minK, [.tuple xs], Q => 0 < xs.length ∧ (∀ e ∈ xs, ∃ k, thirdD e = some k) ∧ ∀ (i : Nat) (d : D) (k : Int), xs[i]? = some d → thirdD d = some k → (∀ (j : Nat) (e : D), xs[j]? = some e → ∃ m, thirdD e = some m ∧ k ≤ m ∧ (j < i → k < m)) → Q d
  | .tupRng, [.int n], Q => (0 ≤ n ∧ n ≤ 16777216) ∧ Q (.tuple (rangeD 0 n))
  | _, _, _ => False
/-! methods that change nothing -/
inductive Mt where
  | bitLength | index | count | get
  deriving DecidableEq
def mtS : Mt → D → List D → P1
  | .bitLength, .int i, [], Q => Q (.int (Builtin.Int.intBits i : Nat))
  | .index, .list xs, [.int i], Q => ∃ ns, intsD xs = some ns ∧ i ∈ ns ∧ Q (.int (ns.idxOf i : Nat))
  | .index, .tuple xs, [.int i], Q => ∃ ns, intsD xs = some ns ∧ i ∈ ns ∧ Q (.int (ns.idxOf i : Nat))
  | .index, .tuple xs, [.str i], Q => ∃ ns, strsD xs = some ns ∧ i ∈ ns ∧ Q (.int (ns.idxOf i : Nat))
  | .index, .list xs, [.str i], Q => ∃ ns, strsD xs = some ns ∧ i ∈ ns ∧ Q (.int (ns.idxOf i : Nat))
  | .get, x, [.int k, d], Q => ∃ ps, dctOf x = some ps ∧ isMut d = false ∧ Q (match lastP ps k with | some i => .int i | none => d)
  | .count, .list xs, [.int i], Q => ∃ ns, intsD xs = some ns ∧ Q (.int (ns.count i : Nat))
  | _, _, _, _ => False

/-! ### stores -/
inductive Md where
  | v | o | m
  deriving DecidableEq
abbrev Store := List (Option (Md × D))
/-- what may be put into an object of the caller's -/
def mOk (m : Md) (d : D) : Prop := m = .m → scalD d = true
/-- an operand: a datum, or the content of a slot's own list -/
inductive Od where
  | d (d : D) | s (i : Nat)
def getO (ρ : Store) (i : Nat) : Option (Md × D) := match ρ[i]? with
  | some (some p) => if p.1 = .v then none else some p
  | _ => none
def getV (ρ : Store) (i : Nat) : Option D := match ρ[i]? with
  | some (some (.v, d)) => some d
  | _ => none
def cont (ρ : Store) (x : Od) (k : D → Prop) : Prop := match x with
  | .d d => k d
  | .s i => match getO ρ i with
    | some p => k p.2
    | none => False
def isLstD : D → Prop
  | .list _ => True
  | _ => False
def isSeqD : D → Prop
  | .list _ => True
  | .tuple _ => True
  | _ => False
def isDctD (d : D) : Prop := (dctOf d).isSome = true
/-- whose method is asked, ahead of the arguments -/
def mtOk (m : Mt) (ρ : Store) (x : Od) : Prop := match m with
  | .bitLength => True
  | .index => cont ρ x isSeqD
  | .get => cont ρ x isDctD
  | _ => cont ρ x isLstD
def conts (ρ : Store) : List Od → (List D → Prop) → Prop
  | [], k => k []
  | x :: xs, k => cont ρ x fun d => conts ρ xs fun ds => k (d :: ds)

/-! ### the mini syntax -/
/-- a default -/
inductive Dk where
  | tup0 | non | int (n : Int)
  deriving DecidableEq
def Dk.d : Dk → D
  | .tup0 => .tuple []
  | .non => .none
  | .int n => .int n
inductive Tg where
  | nm (i : Nat)
  | tp (is : List Nat)
mutual
inductive E where
  | var (i : Nat) | brw (i : Nat)
  | int (n : Int) | bl (b : Bool) | non | str (s : Str)
  | glob (k : Nat)
  | un (o : UnaryOp) (a : E) | not (a : E)
  | bin (o : Operator) (a b : E)
  | cmp (o : CmpOp) (a b : E)
  | chn (o1 o2 : CmpOp) (a b c : E)
  | and (a b : E) | or (a b : E)
  | ite (t a b : E)
  | tup (es : Es) | lst (es : Es)
  | idx (a i : E)
  | slc (a : E) (lo hi : Oe)
  | call (f : Nat) (tp : Option Nat) (args : Es)
  | bf (b : Bf) (args : Es)
  | mth (m : Mt) (r : E) (args : Es)
  | pop (i : Nat) (a : E)
  | comp (elt : E) (t : Tg) (it : It) (c : Oe) (vs : List Nat)
  /-- f(.., k = e), f(..) with k's default d -/
  | callK (f : Nat) (args : Es) (e : E)
  | callD (f : Nat) (d : Dk) (args : Es)
  /-- two clauses -/
  | comp2 (elt : E) (t : Tg) (it : It) (t1 : Tg) (it1 : It) (c : Oe) (vs vs1 : List Nat)
inductive Es where
  | nil | cons (e : E) (es : Es)
inductive Oe where
  | no | yes (e : E)
inductive It where
  | val (e : E) | rng (a : E) | rng2 (a b : E) | enum (a : E) | zip (a b : E) | rev (a : E)
end

structure Xn where
  cls : Str
  flds : List (Str × D)
/-- a def's meaning: its tape, its arguments; what is wanted of result, freshness, tape; what is wanted of an exception -/
abbrev FSpec := Option D → List D → (D → Bool → Option D → Prop) → (Xn → Option D → Prop) → Prop
abbrev WB := Store → (D → Bool → Store → Prop) → Prop
abbrev WO := Store → (Od → Store → Prop) → Prop

def frz (w : WB) (ρ : Store) (Q : D → Store → Prop) : Prop := w ρ fun d _ ρ' => Q d ρ'
def oper (e : E) (w : WB) : WO := fun ρ Q => match e with
  | .brw i => (getO ρ i).isSome = true ∧ Q (.s i) ρ
  | _ => w ρ fun d _ ρ' => Q (.d d) ρ'
def tst (w : WO) (ρ : Store) (Q : Bool → Store → Prop) : Prop := w ρ fun x ρ' => cont ρ' x fun d => truS d fun b => Q b ρ'

def noOwn : List Od → Bool
  | [] => true
  | .d _ :: xs => noOwn xs
  | .s _ :: _ => false
def noSl (i : Nat) : List Od → Bool
  | [] => true
  | .d _ :: xs => noSl i xs
  | .s j :: xs => decide (i ≠ j) && noSl i xs
/-- what was lent holds more than numbers and texts -/
def lentNest : List Od → List D → Bool
  | .s _ :: xs, .list m :: ds => !(m.all scalD) && lentNest xs ds
  | .s _ :: _, _ => false
  | .d _ :: xs, _ :: ds => lentNest xs ds
  | _, _ => true
/-- what was lent is not handed back -/
def resOk (xs : List Od) (ds : List D) (d : D) (fr : Bool) : Prop := noOwn xs = true ∨ (match fr, d with
  | true, .list l => flatDs l = true
  | false, .list l => l.all scalD = true ∧ lentNest xs ds = true
  | false, d => flatD d = true
  | _, _ => False)
def tpOk (tp : Option Nat) (ρ : Store) : Prop := match tp with
  | none => True
  | some i => (getO ρ i).isSome = true
def callS (g : FSpec) (tp : Option Nat) (xs : List Od) (ds : List D) (ρ : Store) (R : Xn → Store → Prop) (Q : D → Bool → Store → Prop) : Prop := match tp with
  | none => g none ds (fun d fr _ => resOk xs ds d fr ∧ Q d fr ρ) (fun x _ => R x ρ)
  | some i => ∃ p, getO ρ i = some p ∧ noSl i xs = true ∧ g (some p.2) ds (fun d fr t => ∃ d', t = some d' ∧ resOk xs ds d fr ∧ Q d fr (ρ.set i (some (p.1, d')))) (fun x t => ∃ d', t = some d' ∧ R x (ρ.set i (some (p.1, d'))))
def setL {α : Type} (l : List α) (i : Nat) (a : α) : List α := l.set i a
def bindTs : List Nat → List D → Store → Option Store
  | [], [], ρ => some ρ
  | i :: is, d :: ds, ρ => bindTs is ds (ρ.set i (some (.v, d)))
  | _, _, _ => none
def bindT : Tg → D → Store → (Store → Prop) → Prop
  | .nm i, d, ρ, k => k (ρ.set i (some (.v, d)))
  | .tp is, .tuple ds, ρ, k => ∃ ρ', bindTs is ds ρ = some ρ' ∧ k ρ'
  | .tp _, _, _, _ => False
/-- slots cleared; slots put back -/
def wipes (ρ : Store) : List Nat → Store
  | [] => ρ
  | v :: vs => (wipes ρ vs).set v none
def backs (ρ₀ ρ : Store) : List Nat → Store
  | [] => ρ
  | v :: vs => (backs ρ₀ ρ vs).set v (ρ₀[v]?.getD none)
def compL (t : Tg) (vs : List Nat) (ρ₀ : Store) (wc : Store → (Bool → Store → Prop) → Prop) (we : Store → (D → Store → Prop) → Prop) :
    List D → List D → Store → (List D → Store → Prop) → Prop
  | [], acc, ρ, k => k acc ρ
  | x :: xs, acc, ρ, k => bindT t x (wipes ρ vs) fun ρ1 => wc ρ1 fun b ρ2 =>
      if b then we ρ2 fun d ρ3 => compL t vs ρ₀ wc we xs (acc ++ [d]) (backs ρ₀ ρ3 vs) k
      else compL t vs ρ₀ wc we xs acc (backs ρ₀ ρ2 vs) k
def valOk (ρ : Store) (vs : List Nat) : Bool := vs.all fun v => match ρ[v]? with
  | some (some p) => decide (p.1 = .v)
  | some none => true
  | none => false
/-- two clauses: the second one's own loop is a whole comprehension behind acc -/
def compL2 (t : Tg) (vs : List Nat) (ρ₀ : Store) (wi : Store → (List D → Store → Prop) → Prop) (t1 : Tg) (vs1 : List Nat) (wc : Store → (Bool → Store → Prop) → Prop) (we : Store → (D → Store → Prop) → Prop) :
    List D → List D → Store → (List D → Store → Prop) → Prop
  | [], acc, ρ, k => k acc ρ
  | x :: xs, acc, ρ, k => bindT t x (wipes ρ vs) fun ρ1 => wi ρ1 fun ys ρ2 => valOk ρ2 vs1 = true ∧ acc.length + ys.length ≤ sizeLine ∧
      compL t1 vs1 ρ2 wc we ys acc ρ2 fun acc' ρ3 => compL2 t vs ρ₀ wi t1 vs1 wc we xs acc' (backs ρ₀ ρ3 vs) k
def enumD (xs : List D) : List D := (List.range xs.length).zipWith (fun i x => .tuple [.int (i : Nat), x]) xs
def rngOk (a b : Int) : Prop := -(2 ^ 62) ≤ a ∧ a < 2 ^ 62 ∧ -(2 ^ 62) ≤ b ∧ b < 2 ^ 62

section
variable (C : List D) (Γ : Nat → FSpec)
mutual
def wpB (R : Xn → Store → Prop) : E → WB
  | .var i, ρ, Q => ∃ d, getV ρ i = some d ∧ Q d false ρ
  | .brw _, _, _ => False
  | .int n, ρ, Q => Q (.int n) false ρ
  | .bl b, ρ, Q => Q (.bool b) false ρ
  | .non, ρ, Q => Q .none false ρ
  | .str s, ρ, Q => Q (.str s) false ρ
  | .glob k, ρ, Q => ∃ d, C[k]? = some d ∧ Q d false ρ
  | .un o a, ρ, Q => oper a (wpB R a) ρ fun x ρ1 => cont ρ1 x fun dx => unS o dx fun d => Q d (isMut d) ρ1
  | .not a, ρ, Q => tst (oper a (wpB R a)) ρ fun b ρ1 => Q (.bool (!b)) false ρ1
  | .bin o a b, ρ, Q => oper a (wpB R a) ρ fun x ρ1 => oper b (wpB R b) ρ1 fun y ρ2 => cont ρ2 x fun dx => cont ρ2 y fun dy => binS o dx dy fun d => Q d (isMut d) ρ2
  | .cmp o a b, ρ, Q => oper a (wpB R a) ρ fun x ρ1 => oper b (wpB R b) ρ1 fun y ρ2 => cont ρ2 x fun dx => cont ρ2 y fun dy => cmpS o dx dy fun d => Q (.bool d) false ρ2
  | .chn o1 o2 a b c, ρ, Q => oper a (wpB R a) ρ fun x ρ1 => oper b (wpB R b) ρ1 fun y ρ2 => cont ρ2 x fun dx => cont ρ2 y fun dy => cmpS o1 dx dy fun r =>
      if r then oper c (wpB R c) ρ2 fun z ρ3 => cont ρ3 y fun dy2 => cont ρ3 z fun dz => cmpS o2 dy2 dz fun d => Q (.bool d) false ρ3 else Q (.bool false) false ρ2
  | .and a b, ρ, Q => frz (wpB R a) ρ fun x ρ1 => truS x fun k => if k then frz (wpB R b) ρ1 fun y ρ2 => Q y false ρ2 else Q x false ρ1
  | .or a b, ρ, Q => frz (wpB R a) ρ fun x ρ1 => truS x fun k => if k then Q x false ρ1 else frz (wpB R b) ρ1 fun y ρ2 => Q y false ρ2
  | .ite t a b, ρ, Q => tst (oper t (wpB R t)) ρ fun k ρ1 => if k then wpB R a ρ1 Q else wpB R b ρ1 Q
  | .tup es, ρ, Q => wpEs R es ρ fun ds ρ1 => ds.length ≤ sizeLine ∧ Q (.tuple ds) false ρ1
  | .lst es, ρ, Q => wpEs R es ρ fun ds ρ1 => ds.length ≤ sizeLine ∧ Q (.list ds) true ρ1
  | .idx a i, ρ, Q => oper a (wpB R a) ρ fun x ρ1 => oper i (wpB R i) ρ1 fun y ρ2 => cont ρ2 x fun dx => cont ρ2 y fun dy => idxS dx dy fun d => Q d false ρ2
  | .slc a lo hi, ρ, Q => oper a (wpB R a) ρ fun x ρ1 => wpOe R lo ρ1 fun l ρ2 => wpOe R hi ρ2 fun h ρ3 => cont ρ3 x fun dx => slcS dx l h fun d => Q d (isMut d) ρ3
  | .call f tp es, ρ, Q => tpOk tp ρ ∧ wpOs R es ρ fun xs ρ1 => conts ρ1 xs fun ds => callS (Γ f) tp xs ds ρ1 R Q
  | .bf b es, ρ, Q => wpOs R es ρ fun xs ρ1 => conts ρ1 xs fun ds => bfS b ds fun d => Q d (isMut d) ρ1
  | .mth m r es, ρ, Q => oper r (wpB R r) ρ fun x ρ1 => mtOk m ρ1 x ∧ wpOs R es ρ1 fun xs ρ2 => cont ρ2 x fun dx => conts ρ2 xs fun ds => mtS m dx ds fun d => Q d (isMut d) ρ2
  | .pop i a, ρ, Q => (getO ρ i).isSome = true ∧ oper a (wpB R a) ρ fun x ρ1 => cont ρ1 x fun dx => ∃ m ds j k d, getO ρ1 i = some (m, .list ds) ∧ dx = .int j ∧ (-(2 ^ 63) ≤ j ∧ j < 2 ^ 63) ∧ seqIndex? j ds.length = some k ∧ ds[k]? = some d ∧
      Q d false (ρ1.set i (some (m, .list (ds.eraseIdx k))))
  | .comp elt t it c vs, ρ, Q => wpIt R it ρ fun items ρ1 => valOk ρ1 vs = true ∧ items.length ≤ sizeLine ∧
      compL t vs ρ1 (wpC (fun x ρ' => R x (backs ρ1 ρ' vs)) c) (frz (wpB (fun x ρ' => R x (backs ρ1 ρ' vs)) elt)) items [] ρ1 fun ds ρ2 => Q (.list ds) true ρ2
  | .callK f es e, ρ, Q => wpOs R es ρ fun xs ρ1 => oper e (wpB R e) ρ1 fun y ρ2 => conts ρ2 (xs ++ [y]) fun ds => callS (Γ f) none (xs ++ [y]) ds ρ2 R Q
  | .callD f d es, ρ, Q => wpOs R es ρ fun xs ρ1 => conts ρ1 (xs ++ [.d d.d]) fun ds => callS (Γ f) none (xs ++ [.d d.d]) ds ρ1 R Q
  | .comp2 elt t it t1 it1 c vs vs1, ρ, Q => wpIt R it ρ fun items ρ1 => valOk ρ1 vs = true ∧
      compL2 t vs ρ1 (wpIt (fun x ρ' => R x (backs ρ1 ρ' vs)) it1) t1 vs1 (wpC (fun x ρ' => R x (backs ρ1 ρ' vs)) c) (frz (wpB (fun x ρ' => R x (backs ρ1 ρ' vs)) elt)) items [] ρ1 fun ds ρ2 => Q (.list ds) true ρ2
def wpEs (R : Xn → Store → Prop) : Es → Store → (List D → Store → Prop) → Prop
  | .nil, ρ, Q => Q [] ρ
  | .cons e es, ρ, Q => frz (wpB R e) ρ fun d ρ1 => wpEs R es ρ1 fun ds ρ2 => Q (d :: ds) ρ2
def wpOs (R : Xn → Store → Prop) : Es → Store → (List Od → Store → Prop) → Prop
  | .nil, ρ, Q => Q [] ρ
  | .cons e es, ρ, Q => oper e (wpB R e) ρ fun d ρ1 => wpOs R es ρ1 fun ds ρ2 => Q (d :: ds) ρ2
def wpOe (R : Xn → Store → Prop) : Oe → Store → (Option Int → Store → Prop) → Prop
  | .no, ρ, Q => Q none ρ
  | .yes e, ρ, Q => frz (wpB R e) ρ fun d ρ1 => ∃ i, d = .int i ∧ Q (some i) ρ1
def wpC (R : Xn → Store → Prop) : Oe → Store → (Bool → Store → Prop) → Prop
  | .no, ρ, Q => Q true ρ
  | .yes e, ρ, Q => tst (oper e (wpB R e)) ρ Q
def wpIt (R : Xn → Store → Prop) : It → Store → (List D → Store → Prop) → Prop
  | .val e, ρ, Q => frz (wpB R e) ρ fun d ρ1 => ∃ xs, itOf d = some xs ∧ Q xs ρ1
  | .rng a, ρ, Q => frz (wpB R a) ρ fun x ρ1 => ∃ n, x = .int n ∧ rngOk 0 n ∧ Q (rangeD 0 n) ρ1
  | .rng2 a b, ρ, Q => frz (wpB R a) ρ fun x ρ1 => frz (wpB R b) ρ1 fun y ρ2 => ∃ m n, x = .int m ∧ y = .int n ∧ rngOk m n ∧ Q (rangeD m n) ρ2
  | .enum a, ρ, Q => frz (wpB R a) ρ fun d ρ1 => ∃ xs, seqOf d = some xs ∧ Q (enumD xs) ρ1
  | .zip a b, ρ, Q => frz (wpB R a) ρ fun x ρ1 => frz (wpB R b) ρ1 fun y ρ2 => ∃ xs ys, seqOf x = some xs ∧ seqOf y = some ys ∧ Q (xs.zipWith (fun u v => .tuple [u, v]) ys) ρ2
  | .rev a, ρ, Q => frz (wpB R a) ρ fun d ρ1 => ∃ xs, seqOf d = some xs ∧ Q xs.reverse ρ1
end
end

/-! ### statements -/
mutual
inductive S where
  | asg (t : Tg) (e : E)
  | own (i : Nat) (e : E)
  | aug (i : Nat) (o : Operator) (e : E)
  | app (i : Nat) (e : E)
  | ext (i : Nat) (e : E)
  | put (i : Nat) (ix e : E)
  | frz (i : Nat)
  | expr (e : E)
  | ret (e : E) | retO (i : Nat) | retN
  | ifs (t : E) (a b : Ss)
  | whl (t : E) (b : Ss)
  | fors (t : Tg) (it : It) (b : Ss)
  | brk | cnt | pas
  | nev
  /-- rows of one's own: from i = [] or i = [list(r) for r in e] on, to where they are frozen -/
  | nest (i j : Nat) (e : Option E) (b : Ns)
inductive Ss where
  | nil | cons (s : S) (ss : Ss)
inductive Nt where
  | st (s : S)
  | appO (j : Nat)
  | als (j : Nat) (ie : E)
  | putA (j : Nat) (l : Bool) (ie ve : E)
  | aug2 (o : Operator) (re ce ve : E)
  | asgL (j : Nat) (e : E)
  | ifs (t : E) (a b : Ns)
  | fors (t : Tg) (it : It) (b : Ns)
inductive Ns where
  | nil | cons (s : Nt) (ss : Ns)
end
/-- what is wanted behind a statement -/
structure Kd where
  nx : Store → Prop
  rt : D → Bool → Store → Prop
  bk : Store → Prop
  ct : Store → Prop
  ex : Xn → Store → Prop
abbrev WS := Store → Kd → Prop
def forL (t : Tg) (w : WS) : List D → WS
  | [], ρ, k => k.nx ρ
  | x :: xs, ρ, k => bindT t x ρ fun ρ1 => w ρ1 { k with nx := fun ρ2 => forL t w xs ρ2 k, ct := fun ρ2 => forL t w xs ρ2 k, bk := k.nx }
def whlN (wt : Store → (Bool → Store → Prop) → Prop) (w : WS) : Nat → WS
  | 0, _, _ => False
  | n + 1, ρ, k => wt ρ fun b ρ1 => if b then w ρ1 { k with nx := fun ρ2 => whlN wt w n ρ2 k, ct := fun ρ2 => whlN wt w n ρ2 k, bk := k.nx } else k.nx ρ1
def augS : Operator → D → D → P1
  | .Add, .int i, .int j, Q => Q (.int (i + j))
  | .Sub, .int i, .int j, Q => Q (.int (i - j))
  | .Mult, .int i, .int j, Q => (CMul i j) ∧ Q (.int (i * j))
  | _, _, _, _ => False
def putS (x : D) (i v : D) (Q : D → Prop) : Prop := match x, i with
  | .list xs, .int j => ∃ k, ixN xs.length j = some k ∧ Q (.list (xs.set k v))
  | _, _ => False
/-- rows: where they stand, and their cells -/
abbrev Rw := List (Nat × List D)
def rwD (rw : Rw) : D := .list (rw.map fun p => .list p.2)
structure KdN where
  nx : Store → Rw → Prop
  rt : D → Bool → Store → Prop
  bk : Store → Rw → Prop
  ct : Store → Rw → Prop
  ex : Xn → Store → Prop
def rowsD : List D → Option (List (List D))
  | [] => some []
  | x :: xs => match seqOf x, rowsD xs with
    | some ys, some r => if ys.all scalD = true then some (ys :: r) else none
    | _, _ => none
/-- only the tape and what is flat has changed -/
def lendOk (ρ ρ' : Store) : Prop := (∀ (i : Nat) (d : D), ρ'[i]? = some (some (.v, d)) → ρ[i]? = some (some (.v, d))) ∧ ∀ (i : Nat) (d : D), ρ'[i]? = some (some (.o, d)) → ∃ ds, d = .list ds ∧ flatDs ds = true
def flatR (d : D) (fr : Bool) : Prop := flatD d = true ∨ fr = true ∧ ∃ ds, d = .list ds ∧ flatDs ds = true
def forN (t : Tg) (w : Store → Rw → KdN → Prop) : List D → Store → Rw → KdN → Prop
  | [], ρ, rw, k => k.nx ρ rw
  | x :: xs, ρ, rw, k => bindT t x ρ fun ρ1 => w ρ1 rw { k with nx := fun ρ2 rw2 => forN t w xs ρ2 rw2 k, ct := fun ρ2 rw2 => forN t w xs ρ2 rw2 k, bk := k.nx }
section
variable (C : List D) (Γ : Nat → FSpec)
mutual
def wpS : S → WS
  | .asg t e, ρ, k => frz (wpB C Γ k.ex e) ρ fun d ρ1 => bindT t d ρ1 k.nx
  | .own i e, ρ, k => wpB C Γ k.ex e ρ fun d fr ρ1 => fr = true ∧ i < ρ1.length ∧ k.nx (ρ1.set i (some (.o, d)))
  | .aug i o e, ρ, k => ∃ x, getV ρ i = some x ∧ frz (wpB C Γ k.ex e) ρ fun y ρ1 => augS o x y fun d => k.nx (ρ1.set i (some (.v, d)))
  | .app i e, ρ, k => (getO ρ i).isSome = true ∧ frz (wpB C Γ k.ex e) ρ fun d ρ1 => ∃ m ds, getO ρ1 i = some (m, .list ds) ∧ mOk m d ∧ ds.length < sizeLine ∧ k.nx (ρ1.set i (some (m, .list (ds ++ [d]))))
  | .ext i e, ρ, k => (getO ρ i).isSome = true ∧ frz (wpB C Γ k.ex e) ρ fun d ρ1 => ∃ m ds xs, getO ρ1 i = some (m, .list ds) ∧ d = .list xs ∧ (∀ x ∈ xs, mOk m x) ∧ ds.length + xs.length ≤ sizeLine ∧ k.nx (ρ1.set i (some (m, .list (ds ++ xs))))
  | .put i ix e, ρ, k => frz (wpB C Γ k.ex e) ρ fun v ρ1 => (getO ρ1 i).isSome = true ∧ frz (wpB C Γ k.ex ix) ρ1 fun j ρ2 => ∃ p, getO ρ2 i = some p ∧ mOk p.1 v ∧ putS p.2 j v fun d => k.nx (ρ2.set i (some (p.1, d)))
  | .frz i, ρ, k => ∃ d, ρ[i]? = some (some (.o, d)) ∧ k.nx (ρ.set i (some (.v, d)))
  | .expr e, ρ, k => frz (wpB C Γ k.ex e) ρ fun _ ρ1 => k.nx ρ1
  | .ret e, ρ, k => wpB C Γ k.ex e ρ k.rt
  | .retO i, ρ, k => ∃ d, ρ[i]? = some (some (.o, d)) ∧ k.rt d true (ρ.set i none)
  | .retN, ρ, k => k.rt .none false ρ
  | .ifs t a b, ρ, k => tst (oper t (wpB C Γ k.ex t)) ρ fun r ρ1 => if r then wpSs a ρ1 k else wpSs b ρ1 k
  | .whl t b, ρ, k => ∃ n, whlN (tst (oper t (wpB C Γ k.ex t))) (wpSs b) n ρ k
  | .fors t it b, ρ, k => wpIt C Γ k.ex it ρ fun items ρ1 => forL t (wpSs b) items ρ1 k
  | .brk, ρ, k => k.bk ρ
  | .cnt, ρ, k => k.ct ρ
  | .pas, ρ, k => k.nx ρ
  | .nev, _, _ => False
  | .nest i j e b, ρ, k => (match e with
      | none => fun (ρ : Store) (G : Store → List (List D) → Prop) => i < ρ.length ∧ G ρ []
      | some e => fun (ρ : Store) (G : Store → List (List D) → Prop) => wpIt C Γ k.ex (.val e) ρ fun xs ρ1 => valOk ρ1 [j] = true ∧ xs.length ≤ sizeLine ∧ ∃ yss, rowsD xs = some yss ∧ i < ρ1.length ∧ G ρ1 yss) ρ fun ρ1 yss =>
      ∀ (a : Nat) (bs : List Nat), bs.length = yss.length → wpNs i a b (ρ1.set i (some (.v, opqD a))) (bs.zip yss)
        { nx := fun ρ2 rw => getV ρ2 i = some (opqD a) ∧ k.nx (ρ2.set i (some (.v, rwD rw))), rt := k.rt, bk := fun _ _ => False, ct := fun _ _ => False, ex := k.ex }
def wpSs : Ss → WS
  | .nil, ρ, k => k.nx ρ
  | .cons s ss, ρ, k => wpS s ρ { k with nx := fun ρ1 => wpSs ss ρ1 k }
def wpN (i a : Nat) : Nt → Store → Rw → KdN → Prop
  | .st s, ρ, rw, k => wpS s ρ { nx := fun ρ1 => k.nx ρ1 rw, rt := k.rt, bk := fun ρ1 => k.bk ρ1 rw, ct := fun ρ1 => k.ct ρ1 rw, ex := k.ex }
  | .appO j, ρ, rw, k => getV ρ i = some (opqD a) ∧ ∃ ds, ρ[j]? = some (some (.o, .list ds)) ∧ ds.all scalD = true ∧ rw.length < sizeLine ∧ ∀ b : Nat, k.nx (ρ.set j (some (.v, opqD b))) (rw ++ [(b, ds)])
  | .als j ie, ρ, rw, k => getV ρ i = some (opqD a) ∧ frz (wpB C Γ k.ex ie) ρ fun x ρ1 => ∃ n p, x = .int n ∧ atI rw n = some p ∧ k.nx (ρ1.set j (some (.v, opqD p.1))) rw
  | .putA j l ie ve, ρ, rw, k => ∃ b q ds, getV ρ j = some (opqD b) ∧ rw[q]? = some (b, ds) ∧
      (if l = true then frz (wpB C Γ k.ex ve) (ρ.set j (some (.v, .list ds))) fun v ρ1 => frz (wpB C Γ k.ex ie) ρ1 fun x ρ2 => lendOk (ρ.set j (some (.v, .list ds))) ρ2 ∧
          ∃ n m, x = .int n ∧ ixN ds.length n = some m ∧ scalD v = true ∧ k.nx (ρ2.set j (some (.v, opqD b))) (rw.set q (b, ds.set m v))
        else frz (wpB C Γ k.ex ve) ρ fun v ρ1 => getV ρ1 j = some (opqD b) ∧ frz (wpB C Γ k.ex ie) ρ1 fun x ρ2 => ∃ n m, x = .int n ∧ ixN ds.length n = some m ∧ scalD v = true ∧ k.nx ρ2 (rw.set q (b, ds.set m v)))
  | .aug2 o re ce ve, ρ, rw, k => getV ρ i = some (opqD a) ∧ frz (wpB C Γ k.ex re) ρ fun x ρ1 => ∃ n q p, x = .int n ∧ ixN rw.length n = some q ∧ rw[q]? = some p ∧ frz (wpB C Γ k.ex ce) ρ1 fun y ρ2 =>
      ∃ n2 m c, y = .int n2 ∧ ixN p.2.length n2 = some m ∧ p.2[m]? = some c ∧ frz (wpB C Γ k.ex ve) ρ2 fun v ρ3 => augS o c v fun d => k.nx ρ3 (rw.set q (p.1, p.2.set m d))
  | .asgL j e, ρ, rw, k => getV ρ i = some (opqD a) ∧ wpB C Γ k.ex e (ρ.set i (some (.v, rwD rw))) fun d fr ρ1 => lendOk (ρ.set i (some (.v, rwD rw))) ρ1 ∧ flatR d fr ∧ bindT (.nm j) d (ρ1.set i (some (.v, opqD a))) fun ρ2 => k.nx ρ2 rw
  | .ifs t x y, ρ, rw, k => tst (oper t (wpB C Γ k.ex t)) ρ fun r ρ1 => if r then wpNs i a x ρ1 rw k else wpNs i a y ρ1 rw k
  | .fors t it b, ρ, rw, k => wpIt C Γ k.ex it ρ fun items ρ1 => forN t (wpNs i a b) items ρ1 rw k
def wpNs (i a : Nat) : Ns → Store → Rw → KdN → Prop
  | .nil, ρ, rw, k => k.nx ρ rw
  | .cons s ss, ρ, rw, k => wpN i a s ρ rw { k with nx := fun ρ1 rw1 => wpNs i a ss ρ1 rw1 k }
end
end

/-! ### programs -/
/-- defs whose text is known as a whole -/
inductive Pr where
  | no
  | freq
  | groups
  | ends (i : Nat)
  | off
  deriving DecidableEq
structure Fn where
  tp : Bool
  np : Nat
  nl : Nat
  body : Ss
  pr : Pr
def init (f : Fn) (tp : Option D) (ds : List D) : Store :=
  (match tp with | none => [] | some t => [some (.m, t)]) ++ (ds.map fun d => some (.v, d)) ++ List.replicate (f.nl - f.np) none
/-- the tape as it stands: the first slot, never bound anew -/
def tapeOf (b : Bool) (ρ : Store) : Option D := if b then (match ρ[0]? with
  | some (some (Md.m, d)) => some d
  | _ => none) else none
def tpEnd (b : Bool) (ρ : Store) (Q : Option D → Prop) : Prop := (tapeOf b ρ).isSome = b ∧ Q (tapeOf b ρ)
def runF (C : List D) (Γ : Nat → FSpec) (f : Fn) : FSpec := fun tp ds Q R =>
  (tp.isSome = f.tp ∧ (if f.tp then ds.length + 1 else ds.length) = f.np) ∧
  wpSs C Γ f.body (init f tp ds) { nx := fun ρ => tpEnd f.tp ρ (Q .none false), rt := fun d fr ρ => tpEnd f.tp ρ (Q d fr), bk := fun _ => False, ct := fun _ => False, ex := fun x ρ => tpEnd f.tp ρ (R x) }
def natsT (g : List Nat) : D := .tuple (g.map fun k => PyData.int (k : Nat))
def prS (p : Pr) (Γ : Nat → FSpec) : FSpec := fun t ds Q _ => t = none ∧ match p with
  | .no => False
  | .freq => ∃ ns : List Int, ds = [.tuple (ns.map PyData.int)] ∧ ns.length ≤ 1000 ∧ Q (.tuple ((Ma.freq ns).map fun e => .tuple [.int e.1, .int e.2])) false none
  | .groups => (∃ (x : Str) (m : Nat) (d : D), ds = [.str x, .int m, d] ∧ x ≠ "lookup" ∧ m ≤ 1000 ∧ Q (.tuple [natsT (List.range m)]) false none) ∨
      ∃ (m : Int) (ns : List Int), ds = [.str "lookup", .int m, .tuple (ns.map PyData.int)] ∧ ns.length < 64 ∧ Q (.tuple ((Ma.groups ns).map natsT)) false none
  | .ends i => Γ i none ds (fun d _ _ => ∃ p o, d = .tuple [p, o] ∧ (o = .none ∨ ∃ k : Int, o = .int k) ∧ Q (.bool (match o with | .none => true | _ => false)) false none) fun _ _ => False
  | .off => False
def runP (f : Fn) (p : Pr) (Γ : Nat → FSpec) : FSpec := fun t ds Q R => (t.isSome = f.tp ∧ (if f.tp then ds.length + 1 else ds.length) = f.np) ∧ prS p Γ t ds Q R
def stepD (C : List D) (f : Fn) (g1 g0 : Nat → FSpec) : FSpec := match f.pr with
  | .no => runF C g1 f
  | p => runP f p g0
def den (C : List D) (prog : List Fn) : Nat → Nat → FSpec
  | 0, _ => fun _ _ _ _ => False
  | 1, i => match prog[i]? with
    | none => fun _ _ _ _ => False
    | some f => stepD C f (fun _ _ _ _ _ => False) fun _ _ _ _ _ => False
  | n + 2, i => match prog[i]? with
    | none => fun _ _ _ _ => False
    | some f => stepD C f (den C prog (n + 1)) (den C prog n)
def denP (C : List D) (prog : List Fn) : Nat → Nat → FSpec
  | 0 => fun _ _ _ _ _ => False
  | m + 1 => den C prog m
theorem den_succ {C : List D} {prog : List Fn} {n i : Nat} {f : Fn} (hf : prog[i]? = some f) : den C prog (n + 1) i = stepD C f (den C prog n) (denP C prog n) := by
  cases n with
  | zero =>
    have e : den C prog 0 = fun _ _ _ _ _ => False := funext fun _ => by unfold den; rfl
    rw [e]
    unfold den denP
    rw [hf]
  | succ n =>
    show den C prog (n + 2) i = _
    rw [den.eq_3]
    rw [hf]
    rfl
theorem stepD_no {C : List D} {f : Fn} {g1 g0 : Nat → FSpec} (e : f.pr = .no) : stepD C f g1 g0 = runF C g1 f := by
  unfold stepD
  rw [e]
theorem stepD_pr {C : List D} {f : Fn} {g1 g0 : Nat → FSpec} {p : Pr} (e : f.pr = p) (hp : p ≠ .no) : stepD C f g1 g0 = runP f p g0 := by
  unfold stepD
  rw [e]
  cases p with
  | no => exact absurd rfl hp
  | freq => rfl
  | groups => rfl
  | ends i => rfl
  | off => rfl
end DL

set_option maxHeartbeats 4000000
/-! DL part B: how data stand in the abstract heap; the rules of operators on data. -/
namespace DL
open PySem PySem.Spec PyProof.Rows L2

mutual
inductive Rep (K : PySem.W.Frag) (F : Hp) : V → D → Prop
  | non : Rep K F .non .none
  | bl (b : Bool) : Rep K F (.bl b) (.bool b)
  | int (i : Int) : Rep K F (.int i) (.int i)
  | str (x : Str) : Rep K F (.str x) (.str x)
  | lst {a : Addr} {xs : List V} {ds : List D} : F a = some (.lst xs) → Reps K F xs ds → Rep K F (.ref a) (.list ds)
  | tup {a : Addr} {xs : List V} {ds : List D} : PlT K F a xs → Reps K F xs ds → Rep K F (.ref a) (.tuple ds)
  | scr {a : Addr} (ns : List Int) : SqL K F a (ns.map V.int) → Rep K F (.ref a) (scrD ns)
  | dct {a : Addr} {r : List (D × D)} (ps : List (Int × Int)) : kvsD r = some ps → F a = some (.dK (mergeK [] (ps.map fun p => ((Sum.inl p.1 : Key), V.int p.2)))) → Rep K F (.ref a) (.dict ((.bool true, .none) :: r))
  | rgo {a : Addr} (lo hi : Int) : F a = some (.rng lo hi) → Rep K F (.ref a) (rgoD lo hi)
  | opq (a : Nat) : Rep K F (.ref a) (opqD a)
inductive Reps (K : PySem.W.Frag) (F : Hp) : List V → List D → Prop
  | nil : Reps K F [] []
  | cons {v : V} {d : D} {vs : List V} {ds : List D} : Rep K F v d → Reps K F vs ds → Reps K F (v :: vs) (d :: ds)
end

/-! tables of code objects -/
/-- the defs with a lambda in them -/
def lamX : List Str := ["most_frequent", "best_recipe"]
def TbsOf (K : PySem.W.Frag) (H : Hp) : Prop := ∀ x ∈ lamX, ∀ c P, PySem.W.tabIn K x = some (c, P) → LamX.TabS H P (x ++ ".<locals>.<lambda>")
def NoTbl (F : Hp) : Prop := ∀ a ps, F a ≠ some (.tbl ps)
theorem NoTbl.upd {F : Hp} {a : Addr} {o : HO} (h : NoTbl F) (n : ∀ ps, o ≠ .tbl ps) : NoTbl (L2.upd F a o) := fun b ps e => by
  by_cases z : b = a
  · rw [z, upd_same] at e
    exact n ps (Option.some.inj e)
  · rw [upd_ne z] at e
    exact h b ps e
/-- all tables told stay told -/
def TbX (K : PySem.W.Frag) (H H' : Hp) : Prop := TbsOf K H → TbsOf K H'
section
variable {K : PySem.W.Frag}
theorem TbX.refl (H : Hp) : TbX K H H := fun h => h
theorem TbX.trans {H H1 H2 : Hp} (a : TbX K H H1) (b : TbX K H1 H2) : TbX K H H2 := fun h => b (a h)
theorem TbX.of {H H' : Hp} (e : ∀ b o, H b = some o → H' b = some o) : TbX K H H' := fun t x hx c P h => (t x hx c P h).ext e
theorem tabS_put {H : Hp} {a P : Addr} {q : Str} {xs : List V} {o : HO} (h : H a = some (.lst xs)) (t : LamX.TabS H P q) : LamX.TabS (upd H a o) P q := by
  obtain ⟨ps, h1, h2, h3⟩ := t
  have nP : P ≠ a := fun z => by
    rw [z, h] at h1
    cases h1
  refine ⟨ps, by rw [upd_ne nP]; exact h1, h2, fun pos cv hc => ?_⟩
  obtain ⟨c, e1, e2⟩ := h3 pos cv hc
  have nC : c ≠ a := fun z => by
    rw [z, h] at e2
    unfold LamX.CodeO at e2
    cases e2
  exact ⟨c, e1, by rw [upd_ne nC]; exact e2⟩
theorem TbX.put {H : Hp} {a : Addr} {xs : List V} {o : HO} (h : H a = some (.lst xs)) : TbX K H (upd H a o) := fun t x hx c P e => tabS_put h (t x hx c P e)
end
/-- a step of the heap when a lambda is made: a table grows, a code object is new -/
structure TabStep (K : PySem.W.Frag) (H H' : Hp) : Prop where
  ext : LamX.ExtN H H'
  hn : ∀ a, H a ≠ none → H' a ≠ none
  tb : TbsOf K H'
theorem rd_mono {F F' : Hp} {a : Addr} {u : HO} (e : Same F F') (h : Rd F a u) : Rd F' a u := h.elim (fun z => .inl (e _ _ z)) fun ⟨o, z⟩ => .inr ⟨o, e _ _ z⟩
theorem sqt_mono {K : PySem.W.Frag} {F F' : Hp} {a : Addr} {xs : List V} (e : Same F F') (h : SqT K F a xs) : SqT K F' a xs := h.elim (fun z => .inl (rd_mono e z)) .inr

theorem plt_mono {K : PySem.W.Frag} {F F' : Hp} {a : Addr} {xs : List V} (e : Same F F') (h : PlT K F a xs) : PlT K F' a xs := h.elim (fun ⟨o, p, z⟩ => .inl ⟨o, p, e _ _ z⟩) .inr

section
variable {K : PySem.W.Frag} {F F' H H' : Hp}
mutual
theorem Rep.mono (e : Same F F') : ∀ (d : D) (v : V), Rep K F v d → Rep K F' v d
  | .none, _, .non => .non
  | .bool _, _, .bl b => .bl b
  | .int _, _, .int i => .int i
  | .str _, _, .str x => .str x
  | .list ds, _, .lst h r => .lst (e _ _ h) (Reps.mono e ds _ r)
  | .tuple ds, _, .tup h r => .tup (plt_mono e h) (Reps.mono e ds _ r)
  | .dict _, _, .scr ns h => .scr ns (e.seq h)
  | .dict _, _, .rgo lo hi h => .rgo lo hi (e _ _ h)
  | .dict _, _, .dct ps k h => .dct ps k (e _ _ h)
  | .dict _, _, .opq a => .opq a
theorem Reps.mono (e : Same F F') : ∀ (ds : List D) (vs : List V), Reps K F vs ds → Reps K F' vs ds
  | [], _, .nil => .nil
  | d :: ds, _, .cons h r => .cons (Rep.mono e d _ h) (Reps.mono e ds _ r)
end
theorem Reps.len : ∀ {vs : List V} {ds : List D}, Reps K F vs ds → vs.length = ds.length
  | _, _, .nil => rfl
  | _, _, .cons _ r => congrArg (· + 1) r.len
theorem Reps.get : ∀ {vs : List V} {ds : List D} {i : Nat} {d : D}, Reps K F vs ds → ds[i]? = some d → ∃ v, vs[i]? = some v ∧ Rep K F v d
  | _, _, 0, _, .cons h _, e => ⟨_, rfl, by cases e; exact h⟩
  | _, _, i + 1, _, .cons _ r, e => r.get (i := i) e
theorem Reps.getV : ∀ {vs : List V} {ds : List D} {i : Nat} {v : V}, Reps K F vs ds → vs[i]? = some v → ∃ d, ds[i]? = some d ∧ Rep K F v d
  | _, _, 0, _, .cons h _, e => ⟨_, rfl, by cases e; exact h⟩
  | _, _, i + 1, _, .cons _ r, e => r.getV (i := i) e
theorem Reps.app : ∀ {vs ws : List V} {ds es : List D}, Reps K F vs ds → Reps K F ws es → Reps K F (vs ++ ws) (ds ++ es)
  | _, _, _, _, .nil, s => s
  | _, _, _, _, .cons h r, s => .cons h (r.app s)
theorem Reps.take : ∀ (n : Nat) {vs : List V} {ds : List D}, Reps K F vs ds → Reps K F (vs.take n) (ds.take n)
  | 0, _, _, _ => .nil
  | _ + 1, _, _, .nil => .nil
  | n + 1, _, _, .cons h r => .cons h (r.take n)
theorem Reps.drop : ∀ (n : Nat) {vs : List V} {ds : List D}, Reps K F vs ds → Reps K F (vs.drop n) (ds.drop n)
  | 0, _, _, r => r
  | _ + 1, _, _, .nil => .nil
  | n + 1, _, _, .cons _ r => r.drop n
theorem Reps.set {v : V} {d : D} (h : Rep K F v d) : ∀ (i : Nat) {vs : List V} {ds : List D}, Reps K F vs ds → Reps K F (vs.set i v) (ds.set i d)
  | _, _, _, .nil => .nil
  | 0, _, _, .cons _ r => .cons h r
  | i + 1, _, _, .cons g r => .cons g (r.set h i)
theorem Reps.erase : ∀ (i : Nat) {vs : List V} {ds : List D}, Reps K F vs ds → Reps K F (vs.eraseIdx i) (ds.eraseIdx i)
  | _, _, _, .nil => .nil
  | 0, _, _, .cons _ r => r
  | i + 1, _, _, .cons g r => .cons g (r.erase i)
theorem Reps.snoc {vs : List V} {ds : List D} {v : V} {d : D} (r : Reps K F vs ds) (h : Rep K F v d) : Reps K F (vs ++ [v]) (ds ++ [d]) := r.app (.cons h .nil)
theorem Reps.rep {vs : List V} {ds : List D} (r : Reps K F vs ds) : ∀ k : Nat, Reps K F (List.replicate k vs).flatten (List.replicate k ds).flatten
  | 0 => .nil
  | k + 1 => by
    rw [List.replicate_succ, List.replicate_succ, List.flatten_cons, List.flatten_cons]
    exact r.app (r.rep k)
theorem Reps.rev : ∀ {vs : List V} {ds : List D}, Reps K F vs ds → Reps K F vs.reverse ds.reverse
  | _, _, .nil => .nil
  | _, _, .cons h r => by
    rw [List.reverse_cons, List.reverse_cons]
    exact r.rev.snoc h
theorem Reps.empty {vs : List V} {ds : List D} (r : Reps K F vs ds) : vs.isEmpty = ds.isEmpty := by
  cases r <;> rfl
theorem Reps.intsV : ∀ {ds : List D} {ns : List Int} {vs : List V}, intsD ds = some ns → Reps K F vs ds → vs = ns.map V.int
  | [], ns, _, e, .nil => by
    cases e
    rfl
  | .int i :: ds, ns, _, e, .cons h r => by
    cases h
    obtain ⟨ms, e1, e2⟩ : ∃ ms, intsD ds = some ms ∧ ns = i :: ms := by
      have e' : (intsD ds).map (i :: ·) = some ns := e
      cases q : intsD ds with
      | none =>
        rw [q] at e'
        cases e'
      | some ms =>
        rw [q] at e'
        exact ⟨ms, rfl, (Option.some.inj e').symm⟩
    rw [e2, r.intsV e1]
    rfl
theorem Reps.boolsV : ∀ {ds : List D} {ns : List Bool} {vs : List V}, boolsD ds = some ns → Reps K F vs ds → vs = ns.map V.bl
  | [], ns, _, e, .nil => by
    cases e
    rfl
  | .bool i :: ds, ns, _, e, .cons h r => by
    cases h
    obtain ⟨ms, e1, e2⟩ : ∃ ms, boolsD ds = some ms ∧ ns = i :: ms := by
      have e' : (boolsD ds).map (i :: ·) = some ns := e
      cases q : boolsD ds with
      | none =>
        rw [q] at e'
        cases e'
      | some ms =>
        rw [q] at e'
        exact ⟨ms, rfl, (Option.some.inj e').symm⟩
    rw [e2, r.boolsV e1]
    rfl
theorem Reps.strsV : ∀ {ds : List D} {ns : List Str} {vs : List V}, strsD ds = some ns → Reps K F vs ds → vs = ns.map V.str
  | [], ns, _, e, .nil => by
    cases e
    rfl
  | .str i :: ds, ns, _, e, .cons h r => by
    cases h
    obtain ⟨ms, e1, e2⟩ : ∃ ms, strsD ds = some ms ∧ ns = i :: ms := by
      have e' : (strsD ds).map (i :: ·) = some ns := e
      cases q : strsD ds with
      | none =>
        rw [q] at e'
        cases e'
      | some ms =>
        rw [q] at e'
        exact ⟨ms, rfl, (Option.some.inj e').symm⟩
    rw [e2, r.strsV e1]
    rfl
theorem reps_ints : ∀ ns : List Int, Reps K F (ns.map V.int) (ns.map PyData.int)
  | [] => .nil
  | n :: ns => .cons (.int n) (reps_ints ns)

/-- the content of a mutable object that is not frozen -/
def Cont (K : PySem.W.Frag) (F H : Hp) (v : V) : D → Prop
  | .list ds => ∃ a xs, v = .ref a ∧ H a = some (.lst xs) ∧ Reps K F xs ds
  | _ => False
def Red (K : PySem.W.Frag) (F H : Hp) (v : V) (d : D) : Prop := Rep K F v d ∨ Cont K F H v d
theorem Cont.mono {v : V} {d : D} (e : Same F F') (h : ∀ a xs, v = .ref a → H a = some (.lst xs) → H' a = some (.lst xs)) (c : Cont K F H v d) : Cont K F' H' v d := by
  cases d with
  | list ds =>
    obtain ⟨a, xs, rfl, q, r⟩ := c
    exact ⟨a, xs, rfl, h _ _ rfl q, r.mono e⟩
  | _ => exact c.elim
theorem Cont.at {v : V} {d : D} (c : Cont K F H v d) : ∃ a o, v = .ref a ∧ H a = some o ∧ isMut d = true := by
  cases d with
  | list ds =>
    obtain ⟨a, xs, rfl, q, r⟩ := c
    exact ⟨a, _, rfl, q, rfl⟩
  | _ => exact c.elim
theorem Cont.lstAt {a : Addr} {d : D} (c : Cont K F H (.ref a) d) : ∃ xs, H a = some (.lst xs) := by
  cases d with
  | list ds =>
    obtain ⟨b, xs, e, q, r⟩ := c
    cases e
    exact ⟨xs, q⟩
  | _ => exact c.elim
/-- what may be read as a list -/
theorem Red.lst {v : V} {ds : List D} (hs : Same F H) (h : Red K F H v (.list ds)) : ∃ a xs, v = .ref a ∧ H a = some (.lst xs) ∧ Reps K F xs ds := by
  rcases h with h | h
  · cases h with
    | lst q r => exact ⟨_, _, rfl, hs _ _ q, r⟩
  · obtain ⟨a, xs, rfl, q, r⟩ := h
    exact ⟨a, xs, rfl, q, r⟩
theorem Red.sql {v : V} {ds : List D} (hs : Same F H) (h : Red K F H v (.list ds)) : ∃ a xs, v = .ref a ∧ SqL K H a xs ∧ Reps K F xs ds := by
  obtain ⟨a, xs, e, q, r⟩ := h.lst hs
  exact ⟨a, xs, e, .of q, r⟩
theorem Red.tupP {v : V} {ds : List D} (hs : Same F H) (h : Red K F H v (.tuple ds)) : ∃ a xs, v = .ref a ∧ PlT K H a xs ∧ Reps K F xs ds := by
  rcases h with h | h
  · cases h with
    | tup q r => exact ⟨_, _, rfl, plt_mono hs q, r⟩
  · exact h.elim
theorem Red.tup {v : V} {ds : List D} (hs : Same F H) (h : Red K F H v (.tuple ds)) : ∃ a xs, v = .ref a ∧ SqT K H a xs ∧ Reps K F xs ds :=
  let ⟨a, xs, e, p, r⟩ := h.tupP hs
  ⟨a, xs, e, p.sqt, r⟩
theorem Red.int {v : V} {i : Int} (h : Red K F H v (.int i)) : v = .int i := by
  rcases h with h | h
  · cases h; rfl
  · exact h.elim
theorem Red.str {v : V} {i : Str} (h : Red K F H v (.str i)) : v = .str i := by
  rcases h with h | h
  · cases h; rfl
  · exact h.elim
theorem Red.bool {v : V} {i : Bool} (h : Red K F H v (.bool i)) : v = .bl i := by
  rcases h with h | h
  · cases h; rfl
  · exact h.elim
theorem Red.none {v : V} (h : Red K F H v .none) : v = .non := by
  rcases h with h | h
  · cases h; rfl
  · exact h.elim
theorem Red.scr {v : V} {kv : List (D × D)} (hs : Same F H) (h : Red K F H v (.dict kv)) (hk : ∀ lo hi : Int, kv ≠ [(.int lo, .int hi)]) (hk2 : ∀ b x r, kv ≠ (.bool b, x) :: r) : ∃ (a : Addr) (ns : List Int), v = .ref a ∧ kv = [(.none, .list (ns.map PyData.int))] ∧ SqL K H a (ns.map V.int) := by
  rcases h with h | h
  · cases h with
    | scr ns q => exact ⟨_, ns, rfl, rfl, hs.seq q⟩
    | rgo lo hi q => exact absurd rfl (hk lo hi)
    | dct ps k q => exact absurd rfl (hk2 _ _ _)
    | opq a => exact absurd rfl (hk2 _ _ _)
  · exact h.elim
theorem kvs_map : ∀ ps : List (Int × Int), kvsD (ps.map fun p => ((.int p.1 : D), (.int p.2 : D))) = some ps
  | [] => rfl
  | p :: ps => by
    rw [List.map_cons]
    show (kvsD (ps.map fun p => ((.int p.1 : D), (.int p.2 : D)))).map ((p.1, p.2) :: ·) = _
    rw [kvs_map ps]
    rfl
theorem dctOf_is {d : D} {ps : List (Int × Int)} (h : dctOf d = some ps) : ∃ r, d = .dict ((.bool true, .none) :: r) ∧ kvsD r = some ps := by
  unfold dctOf at h
  split at h
  · exact ⟨_, rfl, h⟩
  · cases h
theorem Red.dct {v : V} {r : List (D × D)} {ps : List (Int × Int)} (hs : Same F H) (h : Red K F H v (.dict ((.bool true, .none) :: r))) (e : kvsD r = some ps) : ∃ a : Addr, v = .ref a ∧ H a = some (.dK (mergeK [] (ps.map fun p => ((Sum.inl p.1 : Key), V.int p.2)))) := by
  rcases h with h | h
  · cases h with
    | dct ps' k q =>
      rw [e] at k
      cases k
      exact ⟨_, rfl, hs _ _ q⟩
  · exact h.elim
theorem Red.rgo {v : V} {lo hi : Int} (hs : Same F H) (h : Red K F H v (rgoD lo hi)) : ∃ a : Addr, v = .ref a ∧ H a = some (.rng lo hi) := by
  rcases h with h | h
  · cases h with
    | rgo lo hi q => exact ⟨_, rfl, hs _ _ q⟩
  · exact h.elim

/-- new objects alone -/
structure NewE (F H F' H' : Hp) : Prop where
  ff : Same F F'
  hh : Same H H'
  fh : Same F' H'
  nf : ∀ a, H a ≠ none → F' a = F a
  nt : NoTbl F → NoTbl F'
theorem NewE.refl (h : Same F H) : NewE F H F H := ⟨Same.refl _, Same.refl _, h, fun _ _ => rfl, id⟩
/-- a new object, frozen at once -/
theorem same_new {a : Addr} {o : HO} (h : H a = none) : Same H (upd H a o) := fun b u e => by
  rw [upd_ne (ne_of_none e h)]
  exact e
theorem NewE.obj {a : Addr} {o : HO} (h : Same F H) (n : H a = none) (nt : ∀ ps, o ≠ .tbl ps) : NewE F H (upd F a o) (upd H a o) := by
  have nF : F a = none := h.free n
  refine ⟨same_new nF, same_new n, fun b u e => ?_, fun b hb => ?_, fun z => z.upd nt⟩
  · by_cases q : b = a
    · subst q
      rw [upd_same] at e
      rw [upd_same]
      exact e
    · rw [upd_ne q] at e ⊢
      exact h _ _ e
  · rw [upd_ne fun q => hb (by rw [q]; exact n)]
theorem NewE.frz {a : Addr} {ob : Obj} {xs : List V} (h : Same F H) (n : H a = none) : NewE F H (upd F a (HO.pt ob xs)) (upd H a (HO.pt ob xs)) := by
  have nF : F a = none := h.free n
  refine ⟨same_new nF, same_new n, fun b u e => ?_, fun b hb => ?_, fun z => z.upd fun _ y => nomatch y⟩
  · by_cases q : b = a
    · subst q
      rw [upd_same] at e
      rw [upd_same]
      exact e
    · rw [upd_ne q] at e
      rw [upd_ne q]
      exact h _ _ e
  · exact upd_ne fun q => hb (by rw [q]; exact n)
/-- a new object, one's own -/
theorem NewE.own {a : Addr} {o : HO} (h : Same F H) (n : H a = none) : NewE F H F (upd H a o) :=
  ⟨Same.refl _, same_new n, h.trans (same_new n), fun _ _ => rfl, id⟩
/-- a new value: a mutable one is one's own -/
def NRep (K : PySem.W.Frag) (F' H H' : Hp) (v : V) (d : D) : Prop := if isMut d = true then Cont K F' H' v d ∧ ∀ a, v = .ref a → F' a = none ∧ H a = none else Rep K F' v d
theorem NRep.of {v : V} {d : D} (h : isMut d = false) (r : Rep K F' v d) : NRep K F' H H' v d := by
  unfold NRep
  rw [if_neg (by rw [h]; exact Bool.false_ne_true)]
  exact r
theorem NRep.lst {p : Addr} {xs : List V} {ds : List D} (hs : Same F H) (n : H p = none) (r : Reps K F xs ds) : NRep K F H (upd H p (.lst xs)) (.ref p) (.list ds) := by
  unfold NRep
  rw [if_pos (show isMut (PyData.list ds) = true from rfl)]
  exact ⟨⟨p, xs, rfl, upd_same, r⟩, fun a e => by cases e; exact ⟨hs.free n, n⟩⟩
theorem NRep.tup {p : Addr} {o : Obj} {xs : List V} {ds : List D} (hs : Same F H) (po : PlO o) (n : H p = none) (r : Reps K F xs ds) : NRep K (upd F p (HO.pt o xs)) H (upd H p (HO.pt o xs)) (.ref p) (.tuple ds) :=
  .of rfl (.tup (.upd po) (r.mono (same_new (hs.free n))))

/-! ### rules on data -/
def DR1 (K : PySem.W.Frag) (f : D → P1) : V → Hp → VK → Prop := fun x H Q => ∃ F dx Qd, Same F H ∧ Red K F H x dx ∧ f dx Qd ∧ ∀ d v F' H', Qd d → NewE F H F' H' → NRep K F' H H' v d → Q v H'
def DR2 (K : PySem.W.Frag) (f : D → D → P1) : R2 := fun x y H Q => ∃ F dx dy Qd, Same F H ∧ Red K F H x dx ∧ Red K F H y dy ∧ f dx dy Qd ∧ ∀ d v F' H', Qd d → NewE F H F' H' → NRep K F' H H' v d → Q v H'
inductive Reds (K : PySem.W.Frag) (F H : Hp) : List V → List D → Prop
  | nil : Reds K F H [] []
  | cons {v : V} {d : D} {vs : List V} {ds : List D} : Red K F H v d → Reds K F H vs ds → Reds K F H (v :: vs) (d :: ds)
def DRL (K : PySem.W.Frag) (f : List D → P1) : List V → Hp → VK → Prop := fun xs H Q => ∃ F ds Qd, Same F H ∧ Reds K F H xs ds ∧ f ds Qd ∧ ∀ d v F' H', Qd d → NewE F H F' H' → NRep K F' H H' v d → Q v H'
/-- the value is what is left as it is -/
theorem res_same {Q : VK} {Qd : D → Prop} {d : D} {v : V} (hs : Same F H) (q : ∀ d v F' H', Qd d → NewE F H F' H' → NRep K F' H H' v d → Q v H') (h : Qd d) (m : isMut d = false) (r : Rep K F v d) : Q v H :=
  q d v F H h (.refl hs) (.of m r)
end

theorem OpR.imp {X : Cx} {f : Value → Value → Sem Value} {r r' : R2} (h : OpR X f r) (i : ∀ x y H Q, r' x y H Q → r x y H Q) : OpR X f r' := fun pins s σ H x y v u Q I rx ry q => h pins s σ H x y v u Q I rx ry (i _ _ _ _ q)
theorem IxR.imp {X : Cx} {r r' : R2} (h : IxR X r) (i : ∀ x y H Q, r' x y H Q → r x y H Q) : IxR X r' := fun a b pins s σ H x y v u Q I rx ry q hs => h a b pins s σ H x y v u Q I rx ry (i _ _ _ _ q) hs
theorem CallR.imp {X : Cx} {f : Value} {r r' : List V → Hp → VK → Prop} (h : CallR X f r) (i : ∀ xs H Q, r' xs H Q → r xs H Q) : CallR X f r' := fun pins s σ H xs us Q I rx q => h pins s σ H xs us Q I rx (i _ _ _ q)
end DL

set_option maxHeartbeats 4000000
/-! DL part C: the rules of operators, item by item. -/
namespace DL
open PySem PySem.Spec PyProof.Rows L2
section
variable {X : Cx}
theorem cutL_map {α β : Type} (f : α → β) (xs : List α) (lo hi : Option Int) : cutL (xs.map f) lo hi = (cutL xs lo hi).map f := by
  unfold cutL
  rw [List.length_map, List.map_take, List.map_drop]
theorem reps_cut {K : PySem.W.Frag} {F : Hp} {vs : List V} {ds : List D} (r : Reps K F vs ds) (lo hi : Option Int) : Reps K F (cutV vs lo hi) (cutL ds lo hi) := by
  unfold cutV cutL
  rw [r.len]
  exact (r.drop _).take _

theorem opR_add : OpR X (binaryOp .Add) (DR2 X.K (binS .Add)) := by
  refine OpR.imp (op_add.or (op_add_str.or (op_catP.or op_cat))) fun x y H Q ⟨F, dx, dy, Qd, hs, hx, hy, h, q⟩ => ?_
  cases dx with
  | int i =>
    cases dy with
    | int j =>
      have e1 := hx.int
      have e2 := hy.int
      exact .inl ⟨i, j, e1, e2, res_same hs q h rfl (.int _)⟩
    | _ => exact h.elim
  | str a =>
    cases dy with
    | str b => exact .inr (.inl ⟨a, b, hx.str, hy.str, h.1, res_same hs q h.2 rfl (.str _)⟩)
    | _ => exact h.elim
  | tuple xs =>
    cases dy with
    | tuple ys =>
      obtain ⟨a, vs, e1, s1, r1⟩ := hx.tup hs
      obtain ⟨b, ws, e2, s2, r2⟩ := hy.tup hs
      refine .inr (.inr (.inl ⟨a, b, vs, ws, e1, e2, s1, s2, by rw [r1.len, r2.len]; exact h.1, fun z => ?_, fun z1 z2 => ?_, fun _ _ p o po hp => ?_⟩))
      · subst z e2
        cases r1
        rcases hy with hy | hy
        · exact res_same hs q h.2 rfl hy
        · exact hy.elim
      · subst z2 e1
        cases r2
        obtain ⟨_, h⟩ := h
        rw [List.append_nil] at h
        rcases hx with hx | hx
        · exact res_same hs q h rfl hx
        · exact hx.elim
      · exact q _ _ _ _ h.2 (.frz hs hp) (.tup hs po hp (r1.app r2))
    | _ => exact h.elim
  | list xs =>
    cases dy with
    | list ys =>
      obtain ⟨a, vs, e1, s1, r1⟩ := hx.lst hs
      obtain ⟨b, ws, e2, s2, r2⟩ := hy.lst hs
      exact .inr (.inr (.inr ⟨a, b, vs, ws, e1, e2, s1, s2, by rw [r1.len, r2.len]; exact h.1, fun p hp => q _ _ _ _ h.2 (.own hs hp) (.lst hs hp (r1.app r2))⟩))
    | _ => exact h.elim
  | _ => exact h.elim
/-- two ints -/
theorem opR_int2 {f : Value → Value → Sem Value} {g : D → D → P1} {Cn : Int → Int → Prop} {r : Int → Int → Int} (h : OpR X f (rI Cn fun i j => .int (r i j)))
    (e : ∀ x y Q, g x y Q → ∃ i j, x = .int i ∧ y = .int j ∧ Cn i j ∧ Q (.int (r i j))) : OpR X f (DR2 X.K g) := by
  refine OpR.imp h fun x y H Q ⟨F, dx, dy, Qd, hs, hx, hy, hg, q⟩ => ?_
  obtain ⟨i, j, rfl, rfl, c, qd⟩ := e _ _ _ hg
  exact ⟨i, j, hx.int, hy.int, c, res_same hs q qd rfl (.int _)⟩
theorem opR_int2' {f : Value → Value → Sem Value} {g : D → D → P1} {r : Int → Int → Int} (h : OpR X f (rI0 fun i j => .int (r i j)))
    (e : ∀ x y Q, g x y Q → ∃ i j, x = .int i ∧ y = .int j ∧ Q (.int (r i j))) : OpR X f (DR2 X.K g) := by
  refine OpR.imp h fun x y H Q ⟨F, dx, dy, Qd, hs, hx, hy, hg, q⟩ => ?_
  obtain ⟨i, j, rfl, rfl, qd⟩ := e _ _ _ hg
  exact ⟨i, j, hx.int, hy.int, res_same hs q qd rfl (.int _)⟩
theorem opR_bin : ∀ o : Operator, OpR X (binaryOp o) (DR2 X.K (binS o))
  | .Add => opR_add
  | .Sub => opR_int2' op_sub fun x y Q h => by
    cases x with
    | int i =>
      cases y with
      | int j => exact ⟨i, j, rfl, rfl, h⟩
      | _ => exact h.elim
    | _ => exact h.elim
  | .FloorDiv => opR_int2 op_fdivW fun x y Q h => by
    cases x with
    | int i =>
      cases y with
      | int j => exact ⟨i, j, rfl, rfl, h.1, h.2⟩
      | _ => exact h.elim
    | _ => exact h.elim
  | .Mod => opR_int2 op_mod fun x y Q h => by
    cases x with
    | int i =>
      cases y with
      | int j => exact ⟨i, j, rfl, rfl, h.1, h.2⟩
      | _ => exact h.elim
    | _ => exact h.elim
  | .Pow => opR_int2 op_pow fun x y Q h => by
    cases x with
    | int i =>
      cases y with
      | int j => exact ⟨i, j, rfl, rfl, h.1, h.2⟩
      | _ => exact h.elim
    | _ => exact h.elim
  | .LShift => opR_int2 op_shlW fun x y Q h => by
    cases x with
    | int i =>
      cases y with
      | int j => exact ⟨i, j, rfl, rfl, h.1, h.2⟩
      | _ => exact h.elim
    | _ => exact h.elim
  | .RShift => opR_int2 op_shr fun x y Q h => by
    cases x with
    | int i =>
      cases y with
      | int j => exact ⟨i, j, rfl, rfl, h.1, h.2⟩
      | _ => exact h.elim
    | _ => exact h.elim
  | .BitAnd => opR_int2' op_and fun x y Q h => by
    cases x with
    | int i =>
      cases y with
      | int j => exact ⟨i, j, rfl, rfl, h⟩
      | _ => exact h.elim
    | _ => exact h.elim
  | .Mult => by
    refine OpR.imp (op_mul.or (op_mulW.or op_rep)) fun x y H Q ⟨F, dx, dy, Qd, hs, hx, hy, h, q⟩ => ?_
    cases dx with
    | int i =>
      cases dy with
      | int j =>
        obtain ⟨c, h⟩ := h
        rcases c with c | c | c
        · exact .inl ⟨i, j, hx.int, hy.int, .inl c, res_same hs q h rfl (.int _)⟩
        · exact .inl ⟨i, j, hx.int, hy.int, .inr c, res_same hs q h rfl (.int _)⟩
        · exact .inr (.inl ⟨i, j, hx.int, hy.int, c, res_same hs q h rfl (.int _)⟩)
      | _ => exact h.elim
    | list xs =>
      cases dy with
      | int k =>
        obtain ⟨⟨k1, k2, k3⟩, h⟩ := h
        obtain ⟨a, vs, e1, s1, r1⟩ := hx.lst hs
        exact .inr (.inr ⟨a, k, vs, e1, hy.int, s1, k1, k2, by rw [r1.len]; exact k3, fun p hp => q _ _ _ _ h (.own hs hp) (.lst hs hp (r1.rep _))⟩)
      | _ => exact h.elim
    | _ => exact h.elim
  | .MatMult => fun _ _ _ _ x y _ _ _ _ _ _ ⟨_, dx, dy, _, _, _, _, h, _⟩ => by cases dx <;> cases dy <;> exact h.elim
  | .Div => fun _ _ _ _ x y _ _ _ _ _ _ ⟨_, dx, dy, _, _, _, _, h, _⟩ => by cases dx <;> cases dy <;> exact h.elim
  | .BitOr => fun _ _ _ _ x y _ _ _ _ _ _ ⟨_, dx, dy, _, _, _, _, h, _⟩ => by cases dx <;> cases dy <;> exact h.elim
  | .BitXor => fun _ _ _ _ x y _ _ _ _ _ _ ⟨_, dx, dy, _, _, _, _, h, _⟩ => by cases dx <;> cases dy <;> exact h.elim
end
end DL

set_option maxHeartbeats 4000000
/-! DL part C2: comparisons, truth, subscripts, slices, built-in functions. -/
namespace DL
open PySem PySem.Spec PyProof.Rows L2
section
variable {X : Cx} {K : PySem.W.Frag} {F H : Hp}
mutual
theorem dp_of (hs : Same F H) : ∀ (d : D) (v : V), Rep K F v d → d.canLay0 = true → Dp K H v d
  | .none, _, .non, _ => .non
  | .bool _, _, .bl b, _ => .bl b
  | .int _, _, .int i, _ => .int i
  | .str _, _, .str x, _ => .str x
  | .list ds, _, .lst h r, c => .lst (.of (hs _ _ h)) (dps_of hs ds _ r c)
  | .tuple ds, _, .tup h r, c => .tup (sqt_mono hs h.sqt) (dps_of hs ds _ r c)
  | .dict _, _, .scr ns h, c => nomatch c
  | .dict _, _, .rgo lo hi h, c => nomatch c
  | .dict _, _, .dct ps k h, c => nomatch c
  | .dict _, _, .opq a, c => nomatch c
theorem dps_of (hs : Same F H) : ∀ (ds : List D) (vs : List V), Reps K F vs ds → PyData.canLayAll0 ds = true → DpAll K H vs ds
  | [], _, .nil, _ => .nil
  | d :: ds, _, .cons h r, c => by
    have c' := Bool.and_eq_true_iff.mp c
    exact .cons (dp_of hs d _ h c'.1) (dps_of hs ds _ r c'.2)
end
theorem Red.dp {v : V} {d : D} (hs : Same F H) (h : Red K F H v d) (c : SeqAt.shaped d = true) : Dp K H v d := by
  have c' := SeqAt.canLay_of_shaped c
  rcases h with h | h
  · exact dp_of hs d v h c'
  · cases d with
    | list ds =>
      obtain ⟨a, xs, rfl, q, r⟩ := h
      exact .lst (.of q) (dps_of hs ds _ r c')
    | _ => exact h.elim
/-- a test's result is a bool -/
theorem opR_cmpI {o : CmpOp} {p : Int → Int → Bool} (h : OpR X (compareOp o) (rI0 fun i j => .bl (p i j))) (e : ∀ x y Q, cmpS o x y Q → ∃ i j, x = .int i ∧ y = .int j ∧ Q (p i j)) :
    OpR X (compareOp o) (DR2 X.K fun x y Q => cmpS o x y fun b => Q (.bool b)) := by
  refine OpR.imp h fun x y H Q ⟨F, dx, dy, Qd, hs, hx, hy, hg, q⟩ => ?_
  obtain ⟨i, j, rfl, rfl, qd⟩ := e _ _ _ hg
  exact ⟨i, j, hx.int, hy.int, res_same hs q qd rfl (.bl _)⟩
def eqRun (n : Bool) (x y : D) (Q : D → Prop) : Prop := eqS x y fun b => Q (.bool (if n then !b else b))
theorem dec_strV {a b : Str} : decide (V.str a = V.str b) = decide (a = b) := by
  by_cases h : a = b
  · rw [h, decide_eq_true rfl, decide_eq_true rfl]
  · rw [decide_eq_false h, decide_eq_false fun e => h (V.str.inj e)]
/-- == and != -/
theorem opR_eqn (n : Bool) {f : Value → Value → Sem Value}
    (h1 : OpR X f fun x y H Q => scal x y = true ∧ Q (.bl (if n then !decide (x = y) else decide (x = y))) H)
    (h2 : OpR X f fun x y H Q => ∃ d e, Dp X.K H x d ∧ Dp X.K H y e ∧ SeqAt.shaped d = true ∧ SeqAt.shaped e = true ∧ Q (.bl (if n then !PyData.eqv d e else PyData.eqv d e)) H) :
    OpR X f (DR2 X.K (eqRun n)) := by
  refine OpR.imp (h1.or h2) fun x y H Q ⟨F, dx, dy, Qd, hs, hx, hy, hg, q⟩ => ?_
  have gen : (SeqAt.shaped dx = true ∧ SeqAt.shaped dy = true) ∧ Qd (.bool (if n then !PyData.eqv dx dy else PyData.eqv dx dy)) → (scal x y = true ∧ Q (.bl (if n then !decide (x = y) else decide (x = y))) H) ∨ ∃ d e, Dp X.K H x d ∧ Dp X.K H y e ∧ SeqAt.shaped d = true ∧ SeqAt.shaped e = true ∧ Q (.bl (if n then !PyData.eqv d e else PyData.eqv d e)) H :=
    fun ⟨⟨s1, s2⟩, qd⟩ => .inr ⟨dx, dy, hx.dp hs s1, hy.dp hs s2, s1, s2, res_same hs q qd rfl (.bl _)⟩
  cases dx with
  | int i =>
    cases dy with
    | int j => exact gen ⟨⟨rfl, rfl⟩, hg⟩
    | _ => exact gen hg
  | str a =>
    cases dy with
    | str b =>
      have e1 := hx.str
      have e2 := hy.str
      subst e1 e2
      refine .inl ⟨rfl, ?_⟩
      rw [dec_strV]
      exact res_same hs q hg rfl (.bl _)
    | _ => exact gen hg
  | none =>
    cases dy with
    | none => exact gen ⟨⟨rfl, rfl⟩, hg⟩
    | _ => exact gen hg
  | bool a =>
    cases dy with
    | bool b => exact gen ⟨⟨rfl, rfl⟩, hg⟩
    | _ => exact gen hg
  | _ => cases dy <;> exact gen hg
theorem eqV_eqv {v w : V} {d e : D} (hv : Rep K F v d) (hw : Rep K F w e) (sd : scalD d = true) (se : scalD e = true) : eqV v w = PyData.eqv d e := by
  cases hv <;> cases hw <;> first
    | rfl
    | cases sd
    | cases se
theorem flat_scal {v : V} {d : D} (hv : Rep K F v d) (sd : scalD d = true) : flatV v = true := by
  cases hv <;> first
    | rfl
    | cases sd
theorem flats_scal : ∀ {vs : List V} {ds : List D}, Reps K F vs ds → ds.all scalD = true → vs.all flatV = true
  | _, _, .nil, _ => rfl
  | _, _, .cons h r, c => by
    rw [List.all_cons] at c ⊢
    have c' := Bool.and_eq_true_iff.mp c
    rw [flat_scal h c'.1, flats_scal r c'.2]
    rfl
theorem inV_any {v : V} {d : D} (hv : Rep K F v d) (sd : scalD d = true) : ∀ {vs : List V} {ds : List D}, Reps K F vs ds → ds.all scalD = true → inV v vs = ds.any fun z => PyData.eqv z d
  | _, _, .nil, _ => rfl
  | _, _, .cons h r, c => by
    rw [List.all_cons] at c
    have c' := Bool.and_eq_true_iff.mp c
    have ih := inV_any hv sd r c'.2
    unfold inV at ih ⊢
    rw [List.any_cons, List.any_cons, ih, eqV_eqv h hv c'.1 sd]
theorem Red.rep {v : V} {d : D} (h : Red K F H v d) (sd : isMut d = false) : Rep K F v d := by
  rcases h with h | h
  · exact h
  · obtain ⟨_, _, _, _, e⟩ := h.at
    rw [sd] at e
    cases e
theorem scal_mut {d : D} (h : scalD d = true) : isMut d = false := by
  cases d <;> first
    | rfl
    | cases h
def inRun (n : Bool) (x y : D) (Q : D → Prop) : Prop := inS x y fun b => Q (.bool (if n then !b else b))
theorem opR_inn (n : Bool) {f : Value → Value → Sem Value} (h1 : OpR X f (rIn X.K n))
    (h2 : OpR X f fun x y H Q => ∃ d ds, Dp X.K H x d ∧ Dp X.K H y (.list ds) ∧ SeqAt.shaped d = true ∧ SeqAt.shaped (.list ds) = true ∧ Q (.bl (if n then !ds.any fun z => PyData.eqv z d else ds.any fun z => PyData.eqv z d)) H) :
    OpR X f (DR2 X.K (inRun n)) := by
  refine OpR.imp (h1.or h2) fun x y H Q ⟨F, dx, dy, Qd, hs, hx, hy, hg, q⟩ => ?_
  cases dy with
  | list ys =>
    obtain ⟨c, qd⟩ := hg
    rcases c with ⟨c1, c2⟩ | ⟨c1, c2⟩
    · obtain ⟨a, xs, rfl, s1, r1⟩ := hy.sql hs
      have rx := hx.rep (scal_mut c1)
      refine .inl ⟨a, xs, rfl, .inl s1, flat_scal rx c1, flats_scal r1 c2, ?_⟩
      rw [inV_any rx c1 r1 c2]
      exact res_same hs q qd rfl (.bl _)
    · exact .inr ⟨dx, ys, hx.dp hs c1, hy.dp hs c2, c1, c2, res_same hs q qd rfl (.bl _)⟩
  | tuple ys =>
    obtain ⟨⟨c1, c2⟩, qd⟩ := hg
    obtain ⟨a, xs, rfl, s1, r1⟩ := hy.tup hs
    have rx := hx.rep (scal_mut c1)
    refine .inl ⟨a, xs, rfl, .inr s1, flat_scal rx c1, flats_scal r1 c2, ?_⟩
    rw [inV_any rx c1 r1 c2]
    exact res_same hs q qd rfl (.bl _)
  | _ => exact hg.elim
def isRun (n : Bool) (x y : D) (Q : D → Prop) : Prop := match y with
  | .none => Q (.bool (if n then !isNon x else isNon x))
  | _ => False
theorem opR_isn (n : Bool) {f : Value → Value → Sem Value} (h : OpR X f fun x y H Q => y = .non ∧ Q (.bl (if n then !decide (x = .non) else decide (x = .non))) H) :
    OpR X f (DR2 X.K (isRun n)) := by
  refine OpR.imp h fun x y H Q ⟨F, dx, dy, Qd, hs, hx, hy, hg, q⟩ => ?_
  cases dy with
  | none =>
    refine ⟨hy.none, ?_⟩
    have e : decide (x = V.non) = isNon dx := by
      rcases hx with hx | hx
      · cases hx <;> rfl
      · obtain ⟨a, o, rfl, _, e⟩ := hx.at
        cases dx <;> first
          | rfl
          | cases e
    rw [e]
    exact res_same hs q hg rfl (.bl _)
  | _ => exact hg.elim
/-- the order of data -/
theorem op_ordD (g : Bool) (hu : X.A.units + 65 < cLine) : OpR X (compareOp (if g = true then .Gt else .Lt)) fun x y H Q => ∃ d e, Dp X.K H x d ∧ Dp X.K H y e ∧ ordOk d e = true ∧ d ≠ .none ∧ Q (.bl (if g = true then PySem.W.dataLt e d else PySem.W.dataLt d e)) H := by
  intro pins s σ H x y v u Q I rx ry h
  obtain ⟨d, e, hd, he, ho, hn, q⟩ := h
  obtain ⟨as, r1⟩ := Dp.reads I d x v hd rx
  obtain ⟨bs, r2⟩ := Dp.reads I e y u he ry
  unfold ordOk at ho
  obtain ⟨o1, ho⟩ := Bool.and_eq_true_iff.mp ho
  obtain ⟨o2, ho⟩ := Bool.and_eq_true_iff.mp ho
  obtain ⟨o3, ho⟩ := Bool.and_eq_true_iff.mp ho
  have ho := of_decide_eq_true ho
  have hm : X.A.units + min d.depth e.depth < cLine := by omega
  cases g with
  | true => exact PySem.W.gt_data r1 r2 o3 hn hm ⟨.bl _, H, I, rfl, q⟩
  | false => exact PySem.W.lt_data r1 r2 o3 hn hm ⟨.bl _, H, I, rfl, q⟩
theorem ord_dp {F H : Hp} {x y : V} {dx dy : D} (hs : Same F H) (hx : Red X.K F H x dx) (hy : Red X.K F H y dy) (h : ordOk dx dy = true) : Dp X.K H x dx ∧ Dp X.K H y dy := by
  unfold ordOk at h
  obtain ⟨o1, h⟩ := Bool.and_eq_true_iff.mp h
  obtain ⟨o2, _⟩ := Bool.and_eq_true_iff.mp h
  exact ⟨hx.dp hs o1, hy.dp hs o2⟩
theorem opR_cmp (hu : X.A.units + 65 < cLine) : ∀ o : CmpOp, OpR X (compareOp o) (DR2 X.K fun x y Q => cmpS o x y fun b => Q (.bool b))
  | .Eq => opR_eqn false (OpR.imp op_eq fun _ _ _ _ h => h) (OpR.imp (op_eqD (by omega)) fun _ _ _ _ h => h)
  | .NotEq => opR_eqn true (OpR.imp op_ne fun _ _ _ _ h => h) (OpR.imp (op_neD (by omega)) fun _ _ _ _ h => h)
  | .Lt => by
    refine OpR.imp ((op_lt.or (op_ltT (by omega))).or (op_ordD false hu)) fun x y H Q ⟨F, dx, dy, Qd, hs, hx, hy, h, q⟩ => ?_
    cases dx with
    | int i =>
      cases dy with
      | int j => exact .inl (.inl ⟨i, j, hx.int, hy.int, res_same hs q h rfl (.bl _)⟩)
      | _ => exact h.elim
    | list xs =>
      cases dy with
      | list ys =>
        obtain ⟨ho, h⟩ := h
        obtain ⟨d1, d2⟩ := ord_dp hs hx hy ho
        exact .inr ⟨_, _, d1, d2, ho, (by intro z; cases z), res_same hs q h rfl (.bl _)⟩
      | _ => exact False.elim h
    | tuple xs =>
      cases dy with
      | tuple ys =>
        obtain ⟨ns, ms, e1, e2, h⟩ := h
        obtain ⟨a, vs, rfl, s1, r1⟩ := hx.tup hs
        obtain ⟨b, us, rfl, s2, r2⟩ := hy.tup hs
        have ev := r1.intsV e1
        have eu := r2.intsV e2
        subst ev eu
        exact .inl (.inr ⟨a, b, ns, ms, rfl, rfl, s1, s2, res_same hs q h rfl (.bl _)⟩)
      | _ => exact False.elim h
    | _ => exact False.elim h
  | .LtE => opR_cmpI op_le fun x y Q h => by
    cases x with
    | int i =>
      cases y with
      | int j => exact ⟨i, j, rfl, rfl, h⟩
      | _ => exact h.elim
    | _ => exact h.elim
  | .Gt => by
    refine OpR.imp (op_gt.or (op_ordD true hu)) fun x y H Q ⟨F, dx, dy, Qd, hs, hx, hy, h, q⟩ => ?_
    cases dx with
    | int i =>
      cases dy with
      | int j => exact .inl ⟨i, j, hx.int, hy.int, res_same hs q h rfl (.bl _)⟩
      | _ => exact h.elim
    | list xs =>
      cases dy with
      | list ys =>
        obtain ⟨ho, h⟩ := h
        obtain ⟨d1, d2⟩ := ord_dp hs hx hy ho
        exact .inr ⟨_, _, d1, d2, ho, (by intro z; cases z), res_same hs q h rfl (.bl _)⟩
      | _ => exact False.elim h
    | _ => exact False.elim h
  | .GtE => opR_cmpI op_ge fun x y Q h => by
    cases x with
    | int i =>
      cases y with
      | int j => exact ⟨i, j, rfl, rfl, h⟩
      | _ => exact h.elim
    | _ => exact h.elim
  | .In => opR_inn false op_in_seq (OpR.imp (op_inD hu) fun _ _ _ _ h => h)
  | .NotIn => opR_inn true op_notIn_seq (OpR.imp (op_notInD hu) fun _ _ _ _ h => h)
  | .Is => by
    refine OpR.imp (opR_isn false (OpR.imp op_isN fun _ _ _ _ h => h)) fun x y H Q ⟨F, dx, dy, Qd, hs, hx, hy, hg, q⟩ => ⟨F, dx, dy, Qd, hs, hx, hy, ?_, q⟩
    cases dy <;> exact hg
  | .IsNot => by
    refine OpR.imp (opR_isn true (OpR.imp op_notN fun _ _ _ _ h => h)) fun x y H Q ⟨F, dx, dy, Qd, hs, hx, hy, hg, q⟩ => ⟨F, dx, dy, Qd, hs, hx, hy, ?_, q⟩
    cases dy <;> exact hg

/-! truth -/
theorem truR : TruR X fun x H Q => ∃ F dx Qd, Same F H ∧ Red X.K F H x dx ∧ truS dx Qd ∧ ∀ b, Qd b → Q b H := by
  intro pins s σ H x v Q I rx ⟨F, dx, Qd, hs, hx, hg, q⟩
  refine tru_ok pins s σ H x v Q I rx ?_
  cases dx with
  | none =>
    have e := hx.none
    subst e
    exact ⟨false, rfl, q _ hg⟩
  | bool b =>
    have e := hx.bool
    subst e
    exact ⟨b, rfl, q _ hg⟩
  | int i =>
    have e := hx.int
    subst e
    exact ⟨i != 0, rfl, q _ hg⟩
  | list xs =>
    obtain ⟨a, vs, rfl, s1, r1⟩ := hx.sql hs
    refine ⟨_, .inl ⟨vs, s1, rfl⟩, ?_⟩
    rw [r1.empty]
    exact q _ hg
  | tuple xs =>
    obtain ⟨a, vs, rfl, s1, r1⟩ := hx.tup hs
    refine ⟨_, .inr (.inl ⟨vs, s1, rfl⟩), ?_⟩
    rw [r1.empty]
    exact q _ hg
  | _ => exact hg.elim
theorem unR : ∀ o : UnaryOp, UnR X (unaryOp o) (DR1 X.K (unS o))
  | .USub => fun pins s σ H x v Q I rx ⟨F, dx, Qd, hs, hx, hg, q⟩ => by
    cases dx with
    | int i => exact un_neg pins s σ H x v Q I rx ⟨i, hx.int, res_same hs q hg rfl (.int _)⟩
    | _ => exact hg.elim
  | .UAdd => fun _ _ _ _ _ _ _ _ _ ⟨_, dx, _, _, _, hg, _⟩ => hg.elim
  | .Not => fun _ _ _ _ _ _ _ _ _ ⟨_, dx, _, _, _, hg, _⟩ => hg.elim
  | .Invert => fun _ _ _ _ _ _ _ _ _ ⟨_, dx, _, _, _, hg, _⟩ => hg.elim

/-! subscripts -/
theorem atI_reps {vs : List V} {ds : List D} {i : Int} {d : D} (r : Reps K F vs ds) (h : atI ds i = some d) : ∃ v, atI vs i = some v ∧ Rep K F v d := by
  unfold atI at h ⊢
  rw [r.len]
  cases e : ixN ds.length i with
  | none =>
    rw [e] at h
    cases h
  | some j =>
    rw [e] at h
    exact r.get (i := j) h
/-- an element: as it stands -/
def DRI (K : PySem.W.Frag) : R2 := fun x y H Q => ∃ F dx dy Qd, Same F H ∧ Red K F H x dx ∧ Red K F H y dy ∧ idxS dx dy Qd ∧ ∀ d v, Qd d → Rep K F v d → Q v H
theorem ixR : IxR X (DRI X.K) := by
  refine IxR.imp ix_seq fun x y H Q ⟨F, dx, dy, Qd, hs, hx, hy, hg, q⟩ => ?_
  cases dx with
  | list xs =>
    cases dy with
    | int i =>
      obtain ⟨d, e, qd⟩ := hg
      obtain ⟨a, vs, e1, s1, r1⟩ := hx.sql hs
      obtain ⟨v, ev, rv⟩ := atI_reps r1 e
      exact .inl ⟨a, vs, i, v, e1, hy.int, s1, ev, q d v qd rv⟩
    | _ => exact hg.elim
  | tuple xs =>
    cases dy with
    | int i =>
      obtain ⟨d, e, qd⟩ := hg
      obtain ⟨a, vs, e1, s1, r1⟩ := hx.tup hs
      obtain ⟨v, ev, rv⟩ := atI_reps r1 e
      exact .inr (.inl ⟨a, vs, i, v, e1, hy.int, s1, ev, q d v qd rv⟩)
    | _ => exact hg.elim
  | str z =>
    cases dy with
    | int i =>
      obtain ⟨c, ⟨e0, e⟩, qd⟩ := hg
      exact .inr (.inr ⟨z, i, c, hx.str, hy.int, e0, e, q _ _ qd (.str _)⟩)
    | _ => exact hg.elim
  | _ => exact hg.elim
def DRS (K : PySem.W.Frag) : V → Option Int → Option Int → Hp → VK → Prop := fun x l h H Q => ∃ (F : Hp) (dx : D) (Qd : D → Prop), Same F H ∧ Red K F H x dx ∧
  slcS dx l h Qd ∧ ∀ d v F' H', Qd d → NewE F H F' H' → NRep K F' H H' v d → Q v H'
theorem slR : SlR X (DRS X.K) := by
  intro pins s σ H x v vl vu lo hi sl Q I rx hsl pl pu ⟨F, dx, Qd, hs, hx, hg, q⟩
  refine ((sl_list.or sl_tupP).or sl_str) pins s σ H x v vl vu lo hi sl Q I rx hsl pl pu ?_
  cases dx with
  | list xs =>
    obtain ⟨a, vs, e1, s1, r1⟩ := hx.sql hs
    exact .inl (.inl ⟨a, vs, e1, s1, fun p hp => q _ _ _ _ hg (.own hs hp) (.lst hs hp (reps_cut r1 lo hi))⟩)
  | tuple xs =>
    obtain ⟨a, vs, e1, s1, r1⟩ := hx.tup hs
    refine .inl (.inr ⟨a, vs, e1, s1, fun ⟨z1, z2⟩ => ?_, fun _ p o po hp => q _ _ _ _ hg (.frz hs hp) (.tup hs po hp (reps_cut r1 lo hi))⟩)
    have e : cutL xs lo hi = xs := by
      unfold cutL
      rw [← r1.len, z1, z2, List.drop_zero, Nat.sub_zero, r1.len, List.take_length]
    have hg' : Qd (.tuple (cutL xs lo hi)) := hg
    rw [e] at hg'
    subst e1
    exact res_same hs q hg' rfl (hx.rep rfl)
  | str z =>
    obtain ⟨hz, hg⟩ := hg
    exact .inr ⟨z, hx.str, hz, res_same hs q hg rfl (.str _)⟩
  | _ => exact hg.elim
end
end DL

set_option maxHeartbeats 4000000
/-! DL part C0: lists and tuples alike; sorted of ints. -/
namespace DL
open PySem PySem.Spec PyProof.Rows L2
/-! what is drawn from: a tuple (true) or a list -/
def SqX (tk : Bool) (K : PySem.W.Frag) (H : Hp) (a : Addr) (xs : List V) : Prop := match tk with
  | true => SqT K H a xs
  | false => SqL K H a xs
def IsX (tk : Bool) (h : Heap) (a : Addr) (its : Array Value) : Prop := match tk with
  | true => h.IsTuple a its
  | false => h.IsList a its
theorem sqx_mono {tk : Bool} {K : PySem.W.Frag} {F G : Hp} {a : Addr} {xs : List V} (e : Same F G) (h : SqX tk K F a xs) : SqX tk K G a xs := by
  cases tk with
  | true => exact sqt_mono e h
  | false => exact e.seq h
theorem invX {X : Cx} {pins : List (Addr × Obj)} {σ : L2.St} {H : Hp} {s : Shared} {tk : Bool} {a : Addr} {xs : List V} (I : Inv X pins σ H s) (h : SqX tk X.K H a xs) : ∃ its : List Value, Vals xs its ∧ IsX tk s.heap a its.toArray ∧ a < s.heap.objs.size := by
  cases tk with
  | true =>
    obtain ⟨its, v, p, _⟩ := I.tuple h
    have p : s.heap.IsTuple a its.toArray := p
    obtain ⟨o, q, _⟩ := id p
    exact ⟨its, v, p, Heap.lt_size q⟩
  | false =>
    obtain ⟨its, v, p, _⟩ := I.list h
    exact ⟨its, v, p.isList, p.lt⟩
theorem red_sqx {K : PySem.W.Frag} {F H : Hp} {v : V} {d : D} {ds : List D} (hs : Same F H) (r : Red K F H v d) (e : seqOf d = some ds) : ∃ (tk : Bool) (a : Addr) (xs : List V), v = .ref a ∧ SqX tk K H a xs ∧ Reps K F xs ds := by
  unfold seqOf at e
  split at e
  · cases e
    obtain ⟨a, xs, z, s, q⟩ := r.sql hs
    exact ⟨false, a, xs, z, s, q⟩
  · cases e
    obtain ⟨a, xs, z, s, q⟩ := r.tup hs
    exact ⟨true, a, xs, z, s, q⟩
  · cases e
    obtain ⟨a, ns, z, e2, s⟩ := r.scr hs (by intro lo hi e; cases e) (by intro b x r e; cases e)
    obtain rfl : ds = ns.map PyData.int := by
      injection e2 with e1 _
      injection e1 with _ e2
      injection e2
    exact ⟨false, a, _, z, s, reps_ints ns⟩
  · cases e
section
variable {prog : Program} {w : World} {A : Around} {E : Value → Shared → Prop} {s : Shared}
theorem isX_obj {tk : Bool} {h : Heap} {a : Addr} {its : Array Value} (q : IsX tk h a its) : ∃ (o : Obj) (n : Nat) (T : String), (T = "list" ∨ T = "tuple") ∧ h.get? a = some o ∧ o.cls = .type T ∧ o.data = .seq its n := by
  cases tk with
  | true =>
    obtain ⟨o, e, h1, n, h2⟩ := q
    exact ⟨o, n, "tuple", .inr rfl, e, h1, h2⟩
  | false =>
    obtain ⟨o, e, h1, n, h2⟩ := q
    exact ⟨o, n, "list", .inl rfl, e, h1, h2⟩
theorem collectX {Q : List Value → Shared → Prop} {it : Addr} {T : String} {o : Obj} {items : Array Value} {n : Nat} (hT : T = "list" ∨ T = "tuple") (ho : s.heap.get? it = some o) (hc : o.cls = .type T) (hd : o.data = .seq items n) (hz : items.size ≤ sizeLine)
    (hQ : Q items.toList { s with heap := (s.heap.push (seqObj "list" #[] 0)).update s.heap.objs.size (Obj.mapSeq (· ++ items)) }) : wpAny (model prog w) A (collect (.ref it)) Q E s := by
  unfold collect
  refine wpAny_bind (wpAny_runValue (codeAny_builtin F.entry_proto_collect ?_))
  rw [Around.under_plainId F.plain_proto_collect _]
  show wpAny _ A.in1 (newList [] >>= fun l => again (.builtin "list.__iadd__" ⟨[l, .ref it], []⟩)) _ _ s
  refine wpAny_bind (wpAny_newObj_type ?_)
  refine (wpAny_pure ⟨plainId_quiet F.plain_list_iadd _, codeAny_builtin F.entry_list_iadd ?_⟩)
  rw [Around.under_plainId F.plain_list_iadd _]
  show wpAny _ A.in1 (Builtin.List.listExtendWith (.ref s.heap.objs.size) (.ref it) (.ref s.heap.objs.size)) _ _ _
  have g1 : (s.heap.push (seqObj "list" #[] 0)).get? s.heap.objs.size = some (seqObj "list" #[] 0) := Heap.get?_push_size _ rfl
  have g2 := Heap.get?_update_self (Obj.mapSeq (· ++ items)) g1 rfl
  have last : wpAny (model prog w) A (match Value.ref s.heap.objs.size with
      | Value.ref a => do
        match (← load a).data with
          | Data.seq xs _ => pure xs.toList
          | _ => unsupported "internal:collect"
      | _ => unsupported "internal:collect") Q E { s with heap := (s.heap.push (seqObj "list" #[] 0)).update s.heap.objs.size (Obj.mapSeq (· ++ items)) } := by
    show wpAny _ A (load s.heap.objs.size >>= _) _ _ _
    refine wpAny_bind (wpAny_load g2 (wpAny_pure ?_))
    have e : ((#[] : Array Value) ++ items).toList = items.toList := by simp
    show Q ((#[] : Array Value) ++ items).toList _
    rw [e]
    exact hQ
  refine wpAny_mono (wpAny_extend_seq (hsz := hz) (A := A) (R := fun r t => r = .ok (.ret (.ref s.heap.objs.size)) ∧ t = { s with heap := (s.heap.push (seqObj "list" #[] 0)).update s.heap.objs.size (Obj.mapSeq (· ++ items)) })
    (s := { s with heap := s.heap.push (seqObj "list" #[] 0) }) _ it _ 0 hT g1 (Heap.get?_push_of_some _ ho) hc hd ⟨rfl, rfl⟩) (fun fin t h => ?_) (fun e t h => absurd h.1 (by simp))
  cases fin with
  | done f =>
    obtain ⟨e, rfl⟩ := h
    cases e
    exact last
  | again c =>
    exact ⟨h.1, codeAny_mono h.2 fun r t hr => by
      obtain ⟨rfl, rfl⟩ := hr
      exact last⟩
theorem sortedX {tk : Bool} {l : Addr} {vs : List Value} {ltv : Value → Value → Bool} {Q : Value → Shared → Prop} (O : SrtO.Swo ltv) (hl : IsX tk s.heap l vs.toArray) (hz : vs.length ≤ sizeLine)
    (hS : 2 ≤ vs.length → ∀ (h₁ : Heap) (a : Addr), SrtO.SortableO prog w A.in1.in1 { s with heap := h₁ } a vs ltv)
    (h : ∀ (out : List Value) (h' : Heap) (p : Addr) (ep : Nat), SrtO.Srtd ltv out → SrtO.Stb ltv out vs → (∀ b o, s.heap.get? b = some o → h'.get? b = some o) → s.heap.objs.size ≤ p → h'.get? p = some (seqObj "list" out.toArray ep) → Q (.ref p) { s with heap := h' }) :
    wpAny (model prog w) A (call (.builtin "sorted") [.ref l]) Q E s := by
  obtain ⟨o, n, T, hT, e1, e2, e3⟩ := isX_obj hl
  refine Calls.call_function_entry kind_sorted plain_sorted entry_sorted (args_sorted1 _) ?_
  unfold Builtin.«sorted»
  refine wpAny_bind (m := checkCount "sorted" 1 1 _) (wpAny_pure ?_)
  refine wpAny_bind (collectX hT e1 e2 e3 (by rw [List.size_toArray]; exact hz) ?_)
  have sz1 : ((s.heap.push (seqObj "list" #[] 0)).update s.heap.objs.size (Obj.mapSeq (· ++ vs.toArray))).objs.size = s.heap.objs.size + 1 := by rw [Heap.size_update, size_push']
  have k1 : ∀ b u, s.heap.get? b = some u → ((s.heap.push (seqObj "list" #[] 0)).update s.heap.objs.size (Obj.mapSeq (· ++ vs.toArray))).get? b = some u := fun b u q => by
    rw [Heap.get?_update_ne _ _ _ _ (Nat.ne_of_lt (Heap.lt_size q))]
    exact Heap.get?_push_of_some _ q
  revert sz1 k1
  generalize ((s.heap.push (seqObj "list" #[] 0)).update s.heap.objs.size (Obj.mapSeq (· ++ vs.toArray))) = h1
  intro sz1 k1
  refine wpAny_bind (wpAny_newList ?_ hz)
  have new : s.heap.objs.size ≤ h1.objs.size := by rw [sz1]; exact Nat.le_succ _
  have at_ : (h1.push (seqObj "list" vs.toArray 0)).get? h1.objs.size = some (seqObj "list" vs.toArray 0) := Heap.get?_push_size _ rfl
  have kp : ∀ b u, s.heap.get? b = some u → b ≠ h1.objs.size ∧ (h1.push (seqObj "list" vs.toArray 0)).get? b = some u := fun b u q =>
    ⟨Nat.ne_of_lt (Heap.lt_size (k1 _ _ q)), Heap.get?_push_of_some _ (k1 _ _ q)⟩
  show wpAny _ _ _ _ _ { s with heap := h1.push (seqObj "list" vs.toArray 0) }
  refine wpAny_bind (wpAny_holding (wpAny_call_entry slot_list_sort ⟨_, at_, rfl⟩ entry_list_sort (SrtO.list_sort_ord O at_ hz (fun h2 => hS h2 _ _) fun out hs hb => ⟨_, rfl, ?_⟩) (args_list_sort _)))
  obtain ⟨ep, he⟩ := sortedHeap_at (vs := vs) (out := out.toArray) at_
  refine wpAny_pure ⟨_, rfl, h out _ h1.objs.size ep hs hb (fun b u q => ?_) new he⟩
  obtain ⟨q1, q2⟩ := kp b u q
  rw [sortedHeap_old q1 (Heap.lt_size q2)]
  exact q2
end
def rSortX (K : PySem.W.Frag) : List V → Hp → VK → Prop := fun vs H Q => ∃ (tk : Bool) (a : Addr) (ns : List Int), vs = [V.ref a] ∧ SqX tk K H a (ns.map V.int) ∧
  ∀ (ms : List Int) (p : Addr), ms.Perm ns → ms.Pairwise (· ≤ ·) → H p = none → Q (.ref p) (upd H p (.lst (ms.map V.int)))
theorem cr_sortX {X : Cx} : CallR X (.builtin "sorted") (rSortX X.K) := by
  intro pins s σ H vs us Q I r h
  obtain ⟨tk, a, ns, rfl, hs, q⟩ := h
  obtain ⟨its, rv, hl, _⟩ := invX I hs
  have hz : its.length ≤ sizeLine := by
    have l := rv.length
    cases tk with
    | true =>
      obtain ⟨_, _, _, z⟩ := I.tuple (show SqT X.K H a _ from hs)
      omega
    | false =>
      obtain ⟨_, _, _, z⟩ := I.list (show SqL X.K H a _ from hs)
      omega
  rw [Vals.ref1 r]
  have hi := rv.ints
  refine sortedX SrtO.swo_int hl hz (fun h2 h₁ a' => SrtO.ints_sortable hi h2) fun out h' p ep o1 o2 kp nw he => ?_
  obtain ⟨k1, k2, k3⟩ := SrtO.ints_out hi o1 o2
  have hlen : ((out.map SrtO.iv).map V.int).length ≤ sizeLine := by
    rw [List.length_map, k2.length_eq]
    have l := rv.length
    rw [List.length_map] at l
    omega
  exact ⟨.ref p, upd H p (.lst ((out.map SrtO.iv).map V.int)), I.laid (t' := s.toks) kp nw ⟨hlen, out, ep, vals_of_ints k1, he⟩, rfl, q _ p k2 k3 (I.hok.fresh nw)⟩
end DL

set_option maxHeartbeats 4000000
/-! DL part C1: max and min of ints, of a list or a tuple, with a default. -/
namespace DL
open PySem PySem.Spec PyProof.Rows L2
theorem maxOf_ok (x : Int) : ∀ xs : List Int, PySem.W.maxOf x xs ∈ x :: xs ∧ ∀ y ∈ x :: xs, y ≤ PySem.W.maxOf x xs := fun xs => by
  induction xs generalizing x with
  | nil => exact ⟨List.mem_cons_self, fun y hy => by rw [List.mem_singleton.mp hy]; exact Int.le_refl _⟩
  | cons z zs ih =>
    show PySem.W.maxOf (if decide (x < z) = true then z else x) zs ∈ _ ∧ ∀ y ∈ _, y ≤ PySem.W.maxOf (if decide (x < z) = true then z else x) zs
    obtain ⟨h1, h2⟩ := ih (if decide (x < z) = true then z else x)
    have hm := h2 _ List.mem_cons_self
    refine ⟨?_, fun y hy => ?_⟩
    · rcases List.mem_cons.mp h1 with e | e
      · rw [e]
        split
        · exact List.mem_cons_of_mem _ List.mem_cons_self
        · exact List.mem_cons_self
      · exact List.mem_cons_of_mem _ (List.mem_cons_of_mem _ e)
    · rcases List.mem_cons.mp hy with e | e
      · subst e
        refine Int.le_trans ?_ hm
        split
        · next q => exact Int.le_of_lt (of_decide_eq_true q)
        · exact Int.le_refl _
      · rcases List.mem_cons.mp e with e | e
        · subst e
          refine Int.le_trans ?_ hm
          split
          · exact Int.le_refl _
          · next q => exact Int.not_lt.mp fun z => q (decide_eq_true z)
        · exact h2 y (List.mem_cons_of_mem _ e)
theorem minOf_ok (x : Int) : ∀ xs : List Int, PySem.W.minOf x xs ∈ x :: xs ∧ ∀ y ∈ x :: xs, PySem.W.minOf x xs ≤ y := fun xs => by
  induction xs generalizing x with
  | nil => exact ⟨List.mem_cons_self, fun y hy => by rw [List.mem_singleton.mp hy]; exact Int.le_refl _⟩
  | cons z zs ih =>
    show PySem.W.minOf (if decide (z < x) = true then z else x) zs ∈ _ ∧ ∀ y ∈ _, PySem.W.minOf (if decide (z < x) = true then z else x) zs ≤ y
    obtain ⟨h1, h2⟩ := ih (if decide (z < x) = true then z else x)
    have hm := h2 _ List.mem_cons_self
    refine ⟨?_, fun y hy => ?_⟩
    · rcases List.mem_cons.mp h1 with e | e
      · rw [e]
        split
        · exact List.mem_cons_of_mem _ List.mem_cons_self
        · exact List.mem_cons_self
      · exact List.mem_cons_of_mem _ (List.mem_cons_of_mem _ e)
    · rcases List.mem_cons.mp hy with e | e
      · subst e
        refine Int.le_trans hm ?_
        split
        · next q => exact Int.le_of_lt (of_decide_eq_true q)
        · exact Int.le_refl _
      · rcases List.mem_cons.mp e with e | e
        · subst e
          refine Int.le_trans hm ?_
          split
          · exact Int.le_refl _
          · next q => exact Int.not_lt.mp fun z => q (decide_eq_true z)
        · exact h2 y (List.mem_cons_of_mem _ e)
def rMxX (gt : Bool) (K : PySem.W.Frag) : List V → Hp → VK → Prop := fun vs H Q => ∃ (tk : Bool) (a : Addr) (ns : List Int), vs = [V.ref a] ∧ SqX tk K H a (ns.map V.int) ∧ 0 < ns.length ∧ ∀ m, isMx gt ns m → Q (.int m) H
section
variable {X : Cx}
theorem hold_int {h : Heap} {v : Value} {m : Int} (q : PySem.W.Holds h v m) : ∃ t, v = .int m t := by
  obtain ⟨as, rd⟩ := q
  have rd : Reads h v (.int m) as := rd
  cases rd
  exact ⟨_, rfl⟩
theorem cr_maxX (hc : X.calm = true) (hu : X.A.units + 70 < cLine) : CallR X (.builtin "max") (rMxX true X.K) := by
  intro pins s σ H vs us Q I r h
  obtain ⟨tk, a, ns, rfl, hs, hn, q⟩ := h
  obtain ⟨its, rv, hl, _⟩ := invX I hs
  rw [Vals.ref1 r]
  have hi := rv.ints
  have ud : X.A.units + 1 + PySem.W.Datum.depth Int < cLine := by
    show X.A.units + 1 + 0 < cLine
    omega
  cases ns with
  | nil => exact absurd hn (Nat.lt_irrefl 0)
  | cons x xs =>
    have fin : ∀ (i : Nat) (v : Value) (h' : Heap) (tok : Nat), its.toArray[i]? = some v → PySem.W.Holds h' v (PySem.W.maxOf x xs) → (∀ b o, s.heap.get? b = some o → h'.get? b = some o) → EP X pins σ Q v { s with heap := h', toks := tok } := fun i v h' tok _ hv kp => by
      obtain ⟨t, rfl⟩ := hold_int hv
      obtain ⟨m1, m2⟩ := maxOf_ok x xs
      exact ⟨.int _, H, I.kept kp, ⟨_, rfl⟩, q _ ⟨m1, fun y hy => m2 y hy⟩⟩
    have ha : PySem.W.HoldAll s.heap its.toArray.toList (x :: xs) := PySem.W.HoldAll.of_ints hi
    cases tk with
    | true => exact PySem.W.max_tuple_datum (I.ok.hd hc) (show s.heap.IsTuple a its.toArray from hl) ha ud fin
    | false => exact PySem.W.max_list_datum (I.ok.hd hc) (show s.heap.IsList a its.toArray from hl) ha ud fin
theorem cr_minX (hc : X.calm = true) (hu : X.A.units + 70 < cLine) : CallR X (.builtin "min") (rMxX false X.K) := by
  intro pins s σ H vs us Q I r h
  obtain ⟨tk, a, ns, rfl, hs, hn, q⟩ := h
  obtain ⟨its, rv, hl, _⟩ := invX I hs
  rw [Vals.ref1 r]
  have hi := rv.ints
  have ud : X.A.units + 1 + PySem.W.Datum.depth Int < cLine := by
    show X.A.units + 1 + 0 < cLine
    omega
  cases ns with
  | nil => exact absurd hn (Nat.lt_irrefl 0)
  | cons x xs =>
    have fin : ∀ (i : Nat) (v : Value) (h' : Heap) (tok : Nat), its.toArray[i]? = some v → PySem.W.Holds h' v (PySem.W.minOf x xs) → (∀ b o, s.heap.get? b = some o → h'.get? b = some o) → EP X pins σ Q v { s with heap := h', toks := tok } := fun i v h' tok _ hv kp => by
      obtain ⟨t, rfl⟩ := hold_int hv
      obtain ⟨m1, m2⟩ := minOf_ok x xs
      exact ⟨.int _, H, I.kept kp, ⟨_, rfl⟩, q _ ⟨m1, fun y hy => m2 y hy⟩⟩
    have ha : PySem.W.HoldAll s.heap its.toArray.toList (x :: xs) := PySem.W.HoldAll.of_ints hi
    cases tk with
    | true => exact PySem.W.min_tuple_datum (I.ok.hd hc) (show s.heap.IsTuple a its.toArray from hl) ha ud fin
    | false => exact PySem.W.min_list_datum (I.ok.hd hc) (show s.heap.IsList a its.toArray from hl) ha ud fin
/-- with default=d -/
def rMxD (gt : Bool) (K : PySem.W.Frag) : List V → List V → Hp → VK → Prop := fun vs zs H Q => ∃ (tk : Bool) (a : Addr) (ns : List Int) (z : Int), vs = [V.ref a] ∧ zs = [.int z] ∧ SqX tk K H a (ns.map V.int) ∧ (ns = [] → Q (.int z) H) ∧ ∀ m, isMx gt ns m → Q (.int m) H
theorem cr_maxD (hc : X.calm = true) (hu : X.A.units + 70 < cLine) : CallRK X (.builtin "max") [Str.ofString "default"] (rMxD true X.K) := by
  intro pins s σ H vs zs us ws Q I r rz h
  obtain ⟨tk, a, ns, z, rfl, rfl, hs, q0, q⟩ := h
  obtain ⟨its, rv, hl, _⟩ := invX I hs
  rw [Vals.ref1 r]
  cases rz with
  | cons rz1 rz2 =>
    cases rz2
    obtain ⟨tz, rfl⟩ := rz1
    have hi := rv.ints
    have ud : X.A.units + 1 + PySem.W.Datum.depth Int < cLine := by
      show X.A.units + 1 + 0 < cLine
      omega
    have fin0 : ns = [] → ∀ (h' : Heap) (tok : Nat), (∀ b o, s.heap.get? b = some o → h'.get? b = some o) → EP X pins σ Q (.int z tz) { s with heap := h', toks := tok } := fun e h' tok kp => ⟨.int _, H, I.kept kp, ⟨_, rfl⟩, q0 e⟩
    have fin : ∀ (x : Int) (xs : List Int) (i : Nat) (v : Value) (h' : Heap) (tok : Nat), ns = x :: xs → its.toArray[i]? = some v → PySem.W.Holds h' v (PySem.W.maxOf x xs) → (∀ b o, s.heap.get? b = some o → h'.get? b = some o) → EP X pins σ Q v { s with heap := h', toks := tok } := fun x xs i v h' tok e _ hv kp => by
      obtain ⟨t, rfl⟩ := hold_int hv
      subst e
      obtain ⟨m1, m2⟩ := maxOf_ok x xs
      exact ⟨.int _, H, I.kept kp, ⟨_, rfl⟩, q _ ⟨m1, fun y hy => m2 y hy⟩⟩
    have ha : PySem.W.HoldAll s.heap its.toArray.toList ns := PySem.W.HoldAll.of_ints hi
    cases tk with
    | true => exact PySem.W.max_tuple_datum_default (I.ok.hd hc) (show s.heap.IsTuple a its.toArray from hl) ha ud fin0 fin
    | false => exact PySem.W.max_list_datum_default (I.ok.hd hc) (show s.heap.IsList a its.toArray from hl) ha ud fin0 fin
theorem cr_minD (hc : X.calm = true) (hu : X.A.units + 70 < cLine) : CallRK X (.builtin "min") [Str.ofString "default"] (rMxD false X.K) := by
  intro pins s σ H vs zs us ws Q I r rz h
  obtain ⟨tk, a, ns, z, rfl, rfl, hs, q0, q⟩ := h
  obtain ⟨its, rv, hl, _⟩ := invX I hs
  rw [Vals.ref1 r]
  cases rz with
  | cons rz1 rz2 =>
    cases rz2
    obtain ⟨tz, rfl⟩ := rz1
    have hi := rv.ints
    have ud : X.A.units + 1 + PySem.W.Datum.depth Int < cLine := by
      show X.A.units + 1 + 0 < cLine
      omega
    have fin0 : ns = [] → ∀ (h' : Heap) (tok : Nat), (∀ b o, s.heap.get? b = some o → h'.get? b = some o) → EP X pins σ Q (.int z tz) { s with heap := h', toks := tok } := fun e h' tok kp => ⟨.int _, H, I.kept kp, ⟨_, rfl⟩, q0 e⟩
    have fin : ∀ (x : Int) (xs : List Int) (i : Nat) (v : Value) (h' : Heap) (tok : Nat), ns = x :: xs → its.toArray[i]? = some v → PySem.W.Holds h' v (PySem.W.minOf x xs) → (∀ b o, s.heap.get? b = some o → h'.get? b = some o) → EP X pins σ Q v { s with heap := h', toks := tok } := fun x xs i v h' tok e _ hv kp => by
      obtain ⟨t, rfl⟩ := hold_int hv
      subst e
      obtain ⟨m1, m2⟩ := minOf_ok x xs
      exact ⟨.int _, H, I.kept kp, ⟨_, rfl⟩, q _ ⟨m1, fun y hy => m2 y hy⟩⟩
    have ha : PySem.W.HoldAll s.heap its.toArray.toList ns := PySem.W.HoldAll.of_ints hi
    cases tk with
    | true => exact PySem.W.min_tuple_datum_default (I.ok.hd hc) (show s.heap.IsTuple a its.toArray from hl) ha ud fin0 fin
    | false => exact PySem.W.min_list_datum_default (I.ok.hd hc) (show s.heap.IsList a its.toArray from hl) ha ud fin0 fin
end
theorem bf_max1 {d : D} {Q : D → Prop} (h : bfS .max [d] Q) : ∃ xs ns, seqOf d = some xs ∧ intsD xs = some ns ∧ 0 < ns.length ∧ ∀ m, isMx true ns m → Q (.int m) := by
  cases d <;> exact h
theorem bf_min1 {d : D} {Q : D → Prop} (h : bfS .min [d] Q) : ∃ xs ns, seqOf d = some xs ∧ intsD xs = some ns ∧ 0 < ns.length ∧ ∀ m, isMx false ns m → Q (.int m) := by
  cases d <;> exact h
/-! max, min of a sequence of pairs of ints -/
theorem fold_best {α : Type} (lt : α → α → Bool) (le : α → α → Prop) (rf : ∀ a, le a a) (tr : ∀ a b c, le a b → le b c → le a c) (hl : ∀ a b, lt a b = true → le a b) (hn : ∀ a b, lt a b = false → le b a) :
    ∀ (xs : List α) (x : α), xs.foldl (fun a y => if lt a y = true then y else a) x ∈ x :: xs ∧ ∀ y ∈ x :: xs, le y (xs.foldl (fun a y => if lt a y = true then y else a) x)
  | [], x => ⟨List.mem_cons_self, fun y hy => by rw [List.mem_singleton.mp hy]; exact rf _⟩
  | z :: zs, x => by
    obtain ⟨h1, h2⟩ := fold_best lt le rf tr hl hn zs (if lt x z = true then z else x)
    rw [List.foldl_cons]
    have hm := h2 _ List.mem_cons_self
    refine ⟨?_, fun y hy => ?_⟩
    · rcases List.mem_cons.mp h1 with e | e
      · rw [e]
        split
        · exact List.mem_cons_of_mem _ List.mem_cons_self
        · exact List.mem_cons_self
      · exact List.mem_cons_of_mem _ (List.mem_cons_of_mem _ e)
    · have hx : le x (if lt x z = true then z else x) ∧ le z (if lt x z = true then z else x) := by
        cases q : lt x z with
        | true => exact ⟨hl _ _ q, rf _⟩
        | false => exact ⟨rf _, hn _ _ q⟩
      rcases List.mem_cons.mp hy with e | e
      · subst e
        exact tr _ _ _ hx.1 hm
      · rcases List.mem_cons.mp e with e | e
        · subst e
          exact tr _ _ _ hx.2 hm
        · exact h2 y (List.mem_cons_of_mem _ e)
theorem ltPD_t {p q : Int × Int} (h : PySem.W.DatumOrd.lt p q = true) : leP p q := by
  have h : (if p.1 = q.1 then decide (p.2 < q.2) else decide (p.1 < q.1)) = true := h
  unfold leP
  split at h <;> have := of_decide_eq_true h <;> omega
theorem ltPD_f {p q : Int × Int} (h : PySem.W.DatumOrd.lt p q = false) : leP q p := by
  have h : (if p.1 = q.1 then decide (p.2 < q.2) else decide (p.1 < q.1)) = false := h
  unfold leP
  split at h <;> have := of_decide_eq_false h <;> omega
theorem leP_rf (a : Int × Int) : leP a a := .inr ⟨rfl, Int.le_refl _⟩
theorem leP_tr (a b c : Int × Int) (h1 : leP a b) (h2 : leP b c) : leP a c := by
  unfold leP at *
  omega
theorem maxP_ok (x : Int × Int) (xs : List (Int × Int)) : PySem.W.maxOf x xs ∈ x :: xs ∧ ∀ y ∈ x :: xs, leP y (PySem.W.maxOf x xs) :=
  fold_best (fun a y => PySem.W.DatumOrd.lt a y) leP leP_rf leP_tr (fun _ _ h => ltPD_t h) (fun _ _ h => ltPD_f h) xs x
theorem minP_ok (x : Int × Int) (xs : List (Int × Int)) : PySem.W.minOf x xs ∈ x :: xs ∧ ∀ y ∈ x :: xs, leP (PySem.W.minOf x xs) y :=
  fold_best (fun a y => PySem.W.DatumOrd.lt y a) (fun a b => leP b a) leP_rf (fun a b c h1 h2 => leP_tr c b a h2 h1) (fun _ _ h => ltPD_t h) (fun _ _ h => ltPD_f h) xs x
def rMxP (gt : Bool) (K : PySem.W.Frag) : List V → Hp → VK → Prop := fun vs H Q => ∃ (tk : Bool) (a : Addr) (zs : List (Addr × Int × Int)), vs = [V.ref a] ∧ SqX tk K H a (zs.map fun z => V.ref z.1) ∧ 0 < zs.length ∧ (∀ z ∈ zs, SqT K H z.1 [.int z.2.1, .int z.2.2]) ∧
  ∀ z ∈ zs, isMxP gt (zs.map (·.2)) z.2 → Q (.ref z.1) H
theorem refsOf {zs : List (Addr × Int × Int)} {its : List Value} (rv : Vals (zs.map fun z => V.ref z.1) its) : its = zs.map fun z => Value.ref z.1 := by
  induction zs generalizing its with
  | nil =>
    cases rv
    rfl
  | cons z zs ih =>
    cases rv with
    | cons r1 r2 =>
      cases r1
      rw [ih r2]
      rfl
theorem reads_pair {h : Heap} {a : Addr} {i j : Int} {ti tj : Tok} (ht : IsTup h a #[.int i ti, .int j tj]) : PySem.W.Holds h (.ref a) ((i, j) : Int × Int) := by
  obtain ⟨o, e1, e2, n, e3⟩ := ht
  exact ⟨_, Reads.tuple e1 e2 e3 (.cons (.int _ _) (.cons (.int _ _) .nil))⟩
theorem pair_of {h : Heap} {a : Addr} {i j : Int} {ti tj : Tok} {p : Int × Int} (ht : IsTup h a #[.int i ti, .int j tj]) (hp : PySem.W.Holds h (.ref a) p) : p = (i, j) := by
  obtain ⟨o, e1, e2, n, e3⟩ := ht
  obtain ⟨as, rd⟩ := hp
  have rd : Reads h (.ref a) (.tuple [.int p.1, .int p.2]) as := rd
  cases rd with
  | tuple f1 f2 f3 f4 =>
    rw [e1] at f1
    cases f1
    rw [e3] at f3
    cases f3
    cases f4 with
    | cons g1 g2 =>
      cases g1
      cases g2 with
      | cons g3 g4 =>
        cases g3
        rfl
section
variable {X : Cx}
theorem inv_pair {pins : List (Addr × Obj)} {σ : L2.St} {H : Hp} {s : Shared} {a : Addr} {i j : Int} (I : Inv X pins σ H s) (h : SqT X.K H a [.int i, .int j]) : ∃ ti tj, IsTup s.heap a #[.int i ti, .int j tj] := by
  obtain ⟨its, r, p, _⟩ := I.tuple h
  obtain ⟨u1, u2, rfl, ⟨t1, rfl⟩, ⟨t2, rfl⟩⟩ := vals2 r
  exact ⟨t1, t2, p⟩
theorem hold_pairs {pins : List (Addr × Obj)} {σ : L2.St} {H : Hp} {s : Shared} (I : Inv X pins σ H s) : ∀ {zs : List (Addr × Int × Int)}, (∀ z ∈ zs, SqT X.K H z.1 [.int z.2.1, .int z.2.2]) → PySem.W.HoldAll s.heap (zs.map fun z => Value.ref z.1) (zs.map (·.2))
  | [], _ => .nil
  | z :: zs, h => by
    obtain ⟨ti, tj, e⟩ := inv_pair I (h z List.mem_cons_self)
    exact .cons (reads_pair e) (hold_pairs I fun y hy => h y (List.mem_cons_of_mem _ hy))
theorem cr_mxP {gt : Bool} (hc : X.calm = true) (hu : X.A.units + 70 < cLine) : CallR X (.builtin (if gt = true then "max" else "min")) (rMxP gt X.K) := by
  intro pins s σ H vs us Q I r h
  obtain ⟨tk, a, zs, rfl, hs, hn, hx, q⟩ := h
  obtain ⟨its, rv, hl, _⟩ := invX I hs
  rw [Vals.ref1 r]
  have ei := refsOf rv
  subst ei
  have ud : X.A.units + 1 + PySem.W.Datum.depth (Int × Int) < cLine := by
    show X.A.units + 1 + (max 0 0 + 1) < cLine
    omega
  have ha := hold_pairs I hx
  have fin : ∀ (m : Int × Int), isMxP gt (zs.map (·.2)) m → ∀ (i : Nat) (v : Value) (h' : Heap) (tok : Nat), (zs.map fun z => Value.ref z.1).toArray[i]? = some v → PySem.W.Holds h' v m → (∀ b o, s.heap.get? b = some o → h'.get? b = some o) → EP X pins σ Q v { s with heap := h', toks := tok } := fun m hm i v h' tok hi hv kp => by
    have I2 := I.kept (t' := tok) kp
    rw [List.getElem?_toArray, List.getElem?_map] at hi
    cases ez : zs[i]? with
    | none =>
      rw [ez] at hi
      cases hi
    | some z =>
      rw [ez] at hi
      cases hi
      have hz := List.mem_of_getElem? ez
      obtain ⟨ti, tj, e⟩ := inv_pair I2 (hx z hz)
      have em : m = z.2 := pair_of e hv
      subst em
      exact ⟨.ref z.1, H, I2, rfl, q z hz hm⟩
  cases zs with
  | nil => exact absurd hn (Nat.lt_irrefl 0)
  | cons x xs =>
    cases gt with
    | true =>
      obtain ⟨m1, m2⟩ := maxP_ok x.2 (xs.map (·.2))
      have fin := fin _ ⟨m1, fun y hy => m2 y hy⟩
      cases tk with
      | true => exact PySem.W.max_tuple_datum (I.ok.hd hc) (show s.heap.IsTuple a _ from hl) ha ud fin
      | false => exact PySem.W.max_list_datum (I.ok.hd hc) (show s.heap.IsList a _ from hl) ha ud fin
    | false =>
      obtain ⟨m1, m2⟩ := minP_ok x.2 (xs.map (·.2))
      have fin := fin _ ⟨m1, fun y hy => m2 y hy⟩
      cases tk with
      | true => exact PySem.W.min_tuple_datum (I.ok.hd hc) (show s.heap.IsTuple a _ from hl) ha ud fin
      | false => exact PySem.W.min_list_datum (I.ok.hd hc) (show s.heap.IsList a _ from hl) ha ud fin
end
end DL

set_option maxHeartbeats 4000000
/-! DL part C3: built-in functions, methods. -/
namespace DL
open PySem PySem.Spec PyProof.Rows L2
section
variable {X : Cx} {K : PySem.W.Frag} {F H : Hp}
theorem Reds.one {vs : List V} {d : D} (h : Reds K F H vs [d]) : ∃ v, vs = [v] ∧ Red K F H v d := by
  cases h with
  | cons h r =>
    cases r
    exact ⟨_, rfl, h⟩
theorem Reds.two {vs : List V} {d e : D} (h : Reds K F H vs [d, e]) : ∃ v w, vs = [v, w] ∧ Red K F H v d ∧ Red K F H w e := by
  cases h with
  | cons h r =>
    obtain ⟨w, rfl, g⟩ := r.one
    exact ⟨_, w, rfl, h, g⟩
theorem Reds.len : ∀ {vs : List V} {ds : List D}, Reds K F H vs ds → vs.length = ds.length
  | _, _, .nil => rfl
  | _, _, .cons _ r => congrArg (· + 1) r.len
def tyD : D → String
  | .none => "NoneType"
  | .bool _ => "bool"
  | .int _ => "int"
  | .str _ => "str"
  | .tuple _ => "tuple"
  | _ => "list"
theorem Red.ty {v : V} {d : D} (hs : Same F H) (h : Red K F H v d) (hn : ∀ kv, d ≠ .dict kv) : TyX K H v (.type (tyD d)) := by
  cases d with
  | none =>
    rw [h.none]
    exact .base .non
  | bool b =>
    rw [h.bool]
    exact .base (.bl b)
  | int b =>
    rw [h.int]
    exact .base (.int b)
  | str b =>
    rw [h.str]
    exact .base (.str b)
  | list ds =>
    obtain ⟨a, xs, rfl, q, _⟩ := h.lst hs
    exact .base (.lst q)
  | tuple ds =>
    obtain ⟨a, xs, rfl, q, _⟩ := h.tup hs
    rcases q with (q | ⟨o, q⟩) | ⟨o, its, n, q, c, _⟩
    · exact .base (.tup q)
    · exact .fTuple q
    · exact .kTuple q c
  | dict kv => exact absurd rfl (hn kv)
def isTy : Bf → Option String
  | .isI => some "int"
  | .isB => some "bool"
  | .isS => some "str"
  | .isT => some "tuple"
  | _ => none
def isRes : Bf → D → Bool
  | .isI, .int _ => true
  | .isI, .bool _ => true
  | .isB, .bool _ => true
  | .isS, .str _ => true
  | .isT, .tuple _ => true
  | _, _ => false
theorem kit_is {b : Bf} {t : String} (h : isTy b = some t) (d : D) : PySem.W.kitOne K (.type (tyD d)) (.type t) = some (isRes b d) := by
  refine kit_ty ?_
  cases b <;> cases h <;> cases d <;> exact rfl
theorem isi_bf {b : Bf} {t : String} (h : isTy b = some t) {ds : List D} {Qd : D → Prop} (g : bfS b ds Qd) : ∃ d, ds = [d] ∧ (∀ kv, d ≠ .dict kv) ∧ Qd (.bool (isRes b d)) := by
  match ds, g with
  | [], g => cases b <;> cases h <;> exact g.elim
  | [d], g =>
    refine ⟨d, rfl, fun kv e => ?_, ?_⟩
    · subst e
      cases b <;> cases h <;> exact g.elim
    · cases b <;> cases h <;> cases d <;> first | exact g | exact g.elim
  | _ :: _ :: _, g => cases b <;> cases h <;> exact g.elim
theorem callIs {b : Bf} {t : String} (h : isTy b = some t) : CallR X (.builtin "isinstance") (fun xs H Q => ∃ ys, xs = ys ++ [.ty t] ∧ DRL X.K (bfS b) ys H Q) := by
  refine CallR.imp call_isi fun xs H Q ⟨ys, e, F, ds, Qd, hs, hr, hg, q⟩ => ?_
  obtain ⟨d, rfl, hn, qd⟩ := isi_bf h hg
  obtain ⟨v, rfl, rv⟩ := hr.one
  exact ⟨v, .ty t, _, _, _, e,   .ty t, rv.ty hs hn, kit_is h d, res_same hs q qd rfl (.bl _)⟩
theorem leP_of {e f : Int × Int} (h : SrtO.lexB f e = false) : leP e f := by
  have := SrtO.lexB_no.mp h
  unfold leP
  omega
theorem pairsD_cons {d : D} {ds : List D} {ps : List (Int × Int)} (h : pairsD (d :: ds) = some ps) : ∃ i j qs, d = .tuple [.int i, .int j] ∧ pairsD ds = some qs ∧ ps = (i, j) :: qs := by
  have e0 : ∀ i j : Int, d = .tuple [.int i, .int j] → ∃ i j qs, d = .tuple [.int i, .int j] ∧ pairsD ds = some qs ∧ ps = (i, j) :: qs   := fun i j e => by
    subst e
    have h : (pairsD ds).map ((i, j) :: ·) = some ps := h
    cases q : pairsD ds with
    | none =>
      rw [q] at h
      cases h
    | some qs =>
      rw [q] at h
      exact ⟨i, j, qs, rfl, rfl, (Option.some.inj h).symm⟩
  by_cases hd : ∃ i j : Int, d = .tuple [.int i, .int j]
  · obtain ⟨i, j, e⟩ := hd
    exact e0 i j e
  · exfalso
    unfold pairsD at h
    split at h
    · rename_i e
      cases e
    · rename_i i j r e
      injection e with e1 e2
      exact hd ⟨i, j, e1⟩
    · cases h
theorem _root_.DL.Reps.pairsV {K : PySem.W.Frag} {F : Hp} : ∀ {ds : List D} {ps : List (Int × Int)} {vs : List V}, Reps K F vs ds → pairsD ds = some ps → ∃ zs : List (Addr × Int × Int), vs = (zs.map fun z => V.ref z.1) ∧ ps = zs.map (·.2) ∧ ∀ z ∈ zs, PlT K F z.1 [.int z.2.1, .int z.2.2]
  | [], ps, _, .nil, e => by
    cases e
    exact ⟨[], rfl, rfl, fun _ h => nomatch h⟩
  | d :: ds, ps, _, .cons r rs, e => by
    obtain ⟨i, j, qs, rfl, e2, rfl⟩ := pairsD_cons e
    obtain ⟨zs, rfl, rfl, hz⟩ := rs.pairsV e2
    cases r with
    | tup s r2 =>
      cases r2 with
      | cons r3 r4 =>
        cases r3
        cases r4 with
        | cons r5 r6 =>
          cases r5
          cases r6
          refine ⟨(_, i, j) :: zs, rfl, rfl, fun z h => ?_⟩
          rcases List.mem_cons.mp h with rfl | h
          · exact s
          · exact hz z h
theorem reps_pairs {K : PySem.W.Frag} {F : Hp} : ∀ zs : List (Addr × Int × Int), (∀ z ∈ zs, PlT K F z.1 [.int z.2.1, .int z.2.2]) → Reps K F (zs.map fun z => V.ref z.1) ((zs.map (·.2)).map ipD)
  | [], _ => .nil
  | z :: zs, h => .cons (.tup (h z List.mem_cons_self) (.cons (.int _) (.cons (.int _) .nil))) (reps_pairs zs fun y hy => h y (List.mem_cons_of_mem _ hy))
def bfV : Bf → Option Value
  | .len => some (.builtin "len")
  | .int => some (.type "int")
  | .abs => some (.builtin "abs")
  | .max => some (.builtin "max")
  | .min => some (.builtin "min")
  | .list => some (.type "list")
  | .tuple => some (.type "tuple")
  | .rngO => some (.type "range")
  | .dctO => some (.type "dict")
  | .sorted => some (.builtin "sorted")
  | .srtP => some (.builtin "sorted")
  | .maxP => some (.builtin "max")
  | .minP => some (.builtin "min")
  | .sum => some (.builtin "sum")
  | .all => some (.builtin "all")
  | .any => some (.builtin "any")
  | _ => none
theorem cr_range1 : CallR X (.type "range") (fun vs H Q => ∃ j, vs = [V.int j] ∧ ∀ p, H p = none → Q (.ref p) (upd H p (.rng 0 j))) := by
  intro pins s σ H vs us Q I r h
  obtain ⟨j, rfl, q⟩ := h
  obtain ⟨u1, rfl, ri⟩ := vals1 r
  obtain ⟨t, rfl⟩ := ri
  refine call_range_1 ⟨.ref s.heap.objs.size, upd H s.heap.objs.size (.rng 0 j), I.laid (t' := s.toks + 1 + 1) (fun b o e => Heap.get?_push_of_some _ e) (Nat.le_refl _) ?_, rfl, q _ (I.hok.fresh (Nat.le_refl _))⟩
  exact ⟨s.toks, t, s.toks + 1, Heap.get?_push_size _ rfl⟩
theorem cr_listRng (hc : X.calm = true) : CallR X (.type "list") (fun xs H Q => ∃ (a : Addr) (lo hi : Int), xs = [.ref a] ∧ H a = some (.rng lo hi) ∧ RgOk lo hi ∧ ∀ p, H p = none → Q (.ref p) (upd H p (.lst (rgV lo hi)))) := by
  intro pins s σ H xs us Q I r h
  obtain ⟨a, lo, hi, rfl, ha, ok, q⟩ := h
  obtain ⟨u1, rfl, ri⟩ := vals1 r
  cases ri
  obtain ⟨t, u, v, hr⟩ : ∃ t u v, s.heap.get? a = some { cls := .type "range", data := .fields #[.int lo t, .int hi u, .int 1 v] } := I.hok a _ ha
  obtain ⟨b1, b2, b3, b4, b5⟩ := ok
  refine call_list_range (n := (hi - lo).toNat) (I.ok.hd hc) hr (small_one b1 b2 b3 b4) (rangeSize_nat lo hi) b5 fun h' tk acc c' hk e' hi' => ?_
  refine ⟨.ref s.heap.objs.size, upd H s.heap.objs.size (.lst (rgV lo hi)), I.laid hk (Nat.le_refl _) (show ObjOk X.prog X.w _ _ _ (.lst (rgV lo hi)) from ⟨?_, acc.toList, c', vals_rg hi', ?_⟩), rfl, q _ (I.hok.fresh (Nat.le_refl _))⟩
  · rw [rgV_length, sizeLine_eq]; omega
  · rw [Array.toArray_toList]; exact e'
theorem plain_tup {pins : List (Addr × Obj)} {σ : L2.St} {H : Hp} {s : Shared} {a : Addr} {xs : List V} (I : Inv X pins σ H s) (h : PlT X.K H a xs) : ∃ its : List Value, Vals xs its ∧ PySem.PlainSeq "tuple" s.heap a its.toArray ∧ xs.length ≤ sizeLine := by
  rcases h with ⟨o, po, e⟩ | ⟨o, its, n, hk, hc, hd, hs, hz, r⟩
  · obtain ⟨h1, z, its, r, o', h2, hc, n, hdat⟩ := (show s.heap.get? a = some o ∧ ObjOk X.prog X.w H s.heap a (.tup xs) from I.hok a _ e)
    rw [h1] at h2
    cases h2
    exact ⟨its, r, ⟨o, n, h1, hc, po.2, hdat⟩, z⟩
  · refine ⟨its.toList, r, ⟨o, n, I.kIn a o hk, hc, hd, by simpa using hs⟩, ?_⟩
    have e := r.length
    simp only [Array.length_toList] at e
    omega
theorem pairs_at {pins : List (Addr × Obj)} {σ : L2.St} {H : Hp} {s : Shared} (I : Inv X pins σ H s) : ∀ zs : List (Addr × Int × Int), (∀ z ∈ zs, SqT X.K H z.1 [.int z.2.1, .int z.2.2]) →
    ∃ vps : List (Value × Value), vps.length = zs.length ∧ (∀ (j : Nat) (z : Addr × Int × Int), zs[j]? = some z → ∃ (t u : Nat), vps[j]? = some (Value.int z.2.1 t, Value.int z.2.2 u) ∧ IsTup s.heap z.1 #[Value.int z.2.1 t, Value.int z.2.2 u]) ∧ KV (zs.map fun z => ((Sum.inl z.2.1 : Key), V.int z.2.2)) ((zs.map fun z => (Sum.inl z.2.1 : Key)).zip (vps.map (·.2)))
  | [], _ => ⟨[], rfl, fun j z e => by simp at e, .nil⟩
  | z :: zs, h => by
    obtain ⟨vps, e1, e2, e3⟩ := pairs_at I zs fun y hy => h y (List.mem_cons_of_mem _ hy)
    obtain ⟨its, rv, ht, _⟩ := I.tuple (h z List.mem_cons_self)
    obtain ⟨u1, u2, ei, r1, r2⟩ := vals2 rv
    subst ei
    obtain ⟨t, rfl⟩ := r1
    obtain ⟨u, rfl⟩ := r2
    refine ⟨(.int z.2.1 t, .int z.2.2 u) :: vps, by rw [List.length_cons, List.length_cons, e1], fun j y e => ?_, .cons ⟨rfl, ⟨u, rfl⟩⟩ e3⟩
    cases j with
    | zero =>
      cases e
      exact ⟨t, u, rfl, ht⟩
    | succ j => exact e2 j y (by simpa using e)
theorem cr_dictT (hc : X.calm = true) : CallR X (.type "dict") (fun xs H Q => ∃ (a : Addr) (zs : List (Addr × Int × Int)), xs = [.ref a] ∧ PlT X.K H a (zs.map fun z => V.ref z.1) ∧ (∀ z ∈ zs, SqT X.K H z.1 [.int z.2.1, .int z.2.2]) ∧
    ∀ p, H p = none → Q (.ref p) (upd H p (.dK (mergeK [] (zs.map fun z => ((Sum.inl z.2.1 : Key), V.int z.2.2)))))) := by
  intro pins s σ H xs us Q I r h
  obtain ⟨a, zs, rfl, hp, hz, q⟩ := h
  obtain ⟨u1, rfl, ri⟩ := vals1 r
  cases ri
  obtain ⟨its, rv, pl, hsz⟩ := plain_tup I hp
  obtain ⟨vps, e1, e2, e3⟩ := pairs_at I zs hz
  have ei : its = zs.map fun z => Value.ref z.1 := by
    have := refs_at (ps := zs.map (·.1)) (us := its) (by rw [List.map_map]; exact rv)
    rw [this, List.map_map]
    rfl
  rw [List.length_map] at hsz
  have hkvl : ((zs.map fun z => (Sum.inl z.2.1 : Key)).zip (vps.map (·.2))).length = vps.length := by
    rw [List.length_zip, List.length_map, List.length_map, e1, Nat.min_self]
  refine PySem.call_dict_pairs (knd := mixKind X.prog X.w) (kvs := (zs.map fun z => (Sum.inl z.2.1 : Key)).zip (vps.map (·.2))) (PySem.PairArg.tuple a its.toArray (fun j => (zs.getD j (0, 0, 0)).1) vps) (I.ok.hd hc) ⟨pl, ?_, fun j k v hj => ?_⟩ ⟨hkvl, fun i key v hr => ?_⟩ (by rw [e1]; exact hsz) fun h' tk hd' hk => ?_
  · rw [List.size_toArray, ei, List.length_map, e1]
  · have hjl : j < zs.length := by
      rw [← e1]
      exact (List.getElem?_eq_some_iff.mp hj).1
    obtain ⟨t, u, g1, g2⟩ := e2 j zs[j] (List.getElem?_eq_getElem hjl)
    rw [hj] at g1
    cases g1
    have eT : (zs.getD j (0, 0, 0)).1 = zs[j].1 := by
      rw [List.getD_eq_getElem?_getD, List.getElem?_eq_getElem hjl]
      rfl
    show its.toArray[j]? = some (.ref (zs.getD j (0, 0, 0)).1) ∧ PySem.PairAt s.heap (zs.getD j (0, 0, 0)).1 _ _
    rw [eT]
    refine ⟨?_, .inl g2⟩
    rw [ei]
    simp [hjl]
  · have hr : vps[i]? = some (key, v) := hr
    have hil : i < zs.length := by
      rw [← e1]
      exact (List.getElem?_eq_some_iff.mp hr).1
    obtain ⟨t, u, g1, g2⟩ := e2 i zs[i] (List.getElem?_eq_getElem hil)
    rw [hr] at g1
    cases g1
    refine ⟨Sum.inl zs[i].2.1, ?_, ?_⟩
    · rw [List.getElem?_zip_eq_some]
      refine ⟨?_, ?_⟩
      · rw [List.getElem?_map, List.getElem?_eq_getElem hil]
        rfl
      · rw [List.getElem?_map, hr]
        rfl
    · show Value.isInt zs[i].2.1 (.int zs[i].2.1 t) = true
      exact decide_eq_true rfl
  · have hm : (s.heap.objs.size == sysModules) = false := beq_eq_false_iff_ne.mpr (Nat.ne_of_gt I.big)
    have hlen : (mergeK [] (zs.map fun z => ((Sum.inl z.2.1 : Key), V.int z.2.2))).length ≤ sizeLine := by
      refine Nat.le_trans (length_mergeK _ []) ?_
      rw [List.length_nil, Nat.zero_add, List.length_map]
      exact hsz
    exact ⟨.ref s.heap.objs.size, upd H s.heap.objs.size (.dK (mergeK [] (zs.map fun z => ((Sum.inl z.2.1 : Key), V.int z.2.2)))), I.laid (t' := tk) (fun b o e => hk b o (fun z => nomatch z) e) (Nat.le_refl _) (show ObjOk X.prog X.w _ _ _ (.dK _) from ⟨hlen, hm, _, KV.merge e3 .nil, hd'⟩), rfl, q _ (I.hok.fresh (Nat.le_refl _))⟩
theorem rg_reps {K : PySem.W.Frag} {F : Hp} (a b : Int) : Reps K F (rgV a b) (rangeD0 a b) := by
  unfold rgV rangeD0
  generalize List.range (b - a).toNat = l
  induction l with
  | nil => exact .nil
  | cons x l ih => exact .cons (.int _) ih
theorem callBf (hc : X.calm = true) (hu : X.A.units + 70 < cLine) : ∀ {b : Bf} {v : Value}, bfV b = some v → CallR X v (DRL X.K (bfS b))
  | .len, _, rfl => by
    refine CallR.imp (call_len_seq.or call_len_str) fun xs H Q ⟨F, ds, Qd, hs, hr, hg, q⟩ => ?_
    match ds, hg with
    | [d], hg =>
      obtain ⟨v, rfl, rv⟩ := hr.one
      cases d with
      | list ys =>
        obtain ⟨a, vs, rfl, s1, r1⟩ := rv.sql hs
        refine .inl ⟨a, vs, rfl, .inl s1, ?_⟩
        rw [r1.len]
        exact res_same hs q hg rfl (.int _)
      | tuple ys =>
        obtain ⟨a, vs, rfl, s1, r1⟩ := rv.tup hs
        refine .inl ⟨a, vs, rfl, .inr s1, ?_⟩
        rw [r1.len]
        exact res_same hs q hg rfl (.int _)
      | str z =>
        rw [rv.str]
        exact .inr ⟨z, rfl, hg.1, res_same hs q hg.2 rfl (.int _)⟩
      | _ => exact hg.elim
    | [], hg => exact hg.elim
    | _ :: _ :: _, hg => exact hg.elim
  | .int, _, rfl => by
    refine CallR.imp call_int1 fun xs H Q ⟨F, ds, Qd, hs, hr, hg, q⟩ => ?_
    match ds, hg with
    | [.int i], hg =>
      obtain ⟨v, rfl, rv⟩ := hr.one
      rw [rv.int]
      exact .inl ⟨i, rfl, res_same hs q hg rfl (.int _)⟩
    | [.bool b], hg =>
      obtain ⟨v, rfl, rv⟩ := hr.one
      rw [rv.bool]
      exact .inr ⟨b, rfl, res_same hs q hg rfl (.int _)⟩
  | .abs, _, rfl => by
    refine CallR.imp call_abs fun xs H Q ⟨F, ds, Qd, hs, hr, hg, q⟩ => ?_
    match ds, hg with
    | [.int i], hg =>
      obtain ⟨v, rfl, rv⟩ := hr.one
      rw [rv.int]
      exact ⟨i, rfl, res_same hs q hg rfl (.int _)⟩
  | .max, _, rfl => by
    refine CallR.imp ((call_max2 hc).or (cr_maxX hc hu)) fun xs H Q ⟨F, ds, Qd, hs, hr, hg, q⟩ => ?_
    match ds, hg with
    | [.int i, .int j], hg =>
      obtain ⟨v, w, rfl, rv, rw'⟩ := hr.two
      rw [rv.int, rw'.int]
      exact .inl ⟨i, j, rfl, res_same hs q hg rfl (.int _)⟩
    | [d], hg =>
      obtain ⟨ys, ns, e1, e2, h0, hq⟩ := bf_max1 hg
      obtain ⟨v, rfl, rv⟩ := hr.one
      obtain ⟨tk, a, vs, rfl, s1, r1⟩ := red_sqx hs rv e1
      have ev := r1.intsV e2
      subst ev
      exact .inr ⟨tk, a, ns, rfl, s1, h0, fun m hm => res_same hs q (hq m hm) rfl (.int _)⟩
  | .min, _, rfl => by
    refine CallR.imp ((call_min2 hc).or (cr_minX hc hu)) fun xs H Q ⟨F, ds, Qd, hs, hr, hg, q⟩ => ?_
    match ds, hg with
    | [.int i, .int j], hg =>
      obtain ⟨v, w, rfl, rv, rw'⟩ := hr.two
      rw [rv.int, rw'.int]
      exact .inl ⟨i, j, rfl, res_same hs q hg rfl (.int _)⟩
    | [d], hg =>
      obtain ⟨ys, ns, e1, e2, h0, hq⟩ := bf_min1 hg
      obtain ⟨v, rfl, rv⟩ := hr.one
      obtain ⟨tk, a, vs, rfl, s1, r1⟩ := red_sqx hs rv e1
      have ev := r1.intsV e2
      subst ev
      exact .inr ⟨tk, a, ns, rfl, s1, h0, fun m hm => res_same hs q (hq m hm) rfl (.int _)⟩
  | .list, _, rfl => by
    refine CallR.imp (call_list_of.or (cr_listRng hc)) fun xs H Q ⟨F, ds, Qd, hs, hr, hg, q⟩ => ?_
    match ds, hg with
    | [.dict [(.int lo, .int hi)]], hg =>
      obtain ⟨v, rfl, rv⟩ := hr.one
      obtain ⟨a, rfl, ha⟩ := Red.rgo hs rv
      obtain ⟨⟨g1, g2, g3, g4⟩, hg⟩ := hg
      exact .inr ⟨a, lo, hi, rfl, ha, RgOk.of_le g1 g4 g2 g3, fun p hp => q _ _ _ _ hg (.own hs hp) (.lst hs hp (rg_reps lo hi))⟩
    | [.list ys], hg =>
      obtain ⟨v, rfl, rv⟩ := hr.one
      obtain ⟨a, vs, rfl, s1, r1⟩ := rv.sql hs
      exact .inl ⟨a, vs, rfl, .inl s1, fun p hp => q _ _ _ _ hg (.own hs hp) (.lst hs hp r1)⟩
    | [.tuple ys], hg =>
      obtain ⟨v, rfl, rv⟩ := hr.one
      obtain ⟨a, vs, rfl, s1, r1⟩ := rv.tup hs
      exact .inl ⟨a, vs, rfl, .inr s1, fun p hp => q _ _ _ _ hg (.own hs hp) (.lst hs hp r1)⟩
    | [.dict [(.none, .list ys)]], hg =>
      obtain ⟨v, rfl, rv⟩ := hr.one
      obtain ⟨a, ns, rfl, e, s1⟩ := rv.scr hs (by intro lo hi e; cases e) (by intro b x r e; cases e)
      obtain rfl : ys = ns.map PyData.int := by
        injection e with e1 _
        injection e1 with _ e2
        injection e2
      exact .inl ⟨a, _, rfl, .inl s1, fun p hp => q _ _ _ _ hg (.own hs hp) (.lst hs hp (reps_ints ns))⟩
  | .dctO, _, rfl => by
    refine CallR.imp (cr_dictT hc) fun xs H Q ⟨F, ds, Qd, hs, hr, hg, q⟩ => ?_
    match ds, hg with
    | [.tuple ys], hg =>
      obtain ⟨ps, e1, hg⟩ := hg
      obtain ⟨v, rfl, rv⟩ := hr.one
      have rr := rv.rep rfl
      cases rr with
      | tup s1 r1 =>
        obtain ⟨zs, rfl, rfl, hz⟩ := r1.pairsV e1
        refine ⟨_, zs, rfl, plt_mono hs s1, fun z hzm => sqt_mono hs (hz z hzm).sqt, fun p hp => q _ _ _ _ hg (NewE.obj hs hp fun _ z => nomatch z) ?_⟩
        refine .of rfl (.dct (zs.map (·.2)) (kvs_map _) ?_)
        rw [upd_same, List.map_map]
        rfl
  | .rngO, _, rfl => by
    refine CallR.imp cr_range1 fun xs H Q ⟨F, ds, Qd, hs, hr, hg, q⟩ => ?_
    match ds, hg with
    | [.int n], hg =>
      obtain ⟨v, rfl, rv⟩ := hr.one
      rw [rv.int]
      refine ⟨n, rfl, fun p hp => q _ _ _ _ hg (NewE.obj hs hp fun _ z => nomatch z) ?_⟩
      exact .of rfl (.rgo 0 n upd_same)
  | .tuple, _, rfl => by
    refine CallR.imp call_tupleP fun xs H Q ⟨F, ds, Qd, hs, hr, hg, q⟩ => ?_
    match ds, hg with
    | [.list ys], hg =>
      obtain ⟨v, rfl, rv⟩ := hr.one
      obtain ⟨a, vs, rfl, s1, r1⟩ := rv.sql hs
      exact ⟨a, vs, rfl, .inl ⟨s1, fun p o po hp => q _ _ _ _ hg (.frz hs hp) (.tup hs po hp r1)⟩⟩
    | [.tuple ys], hg =>
      obtain ⟨v, rfl, rv⟩ := hr.one
      have rr := rv.rep rfl
      obtain ⟨a, vs, rfl, s1, r1⟩ := rv.tup hs
      exact ⟨a, vs, rfl, .inr ⟨s1, res_same hs q hg rfl rr⟩⟩
  | .sorted, _, rfl => by
    refine CallR.imp cr_sortX fun xs H Q ⟨F, ds, Qd, hs, hr, hg, q⟩ => ?_
    match ds, hg with
    | [d], ⟨ys, ns, e1, e2, hq⟩ =>
      obtain ⟨v, rfl, rv⟩ := hr.one
      obtain ⟨tk, a, vs, rfl, s1, r1⟩ := red_sqx hs rv e1
      have ev := r1.intsV e2
      subst ev
      exact ⟨tk, a, ns, rfl, s1, fun ms p h1 h2 hp => q _ _ _ _ (hq ms h1 h2) (.own hs hp) (.lst hs hp (reps_ints ms))⟩
    | [], hg => exact hg.elim
    | _ :: _ :: _, hg => exact hg.elim
  | .srtP, _, rfl => by
    refine CallR.imp cr_sortedPL fun xs H Q ⟨F, ds, Qd, hs, hr, hg, q⟩ => ?_
    match ds, hg with
    | [.list ys], ⟨ps, e2, hq⟩ =>
      obtain ⟨v, rfl, rv⟩ := hr.one
      obtain ⟨a, vs, rfl, s1, r1⟩ := rv.sql hs
      obtain ⟨zs, rfl, rfl, hz⟩ := r1.pairsV e2
      refine ⟨a, zs, rfl, s1, fun z h => (plt_mono hs (hz z h)).sqt, fun qs p h1 h2 hp => q _ _ _ _ (hq (qs.map (·.2)) (h1.map _) (h2.imp fun h => leP_of h)) (.own hs hp) (.lst hs hp (reps_pairs qs fun z h => hz z (h1.mem_iff.mp h)))⟩
  | .maxP, _, rfl => by
    refine CallR.imp (cr_mxP (gt := true) hc hu) fun xs H Q ⟨F, ds, Qd, hs, hr, hg, q⟩ => ?_
    match ds, hg with
    | [d], hg =>
      obtain ⟨ys, ps, e1, e2, h0, hq⟩ := hg
      obtain ⟨v, rfl, rv⟩ := hr.one
      obtain ⟨tk, a, vs, rfl, s1, r1⟩ := red_sqx hs rv e1
      obtain ⟨zs, rfl, rfl, hz⟩ := r1.pairsV e2
      exact ⟨tk, a, zs, rfl, s1, by rw [List.length_map] at h0; exact h0, fun z h => (plt_mono hs (hz z h)).sqt, fun z h hm => res_same hs q (hq z.2 hm) rfl (.tup (hz z h) (.cons (.int _) (.cons (.int _) .nil)))⟩
    | [], hg => exact hg.elim
    | _ :: _ :: _, hg => exact hg.elim
  | .minP, _, rfl => by
    refine CallR.imp (cr_mxP (gt := false) hc hu) fun xs H Q ⟨F, ds, Qd, hs, hr, hg, q⟩ => ?_
    match ds, hg with
    | [d], hg =>
      obtain ⟨ys, ps, e1, e2, h0, hq⟩ := hg
      obtain ⟨v, rfl, rv⟩ := hr.one
      obtain ⟨tk, a, vs, rfl, s1, r1⟩ := red_sqx hs rv e1
      obtain ⟨zs, rfl, rfl, hz⟩ := r1.pairsV e2
      exact ⟨tk, a, zs, rfl, s1, by rw [List.length_map] at h0; exact h0, fun z h => (plt_mono hs (hz z h)).sqt, fun z h hm => res_same hs q (hq z.2 hm) rfl (.tup (hz z h) (.cons (.int _) (.cons (.int _) .nil)))⟩
    | [], hg => exact hg.elim
    | _ :: _ :: _, hg => exact hg.elim
  | .sum, _, rfl => by
    refine CallR.imp (cr_sum hc) fun xs H Q ⟨F, ds, Qd, hs, hr, hg, q⟩ => ?_
    match ds, hg with
    | [.list ys], ⟨ns, e2, hq⟩ =>
      obtain ⟨v, rfl, rv⟩ := hr.one
      obtain ⟨a, vs, rfl, s1, r1⟩ := rv.sql hs
      have ev := r1.intsV e2
      subst ev
      exact ⟨a, ns, rfl, s1, res_same hs q hq rfl (.int _)⟩
  | .all, _, rfl => by
    refine CallR.imp (cr_all hc) fun xs H Q ⟨F, ds, Qd, hs, hr, hg, q⟩ => ?_
    match ds, hg with
    | [.list ys], ⟨ns, e2, hq⟩ =>
      obtain ⟨v, rfl, rv⟩ := hr.one
      obtain ⟨a, vs, rfl, s1, r1⟩ := rv.sql hs
      have ev := r1.boolsV e2
      subst ev
      exact ⟨a, ns, rfl, s1, res_same hs q hq rfl (.bl _)⟩
  | .any, _, rfl => by
    refine CallR.imp (cr_any hc) fun xs H Q ⟨F, ds, Qd, hs, hr, hg, q⟩ => ?_
    match ds, hg with
    | [.list ys], ⟨ns, e2, hq⟩ =>
      obtain ⟨v, rfl, rv⟩ := hr.one
      obtain ⟨a, vs, rfl, s1, r1⟩ := rv.sql hs
      have ev := r1.boolsV e2
      subst ev
      exact ⟨a, ns, rfl, s1, res_same hs q hq rfl (.bl _)⟩
end
end DL

set_option maxHeartbeats 4000000
/-! DL part D: stores over slots and heaps; readings of the mini syntax. -/
namespace DL
open PySem PySem.Spec PyProof.Rows L2

/-- a def's entry: what is frozen, the heap, the object that may be written -/
structure Ent where
  F0 : Hp
  H0 : Hp
  ma : Option Addr
  Fb : Hp
def SlotOk (K : PySem.W.Frag) (c : Ent) (F H : Hp) (m : Md) (v : V) (d : D) : Prop := match m with
  | .v => Rep K F v d
  | .o => Cont K F H v d ∧ ∀ a, v = .ref a → F a = none ∧ c.H0 a = none
  | .m => Cont K c.Fb H v d ∧ ∀ a, v = .ref a → F a = none ∧ c.ma = some a
structure Ok (K : PySem.W.Frag) (c : Ent) (F H : Hp) (σ : L2.St) (ρ : Store) : Prop where
  fh : Same F H
  ln : σ.length = ρ.length
  e0 : ∀ a, c.H0 a ≠ none → H a ≠ none
  e1 : ∀ a o, c.H0 a = some o → (∀ ps, o ≠ .tbl ps) → c.ma ≠ some a → H a = some o
  e2 : ∀ a, c.H0 a ≠ none → F a = c.F0 a
  e3 : Same c.F0 F
  eb : Same c.Fb F
  sl : ∀ (i : Nat) (m : Md) (d : D), ρ[i]? = some (some (m, d)) → ∃ v, σ[i]? = some (some v) ∧ SlotOk K c F H m v d
  ds : ∀ (i j : Nat) (a : Addr) (p q : Md × D), ρ[i]? = some (some p) → ρ[j]? = some (some q) → p.1 ≠ .v → q.1 ≠ .v → σ[i]? = some (some (.ref a)) → σ[j]? = some (some (.ref a)) → i = j
  tb : TbX K c.H0 H
  te : TbsOf K c.H0
  nt : NoTbl F
def OwnAt (σ : L2.St) (ρ : Store) (a : Addr) : Prop := ∃ (i : Nat) (p : Md × D), getO ρ i = some p ∧ σ[i]? = some (some (.ref a))
theorem getO_some {ρ : Store} {i : Nat} {p : Md × D} (h : getO ρ i = some p) : ρ[i]? = some (some p) ∧ p.1 ≠ .v := by
  unfold getO at h
  split at h
  · split at h
    · cases h
    · cases h
      exact ⟨by assumption, by assumption⟩
  · cases h
theorem getO_of {ρ : Store} {i : Nat} {p : Md × D} (h : ρ[i]? = some (some p)) (n : p.1 ≠ .v) : getO ρ i = some p := by
  unfold getO
  rw [h]
  exact if_neg n
theorem getV_some {ρ : Store} {i : Nat} {d : D} (h : getV ρ i = some d) : ρ[i]? = some (some (.v, d)) := by
  unfold getV at h
  split at h
  · cases h
    assumption
  · cases h
structure Ext (σ : L2.St) (ρ : Store) (F H : Hp) (ρ' : Store) (F' H' : Hp) : Prop where
  ff : Same F F'
  nf : ∀ a, H a ≠ none → F' a = F a
  hh : ∀ a o, H a = some o → (∀ ps, o ≠ .tbl ps) → ¬ OwnAt σ ρ a → H' a = some o
  hn : ∀ a, H a ≠ none → H' a ≠ none
  md : ∀ i, (getO ρ i).isSome = (getO ρ' i).isSome
section
variable {K : PySem.W.Frag} {c : Ent} {F H F' H' F1 H1 F2 H2 : Hp} {σ : L2.St} {ρ ρ' ρ1 ρ2 : Store}
theorem Ext.own (e : Ext σ ρ F H ρ' F' H') (a : Addr) : OwnAt σ ρ' a ↔ OwnAt σ ρ a := by
  constructor
  · rintro ⟨i, p, h, q⟩
    have z := e.md i
    rw [h] at z
    obtain ⟨p', hp⟩ := Option.isSome_iff_exists.mp z
    exact ⟨i, p', hp, q⟩
  · rintro ⟨i, p, h, q⟩
    have z := e.md i
    rw [h] at z
    obtain ⟨p', hp⟩ := Option.isSome_iff_exists.mp z.symm
    exact ⟨i, p', hp, q⟩
theorem Ext.refl : Ext σ ρ F H ρ F H := ⟨Same.refl _, fun _ _ => rfl, fun _ _ h _ _ => h, fun _ h => h, fun _ => rfl⟩
theorem Ext.trans (a : Ext σ ρ F H ρ1 F1 H1) (b : Ext σ ρ1 F1 H1 ρ2 F2 H2) : Ext σ ρ F H ρ2 F2 H2 where
  ff := a.ff.trans b.ff
  nf := fun x h => (b.nf x (a.hn x h)).trans (a.nf x h)
  hh := fun x o h nt n => b.hh x o (a.hh x o h nt n) nt fun z => n ((a.own x).mp z)
  hn := fun x h => b.hn x (a.hn x h)
  md := fun i => (a.md i).trans (b.md i)
theorem NewE.hn (n : NewE F H F' H') (a : Addr) (h : H a ≠ none) : H' a ≠ none := fun z => by
  cases q : H a with
  | none => exact h q
  | some o =>
    rw [n.hh a o q] at z
    cases z
theorem NewE.ext (n : NewE F H F' H') : Ext σ ρ F H ρ F' H' :=
  ⟨n.ff, n.nf, fun a o h _ _ => n.hh a o h, fun a h => n.hn a h, fun _ => rfl⟩
/-- what is one's own is laid and not frozen -/
theorem Ok.ownAt (ok : Ok K c F H σ ρ) {a : Addr} (h : OwnAt σ ρ a) : F a = none ∧ ∃ o, H a = some o := by
  obtain ⟨i, ⟨m, d⟩, g, s⟩ := h
  obtain ⟨g1, g2⟩ := getO_some g
  obtain ⟨v, e, r⟩ := ok.sl i m d g1
  rw [s] at e
  cases e
  cases m with
  | v => exact absurd rfl g2
  | o =>
    obtain ⟨_, o, e, q, _⟩ := r.1.at
    cases e
    exact ⟨(r.2 a rfl).1, o, q⟩
  | m =>
    obtain ⟨_, o, e, q, _⟩ := r.1.at
    cases e
    exact ⟨(r.2 a rfl).1, o, q⟩
theorem Ok.ownLst (ok : Ok K c F H σ ρ) {a : Addr} (h : OwnAt σ ρ a) : ∃ xs, H a = some (.lst xs) := by
  obtain ⟨i, ⟨m, d⟩, g, s⟩ := h
  obtain ⟨g1, g2⟩ := getO_some g
  obtain ⟨v, e, r⟩ := ok.sl i m d g1
  rw [s] at e
  cases e
  cases m with
  | v => exact absurd rfl g2
  | o => exact r.1.lstAt
  | m => exact r.1.lstAt
theorem SlotOk.newE {m : Md} {v : V} {d : D} (h : SlotOk K c F H m v d) (n : NewE F H F' H') : SlotOk K c F' H' m v d := by
  cases m with
  | v => exact Rep.mono n.ff d v h
  | o =>
    refine ⟨h.1.mono n.ff fun a o _ q => n.hh a _ q, fun a e => ⟨?_, (h.2 a e).2⟩⟩
    obtain ⟨b, o, e', q, _⟩ := h.1.at
    rw [e] at e'
    cases e'
    rw [n.nf a (by rw [q]; exact fun z => nomatch z)]
    exact (h.2 a e).1
  | m =>
    refine ⟨h.1.mono (Same.refl _) fun a o _ q => n.hh a _ q, fun a e => ⟨?_, (h.2 a e).2⟩⟩
    obtain ⟨b, o, e', q, _⟩ := h.1.at
    rw [e] at e'
    cases e'
    rw [n.nf a (by rw [q]; exact fun z => nomatch z)]
    exact (h.2 a e).1
theorem Ok.newE (ok : Ok K c F H σ ρ) (n : NewE F H F' H') : Ok K c F' H' σ ρ where
  fh := n.fh
  ln := ok.ln
  e0 := fun a h => n.hn a (ok.e0 a h)
  e1 := fun a o h nt m => n.hh a o (ok.e1 a o h nt m)
  e2 := fun a h => (n.nf a (ok.e0 a h)).trans (ok.e2 a h)
  e3 := ok.e3.trans n.ff
  eb := ok.eb.trans n.ff
  sl := fun i m d h =>
    let ⟨v, e, r⟩ := ok.sl i m d h
    ⟨v, e, r.newE n⟩
  ds := ok.ds
  tb := ok.tb.trans (.of n.hh)
  te := ok.te
  nt := n.nt ok.nt
end
end DL

set_option maxHeartbeats 4000000
/-! DL part E: readings of expressions by the meaning of the mini syntax. -/
namespace DL
open PySem PySem.Spec PyProof.Rows L2

def ResRep (K : PySem.W.Frag) (Hs F H : Hp) (v : V) (d : D) (fr : Bool) : Prop := if fr = true then Cont K F H v d ∧ ∀ a, v = .ref a → F a = none ∧ Hs a = none else Rep K F v d
def OdRep (K : PySem.W.Frag) (F : Hp) (σ : L2.St) (ρ : Store) (v : V) : Od → Prop
  | .d d => Rep K F v d
  | .s i => σ[i]? = some (some v) ∧ (getO ρ i).isSome = true
inductive OdReps (K : PySem.W.Frag) (F : Hp) (σ : L2.St) (ρ : Store) : List V → List Od → Prop
  | nil : OdReps K F σ ρ [] []
  | cons {v : V} {x : Od} {vs : List V} {xs : List Od} : OdRep K F σ ρ v x → OdReps K F σ ρ vs xs → OdReps K F σ ρ (v :: vs) (x :: xs)

def tB (K : PySem.W.Frag) (c : Ent) (w : WB) : TE := fun σ H Q => ∃ (F : Hp) (ρ : Store) (Qd : D → Bool → Store → Prop), Ok K c F H σ ρ ∧ w ρ Qd ∧
  ∀ d fr ρ' v F' H', Qd d fr ρ' → Ok K c F' H' σ ρ' → Ext σ ρ F H ρ' F' H' → ResRep K H F' H' v d fr → Q v H'
def tO (K : PySem.W.Frag) (c : Ent) (w : WO) : TE := fun σ H Q => ∃ (F : Hp) (ρ : Store) (Qd : Od → Store → Prop), Ok K c F H σ ρ ∧ w ρ Qd ∧
  ∀ x ρ' v F' H', Qd x ρ' → Ok K c F' H' σ ρ' → Ext σ ρ F H ρ' F' H' → OdRep K F' σ ρ' v x → Q v H'
def tFz (K : PySem.W.Frag) (c : Ent) (w : Store → (D → Store → Prop) → Prop) : TE := fun σ H Q => ∃ (F : Hp) (ρ : Store) (Qd : D → Store → Prop), Ok K c F H σ ρ ∧ w ρ Qd ∧
  ∀ d ρ' v F' H', Qd d ρ' → Ok K c F' H' σ ρ' → Ext σ ρ F H ρ' F' H' → Rep K F' v d → Q v H'
def tT (K : PySem.W.Frag) (c : Ent) (w : Store → (Bool → Store → Prop) → Prop) : TT := fun σ H Q => ∃ (F : Hp) (ρ : Store) (Qd : Bool → Store → Prop), Ok K c F H σ ρ ∧ w ρ Qd ∧
  ∀ b ρ' F' H', Qd b ρ' → Ok K c F' H' σ ρ' → Ext σ ρ F H ρ' F' H' → Q b H'
def tEs (K : PySem.W.Frag) (c : Ent) (w : Store → (List D → Store → Prop) → Prop) : TA := fun σ H Q => ∃ (F : Hp) (ρ : Store) (Qd : List D → Store → Prop), Ok K c F H σ ρ ∧ w ρ Qd ∧
  ∀ ds ρ' vs F' H', Qd ds ρ' → Ok K c F' H' σ ρ' → Ext σ ρ F H ρ' F' H' → Reps K F' vs ds → Q vs H'
def tOs (K : PySem.W.Frag) (c : Ent) (w : Store → (List Od → Store → Prop) → Prop) : TA := fun σ H Q => ∃ (F : Hp) (ρ : Store) (Qd : List Od → Store → Prop), Ok K c F H σ ρ ∧ w ρ Qd ∧
  ∀ ds ρ' vs F' H', Qd ds ρ' → Ok K c F' H' σ ρ' → Ext σ ρ F H ρ' F' H' → OdReps K F' σ ρ' vs ds → Q vs H'

theorem PE.imp {X : Cx} {e : Expr} {t t' : TE} (h : PE X e t) (i : ∀ σ H Q, t' σ H Q → t σ H Q) : PE X e t' := ⟨fun pins s σ H Q I q => h.run pins s σ H Q I (i _ _ _ q)⟩
theorem PT.imp {X : Cx} {e : Expr} {t t' : TT} (h : PT X e t) (i : ∀ σ H Q, t' σ H Q → t σ H Q) : PT X e t' := ⟨fun pins s σ H Q I q => h.run pins s σ H Q I (i _ _ _ q)⟩
theorem PA.imp {X : Cx} {e : List Expr} {t t' : TA} (h : PA X e t) (i : ∀ σ H Q, t' σ H Q → t σ H Q) : PA X e t' := ⟨fun pos pins s σ H Q I q => h.run pos pins s σ H Q I (i _ _ _ q)⟩
theorem PI.imp {X : Cx} {tg e : Expr} {t t' : TI} (h : PI X tg e t) (i : ∀ σ H Q, t' σ H Q → t σ H Q) : PI X tg e t' := ⟨fun pins s σ H Q I q => h.run pins s σ H Q I (i _ _ _ q)⟩
theorem PS.imp {X : Cx} {e : Stmt} {t t' : TS} (h : PS X e t) (i : ∀ D σ H, t' D σ H → t D σ H) : PS X e t' := ⟨fun pins s σ H D I q => h.run pins s σ H D I (i _ _ _ q)⟩
theorem PSs.imp {X : Cx} {e : List Stmt} {t t' : TS} (h : PSs X e t) (i : ∀ D σ H, t' D σ H → t D σ H) : PSs X e t' := ⟨fun pins s σ H D I q => h.run pins s σ H D I (i _ _ _ q)⟩
theorem PG.imp {X : Cx} {e : Expr} {t t' : TG} (h : PG X e t) (i : ∀ v σ H Q, t' v σ H Q → t v σ H Q) : PG X e t' := ⟨fun pins s σ H v u Q I r q => h.run pins s σ H v u Q I r (i _ _ _ _ q)⟩
theorem PI.or {X : Cx} {tg e : Expr} {t t' : TI} (h : PI X tg e t) (h' : PI X tg e t') : PI X tg e (fun σ H Q => t σ H Q ∨ t' σ H Q) := ⟨fun pins s σ H Q I q => q.elim (fun z => h.run pins s σ H Q I z) fun z => h'.run pins s σ H Q I z⟩

section
variable {K : PySem.W.Frag} {c : Ent} {Hs F H F' H' F1 H1 F2 H2 : Hp} {σ : L2.St} {ρ ρ' ρ1 ρ2 : Store} {v : V} {d : D}
theorem ResRep.fz (r : Rep K F v d) : ResRep K Hs F H v d false := by
  unfold ResRep
  rw [if_neg Bool.false_ne_true]
  exact r
theorem ResRep.unfz (r : ResRep K Hs F H v d false) : Rep K F v d := by
  unfold ResRep at r
  rw [if_neg Bool.false_ne_true] at r
  exact r
theorem ResRep.own (r : ResRep K Hs F H v d true) : Cont K F H v d ∧ ∀ a, v = .ref a → F a = none ∧ Hs a = none := by
  unfold ResRep at r
  rw [if_pos rfl] at r
  exact r
theorem ResRep.of_own (r : Cont K F H v d ∧ ∀ a, v = .ref a → F a = none ∧ Hs a = none) : ResRep K Hs F H v d true := by
  unfold ResRep
  rw [if_pos rfl]
  exact r
theorem ResRep.from {Ht : Hp} {fr : Bool} (r : ResRep K Hs F H v d fr) (h : ∀ a, Ht a ≠ none → Hs a ≠ none) : ResRep K Ht F H v d fr := by
  cases fr with
  | false => exact .fz r.unfz
  | true =>
    obtain ⟨r1, r2⟩ := r.own
    refine .of_own ⟨r1, fun a e => ⟨(r2 a e).1, ?_⟩⟩
    cases q : Ht a with
    | none => rfl
    | some o => exact absurd (r2 a e).2 (h a (by rw [q]; exact fun z => nomatch z))
theorem NRep.res (r : NRep K F' H H' v d) : ResRep K H F' H' v d (isMut d) := by
  unfold NRep at r
  unfold ResRep
  exact r
theorem OdRep.ext {x : Od} (r : OdRep K F σ ρ v x) (e : Ext σ ρ F H ρ' F' H') : OdRep K F' σ ρ' v x := by
  cases x with
  | d d => exact Rep.mono e.ff d v r
  | s i => exact ⟨r.1, (e.md i).symm.trans r.2⟩
theorem OdReps.ext {vs : List V} {xs : List Od} (r : OdReps K F σ ρ vs xs) (e : Ext σ ρ F H ρ' F' H') : OdReps K F' σ ρ' vs xs := by
  induction r with
  | nil => exact .nil
  | cons h _ ih => exact .cons (h.ext e) ih
/-- an operand as data -/
theorem cont_red {x : Od} {k : D → Prop} (ok : Ok K c F H σ ρ) (r : OdRep K F σ ρ v x) (h : cont ρ x k) : ∃ d, Red K F H v d ∧ k d := by
  cases x with
  | d d => exact ⟨d, .inl r, h⟩
  | s i =>
    obtain ⟨r1, r2⟩ := r
    obtain ⟨⟨m, d⟩, hp⟩ := Option.isSome_iff_exists.mp r2
    simp only [cont, hp] at h
    obtain ⟨g1, g2⟩ := getO_some hp
    obtain ⟨u, e, so⟩ := ok.sl i m d g1
    rw [r1] at e
    cases e
    refine ⟨d, .inr ?_, h⟩
    cases m with
    | v => exact absurd rfl g2
    | o => exact so.1
    | m => exact so.1.mono ok.eb fun _ _ _ q => q
theorem conts_reds : ∀ {vs : List V} {xs : List Od} {k : List D → Prop}, Ok K c F H σ ρ → OdReps K F σ ρ vs xs → conts ρ xs k → ∃ ds, Reds K F H vs ds ∧ k ds
  | _, _, _, _, .nil, h => ⟨[], .nil, h⟩
  | _, _, _, ok, .cons r rs, h => by
    obtain ⟨d, rd, h⟩ := cont_red ok r h
    obtain ⟨ds, rds, h⟩ := conts_reds ok rs h
    exact ⟨d :: ds, .cons rd rds, h⟩
/-- a new value of one's own is frozen -/
theorem Ok.freeze {a : Addr} {ys : List V} (ok : Ok K c F H σ ρ) (ha : H a = some (.lst ys)) (nF : F a = none) (n0 : c.H0 a = none) (no : ¬ OwnAt σ ρ a) : Ok K c (upd F a (.lst ys)) H σ ρ := by
  have sm : Same F (upd F a (.lst ys)) := same_new nF
  refine ⟨fun b u e => ?_, ok.ln, ok.e0, ok.e1, fun b hb => ?_, ok.e3.trans sm, ok.eb.trans sm, fun i m d h => ?_, ok.ds, ok.tb, ok.te, ok.nt.upd fun _ z => nomatch z⟩
  · by_cases q : b = a
    · subst q
      rw [upd_same] at e
      rw [ha]
      exact e
    · rw [upd_ne q] at e
      exact ok.fh _ _ e
  · rw [upd_ne fun q => hb (by rw [q]; exact n0)]
    exact ok.e2 b hb
  · obtain ⟨v, e, r⟩ := ok.sl i m d h
    refine ⟨v, e, ?_⟩
    cases m with
    | v => exact Rep.mono sm d v r
    | o =>
      refine ⟨r.1.mono sm fun _ _ _ q => q, fun b eb => ⟨?_, (r.2 b eb).2⟩⟩
      rw [upd_ne fun q => no ⟨i, (.o, d), getO_of h (fun z => nomatch z), by rw [e, eb, q]⟩]
      exact (r.2 b eb).1
    | m =>
      refine ⟨r.1, fun b eb => ⟨?_, (r.2 b eb).2⟩⟩
      rw [upd_ne fun q => no ⟨i, (.m, d), getO_of h (fun z => nomatch z), by rw [e, eb, q]⟩]
      exact (r.2 b eb).1
theorem ResRep.freeze {fr : Bool} (ok : Ok K c F H σ ρ) (ok' : Ok K c F' H' σ ρ') (e : Ext σ ρ F H ρ' F' H') (r : ResRep K H F' H' v d fr) :
    ∃ G, Ok K c G H' σ ρ' ∧ Ext σ ρ F H ρ' G H' ∧ Rep K G v d := by
  cases fr with
  | false => exact ⟨F', ok', e, r.unfz⟩
  | true =>
    obtain ⟨r1, r2⟩ := r.own
    cases d with
    | list ds =>
      obtain ⟨a, xs, rfl, q, rs⟩ := r1
      obtain ⟨n1, n2⟩ := r2 a rfl
      have n0 : c.H0 a = none := by
        cases z : c.H0 a with
        | none => rfl
        | some o => exact absurd n2 (ok.e0 a (by rw [z]; exact fun z => nomatch z))
      have no : ¬ OwnAt σ ρ' a := fun z => by
        obtain ⟨_, o, z2⟩ := ok.ownAt ((e.own a).mp z)
        rw [n2] at z2
        cases z2
      have sm : Same F' (upd F' a (.lst xs)) := same_new n1
      refine ⟨upd F' a (.lst xs), ok'.freeze q n1 n0 no, ⟨e.ff.trans sm, fun b hb => ?_, e.hh, e.hn, e.md⟩, .lst upd_same (rs.mono sm)⟩
      rw [upd_ne fun z => hb (by rw [z]; exact n2)]
      exact e.nf b hb
    | _ => exact r1.elim
end
section
variable {X : Cx} {c : Ent} {e e1 e2 e3 : Expr} {w w1 w2 w3 : WB} {a1 a2 : WO} {pos : Pos}
theorem pe_frz (h : PE X e (tB X.K c w)) : PE X e (tFz X.K c (frz w)) := PE.imp h fun σ H Q ⟨F, ρ, Qd, ok, g, q⟩ =>
  ⟨F, ρ, _, ok, g, fun d fr ρ' v F' H' hq ok' ex r => by
    obtain ⟨G, okG, exG, rG⟩ := r.freeze ok ok' ex
    exact q d ρ' v G H' hq okG exG rG⟩
theorem pe_val (h : PE X e (tFz X.K c (frz w))) : PE X e (tO X.K c fun ρ Q => w ρ fun d _ ρ' => Q (.d d) ρ') := PE.imp h fun σ H Q ⟨F, ρ, Qd, ok, g, q⟩ =>
  ⟨F, ρ, fun d ρ' => Qd (.d d) ρ', ok, g, fun d ρ' v F' H' hq ok' ex r => q (.d d) ρ' v F' H' hq ok' ex r⟩
theorem pe_fz0 {w : Store → (D → Store → Prop) → Prop} (h : PE X e (tFz X.K c w)) : PE X e (tB X.K c fun ρ Q => w ρ fun d ρ' => Q d false ρ') := PE.imp h fun σ H Q ⟨F, ρ, Qd, ok, g, q⟩ =>
  ⟨F, ρ, fun d ρ' => Qd d false ρ', ok, g, fun d ρ' v F' H' hq ok' ex r => q d false ρ' v F' H' hq ok' ex (.fz r)⟩

theorem sn_c {v : V} {d : D} (h : PE X e (tC v)) (r : ∀ F, Rep X.K F v d) : PE X e (tB X.K c fun ρ Q => Q d false ρ) := PE.imp h fun σ H Q ⟨F, ρ, Qd, ok, g, q⟩ =>
  q d false ρ v F H g ok .refl (.fz (r F))
theorem sn_var {i : Nat} (h : PE X e (tVar i)) : PE X e (tB X.K c fun ρ Q => ∃ d, getV ρ i = some d ∧ Q d false ρ) := PE.imp h fun σ H Q ⟨F, ρ, Qd, ok, ⟨d, g1, g2⟩, q⟩ => by
  obtain ⟨v, e, r⟩ := ok.sl i .v d (getV_some g1)
  exact ⟨v, e, q d false ρ v F H g2 ok .refl (.fz r)⟩
theorem sn_brw {i : Nat} (h : PE X e (tVar i)) : PE X e (tO X.K c fun ρ Q => (getO ρ i).isSome = true ∧ Q (.s i) ρ) := PE.imp h fun σ H Q ⟨F, ρ, Qd, ok, ⟨g1, g2⟩, q⟩ => by
  obtain ⟨⟨m, d⟩, g⟩ := Option.isSome_iff_exists.mp g1
  obtain ⟨v, e, r⟩ := ok.sl i m d (getO_some g).1
  exact ⟨v, e, q (.s i) ρ v F H g2 ok .refl ⟨e, g1⟩⟩
theorem sn_un {o : UnaryOp} {f : D → P1} (ho : UnR X (unaryOp o) (DR1 X.K f)) (h : PE X e (tO X.K c a1)) : PE X (.UnaryOp o e pos) (tB X.K c fun ρ Q => a1 ρ fun x ρ1 => cont ρ1 x fun dx => f dx fun d => Q d (isMut d) ρ1) :=
  PE.imp (pe_un ho h) fun σ H Q ⟨F, ρ, Qd, ok, g, q⟩ => ⟨F, ρ, _, ok, g, fun x ρ1 v F1 H1 hx ok1 ex1 r1 => by
    obtain ⟨dx, rx, hf⟩ := cont_red ok1 r1 hx
    exact ⟨F1, dx, _, ok1.fh, rx, hf, fun d u F' H' hq ne nr => q d _ ρ1 u F' H' hq (ok1.newE ne) (ex1.trans ne.ext) (nr.res.from ex1.hn)⟩⟩
/-- two operands, then a rule -/
theorem sn_two {f : D → D → P1} :
    ∀ σ H Q, tB X.K c (fun ρ Q => a1 ρ fun x ρ1 => a2 ρ1 fun y ρ2 => cont ρ2 x fun dx => cont ρ2 y fun dy => f dx dy fun d => Q d (isMut d) ρ2) σ H Q → tOp (DR2 X.K f) (tO X.K c a1) (tO X.K c a2) σ H Q :=
  fun σ H Q ⟨F, ρ, Qd, ok, g, q⟩ => ⟨F, ρ, _, ok, g, fun x ρ1 v F1 H1 hx ok1 ex1 r1 => ⟨F1, ρ1, _, ok1, hx, fun y ρ2 u F2 H2 hy ok2 ex2 r2 => by
    obtain ⟨dx, rx, hy⟩ := cont_red ok2 (r1.ext ex2) hy
    obtain ⟨dy, ry, hf⟩ := cont_red ok2 r2 hy
    exact ⟨F2, dx, dy, _, ok2.fh, rx, ry, hf, fun d z F' H' hq ne nr => q d _ ρ2 z F' H' hq (ok2.newE ne) ((ex1.trans ex2).trans ne.ext) (nr.res.from (ex1.trans ex2).hn)⟩⟩⟩
theorem sn_bin {o : Operator} {f : D → D → P1} (ho : OpR X (binaryOp o) (DR2 X.K f)) (h1 : PE X e1 (tO X.K c a1)) (h2 : PE X e2 (tO X.K c a2)) :
    PE X (.BinOp e1 o e2 pos) (tB X.K c fun ρ Q => a1 ρ fun x ρ1 => a2 ρ1 fun y ρ2 => cont ρ2 x fun dx => cont ρ2 y fun dy => f dx dy fun d => Q d (isMut d) ρ2) :=
  PE.imp (pe_op ho h1 h2) sn_two
theorem sn_cmp {o : CmpOp} (ho : OpR X (compareOp o) (DR2 X.K fun x y Q => cmpS o x y fun b => Q (.bool b))) (hm : behindInMarks o e2 = false) (h1 : PE X e1 (tO X.K c a1)) (h2 : PE X e2 (tO X.K c a2)) :
    PE X (.Compare e1 [o] [e2] pos) (tB X.K c fun ρ Q => a1 ρ fun x ρ1 => a2 ρ1 fun y ρ2 => cont ρ2 x fun dx => cont ρ2 y fun dy => cmpS o dx dy fun d => Q (.bool d) false ρ2) :=
  PE.imp (pe_cmpR ho h1 h2 hm) (sn_two (f := fun x y Q => cmpS o x y fun b => Q (.bool b)))
theorem st_cmp {o : CmpOp} (ho : OpR X (compareOp o) (DR2 X.K fun x y Q => cmpS o x y fun b => Q (.bool b))) (hm : behindInMarks o e2 = false) (h1 : PE X e1 (tO X.K c a1)) (h2 : PE X e2 (tO X.K c a2)) :
    PT X (.Compare e1 [o] [e2] pos) (tT X.K c fun ρ Q => a1 ρ fun x ρ1 => a2 ρ1 fun y ρ2 => cont ρ2 x fun dx => cont ρ2 y fun dy => cmpS o dx dy fun d => Q d ρ2) :=
  PT.imp (pt_cmpR ho h1 h2 hm) fun σ H Q ⟨F, ρ, Qd, ok, g, q⟩ => ⟨F, ρ, _, ok, g, fun x ρ1 v F1 H1 hx ok1 ex1 r1 => ⟨F1, ρ1, _, ok1, hx, fun y ρ2 u F2 H2 hy ok2 ex2 r2 => by
    obtain ⟨dx, rx, hy⟩ := cont_red ok2 (r1.ext ex2) hy
    obtain ⟨dy, ry, hf⟩ := cont_red ok2 r2 hy
    refine ⟨F2, dx, dy, fun d => match d with | .bool b => Qd b ρ2 | _ => False, ok2.fh, rx, ry, hf, fun d z F' H' hq ne nr => ?_⟩
    cases d with
    | bool b =>
      have nr := nr.res.unfz
      cases nr
      exact ⟨b, rfl, q b ρ2 F' H' hq (ok2.newE ne) ((ex1.trans ex2).trans ne.ext)⟩
    | _ => exact hq.elim⟩⟩
end
end DL

set_option maxHeartbeats 4000000
/-! DL part F: more readings of expressions. -/
namespace DL
open PySem PySem.Spec PyProof.Rows L2
section
variable {K : PySem.W.Frag} {c : Ent} {F H : Hp} {v : V} {d : D}
theorem tru_of {Q : Bool → Prop} (hs : Same F H) (h : Red K F H v d) (g : truS d Q) : ∃ k, TruV K v H k ∧ Q k := by
  cases d with
  | none =>
    rw [h.none]
    exact ⟨false, rfl, g⟩
  | bool b =>
    rw [h.bool]
    exact ⟨b, rfl, g⟩
  | int i =>
    rw [h.int]
    exact ⟨i != 0, rfl, g⟩
  | list xs =>
    obtain ⟨a, vs, rfl, s1, r1⟩ := h.sql hs
    refine ⟨_, .inl ⟨vs, s1, rfl⟩, ?_⟩
    rw [r1.empty]
    exact g
  | tuple xs =>
    obtain ⟨a, vs, rfl, s1, r1⟩ := h.tup hs
    refine ⟨_, .inr (.inl ⟨vs, s1, rfl⟩), ?_⟩
    rw [r1.empty]
    exact g
  | _ => exact g.elim
/-- the truth that is decided once -/
theorem truS_if {A B : Bool → Prop} {x : D} : (truS x fun k => if k = true then A k else truS x B) = (truS x fun k => if k = true then A k else B false) := by
  cases x <;> first
    | rfl
    | (rename_i z; cases z <;> rfl)
    | (rename_i z
       show (if (z != 0) = true then _ else B (z != 0)) = (if (z != 0) = true then _ else B false)
       cases z != 0 <;> rfl)
theorem truS_or {A B : Bool → Prop} {x : D} : (truS x fun k => if k = true then truS x A else B k) = (truS x fun k => if k = true then A true else B k) := by
  cases x <;> first
    | rfl
    | (rename_i z; cases z <;> rfl)
    | (rename_i z
       show (if (z != 0) = true then A (z != 0) else _) = (if (z != 0) = true then A true else _)
       cases z != 0 <;> rfl)
end
section
variable {X : Cx} {c : Ent} {e e1 e2 e3 : Expr} {w w1 w2 w3 : WB} {a1 a2 a3 : WO} {pos : Pos}
/-- truth of a value -/
theorem st_val (h : PE X e (tO X.K c a1)) (he : ∀ whole, isTrue e X.env whole = (do let v ← whole; standAt e.pos; holding [v] (truthy v))) : PT X e (tT X.K c (tst a1)) :=
  PT.imp (pt_truth h he) fun σ H Q ⟨F, ρ, Qd, ok, g, q⟩ => ⟨F, ρ, _, ok, g, fun x ρ1 v F1 H1 hx ok1 ex1 r1 => by
    obtain ⟨dx, rx, hf⟩ := cont_red ok1 r1 hx
    obtain ⟨k, z1, z2⟩ := tru_of ok1.fh rx hf
    exact ⟨k, z1, q k ρ1 F1 H1 z2 ok1 ex1⟩⟩
theorem sn_not (h : PE X e (tO X.K c a1)) : PE X (.UnaryOp .Not e pos) (tB X.K c fun ρ Q => tst a1 ρ fun b ρ1 => Q (.bool (!b)) false ρ1) :=
  PE.imp (pe_notT h) fun σ H Q ⟨F, ρ, Qd, ok, g, q⟩ => ⟨F, ρ, _, ok, g, fun x ρ1 v F1 H1 hx ok1 ex1 r1 => by
    obtain ⟨dx, rx, hf⟩ := cont_red ok1 r1 hx
    obtain ⟨k, z1, z2⟩ := tru_of ok1.fh rx hf
    exact ⟨k, z1, q _ _ ρ1 _ F1 H1 z2 ok1 ex1 (.fz (.bl _))⟩⟩
theorem st_not {t : Store → (Bool → Store → Prop) → Prop} (h : PT X e (tT X.K c t)) : PT X (.UnaryOp .Not e pos) (tT X.K c fun ρ Q => t ρ fun b ρ1 => Q (!b) ρ1) :=
  PT.imp (pt_not h) fun σ H Q ⟨F, ρ, Qd, ok, g, q⟩ => ⟨F, ρ, _, ok, g, fun b ρ1 F1 H1 hx ok1 ex1 => q _ ρ1 F1 H1 hx ok1 ex1⟩
theorem sn_and {rest : List Expr} (h1 : PE X e1 (tFz X.K c (frz w1))) (h2 : PE X (.BoolOp .And (e2 :: rest) pos) (tFz X.K c (frz w2))) :
    PE X (.BoolOp .And (e1 :: e2 :: rest) pos) (tB X.K c fun ρ Q => frz w1 ρ fun x ρ1 => truS x fun k => if k then frz w2 ρ1 fun y ρ2 => Q y false ρ2 else Q x false ρ1) :=
  PE.imp (pe_andT h1 h2) fun σ H Q ⟨F, ρ, Qd, ok, g, q⟩ => ⟨F, ρ, _, ok, g, fun x ρ1 v F1 H1 hx ok1 ex1 r1 => by
    obtain ⟨k, z1, z2⟩ := tru_of ok1.fh (.inl r1) hx
    refine ⟨k, z1, ?_⟩
    cases k with
    | true => exact ⟨F1, ρ1, _, ok1, z2, fun d ρ' v' F' H' hq ok' ex' r' => q d false ρ' v' F' H' hq ok' (ex1.trans ex') (.fz r')⟩
    | false => exact q x false ρ1 v F1 H1 z2 ok1 ex1 (.fz r1)⟩
theorem sn_or {rest : List Expr} (h1 : PE X e1 (tFz X.K c (frz w1))) (h2 : PE X (.BoolOp .Or (e2 :: rest) pos) (tFz X.K c (frz w2))) :
    PE X (.BoolOp .Or (e1 :: e2 :: rest) pos) (tB X.K c fun ρ Q => frz w1 ρ fun x ρ1 => truS x fun k => if k then Q x false ρ1 else frz w2 ρ1 fun y ρ2 => Q y false ρ2) :=
  PE.imp (pe_orT h1 h2) fun σ H Q ⟨F, ρ, Qd, ok, g, q⟩ => ⟨F, ρ, _, ok, g, fun x ρ1 v F1 H1 hx ok1 ex1 r1 => by
    obtain ⟨k, z1, z2⟩ := tru_of ok1.fh (.inl r1) hx
    refine ⟨k, z1, ?_⟩
    cases k with
    | true => exact q x false ρ1 v F1 H1 z2 ok1 ex1 (.fz r1)
    | false => exact ⟨F1, ρ1, _, ok1, z2, fun d ρ' v' F' H' hq ok' ex' r' => q d false ρ' v' F' H' hq ok' (ex1.trans ex') (.fz r')⟩⟩
/-- a test's w ahead of another test -/
def andT (t u : Store → (Bool → Store → Prop) → Prop) : Store → (Bool → Store → Prop) → Prop := fun ρ Q => t ρ fun k ρ1 => if k = true then u ρ1 Q else Q false ρ1
def orT (t u : Store → (Bool → Store → Prop) → Prop) : Store → (Bool → Store → Prop) → Prop := fun ρ Q => t ρ fun k ρ1 => if k = true then Q true ρ1 else u ρ1 Q
def vT (w : WB) : Store → (Bool → Store → Prop) → Prop := fun ρ Q => frz w ρ fun x ρ1 => truS x fun b => Q b ρ1
theorem st_and {t u : Store → (Bool → Store → Prop) → Prop} {rest : List Expr} (h1 : PT X e1 (tT X.K c t)) (h2 : PW X (.BoolOp .And (e2 :: rest) pos) (tT X.K c u)) : PW X (.BoolOp .And (e1 :: e2 :: rest) pos) (tT X.K c (andT t u)) :=
  ⟨fun wh pins s σ H Q I ⟨F, ρ, Qd, ok, g, q⟩ => (pw_and h1 h2).run wh pins s σ H Q I ⟨F, ρ, _, ok, g, fun k ρ1 F1 H1 hx ok1 ex1 => by
    cases k with
    | true => exact ⟨F1, ρ1, _, ok1, hx, fun b ρ' F' H' hq ok' ex' => q b ρ' F' H' hq ok' (ex1.trans ex')⟩
    | false => exact q false ρ1 F1 H1 hx ok1 ex1⟩⟩
theorem st_or {t u : Store → (Bool → Store → Prop) → Prop} {rest : List Expr} (h1 : PT X e1 (tT X.K c t)) (h2 : PW X (.BoolOp .Or (e2 :: rest) pos) (tT X.K c u)) : PW X (.BoolOp .Or (e1 :: e2 :: rest) pos) (tT X.K c (orT t u)) :=
  ⟨fun wh pins s σ H Q I ⟨F, ρ, Qd, ok, g, q⟩ => (pw_or h1 h2).run wh pins s σ H Q I ⟨F, ρ, _, ok, g, fun k ρ1 F1 H1 hx ok1 ex1 => by
    cases k with
    | true => exact q true ρ1 F1 H1 hx ok1 ex1
    | false => exact ⟨F1, ρ1, _, ok1, hx, fun b ρ' F' H' hq ok' ex' => q b ρ' F' H' hq ok' (ex1.trans ex')⟩⟩⟩
theorem sn_ite {t : Store → (Bool → Store → Prop) → Prop} (h : PT X e1 (tT X.K c t)) (h2 : PE X e2 (tB X.K c w2)) (h3 : PE X e3 (tB X.K c w3)) :
    PE X (.IfExp e1 e2 e3 pos) (tB X.K c fun ρ Q => t ρ fun k ρ1 => if k then w2 ρ1 Q else w3 ρ1 Q) :=
  PE.imp (pe_ifExp h h2 h3) fun σ H Q ⟨F, ρ, Qd, ok, g, q⟩ => ⟨F, ρ, _, ok, g, fun k ρ1 F1 H1 hx ok1 ex1 => by
    cases k with
    | true => exact ⟨F1, ρ1, Qd, ok1, hx, fun d fr ρ' v F' H' hq ok' ex' r' => q d fr ρ' v F' H' hq ok' (ex1.trans ex') (r'.from ex1.hn)⟩
    | false => exact ⟨F1, ρ1, Qd, ok1, hx, fun d fr ρ' v F' H' hq ok' ex' r' => q d fr ρ' v F' H' hq ok' (ex1.trans ex') (r'.from ex1.hn)⟩⟩
/-- chains -/
theorem sn_chn {o o' : CmpOp} (ho : OpR X (compareOp o) (DR2 X.K fun x y Q => cmpS o x y fun b => Q (.bool b))) (ho' : OpR X (compareOp o') (DR2 X.K fun x y Q => cmpS o' x y fun b => Q (.bool b)))
    (h1 : PE X e1 (tO X.K c a1)) (h2 : PE X e2 (tO X.K c a2)) (h3 : PE X e3 (tO X.K c a3)) (hm : lastMarks [o, o'] [e2, e3] = false) :
    PE X (.Compare e1 [o, o'] [e2, e3] pos) (tB X.K c fun ρ Q => a1 ρ fun x ρ1 => a2 ρ1 fun y ρ2 => cont ρ2 x fun dx => cont ρ2 y fun dy => cmpS o dx dy fun r =>
      if r then a3 ρ2 fun z ρ3 => cont ρ3 y fun dy2 => cont ρ3 z fun dz => cmpS o' dy2 dz fun d => Q (.bool d) false ρ3 else Q (.bool false) false ρ2) :=
  PE.imp (pe_chain ho ho' h1 h2 h3 hm) fun σ H Q ⟨F, ρ, Qd, ok, g, q⟩ => ⟨F, ρ, _, ok, g, fun x ρ1 v F1 H1 hx ok1 ex1 r1 => ⟨F1, ρ1, _, ok1, hx, fun y ρ2 u F2 H2 hy ok2 ex2 r2 => by
    obtain ⟨dx, rx, hy⟩ := cont_red ok2 (r1.ext ex2) hy
    obtain ⟨dy, ry, hf⟩ := cont_red ok2 r2 hy
    refine ⟨F2, dx, dy, fun d => match d with | .bool r => if r = true then a3 ρ2 fun z ρ3 => cont ρ3 y fun dy2 => cont ρ3 z fun dz => cmpS o' dy2 dz fun d => Qd (.bool d) false ρ3 else Qd (.bool false) false ρ2 | _ => False, ok2.fh, rx, ry, hf, fun d z F3 H3 hq ne nr => ?_⟩
    cases d with
    | bool b =>
      have nr := nr.res.unfz
      cases nr
      refine ⟨b, rfl, ?_⟩
      have ok3 := ok2.newE ne
      have ex3 := (ex1.trans ex2).trans ne.ext
      cases b with
      | true =>
        refine ⟨F3, ρ2, _, ok3, hq, fun zz ρ3 vz F4 H4 hz ok4 ex4 r4 => ?_⟩
        obtain ⟨dy2, ry2, hz⟩ := cont_red ok4 ((r2.ext ne.ext).ext ex4) hz
        obtain ⟨dz, rz, hz⟩ := cont_red ok4 r4 hz
        exact ⟨F4, dy2, dz, fun d => match d with | .bool d => Qd (.bool d) false ρ3 | _ => False, ok4.fh, ry2, rz, hz, fun d v5 F5 H5 hq5 ne5 nr5 => by
          cases d with
          | bool b => exact q (.bool b) false ρ3 v5 F5 H5 hq5 (ok4.newE ne5) ((ex3.trans ex4).trans ne5.ext) (.fz nr5.res.unfz)
          | _ => exact hq5.elim⟩
      | false => exact q (.bool false) false ρ2 _ F3 H3 hq ok3 ex3 (.fz (.bl _))
    | _ => exact hq.elim⟩⟩
theorem st_chn {o o' : CmpOp} (ho : OpR X (compareOp o) (DR2 X.K fun x y Q => cmpS o x y fun b => Q (.bool b))) (ho' : OpR X (compareOp o') (DR2 X.K fun x y Q => cmpS o' x y fun b => Q (.bool b)))
    (h1 : PE X e1 (tO X.K c a1)) (h2 : PE X e2 (tO X.K c a2)) (h3 : PE X e3 (tO X.K c a3)) (hm : lastMarks [o, o'] [e2, e3] = false) :
    PT X (.Compare e1 [o, o'] [e2, e3] pos) (tT X.K c fun ρ Q => a1 ρ fun x ρ1 => a2 ρ1 fun y ρ2 => cont ρ2 x fun dx => cont ρ2 y fun dy => cmpS o dx dy fun r =>
      if r then a3 ρ2 fun z ρ3 => cont ρ3 y fun dy2 => cont ρ3 z fun dz => cmpS o' dy2 dz fun d => Q d ρ3 else Q false ρ2) :=
  PT.imp (pt_chain ho ho' h1 h2 h3 hm) fun σ H Q ⟨F, ρ, Qd, ok, g, q⟩ => ⟨F, ρ, _, ok, g, fun x ρ1 v F1 H1 hx ok1 ex1 r1 => ⟨F1, ρ1, _, ok1, hx, fun y ρ2 u F2 H2 hy ok2 ex2 r2 => by
    obtain ⟨dx, rx, hy⟩ := cont_red ok2 (r1.ext ex2) hy
    obtain ⟨dy, ry, hf⟩ := cont_red ok2 r2 hy
    refine ⟨F2, dx, dy, fun d => match d with | .bool r => if r = true then a3 ρ2 fun z ρ3 => cont ρ3 y fun dy2 => cont ρ3 z fun dz => cmpS o' dy2 dz fun d => Qd d ρ3 else Qd false ρ2 | _ => False, ok2.fh, rx, ry, hf, fun d z F3 H3 hq ne nr => ?_⟩
    cases d with
    | bool b =>
      have nr := nr.res.unfz
      cases nr
      refine ⟨b, rfl, ?_⟩
      have ok3 := ok2.newE ne
      have ex3 := (ex1.trans ex2).trans ne.ext
      cases b with
      | true =>
        refine ⟨F3, ρ2, _, ok3, hq, fun zz ρ3 vz F4 H4 hz ok4 ex4 r4 => ?_⟩
        obtain ⟨dy2, ry2, hz⟩ := cont_red ok4 ((r2.ext ne.ext).ext ex4) hz
        obtain ⟨dz, rz, hz⟩ := cont_red ok4 r4 hz
        exact ⟨F4, dy2, dz, fun d => match d with | .bool d => Qd d ρ3 | _ => False, ok4.fh, ry2, rz, hz, fun d v5 F5 H5 hq5 ne5 nr5 => by
          cases d with
          | bool b =>
            have nr := nr5.res.unfz
            cases nr
            exact ⟨b, rfl, q b ρ3 F5 H5 hq5 (ok4.newE ne5) ((ex3.trans ex4).trans ne5.ext)⟩
          | _ => exact hq5.elim⟩
      | false => exact ⟨false, rfl, q false ρ2 F3 H3 hq ok3 ex3⟩
    | _ => exact hq.elim⟩⟩
/-! displays, arguments -/
theorem sn_nil : PA X [] (tEs X.K c fun ρ Q => Q [] ρ) := PA.imp pa_nil fun σ H Q ⟨F, ρ, Qd, ok, g, q⟩ => q [] ρ [] F H g ok .refl .nil
theorem sn_cons {es : List Expr} {ws : Store → (List D → Store → Prop) → Prop} (h : PE X e (tFz X.K c (frz w))) (hs : PA X es (tEs X.K c ws)) (st : starEach (e :: es) X.env = (false, eval e X.env) :: starEach es X.env) :
    PA X (e :: es) (tEs X.K c fun ρ Q => frz w ρ fun d ρ1 => ws ρ1 fun ds ρ2 => Q (d :: ds) ρ2) :=
  PA.imp (pa_cons h hs st) fun σ H Q ⟨F, ρ, Qd, ok, g, q⟩ => ⟨F, ρ, _, ok, g, fun d ρ1 v F1 H1 hx ok1 ex1 r1 => ⟨F1, ρ1, _, ok1, hx, fun ds ρ2 vs F2 H2 hy ok2 ex2 r2 =>
    q (d :: ds) ρ2 (v :: vs) F2 H2 hy ok2 (ex1.trans ex2) (.cons (Rep.mono ex2.ff d v r1) r2)⟩⟩
theorem so_nil : PA X [] (tOs X.K c fun ρ Q => Q [] ρ) := PA.imp pa_nil fun σ H Q ⟨F, ρ, Qd, ok, g, q⟩ => q [] ρ [] F H g ok .refl .nil
theorem so_cons {es : List Expr} {ws : Store → (List Od → Store → Prop) → Prop} (h : PE X e (tO X.K c a1)) (hs : PA X es (tOs X.K c ws)) (st : starEach (e :: es) X.env = (false, eval e X.env) :: starEach es X.env) :
    PA X (e :: es) (tOs X.K c fun ρ Q => a1 ρ fun d ρ1 => ws ρ1 fun ds ρ2 => Q (d :: ds) ρ2) :=
  PA.imp (pa_cons h hs st) fun σ H Q ⟨F, ρ, Qd, ok, g, q⟩ => ⟨F, ρ, _, ok, g, fun d ρ1 v F1 H1 hx ok1 ex1 r1 => ⟨F1, ρ1, _, ok1, hx, fun ds ρ2 vs F2 H2 hy ok2 ex2 r2 =>
    q (d :: ds) ρ2 (v :: vs) F2 H2 hy ok2 (ex1.trans ex2) (.cons (r1.ext ex2) r2)⟩⟩
theorem sn_tup {es : List Expr} {k : Nat} {ws : Store → (List D → Store → Prop) → Prop} (hs : PA X es (tEs X.K c ws)) : PE X (.Tuple es k pos) (tB X.K c fun ρ Q => ws ρ fun ds ρ1 => ds.length ≤ sizeLine ∧ Q (.tuple ds) false ρ1) :=
  PE.imp (pe_tupP hs) fun σ H Q ⟨F, ρ, Qd, ok, g, q⟩ => ⟨F, ρ, _, ok, g, fun ds ρ1 vs F1 H1 ⟨hz, hx⟩ ok1 ex1 r1 => ⟨by rw [r1.len]; exact hz, fun p o po hp =>
    q (.tuple ds) false ρ1 _ _ _ hx (ok1.newE (.frz ok1.fh hp)) (ex1.trans (NewE.frz ok1.fh hp).ext) (.fz (.tup (.upd po) (r1.mono (same_new (ok1.fh.free hp)))))⟩⟩
theorem sn_lst {es : List Expr} {ws : Store → (List D → Store → Prop) → Prop} (hs : PA X es (tEs X.K c ws)) : PE X (.List es pos) (tB X.K c fun ρ Q => ws ρ fun ds ρ1 => ds.length ≤ sizeLine ∧ Q (.list ds) true ρ1) :=
  PE.imp (pe_lst hs) fun σ H Q ⟨F, ρ, Qd, ok, g, q⟩ => ⟨F, ρ, _, ok, g, fun ds ρ1 vs F1 H1 ⟨hz, hx⟩ ok1 ex1 r1 => ⟨by rw [r1.len]; exact hz, fun p hp =>
    q (.list ds) true ρ1 _ _ _ hx (ok1.newE (.own ok1.fh hp)) (ex1.trans (NewE.own ok1.fh hp).ext) (ResRep.from (.of_own ⟨⟨p, vs, rfl, upd_same, r1⟩, fun a e => by cases e; exact ⟨ok1.fh.free hp, hp⟩⟩) ex1.hn)⟩⟩
theorem sn_idx (h1 : PE X e1 (tO X.K c a1)) (h2 : PE X e2 (tO X.K c a2)) (hs : PlainIx e2) :
    PE X (.Subscript e1 e2 pos) (tB X.K c fun ρ Q => a1 ρ fun x ρ1 => a2 ρ1 fun y ρ2 => cont ρ2 x fun dx => cont ρ2 y fun dy => idxS dx dy fun d => Q d false ρ2) :=
  PE.imp (pe_ix ixR h1 h2 hs) fun σ H Q ⟨F, ρ, Qd, ok, g, q⟩ => ⟨F, ρ, _, ok, g, fun x ρ1 v F1 H1 hx ok1 ex1 r1 => ⟨F1, ρ1, _, ok1, hx, fun y ρ2 u F2 H2 hy ok2 ex2 r2 => by
    obtain ⟨dx, rx, hy⟩ := cont_red ok2 (r1.ext ex2) hy
    obtain ⟨dy, ry, hf⟩ := cont_red ok2 r2 hy
    exact ⟨F2, dx, dy, _, ok2.fh, rx, ry, hf, fun d z hq rz => q d false ρ2 z F2 H2 hq ok2 (ex1.trans ex2) (.fz rz)⟩⟩⟩
/-- an optional part of a slice -/
def tPart' (K : PySem.W.Frag) (c : Ent) (w : Store → (Option Int → Store → Prop) → Prop) : TO := fun σ H Q => ∃ (F : Hp) (ρ : Store) (Qd : Option Int → Store → Prop), Ok K c F H σ ρ ∧ w ρ Qd ∧
  ∀ l ρ' F' H', Qd l ρ' → Ok K c F' H' σ ρ' → Ext σ ρ F H ρ' F' H' → Q l H'
theorem PO.imp {X : Cx} {e : Option Expr} {t t' : TO} (h : PO X e t) (i : ∀ σ H Q, t' σ H Q → t σ H Q) : PO X e t' := ⟨fun pins s σ H Q I q => h.run pins s σ H Q I (i _ _ _ q)⟩
theorem so_none : PO X none (tPart' X.K c fun ρ Q => Q none ρ) := PO.imp po_none fun σ H Q ⟨F, ρ, Qd, ok, g, q⟩ => q none ρ F H g ok .refl
theorem so_some (h : PE X e (tFz X.K c (frz w))) : PO X (some e) (tPart' X.K c fun ρ Q => frz w ρ fun d ρ1 => ∃ i, d = .int i ∧ Q (some i) ρ1) :=
  PO.imp (po_some h) fun σ H Q ⟨F, ρ, Qd, ok, g, q⟩ => ⟨F, ρ, _, ok, g, fun d ρ1 v F1 H1 ⟨i, e, hx⟩ ok1 ex1 r1 => by
    subst e
    cases r1
    exact ⟨i, rfl, q (some i) ρ1 F1 H1 hx ok1 ex1⟩⟩
theorem sn_slc {lo hi : Option Expr} {wl wh : Store → (Option Int → Store → Prop) → Prop} {p2 : Pos} (h : PE X e (tO X.K c a1)) (hl : PO X lo (tPart' X.K c wl)) (hh : PO X hi (tPart' X.K c wh)) :
    PE X (.Subscript e (.Slice lo hi none p2) pos) (tB X.K c fun ρ Q => a1 ρ fun x ρ1 => wl ρ1 fun l ρ2 => wh ρ2 fun h ρ3 => cont ρ3 x fun dx => slcS dx l h fun d => Q d (isMut d) ρ3) :=
  PE.imp (pe_slice slR h hl hh) fun σ H Q ⟨F, ρ, Qd, ok, g, q⟩ => ⟨F, ρ, _, ok, g, fun x ρ1 v F1 H1 hx ok1 ex1 r1 => ⟨F1, ρ1, _, ok1, hx, fun l ρ2 F2 H2 hy ok2 ex2 => ⟨F2, ρ2, _, ok2, hy, fun h' ρ3 F3 H3 hz ok3 ex3 => by
    obtain ⟨dx, rx, hf⟩ := cont_red ok3 ((r1.ext ex2).ext ex3) hz
    exact ⟨F3, dx, fun d => Qd d (isMut d) ρ3, ok3.fh, rx, hf, fun d z F' H' hq ne nr => q d _ ρ3 z F' H' hq (ok3.newE ne) (((ex1.trans ex2).trans ex3).trans ne.ext) (nr.res.from ((ex1.trans ex2).trans ex3).hn)⟩⟩⟩⟩
end
end DL

set_option maxHeartbeats 4000000
/-! DL part Z: sorted(x, key=lambda p: (-p[1], p[0])); the lambda's calls. -/
namespace DL
open PySem PySem.Spec PyProof.Rows L2
/-- a lambda's parameters: one name -/
abbrev par1 (x : Str) (an : Option Expr) (p : Pos) : Arguments := ⟨[], [⟨x, an, p⟩], none, [], [], none, []⟩
/-- a lambda's scope: its parameter alone is its own -/
def lamScB (x : Str) (sc : Scope) : Bool := decide (sc.kind = .function) && !sc.isCoroutine && !sc.isGenerator && decide (sc.names.lookup x = some .local) && sc.names.all fun y => !decide (y.2 = .cell) && !decide (y.2 = .free)
section
variable {prog : Program} {w : World} {A : Around} {E : Value → Shared → Prop} {s : Shared}
theorem bind_pair {qual : Str} {an : Option Expr} {pp : Pos} {body : Expr} {scope : Scope} {clo : List (Str × Addr)} {pm cv ctv u : Value} : bindArgs (PySem.W.kla_fn "<lambda>" qual (par1 "pair" an pp) body scope clo pm cv ctv) ⟨[u], []⟩ = pure [(("pair" : Str), u)] := rfl
theorem bind_row {qual : Str} {an : Option Expr} {pp : Pos} {body : Expr} {scope : Scope} {clo : List (Str × Addr)} {pm cv ctv u : Value} : bindArgs (PySem.W.kla_fn "<lambda>" qual (par1 "row" an pp) body scope clo pm cv ctv) ⟨[u], []⟩ = pure [(("row" : Str), u)] := rfl
theorem lam_call {f c' oc : Addr} {qual p : Str} {an : Option Expr} {pp : Pos} {body : Expr} {scope : Scope} {clo : List (Str × Addr)} {pm ctv u : Value} {Q : Value → Shared → Prop} (hdep : A.depth < recursionLimit)
    (hf : s.heap.get? f = some (PySem.W.kla_obj "<lambda>" qual (par1 p an pp) body scope clo pm c' ctv)) (hcode : ∃ (oc : Obj) (vs : Array Value) (t : Tok), s.heap.get? c' = some oc ∧ oc.data = .fields vs ∧ vs[1]? = some (.str qual t)) (lim : s.heap.NoLimit) (L : lamScB p scope = true)
    (hb : bindArgs (PySem.W.kla_fn "<lambda>" qual (par1 p an pp) body scope clo pm (.ref c') ctv) ⟨[u], []⟩ = pure [(p, u)])
    (h : ∀ (env : Env) (h₁ : Heap), env.scope = scope → h₁.Ns env.locals (fun y => ([(p, u)] : List (Str × Value)).reverse.lookup y) → (∀ b o, s.heap.get? b = some o → h₁.get? b = some o) → wpAny (model prog w) (A.deeper env) (eval body env) Q (fun _ _ => False) { s with heap := h₁, toks := s.toks + 1 }) :
    wpAny (model prog w) A (call (.ref f) [u]) Q (fun _ _ => False) s := by
  unfold lamScB at L
  simp only [Bool.and_eq_true, Bool.not_eq_true', decide_eq_true_eq, decide_eq_false_iff_not, List.all_eq_true] at L
  obtain ⟨⟨⟨⟨L1, L2⟩, L3⟩, L4⟩, L5⟩ := L
  obtain ⟨oc, vs, t, hoc, hdc, hvc⟩ := hcode
  refine wpAny_call ?_
  refine PySem.W.kla_callFunE hdep hf rfl L2 L3 rfl ⟨c', oc, vs, t, rfl, hoc, hdc, hvc⟩ ?_
  rw [hb]
  refine wpAny_pure (wpAny_newFunctionEnv (fun y hy => (L5 y hy).1) (fun y hy => ?_) (fun h₁ hns hsb => ?_) L1)
  · rw [List.mem_singleton.mp hy]
    exact L4
  · have kp : ∀ b o, s.heap.get? b = some o → h₁.get? b = some o := fun b o e => hsb.extBut b o (Nat.ne_of_lt (Heap.lt_size e)) (Heap.get?_push_of_some _ e)
    refine ⟨lim.keeps kp, PySem.W.kla_codeExpr (wpAny_mono (h _ h₁ rfl hns kp) (fun v s' q => q) fun e s' q => q.elim)⟩
/-- p[i], p the lambda's parameter -/
theorem lam_item {env : Env} {p : Str} {q1 q2 q3 : Pos} {j : Nat} {i : Int} {t : Addr} {its : Array Value} {y : Value} {Q : Value → Shared → Prop} (hk : env.scope.kind = .function) (hl : env.scope.names.lookup p = some .local) (hd : (p == ("__debug__" : Str)) = false)
    (hn : s.heap.Ns env.locals (fun y => ([(p, .ref t)] : List (Str × Value)).reverse.lookup y)) (ht : IsTup s.heap t its) (hi : 0 ≤ i ∧ i < its.size ∧ i < 2 ^ 63) (hy : its[i.toNat]? = some y) (h : Q y { s with toks := s.toks + 1 }) :
    wpAny (model prog w) A (eval (.Subscript (.Name p q1) (.Constant (.int i) j q2) q3) env) Q E s := by
  refine Subscript_ (wpAny_Name (wpAny_loadName_local hk hl hn (v := .ref t) ?_ ?_) hd)
  · simp [List.lookup_cons]
  · refine wpAny_Constant_int ?_
    refine subscriptTail_builtinR (x := y) (T := "tuple") (id := "tuple.__getitem__") ?_ slot_tuple_getitem.lookup ?_ rfl
    · obtain ⟨o, e1, e2, _⟩ := ht
      exact ⟨o, e1, e2⟩
    · exact getItem_tuple (j := i.toNat) (Q := fun r s' => r = y ∧ Q r s') ht (by omega) (by omega) (by rw [seqIndex_of hi.1 (by omega)]) hy ⟨rfl, h⟩
end
/-- the key's text: (-p[1], p[0]) -/
def keyBody (p : Str) : Expr → Bool
  | .Tuple [.UnaryOp .USub (.Subscript (.Name x _) (.Constant (.int i) _ _) _) _, .Subscript (.Name y _) (.Constant (.int j) _ _) _] _ _ => decide (x = p) && (decide (y = p) && (decide (i = 1) && decide (j = 0)))
  | _ => false
/-- the key's text: p[2] -/
def keyBody2 (p : Str) : Expr → Bool
  | .Subscript (.Name x _) (.Constant (.int i) _ _) _ => decide (x = p) && decide (i = 2)
  | _ => false

section
variable {prog : Program} {w : World} {A : Around} {E : Value → Shared → Prop} {s : Shared}
/-- the call of the key (-p[1], p[0]) -/
theorem lam_keyS {f c' t : Addr} {qual : Str} {an : Option Expr} {pp : Pos} {body : Expr} {scope : Scope} {clo : List (Str × Addr)} {pm ctv : Value} {a b : Int} {ta tb : Tok} (hdep : A.depth < recursionLimit)
    (hf : s.heap.get? f = some (PySem.W.kla_obj "<lambda>" qual (par1 "pair" an pp) body scope clo pm c' ctv)) (hcode : ∃ (oc : Obj) (vs : Array Value) (t : Tok), s.heap.get? c' = some oc ∧ oc.data = .fields vs ∧ vs[1]? = some (.str qual t)) (lim : s.heap.NoLimit) (L : lamScB "pair" scope = true)
    (hb : keyBody "pair" body = true) (ht : IsTup s.heap t #[.int a ta, .int b tb]) :
    wpAny (model prog w) A (call (.ref f) [.ref t]) (PySem.W.KeyPure (.tuple [.int (-b), .int a]) s) (fun _ _ => False) s := by
  have L' := L
  unfold lamScB at L'
  simp only [Bool.and_eq_true, Bool.not_eq_true', decide_eq_true_eq, decide_eq_false_iff_not, List.all_eq_true] at L'
  obtain ⟨⟨⟨⟨L1, _⟩, _⟩, L4⟩, _⟩ := L'
  unfold keyBody at hb
  split at hb
  · rename_i x q1 i j1 q2 q3 q4 y q5 j j2 q6 q7 k1 q8
    simp only [Bool.and_eq_true, decide_eq_true_eq] at hb
    obtain ⟨rfl, rfl, rfl, rfl⟩ := hb
    refine lam_call (oc := 0) hdep hf hcode lim L bind_pair fun env h₁ he hns kp => ?_
    have hk : env.scope.kind = .function := by rw [he]; exact L1
    have hl : env.scope.names.lookup ("pair" : Str) = some .local := by rw [he]; exact L4
    have ht1 : IsTup h₁ t #[.int a ta, .int b tb] := by
      obtain ⟨o, e1, e2⟩ := ht
      exact ⟨o, kp _ _ e1, e2⟩
    refine wpAny_Tuple_spliced ?_
    refine Calls.spliced_cons (UnaryOp_ (lam_item (y := .int b tb) hk hl (by decide) hns ht1 ⟨by decide, (show ((1 : Int)) < ((2 : Nat) : Int) by decide), by decide⟩ rfl (neg_int ?_)))
    refine Calls.spliced_cons (lam_item (y := .int a ta) hk hl (by decide) hns ht1 ⟨by decide, (show ((0 : Int)) < ((2 : Nat) : Int) by decide), by decide⟩ rfl ?_)
    refine Calls.spliced_nil ⟨by show 2 ≤ sizeLine; decide, _, _, rfl, fun b o e => Heap.get?_push_of_some _ (kp _ _ e), ?_⟩
    exact .tuple (Heap.get?_push_size _ rfl) rfl rfl (.cons (as := []) (bs := []) (.int _ _) (.cons (as := []) (bs := []) (.int _ _) .nil))
  · cases hb
theorem sortedKX {β : Type} {R : Value → β → Prop} {tk : Bool} {l f : Addr} {vs : List Value} {bs : List β} {Q : Value → Shared → Prop} (k : β → PyData) (hl : IsX tk s.heap l vs.toArray) (hz : vs.length ≤ sizeLine) (e : PySem.W.EachIs R vs bs) (hal : PySem.W.AllAlike (bs.map k)) (hk : PySem.W.Sortable (bs.map k))
    (hu : ∀ x ∈ bs, A.units + 2 + (k x).depth < cLine)
    (turn : ∀ (v : Value) (x : β), R v x → x ∈ bs → ∀ (h : Heap) (tk : Nat), (∀ b o, s.heap.get? b = some o → h.get? b = some o) → wpAny (model prog w) A.in1.in1 (call (.ref f) [v]) (PySem.W.KeyPure (k x) { s with heap := h, toks := tk }) (fun _ _ => False) { s with heap := h, toks := tk })
    (h : ∀ (out : List Value) (h' : Heap) (t' : Nat) (p : Addr) (ep : Nat), (∀ b o, s.heap.get? b = some o → h'.get? b = some o) → s.heap.objs.size ≤ p → h'.get? p = some (seqObj "list" out.toArray ep) → out.length = bs.length → PySem.W.EachIs R out (bs.mergeSort (PySem.W.dataLe false k)) → Q (.ref p) { s with heap := h', toks := t' }) :
    wpAny (model prog w) A (call (.builtin "sorted") [.ref l] [(Str.ofString "key", .ref f)]) Q E s := by
  obtain ⟨o, n, T, hT, e1, e2, e3⟩ := isX_obj hl
  refine PyProof.Rows.call_function_entry_kw kind_sorted plain_sorted entry_sorted (ksk_s1 _ _) ?_
  unfold Builtin.«sorted»
  refine wpAny_bind (m := checkCount "sorted" 1 1 _) (wpAny_pure ?_)
  refine wpAny_bind (collectX hT e1 e2 e3 (by rw [List.size_toArray]; exact hz) ?_)
  have sz1 : ((s.heap.push (seqObj "list" #[] 0)).update s.heap.objs.size (Obj.mapSeq (· ++ vs.toArray))).objs.size = s.heap.objs.size + 1 := by rw [Heap.size_update, size_push']
  have k1 : ∀ b u, s.heap.get? b = some u → ((s.heap.push (seqObj "list" #[] 0)).update s.heap.objs.size (Obj.mapSeq (· ++ vs.toArray))).get? b = some u := fun b u q => by
    rw [Heap.get?_update_ne _ _ _ _ (Nat.ne_of_lt (Heap.lt_size q))]
    exact Heap.get?_push_of_some _ q
  revert sz1 k1
  generalize ((s.heap.push (seqObj "list" #[] 0)).update s.heap.objs.size (Obj.mapSeq (· ++ vs.toArray))) = h1
  intro sz1 k1
  refine wpAny_bind (wpAny_newList ?_ hz)
  have new : s.heap.objs.size ≤ h1.objs.size := by rw [sz1]; exact Nat.le_succ _
  have at_ : (h1.push (seqObj "list" vs.toArray 0)).get? h1.objs.size = some (seqObj "list" vs.toArray 0) := Heap.get?_push_size _ rfl
  have kp : ∀ b u, s.heap.get? b = some u → b ≠ h1.objs.size ∧ (h1.push (seqObj "list" vs.toArray 0)).get? b = some u := fun b u q =>
    ⟨Nat.ne_of_lt (Heap.lt_size (k1 _ _ q)), Heap.get?_push_of_some _ (k1 _ _ q)⟩
  show wpAny _ _ _ _ _ { s with heap := h1.push (seqObj "list" vs.toArray 0) }
  refine wpAny_bind (wpAny_holding (PySem.W.list_sort_key_data (s := { s with heap := h1.push (seqObj "list" vs.toArray 0) }) (n := 0) (b := false) k at_ e hal hk (by rw [← e.length]; exact hz) (fun x hx => by have := hu x hx; show A.units + 1 + 1 + _ < _; omega) (ksk_l1 _ _) (ksk_t1 _ _) (fun v x hR hx h tk kb => ?_) fun out c h' tk' kb hD hlen ho => ?_))
  · exact turn v x hR hx h tk fun b u q => kb b u (kp b u q).1 (kp b u q).2
  · exact wpAny_pure ⟨_, rfl, h out h' tk' h1.objs.size c (fun b u q => kb b u (kp b u q).1 (kp b u q).2) new hD hlen ho⟩
end
/-- what is known of the def around a lambda -/
structure LamAt (X : Cx) (x : Str) : Prop where
  mem : x ∈ lamX
  cd : ∃ c P, PySem.W.tabIn X.K x = some (c, P) ∧ X.env.code = .ref c ∧ LamX.TabB X.base X.mg c P
  qual : X.env.qual = x ++ ".<locals>."
  nd : ∀ y ∈ lamX, ∀ c P c', PySem.W.tabIn X.K x = some (c, P) → PySem.W.tabIn X.K y = some (c', P) → y = x
  dp : X.A.depth < recursionLimit
/-- the tables with their names -/
def tabList (K : PySem.W.Frag) : List (Addr × Str) := lamX.filterMap fun x => (PySem.W.tabIn K x).map fun q => (q.2, x ++ ".<locals>.<lambda>")
theorem tabs_iff {K : PySem.W.Frag} {H : Hp} : LamX.Tabs (tabList K) H ↔ TbsOf K H := by
  constructor
  · intro h x hx c P e
    exact h (P, x ++ ".<locals>.<lambda>") (List.mem_filterMap.mpr ⟨x, hx, by rw [e]; rfl⟩)
  · intro h p hp
    obtain ⟨x, hx, e⟩ := List.mem_filterMap.mp hp
    cases q : PySem.W.tabIn K x with
    | none =>
      rw [q] at e
      cases e
    | some cp =>
      rw [q] at e
      have e : (cp.2, x ++ ".<locals>.<lambda>") = p := Option.some.inj e
      rw [← e]
      exact h x hx cp.1 cp.2 q
theorem str_assoc (a b c : Str) : a ++ b ++ c = a ++ (b ++ c) := by
  cases a with
  | mk a =>
    cases b with
    | mk b =>
      cases c with
      | mk c =>
        show Str.mk (a ++ b ++ c) = Str.mk (a ++ (b ++ c))
        rw [Array.append_assoc]
/-- a lambda is made -/
theorem lam_new {X : Cx} {x : Str} {pins : List (Addr × Obj)} {σ : L2.St} {H : Hp} {s : Shared} {p : Str} {an : Option Expr} {pp lp : Pos} {body : Expr} {sc : Scope} {E : Value → Shared → Prop} {Q : Value → Shared → Prop} (L : LamAt X x) (I : Inv X pins σ H s) (hT : TbsOf X.K H) (hs : lamScB p sc = true)
    (h : ∀ (f c' : Addr) (pm ctv : Value) (H1 : Hp) (s' : Shared), Inv X pins σ H1 s' → TabStep X.K H H1 →
      s'.heap.get? f = some (PySem.W.kla_obj "<lambda>" (x ++ ".<locals>.<lambda>") (par1 p an pp) body sc (cloFrom X.env.cells sc.names []) pm c' ctv) → (∃ (oc : Obj) (vs : Array Value) (t : Tok), s'.heap.get? c' = some oc ∧ oc.data = .fields vs ∧ vs[1]? = some (.str (x ++ ".<locals>.<lambda>") t)) → Q (.ref f) s') :
    wpAny (model X.prog X.w) X.A (eval (.Lambda (par1 p an pp) body sc lp) X.env) Q E s := by
  obtain ⟨c, P, e1, e2, TB⟩ := L.cd
  have eq : X.env.qual ++ "<lambda>" = x ++ ".<locals>.<lambda>" := by
    rw [L.qual, str_assoc]
    rfl
  have hs' := hs
  unfold lamScB at hs'
  simp only [Bool.and_eq_true, Bool.not_eq_true', decide_eq_true_eq, decide_eq_false_iff_not, List.all_eq_true] at hs'
  obtain ⟨_, L5⟩ := hs'
  have hfree : ∀ y ∈ sc.names, y.2 = .free → ∃ c, X.env.cells.lookup y.1 = some c := fun y hy z => absurd z (L5 y hy).2
  obtain ⟨ps, hP, hps, hco⟩ := hT x L.mem c P e1
  have gP : s.heap.get? P = some { cls := .none, data := .fields ps } := I.hok P _ hP
  rw [← eq] at hco h
  refine PySem.W.kla_eval (params := par1 p an pp) rfl ?_
  cases hc : codeAmong lp ps.toList with
  | some cv =>
    obtain ⟨c', rfl, hcc⟩ := hco lp cv hc
    have mk := @PySem.W.kla_makeFunctionHit
    refine mk (mg := X.mg) (c := c) (P := P) (ps := ps) (closure_ok hfree) I.ok.glob (I.mod.glob.keeps I.bk) e2 (TB.code.keeps I.bk)
      gP hps hc (TB.bm.keeps I.bk) fun ctv h' tk hx hsz => ?_
    obtain ⟨⟨oc, vs, t, a1, a2, a3⟩, _, _⟩ := I.hok c' _ hcc
    refine h h'.objs.size c' ((X.mg "__name__").getD .none) ctv H _ (I.kept fun b o e => Heap.get?_push_of_some _ (hx b o e)) ⟨LamX.ExtN.refl H, fun _ z => z, hT⟩ (Heap.get?_push_size _ rfl) ⟨oc, vs, t, Heap.get?_push_of_some _ (hx _ _ a1), a2, a3⟩
  | none =>
    have mk := @PySem.W.kla_makeFunction
    refine mk (mg := X.mg) (c := c) (P := P) (ps := ps) (closure_ok hfree) I.ok.glob (I.mod.glob.keeps I.bk) e2 (TB.code.keeps I.bk)
      gP hps hc TB.gP (TB.bm.keeps I.bk) fun c' ctv h' tk hx hge hlt hrec htb => ?_
    obtain ⟨c2, oc, vs, t, ec, hoc, hd, hv⟩ := hrec
    cases ec
    have nC : H c' = none := I.hok.fresh hge
    have I1 := LamX.inv_table (t' := tk) (more := #[rawInt lp.line, rawInt lp.col, .ref c']) (h' := h'.push (PySem.W.kla_obj "<lambda>" (X.env.qual ++ "<lambda>") (par1 p an pp) body sc (cloFrom X.env.cells sc.names []) ((X.mg "__name__").getD .none) c' ctv)) I hP
      (fun b o hb e => Heap.get?_push_of_some _ (hx b o hb e)) (Heap.get?_push_of_some _ htb) hge
      ⟨oc, vs, t, Heap.get?_push_of_some _ hoc, hd, hv⟩
    have cP : c' ≠ P := fun z => by
      rw [z, hP] at nC
      cases nC
    have hE : LamX.ExtN H (upd (upd H P (.tbl (ps ++ #[rawInt lp.line, rawInt lp.col, .ref c']))) c' (LamX.CodeO c' (X.env.qual ++ "<lambda>"))) := fun b o e n => by
      rw [upd_ne (ne_of_none e nC), upd_ne fun z => n ps (by rw [z, hP] at e; exact (Option.some.inj e).symm)]
      exact e
    refine h h'.objs.size c' ((X.mg "__name__").getD .none) ctv _ _ I1 ⟨hE, fun a ha => ?_, fun y hy cy Py ey => ?_⟩ (Heap.get?_push_size _ rfl) ⟨oc, vs, t, Heap.get?_push_of_some _ hoc, hd, hv⟩
    · by_cases z1 : a = c'
      · rw [z1, upd_same]
        exact nofun
      · rw [upd_ne z1]
        by_cases z2 : a = P
        · rw [z2, upd_same]
          exact nofun
        · rw [upd_ne z2]
          exact ha
    · have al : (ps ++ #[rawInt lp.line, rawInt lp.col, .ref c']).toList = ps.toList ++ [rawInt lp.line, rawInt lp.col, .ref c'] := by simp
      by_cases hb : Py = P
      · have exy : y = x := L.nd y hy c P cy e1 (by rw [ey, hb])
        subst exy
        rw [hb, ← eq]
        refine ⟨_, by rw [upd_ne cP.symm, upd_same], by rw [al]; exact PySem.TriplesOk_snoc _ _ _ _ hps, fun p' cv hcv => ?_⟩
        rw [al] at hcv
        rcases LamX.among_app _ hps hcv with z | z
        · obtain ⟨c0, a1, a2⟩ := hco p' cv z
          exact ⟨c0, a1, hE _ _ a2 LamX.codeO_ne⟩
        · exact ⟨c', z, upd_same⟩
      · obtain ⟨ps', a1, a2, a3⟩ := hT y hy cy Py ey
        refine ⟨ps', by rw [upd_ne (ne_of_none a1 nC), upd_ne hb]; exact a1, a2, fun p' cv hcv => ?_⟩
        obtain ⟨c0, b1, b2⟩ := a3 p' cv hcv
        exact ⟨c0, b1, hE _ _ b2 LamX.codeO_ne⟩
def tSrtK (K : PySem.W.Frag) (te : TE) : TE := fun σ H Q => te σ H fun v H1 => ∃ (tk : Bool) (a : Addr) (zs : List (Addr × Int × Int)), v = .ref a ∧ SqX tk K H1 a (zs.map fun z => V.ref z.1) ∧ (∀ z ∈ zs, SqT K H1 z.1 [.int z.2.1, .int z.2.2]) ∧ TbsOf K H1 ∧
  ∀ (H2 : Hp) (qs : List (Addr × Int × Int)) (p : Addr), TabStep K H1 H2 → qs.Perm zs → (qs.map (·.2)).Pairwise leK → H2 p = none → Q (.ref p) (upd H2 p (.lst (qs.map fun z => V.ref z.1)))
theorem sqt_extN {K : PySem.W.Frag} {H H' : Hp} {a : Addr} {xs : List V} (e : LamX.ExtN H H') (h : SqT K H a xs) : SqT K H' a xs := by
  rcases h with (h | ⟨o, h⟩) | h
  · exact .inl (.inl (e _ _ h fun _ z => nomatch z))
  · exact .inl (.inr ⟨o, e _ _ h fun _ z => nomatch z⟩)
  · exact .inr h
theorem sql_extN {K : PySem.W.Frag} {H H' : Hp} {a : Addr} {xs : List V} (e : LamX.ExtN H H') (h : SqL K H a xs) : SqL K H' a xs := by
  rcases h with (h | ⟨o, h⟩) | h
  · exact .inl (.inl (e _ _ h fun _ z => nomatch z))
  · exact .inl (.inr ⟨o, e _ _ h fun _ z => nomatch z⟩)
  · exact .inr h
theorem sqx_extN {tk : Bool} {K : PySem.W.Frag} {H H' : Hp} {a : Addr} {xs : List V} (e : LamX.ExtN H H') (h : SqX tk K H a xs) : SqX tk K H' a xs := by
  cases tk with
  | true => exact sqt_extN e h
  | false => exact sql_extN e h
theorem each_refs {zs : List (Addr × Int × Int)} : PySem.W.EachIs (fun (v : Value) (z : Addr × Int × Int) => v = .ref z.1) (zs.map fun z => Value.ref z.1) zs := by
  induction zs with
  | nil => exact .nil
  | cons z zs ih => exact .cons rfl ih
theorem each_out {out : List Value} {zs : List (Addr × Int × Int)} (h : PySem.W.EachIs (fun (v : Value) (z : Addr × Int × Int) => v = .ref z.1) out zs) : out = zs.map fun z => Value.ref z.1 := by
  induction h with
  | nil => rfl
  | cons e _ ih => rw [List.map_cons, e, ih]
theorem vals_refs : ∀ {zs : List (Addr × Int × Int)} {its : List Value}, Vals (zs.map fun z => V.ref z.1) its → its = zs.map fun z => Value.ref z.1
  | [], _, .nil => rfl
  | z :: zs, _, .cons r rs => by
    cases r
    rw [vals_refs rs]
    rfl
theorem pe_srtK {X : Cx} {x : Str} {e : Expr} {te : TE} {p pos kp pp lp : Pos} {an : Option Expr} {body : Expr} {sc : Scope} (L : LamAt X x) (hu : X.A.units + 70 < cLine) (hg : Gl X "sorted") (hm : X.mg "sorted" = none) (he : PE X e te) (st : starEach [e] X.env = (false, eval e X.env) :: starEach [] X.env) (hb : keyBody "pair" body = true) (hs : lamScB "pair" sc = true) :
    PE X (.Call (.Name "sorted" p) [e] [⟨some "key", .Lambda (par1 "pair" an pp) body sc lp, kp⟩] pos) (tSrtK X.K te) := by
  refine ⟨fun pins s σ H Q I h => ?_⟩
  refine wpAny_Call_Name_kw (ld_blt I hg hm PyProof.Rows.boot_sorted ?_ (by decide) (by decide))
  refine PyProof.Rows.callWith_kw ?_ (by rw [st]; rfl) (by rw [st]; rfl) rfl rfl
  refine thn ((pa_cons he pa_nil st).run pos pins s σ H (fun vs H1 => match vs with
    | [v] => ∃ (tk : Bool) (a : Addr) (zs : List (Addr × Int × Int)), v = .ref a ∧ SqX tk X.K H1 a (zs.map fun z => V.ref z.1) ∧ (∀ z ∈ zs, SqT X.K H1 z.1 [.int z.2.1, .int z.2.2]) ∧ TbsOf X.K H1 ∧
      ∀ (H2 : Hp) (qs : List (Addr × Int × Int)) (p : Addr), TabStep X.K H1 H2 → qs.Perm zs → (qs.map (·.2)).Pairwise leK → H2 p = none → Q (.ref p) (upd H2 p (.lst (qs.map fun z => V.ref z.1)))
    | _ => False) I h) fun us s1 ⟨vs, H1, I1, r1, hq⟩ => ?_
  match vs, hq with
  | [v], ⟨tk, a, zs, ea, hs1, hz, ht, q⟩ => ?_
  subst ea
  obtain rfl := Vals.ref1 r1
  refine PyProof.Rows.evalAll_cons (wpAny_bind (lam_new L I1 ht hs fun f c' pm ctv H2 s' I2 st2 hf hco => wpAny_bind (wpAny_standAt (wpAny_pure (PyProof.Rows.evalAll_nil ?_)))))
  have hs2 := sqx_extN st2.ext hs1
  obtain ⟨its, rv, hl, _⟩ := invX I2 hs2
  have hi := vals_refs rv
  have hzl : its.length ≤ sizeLine := by
    have l := rv.length
    cases tk with
    | true =>
      obtain ⟨_, _, _, z⟩ := I2.tuple (show SqT X.K H2 a _ from hs2)
      omega
    | false =>
      obtain ⟨_, _, _, z⟩ := I2.list (show SqL X.K H2 a _ from hs2)
      omega
  subst hi
  have hp : ∀ z ∈ zs, ∃ ta tb, IsTup s'.heap z.1 #[.int z.2.1 ta, .int z.2.2 tb] := fun z hz' => by
    obtain ⟨its2, r2, pl, _⟩ := I2.tuple (sqt_extN st2.ext (hz z hz'))
    obtain ⟨u1, u2, rfl, ri, rj⟩ := vals2 r2
    obtain ⟨t1, rfl⟩ := ri
    obtain ⟨t2, rfl⟩ := rj
    exact ⟨t1, t2, pl⟩
  show wpAny _ _ (call (.builtin "sorted") [.ref a] [(Str.ofString "key", .ref f)]) _ _ s'
  refine sortedKX (bs := zs) (fun z => .tuple [.int (-z.2.2), .int z.2.1]) hl hzl each_refs ?_ ?_ ?_ (fun v z ev hz' h tk kp => ?_) fun out h' t' p ep kp hpn hD hlen ho => ?_
  · intro d hd d' hd'
    obtain ⟨z, _, rfl⟩ := List.mem_map.mp hd
    obtain ⟨z', _, rfl⟩ := List.mem_map.mp hd'
    rfl
  · refine .inl fun d hd => ?_
    obtain ⟨z, _, rfl⟩ := List.mem_map.mp hd
    exact ⟨_, _, rfl⟩
  · intro z _
    simp only [PyData.depth, PyData.depthAll]
    omega
  · subst ev
    obtain ⟨ta, tb, o, e1, e2⟩ := hp z hz'
    obtain ⟨oc, ws, t, a1, a2, a3⟩ := hco
    exact lam_keyS (s := { s' with heap := h, toks := tk }) L.dp (kp _ _ hf) ⟨oc, ws, t, kp _ _ a1, a2, a3⟩ (I2.nolimit.keeps kp) hs hb ⟨o, kp _ _ e1, e2⟩
  · have eo := each_out ho
    have I3 : Inv X pins σ H2 { s' with heap := h', toks := t' } := I2.kept kp
    have hperm : (zs.mergeSort (PySem.W.dataLe false fun z : Addr × Int × Int => .tuple [.int (-z.2.2), .int z.2.1])).Perm zs := List.mergeSort_perm _ _
    have hsort : ((zs.mergeSort (PySem.W.dataLe false fun z : Addr × Int × Int => .tuple [.int (-z.2.2), .int z.2.1])).map (·.2)).Pairwise leK := by
      have T := PySem.W.sortLe_total (PyProof.Rows.listOrd PyProof.Rows.itemOrd) false fun z : Addr × Int × Int => PySem.W.keyToks (.tuple [.int (-z.2.2), .int z.2.1])
      have hp2 := List.pairwise_mergeSort (le := PySem.W.dataLe false fun z : Addr × Int × Int => .tuple [.int (-z.2.2), .int z.2.1]) T.trans (fun a b => by rw [Bool.or_eq_true]; exact T.total a b) zs
      rw [List.pairwise_map]
      refine hp2.imp fun {u v} h => ?_
      rw [PySem.W.dataLe_eq] at h
      have h : (!PySem.W.dataLt (.tuple [.int (-v.2.2), .int v.2.1]) (.tuple [.int (-u.2.2), .int u.2.1])) = true := h
      rw [PySem.W.dataLt_ii, Bool.not_eq_true', decide_eq_false_iff_not] at h
      unfold leK
      omega
    generalize zs.mergeSort (PySem.W.dataLe false fun z : Addr × Int × Int => .tuple [.int (-z.2.2), .int z.2.1]) = qs at hperm hsort eo
    have hlen2 : (qs.map fun z => V.ref z.1).length ≤ sizeLine := by
      have := hperm.length_eq
      rw [List.length_map] at hzl ⊢
      omega
    have hn : H2 p = none := I2.hok.fresh hpn
    have rv2 : Vals (qs.map fun z => V.ref z.1) out := by
      rw [eo]
      exact vals_maps (fun z : Addr × Int × Int => V.ref z.1) (fun z => Value.ref z.1) qs fun _ _ => rfl
    exact ⟨.ref p, _, I2.laid (t' := t') (o := .lst (qs.map fun z => V.ref z.1)) kp hpn ⟨hlen2, out, ep, rv2, hD⟩, rfl, q H2 qs p st2 hperm hsort hn⟩

section
variable {K : PySem.W.Frag} {c : Ent} {F H H2 F' H' : Hp} {σ : L2.St} {ρ ρ' : Store}
theorem Ok.tab (ok : Ok K c F H σ ρ) (st : TabStep K H H2) : Ok K c F H2 σ ρ where
  fh := fun a o e => st.ext a o (ok.fh a o e) fun ps z => ok.nt a ps (by rw [← z]; exact e)
  ln := ok.ln
  e0 := fun a h => st.hn a (ok.e0 a h)
  e1 := fun a o h nt m => st.ext a o (ok.e1 a o h nt m) nt
  e2 := ok.e2
  e3 := ok.e3
  eb := ok.eb
  sl := fun i m d h => by
    obtain ⟨v, e, r⟩ := ok.sl i m d h
    refine ⟨v, e, ?_⟩
    cases m with
    | v => exact r
    | o => exact ⟨r.1.mono (Same.refl _) fun a xs _ q => st.ext a _ q fun _ z => (nomatch z), r.2⟩
    | m => exact ⟨r.1.mono (Same.refl _) fun a xs _ q => st.ext a _ q fun _ z => (nomatch z), r.2⟩
  ds := ok.ds
  tb := fun _ => st.tb
  te := ok.te
  nt := ok.nt
theorem Ext.tab (e : Ext σ ρ F H ρ' F' H') (st : TabStep K H' H2) : Ext σ ρ F H ρ' F' H2 where
  ff := e.ff
  nf := e.nf
  hh := fun a o h nt n => st.ext a o (e.hh a o h nt n) nt
  hn := fun a h => st.hn a (e.hn a h)
  md := e.md
end
theorem sn_srtK {X : Cx} {c : Ent} {x : Str} {e : Expr} {a1 : WO} {p pos kp pp lp : Pos} {an : Option Expr} {body : Expr} {sc : Scope} (L : LamAt X x) (hu : X.A.units + 70 < cLine) (hg : Gl X "sorted") (hm : X.mg "sorted" = none) (he : PE X e (tO X.K c a1)) (st : starEach [e] X.env = (false, eval e X.env) :: starEach [] X.env) (hb : keyBody "pair" body = true) (hs : lamScB "pair" sc = true) :
    PE X (.Call (.Name "sorted" p) [e] [⟨some "key", .Lambda (par1 "pair" an pp) body sc lp, kp⟩] pos) (tB X.K c fun ρ Q => a1 ρ fun x ρ1 => conts ρ1 [x] fun ds => bfS .srtK ds fun d => Q d (isMut d) ρ1) :=
  PE.imp (pe_srtK L hu hg hm he st hb hs) fun σ H Q ⟨F, ρ, Qd, ok, g, q⟩ => ⟨F, ρ, _, ok, g, fun x ρ1 v F1 H1 hx ok1 ex1 r1 => by
    obtain ⟨ds, rds, xs, ps, e1, e2, hq⟩ : ∃ ds, Reds X.K F1 H1 [v] [ds] ∧ ∃ xs ps, seqOf ds = some xs ∧ pairsD xs = some ps ∧ ∀ qs : List (Int × Int), qs.Perm ps → qs.Pairwise leK → Qd (.list (qs.map ipD)) true ρ1 := by
      obtain ⟨ds, rds, hf⟩ := conts_reds ok1 (.cons r1 .nil) hx
      match ds, rds, hf with
      | [d], rds, hf => exact ⟨d, rds, hf⟩
    obtain ⟨w, ew, rv⟩ := rds.one
    injection ew with ew _
    subst ew
    obtain ⟨tk, a, vs, rfl, s1, rs⟩ := red_sqx ok1.fh rv e1
    obtain ⟨zs, rfl, rfl, hz⟩ := rs.pairsV e2
    refine ⟨tk, a, zs, rfl, s1, fun z h => (plt_mono ok1.fh (hz z h)).sqt, ok1.tb ok1.te, fun H2 qs p st2 hp hsr hn => ?_⟩
    have ok2 := ok1.tab st2
    have ex2 := ex1.tab st2
    have ne := NewE.own (o := .lst (qs.map fun z => V.ref z.1)) (a := p) ok2.fh hn
    refine q (.list ((qs.map (·.2)).map ipD)) true ρ1 (.ref p) F1 _ (hq _ (hp.map _) hsr) (ok2.newE ne) (ex2.trans ne.ext) (.of_own ⟨⟨p, _, rfl, upd_same, reps_pairs qs fun z h => hz z (hp.mem_iff.mp h)⟩, fun b eb => ?_⟩)
    cases eb
    refine ⟨ok2.fh.free hn, ?_⟩
    cases z : H p with
    | none => rfl
    | some o => exact absurd hn (st2.hn p (ex1.hn p (by rw [z]; exact nofun)))⟩
end DL

set_option maxHeartbeats 4000000
/-! DL part Z2: min(x, key=lambda row: row[2]), x a tuple of triples. -/
namespace DL
open PySem PySem.Spec PyProof.Rows L2
section
variable {prog : Program} {w : World} {A : Around} {E : Value → Shared → Prop} {s : Shared}
/-- what the key's call leaves: an int, all that stood stands -/
theorem lam_key2 {f c' t : Addr} {qual : Str} {an : Option Expr} {pp : Pos} {body : Expr} {scope : Scope} {clo : List (Str × Addr)} {pm ctv : Value} {its : Array Value} {k : Int} {tk : Tok} {Q : Value → Shared → Prop} (hdep : A.depth < recursionLimit)
    (hf : s.heap.get? f = some (PySem.W.kla_obj "<lambda>" qual (par1 "row" an pp) body scope clo pm c' ctv)) (hcode : ∃ (oc : Obj) (vs : Array Value) (t : Tok), s.heap.get? c' = some oc ∧ oc.data = .fields vs ∧ vs[1]? = some (.str qual t)) (lim : s.heap.NoLimit) (L : lamScB "row" scope = true)
    (hb : keyBody2 "row" body = true) (ht : IsTup s.heap t its) (hz : 2 < its.size) (hi : its[2]? = some (.int k tk))
    (h : ∀ (h' : Heap) (tok : Nat), (∀ b o, s.heap.get? b = some o → h'.get? b = some o) → Q (.int k tk) { s with heap := h', toks := tok }) :
    wpAny (model prog w) A (call (.ref f) [.ref t]) Q (fun _ _ => False) s := by
  have L' := L
  unfold lamScB at L'
  simp only [Bool.and_eq_true, Bool.not_eq_true', decide_eq_true_eq, decide_eq_false_iff_not, List.all_eq_true] at L'
  obtain ⟨⟨⟨⟨L1, _⟩, _⟩, L4⟩, _⟩ := L'
  unfold keyBody2 at hb
  split at hb
  · rename_i x q1 i j1 q2 q3
    simp only [Bool.and_eq_true, decide_eq_true_eq] at hb
    obtain ⟨rfl, rfl⟩ := hb
    refine lam_call (oc := 0) hdep hf hcode lim L bind_row fun env h₁ he hns kp => ?_
    have hk : env.scope.kind = .function := by rw [he]; exact L1
    have hl : env.scope.names.lookup ("row" : Str) = some .local := by rw [he]; exact L4
    have ht1 : IsTup h₁ t its := by
      obtain ⟨o, e1, e2⟩ := ht
      exact ⟨o, kp _ _ e1, e2⟩
    refine lam_item (y := .int k tk) hk hl (by decide) hns ht1 ⟨by decide, by omega, by decide⟩ hi ?_
    exact h _ _ kp
  · cases hb
theorem argBest_first (kf : Nat → Int) : ∀ k : Nat, argBest (fun i j => decide (kf i < kf j)) k ≤ k ∧ ∀ j ≤ k, kf (argBest (fun i j => decide (kf i < kf j)) k) ≤ kf j ∧ (j < argBest (fun i j => decide (kf i < kf j)) k → kf (argBest (fun i j => decide (kf i < kf j)) k) < kf j)
  | 0 => ⟨Nat.le_refl _, fun j hj => by
    have : j = 0 := by omega
    subst this
    exact ⟨Int.le_refl _, fun h => absurd h (Nat.lt_irrefl _)⟩⟩
  | k + 1 => by
    obtain ⟨i1, i2⟩ := argBest_first kf k
    show (if decide (kf (k + 1) < kf (argBest (fun i j => decide (kf i < kf j)) k)) then k + 1 else argBest (fun i j => decide (kf i < kf j)) k) ≤ k + 1 ∧ ∀ j ≤ k + 1, kf (if decide (kf (k + 1) < kf (argBest (fun i j => decide (kf i < kf j)) k)) then k + 1 else argBest (fun i j => decide (kf i < kf j)) k) ≤ kf j ∧ (j < (if decide (kf (k + 1) < kf (argBest (fun i j => decide (kf i < kf j)) k)) then k + 1 else argBest (fun i j => decide (kf i < kf j)) k) → kf (if decide (kf (k + 1) < kf (argBest (fun i j => decide (kf i < kf j)) k)) then k + 1 else argBest (fun i j => decide (kf i < kf j)) k) < kf j)
    generalize argBest (fun i j => decide (kf i < kf j)) k = b at *
    by_cases h : kf (k + 1) < kf b
    · rw [if_pos (decide_eq_true h)]
      refine ⟨Nat.le_refl _, fun j hj => ?_⟩
      by_cases e : j = k + 1
      · subst e
        exact ⟨Int.le_refl _, fun h => absurd h (Nat.lt_irrefl _)⟩
      · have := (i2 j (by omega)).1
        exact ⟨by omega, fun _ => by omega⟩
    · rw [if_neg (by simpa using h)]
      refine ⟨by omega, fun j hj => ?_⟩
      by_cases e : j = k + 1
      · subst e
        exact ⟨by omega, fun z => by omega⟩
      · exact i2 j (by omega)
theorem min_lamT {l f c' : Addr} {vs : Array Value} {qual : Str} {an : Option Expr} {pp : Pos} {body : Expr} {scope : Scope} {clo : List (Str × Addr)} {pm ctv : Value} {Q : Value → Shared → Prop} (kf : Nat → Int) (hh : A.handled = none) (hdep : A.in1.depth < recursionLimit) (hl : s.heap.IsTuple l vs) (hn : 0 < vs.size)
    (hf : s.heap.get? f = some (PySem.W.kla_obj "<lambda>" qual (par1 "row" an pp) body scope clo pm c' ctv)) (hcode : ∃ (oc : Obj) (vs : Array Value) (t : Tok), s.heap.get? c' = some oc ∧ oc.data = .fields vs ∧ vs[1]? = some (.str qual t)) (lim : s.heap.NoLimit) (L : lamScB "row" scope = true)
    (hb : keyBody2 "row" body = true) (hi : ∀ (i : Nat) (v : Value), vs[i]? = some v → ∃ (t : Addr) (its : Array Value) (tk : Tok), v = .ref t ∧ IsTup s.heap t its ∧ 2 < its.size ∧ its[2]? = some (.int (kf i) tk))
    (h : ∀ (i : Nat) (v : Value) (h' : Heap) (tok : Nat), vs[i]? = some v → (∀ j, j < vs.size → kf i ≤ kf j ∧ (j < i → kf i < kf j)) → (∀ b o, s.heap.get? b = some o → h'.get? b = some o) → Q v { s with heap := h', toks := tok }) :
    wpAny (model prog w) A (call (.builtin "min") [.ref l] [(Str.ofString "key", .ref f)]) Q E s := by
  refine call_min_walkK (PySem.W.iter_tupleW (A := A.in1) hh hl fun s₂ e W st hfp hw hk => ?_)
  subst e
  refine ⟨_, _, _, _, _, _, _, fun s' => ∃ (h' : Heap) (tok : Nat), s' = { s with heap := h', toks := tok } ∧ ∀ b o, s.heap.get? b = some o → h'.get? b = some o, fun i k _ => ∃ t, k = .int (kf i) t, fun i j => decide (kf i < kf j), rfl, W, st, hfp, hn, ⟨?_, ?_, ?_, ?_⟩, ⟨_, _, rfl, hk⟩, ?_⟩
  · rintro s1 s2 ⟨h1, t1, rfl, k1⟩ m
    obtain ⟨hp, g, d, tk, os⟩ := s2
    have e1 : g = s.gens := m.gens
    have e2 : d = s.drawn := m.drawn
    have e3 : os = s.os := m.os
    subst e1 e2 e3
    refine ⟨hp, tk, rfl, fun b o eb => m.heap b o (fun hb => ?_) (k1 b o eb)⟩
    have hlt := Heap.lt_size eb
    rcases List.mem_cons.mp hb with q | q
    · have : (s.heap.push { cls := .type "tuple_iterator", data := .fields #[.ref l, .int 0 0] }).objs.size = s.heap.objs.size + 1 := size_push' ..
      have q : b = (s.heap.push { cls := .type "tuple_iterator", data := .fields #[.ref l, .int 0 0] }).objs.size := q
      rw [this] at q
      rw [q] at hlt
      exact Nat.lt_irrefl _ (Nat.lt_of_succ_lt hlt)
    · have q : b = s.heap.objs.size := List.mem_singleton.mp q
      rw [q] at hlt
      exact Nat.lt_irrefl _ hlt
  · intro i k s1 s2 v _
    exact v
  · rintro i v s1 o Q2 E2 hin hv ⟨h1, t1, rfl, k1⟩ hst hS hq
    obtain ⟨t, its, tk, rfl, ht, hz, hit⟩ := hi i v hv
    obtain ⟨ot, ot1, ot2⟩ := ht
    obtain ⟨oc, ws, tc, hoc, hoc2⟩ := hcode
    refine wpAny_mono (lam_key2 (s := { s with heap := h1, toks := t1 }) hdep (k1 _ _ hf) ⟨oc, ws, tc, k1 _ _ hoc, hoc2⟩ (lim.keeps k1) L hb ⟨ot, k1 _ _ ot1, ot2⟩ hz hit (Q := Q2) fun h2 t2 k2 => ?_) (fun _ _ q => q) fun _ _ q => q.elim
    refine hq _ _ ⟨h2, t2, rfl, fun b o eb => k2 b o (k1 b o eb)⟩ ?_ (k2 _ _ hS) ⟨tk, rfl⟩ fun j k' q => q
    obtain ⟨⟨o1, a1, a2⟩, ⟨o2, b1, b2⟩⟩ := hst
    exact ⟨⟨o1, k2 _ _ a1, a2⟩, ⟨o2, k2 _ _ b1, b2⟩⟩
  · rintro i j ki kj s1 Q2 E2 _ ⟨ti, rfl⟩ ⟨tj, rfl⟩ hq
    exact CmpOf.ints_lt (prog := prog) (w := w) (A := A.in1) (P := fun i v => ∃ t, v = .int (kf i) t) kf (fun i v h => h) i j _ _ _ _ _ ⟨ti, rfl⟩ ⟨tj, rfl⟩ hq
  · rintro v s' hP ⟨h1, t1, rfl, k1⟩
    obtain ⟨a1, a2⟩ := argBest_first kf (vs.size - 1)
    exact h _ v h1 t1 hP (fun j hj => a2 j (by omega)) k1
end
def tMinK (K : PySem.W.Frag) (te : TE) : TE := fun σ H Q => te σ H fun v H1 => ∃ (a : Addr) (zs : List (Addr × List V × Int)), v = .ref a ∧ SqT K H1 a (zs.map fun z => V.ref z.1) ∧ 0 < zs.length ∧ (∀ z ∈ zs, SqT K H1 z.1 z.2.1 ∧ z.2.1[2]? = some (.int z.2.2)) ∧ TbsOf K H1 ∧
  ∀ (H2 : Hp) (i : Nat) (z : Addr × List V × Int), TabStep K H1 H2 → zs[i]? = some z → (∀ (j : Nat) (w : Addr × List V × Int), zs[j]? = some w → z.2.2 ≤ w.2.2 ∧ (j < i → z.2.2 < w.2.2)) → Q (.ref z.1) H2
theorem vals_refs3 : ∀ {zs : List (Addr × List V × Int)} {its : List Value}, Vals (zs.map fun z => V.ref z.1) its → its = zs.map fun z => Value.ref z.1
  | [], _, .nil => rfl
  | z :: zs, _, .cons r rs => by
    cases r
    rw [vals_refs3 rs]
    rfl
theorem vals_at : ∀ {xs : List V} {its : List Value} {i : Nat} {x : V}, Vals xs its → xs[i]? = some x → ∃ u, its[i]? = some u ∧ RelV x u
  | _ :: _, _, 0, _, .cons r _, e => by
    cases e
    exact ⟨_, rfl, r⟩
  | _ :: xs, _, i + 1, x, .cons _ rs, e => vals_at (xs := xs) (i := i) rs e
theorem pe_minK {X : Cx} {x : Str} {e : Expr} {te : TE} {p pos kp pp lp : Pos} {an : Option Expr} {body : Expr} {sc : Scope} (L : LamAt X x) (hc : X.calm = true) (hdp : X.A.in1.depth < recursionLimit) (hg : Gl X "min") (hm : X.mg "min" = none) (he : PE X e te) (st : starEach [e] X.env = (false, eval e X.env) :: starEach [] X.env) (hb : keyBody2 "row" body = true) (hs : lamScB "row" sc = true) :
    PE X (.Call (.Name "min" p) [e] [⟨some "key", .Lambda (par1 "row" an pp) body sc lp, kp⟩] pos) (tMinK X.K te) := by
  refine ⟨fun pins s σ H Q I h => ?_⟩
  refine wpAny_Call_Name_kw (ld_blt I hg hm (show bootBuiltins "min" = some (.builtin "min") by decide +kernel) ?_ (by decide) (by decide))
  refine PyProof.Rows.callWith_kw ?_ (by rw [st]; rfl) (by rw [st]; rfl) rfl rfl
  refine thn ((pa_cons he pa_nil st).run pos pins s σ H (fun vs H1 => match vs with
    | [v] => ∃ (a : Addr) (zs : List (Addr × List V × Int)), v = .ref a ∧ SqT X.K H1 a (zs.map fun z => V.ref z.1) ∧ 0 < zs.length ∧ (∀ z ∈ zs, SqT X.K H1 z.1 z.2.1 ∧ z.2.1[2]? = some (.int z.2.2)) ∧ TbsOf X.K H1 ∧
      ∀ (H2 : Hp) (i : Nat) (z : Addr × List V × Int), TabStep X.K H1 H2 → zs[i]? = some z → (∀ (j : Nat) (w : Addr × List V × Int), zs[j]? = some w → z.2.2 ≤ w.2.2 ∧ (j < i → z.2.2 < w.2.2)) → Q (.ref z.1) H2
    | _ => False) I h) fun us s1 ⟨vs, H1, I1, r1, hq⟩ => ?_
  match vs, hq with
  | [v], ⟨a, zs, ea, hs1, hn, hz, ht, q⟩ => ?_
  subst ea
  obtain rfl := Vals.ref1 r1
  refine PyProof.Rows.evalAll_cons (wpAny_bind (lam_new L I1 ht hs fun f c' pm ctv H2 s' I2 st2 hf hco => wpAny_bind (wpAny_standAt (wpAny_pure (PyProof.Rows.evalAll_nil ?_)))))
  obtain ⟨its, rv, hl, _⟩ := I2.tuple (sqt_extN st2.ext hs1)
  have hi := vals_refs3 rv
  subst hi
  show wpAny _ _ (call (.builtin "min") [.ref a] [(Str.ofString "key", .ref f)]) _ _ s'
  refine min_lamT (vs := (zs.map fun z : Addr × List V × Int => Value.ref z.1).toArray) (fun i => (zs[i]?.map fun z : Addr × List V × Int => z.2.2).getD 0) (I2.ok.hd hc) hdp (show s'.heap.IsTuple a _ from hl) (by rw [List.size_toArray, List.length_map]; exact hn) hf hco I2.nolimit hs hb (fun i v hv => ?_) fun i v h' tok hv hbest kp => ?_
  · rw [List.getElem?_toArray, List.getElem?_map] at hv
    cases ez : zs[i]? with
    | none =>
      rw [ez] at hv
      cases hv
    | some z =>
      rw [ez] at hv
      cases hv
      obtain ⟨z1, z2⟩ := hz z (List.mem_of_getElem? ez)
      obtain ⟨its2, r2, pl, _⟩ := I2.tuple (sqt_extN st2.ext z1)
      obtain ⟨u, hu, ru⟩ := vals_at r2 z2
      obtain ⟨t, rfl⟩ := ru
      have hlt : 2 < its2.length := (List.getElem?_eq_some_iff.mp hu).1
      exact ⟨z.1, its2.toArray, t, rfl, pl, by rw [List.size_toArray]; exact hlt, by rw [List.getElem?_toArray]; exact hu⟩
  · rw [List.getElem?_toArray, List.getElem?_map] at hv
    cases ez : zs[i]? with
    | none =>
      rw [ez] at hv
      cases hv
    | some z =>
      rw [ez] at hv
      cases hv
      refine ⟨.ref z.1, H2, I2.kept kp, rfl, q H2 i z st2 ez fun j w hw => ?_⟩
      have hj : j < ((zs.map fun z : Addr × List V × Int => Value.ref z.1).toArray).size := by
        rw [List.size_toArray, List.length_map]
        exact (List.getElem?_eq_some_iff.mp hw).1
      have := hbest j hj
      rw [ez, hw] at this
      exact this
theorem third_tup {d : D} {k : Int} (h : thirdD d = some k) : ∃ a b, d = .tuple [a, b, .int k] := by
  unfold thirdD at h
  split at h
  · cases h
    exact ⟨_, _, rfl⟩
  · cases h
theorem reps_third {K : PySem.W.Frag} {F : Hp} : ∀ {vs : List V} {xs : List D}, Reps K F vs xs → (∀ e ∈ xs, ∃ k, thirdD e = some k) → ∃ zs : List (Addr × List V × Int), vs = (zs.map fun z => V.ref z.1) ∧ zs.length = xs.length ∧
    ∀ (i : Nat) (z : Addr × List V × Int), zs[i]? = some z → ∃ e, xs[i]? = some e ∧ thirdD e = some z.2.2 ∧ PlT K F z.1 z.2.1 ∧ z.2.1[2]? = some (.int z.2.2) ∧ Rep K F (.ref z.1) e
  | _, [], .nil, _ => ⟨[], rfl, rfl, fun i z h => by cases i <;> cases h⟩
  | _, d :: ds, .cons r rs, h => by
    obtain ⟨k, hk⟩ := h d List.mem_cons_self
    obtain ⟨a, b, rfl⟩ := third_tup hk
    obtain ⟨zs, rfl, hl, hz⟩ := reps_third rs fun e he => h e (List.mem_cons_of_mem _ he)
    have r0 := r
    cases r with
    | @tup _ vs3 _ s r2 =>
      cases r2 with
      | cons q1 q2 =>
        cases q2 with
        | cons q3 q4 =>
          cases q4 with
          | cons q5 q6 =>
            cases q5
            cases q6
            rename_i aa v1 v2
            refine ⟨(aa, [v1, v2, V.int k], k) :: zs, rfl, congrArg Nat.succ hl, fun i z hi => ?_⟩
            cases i with
            | zero =>
              cases hi
              exact ⟨_, rfl, rfl, s, rfl, r0⟩
            | succ i => exact hz i z hi
theorem sn_minK {X : Cx} {c : Ent} {x : Str} {e : Expr} {a1 : WO} {p pos kp pp lp : Pos} {an : Option Expr} {body : Expr} {sc : Scope} (L : LamAt X x) (hc : X.calm = true) (hdp : X.A.in1.depth < recursionLimit) (hg : Gl X "min") (hm : X.mg "min" = none) (he : PE X e (tO X.K c a1)) (st : starEach [e] X.env = (false, eval e X.env) :: starEach [] X.env) (hb : keyBody2 "row" body = true) (hs : lamScB "row" sc = true) :
    PE X (.Call (.Name "min" p) [e] [⟨some "key", .Lambda (par1 "row" an pp) body sc lp, kp⟩] pos) (tB X.K c fun ρ Q => a1 ρ fun x ρ1 => conts ρ1 [x] fun ds => bfS .minK ds fun d => Q d (isMut d) ρ1) :=
  PE.imp (pe_minK L hc hdp hg hm he st hb hs) fun σ H Q ⟨F, ρ, Qd, ok, g, q⟩ => ⟨F, ρ, _, ok, g, fun x ρ1 v F1 H1 hx ok1 ex1 r1 => by
    obtain ⟨ds, rds, xs, e1, e0, e2, hq⟩ : ∃ ds, Reds X.K F1 H1 [v] [ds] ∧ ∃ xs, ds = .tuple xs ∧ 0 < xs.length ∧ (∀ e ∈ xs, ∃ k, thirdD e = some k) ∧ ∀ (i : Nat) (d : D) (k : Int), xs[i]? = some d → thirdD d = some k → (∀ (j : Nat) (e : D), xs[j]? = some e → ∃ m, thirdD e = some m ∧ k ≤ m ∧ (j < i → k < m)) → Qd d (isMut d) ρ1 := by
      obtain ⟨ds, rds, hf⟩ := conts_reds ok1 (.cons r1 .nil) hx
      match ds, rds, hf with
      | [.tuple xs], rds, hf => exact ⟨_, rds, xs, rfl, hf⟩
    subst e1
    obtain ⟨w, ew, rv⟩ := rds.one
    injection ew with ew _
    subst ew
    obtain ⟨a, vs, rfl, s1, rs⟩ := rv.tup ok1.fh
    obtain ⟨zs, rfl, hzl, hz⟩ := reps_third rs e2
    refine ⟨a, zs, rfl, s1, by omega, fun z h => ?_, ok1.tb ok1.te, fun H2 i z st2 hi hbest => ?_⟩
    · obtain ⟨i, hi, e⟩ := List.getElem_of_mem h
      obtain ⟨_, _, _, h3, h4, _⟩ := hz i z (by rw [List.getElem?_eq_getElem hi, e])
      exact ⟨(plt_mono ok1.fh h3).sqt, h4⟩
    · obtain ⟨d, hd, hk, _, _, hr⟩ := hz i z hi
      have hmut : isMut d = false := by
        obtain ⟨a, b, rfl⟩ := third_tup hk
        rfl
      have hqd := hq i d z.2.2 hd hk fun j e he => by
        have hj : j < zs.length := by
          rw [hzl]
          exact (List.getElem?_eq_some_iff.mp he).1
        obtain ⟨e', he', hk', _⟩ := hz j zs[j] (List.getElem?_eq_getElem hj)
        rw [he] at he'
        cases he'
        exact ⟨_, hk', hbest j zs[j] (List.getElem?_eq_getElem hj)⟩
      rw [hmut] at hqd
      exact q d false ρ1 (.ref z.1) F1 H2 hqd (ok1.tab st2) (ex1.tab st2) (.fz hr)⟩
end DL

set_option maxHeartbeats 4000000
/-! DL part G: calls. -/
namespace DL
open PySem PySem.Spec PyProof.Rows L2

def fbOf (m : Md) (Fb F : Hp) : Hp := match m with
  | .m => Fb
  | _ => F
/-- what a call may change: the object at ma alone -/
structure FExt (K : PySem.W.Frag) (ma : Option Addr) (F H F' H' : Hp) : Prop where
  ff : Same F F'
  fh : Same F' H'
  hh : ∀ a o, H a = some o → (∀ ps, o ≠ .tbl ps) → ma ≠ some a → H' a = some o
  hn : ∀ a, H a ≠ none → H' a ≠ none
  nf : ∀ a, H a ≠ none → F' a = F a
  tb : TbX K H H'
  nt : NoTbl F → NoTbl F'
/-- the arguments of a def: the object that it may write, the others -/
structure Args (K : PySem.W.Frag) (F H : Hp) (Fb : Hp) (t : Option D) (ds : List D) (vs : List V) (ma : Option Addr) : Prop where
  fh : Same F H
  fb : Same Fb F
  nt : NoTbl F
  rep : match t with
    | none => ma = none ∧ Reps K F vs ds
    | some t => ∃ a vs', ma = some a ∧ vs = .ref a :: vs' ∧ Cont K Fb H (.ref a) t ∧ F a = none ∧ Reps K F vs' ds
def tapeIs (K : PySem.W.Frag) (Fb F' H' : Hp) (ma : Option Addr) (t' : Option D) : Prop := match ma with
  | none => True
  | some a => ∃ t2, t' = some t2 ∧ Cont K Fb H' (.ref a) t2 ∧ F' a = none
def spOf (K : PySem.W.Frag) (g : FSpec) (tp : Bool) (np : Nat) : Sp := fun vs H Q _ => vs.length = np ∧ TbsOf K H ∧ ∃ (F Fb : Hp) (t : Option D) (ds : List D) (ma : Option Addr) (Qd : D → Bool → Option D → Prop), t.isSome = tp ∧ Args K F H Fb t ds vs ma ∧ g t ds Qd (fun _ _ => False) ∧
  ∀ d fr t' v F' H', Qd d fr t' → FExt K ma F H F' H' → tapeIs K Fb F' H' ma t' → ResRep K H F' H' v d fr → Q v H'

section
variable {K : PySem.W.Frag} {c : Ent} {F H F' H' G G' : Hp} {σ : L2.St} {ρ ρ' : Store} {v : V} {d : D}
/-- flat data do not see lists -/
theorem sqt_flat {a : Addr} {xs : List V} (h : ∀ a, G a ≠ G' a → ∃ ys, G a = some (.lst ys)) (q : PlT K G a xs) : PlT K G' a xs := by
  have one : ∀ u, (∀ ys, u ≠ HO.lst ys) → G a = some u → G' a = some u := fun u n e => by
    by_cases z : G a = G' a
    · rw [← z]
      exact e
    · obtain ⟨ys, e2⟩ := h a z
      rw [e] at e2
      exact absurd (Option.some.inj e2) (n ys)
  rcases q with ⟨o, p, q⟩ | q
  · exact .inl ⟨o, p, one _ (fun _ z => nomatch z) q⟩
  · exact .inr q
mutual
theorem rep_flat (h : ∀ a, G a ≠ G' a → ∃ ys, G a = some (.lst ys)) : ∀ (d : D) (v : V), flatD d = true → Rep K G v d → Rep K G' v d
  | .none, _, _, .non => .non
  | .bool _, _, _, .bl b => .bl b
  | .int _, _, _, .int i => .int i
  | .str _, _, _, .str x => .str x
  | .tuple ds, _, f, .tup q r => .tup (sqt_flat h q) (reps_flat h ds _ f r)
theorem reps_flat (h : ∀ a, G a ≠ G' a → ∃ ys, G a = some (.lst ys)) : ∀ (ds : List D) (vs : List V), flatDs ds = true → Reps K G vs ds → Reps K G' vs ds
  | [], _, _, .nil => .nil
  | d :: ds, _, f, .cons q r =>
    have f' := Bool.and_eq_true_iff.mp f
    .cons (rep_flat h d _ f'.1 q) (reps_flat h ds _ f'.2 r)
end
/-- what is lent: the own objects that stand as arguments -/
def Lent (σ : L2.St) (xs : List Od) (a : Addr) : Prop := ∃ i, Od.s i ∈ xs ∧ σ[i]? = some (some (.ref a))
theorem noOwn_no {xs : List Od} (h : noOwn xs = true) (a : Addr) : ¬ Lent σ xs a := by
  rintro ⟨i, hi, _⟩
  induction xs with
  | nil => cases hi
  | cons x xs ih =>
    cases x with
    | d d =>
      rcases List.mem_cons.mp hi with z | z
      · cases z
      · exact ih h z
    | s j => cases h
open Classical in
noncomputable def lend (σ : L2.St) (xs : List Od) (F H : Hp) : Hp := fun a => if Lent σ xs a then H a else F a
open Classical in
noncomputable def unlend (σ : L2.St) (xs : List Od) (F' : Hp) : Hp := fun a => if Lent σ xs a then none else F' a
theorem lend_in {xs : List Od} {a : Addr} (h : Lent σ xs a) : lend σ xs F H a = H a := if_pos h
theorem lend_out {xs : List Od} {a : Addr} (h : ¬ Lent σ xs a) : lend σ xs F H a = F a := if_neg h
theorem unlend_in {xs : List Od} {a : Addr} (h : Lent σ xs a) : unlend σ xs F' a = none := if_pos h
theorem unlend_out {xs : List Od} {a : Addr} (h : ¬ Lent σ xs a) : unlend σ xs F' a = F' a := if_neg h
theorem lent_own {vs : List V} {xs : List Od} (r : OdReps K F σ ρ vs xs) {a : Addr} (h : Lent σ xs a) : OwnAt σ ρ a := by
  obtain ⟨i, hi, e⟩ := h
  induction r with
  | nil => cases hi
  | cons h _ ih =>
    rcases List.mem_cons.mp hi with z | z
    · subst z
      obtain ⟨p, hp⟩ := Option.isSome_iff_exists.mp h.2
      exact ⟨i, p, hp, e⟩
    · exact ih z
theorem own_lst (ok : Ok K c F H σ ρ) {a : Addr} (h : OwnAt σ ρ a) : ∃ ys, H a = some (.lst ys) := by
  obtain ⟨i, ⟨m, d⟩, hp, e⟩ := h
  obtain ⟨g1, g2⟩ := getO_some hp
  obtain ⟨v, e', r⟩ := ok.sl i m d g1
  rw [e] at e'
  cases e'
  have z : ∃ G : Hp, Cont K G H (.ref a) d := by
    cases m with
    | v => exact absurd rfl g2
    | o => exact ⟨_, r.1⟩
    | m => exact ⟨_, r.1⟩
  obtain ⟨G, z⟩ := z
  cases d with
  | list ds =>
    obtain ⟨b, ys, e, q, _⟩ := z
    cases e
    exact ⟨ys, q⟩
  | _ => exact z.elim
theorem lend_same {vs : List V} {xs : List Od} (ok : Ok K c F H σ ρ) (r : OdReps K F σ ρ vs xs) : Same F (lend σ xs F H) := fun a o e => by
  by_cases h : Lent σ xs a
  · rw [(ok.ownAt (lent_own r h)).1] at e
    cases e
  · rw [lend_out h]
    exact e
theorem lend_nt {vs : List V} {xs : List Od} (ok : Ok K c F H σ ρ) (r : OdReps K F σ ρ vs xs) : NoTbl (lend σ xs F H) := fun a ps e => by
  by_cases h : Lent σ xs a
  · obtain ⟨ys, q⟩ := ok.ownLst (lent_own r h)
    rw [lend_in h, q] at e
    cases e
  · rw [lend_out h] at e
    exact ok.nt a ps e
theorem lend_heap {xs : List Od} (ok : Ok K c F H σ ρ) : Same (lend σ xs F H) H := fun a o e => by
  by_cases h : Lent σ xs a
  · rw [lend_in h] at e
    exact e
  · rw [lend_out h] at e
    exact ok.fh a o e
theorem rd_flatless (hs : Same F G) {ds : List D} {vs : List V} (r : Reps K F vs ds) : Reps K G vs ds := r.mono hs
/-- the arguments with what is lent frozen -/
theorem cont_lend {x : Od} {ys : List Od} {k : D → Prop} (ok : Ok K c F H σ ρ) (sm : Same F (lend σ ys F H)) (hx : x ∈ ys) (r : OdRep K F σ ρ v x) (h : cont ρ x k) : ∃ d, Rep K (lend σ ys F H) v d ∧ k d := by
  cases x with
  | d d => exact ⟨d, Rep.mono sm d _ r, h⟩
  | s i =>
    obtain ⟨r1, r2⟩ := r
    obtain ⟨⟨m, d⟩, hp⟩ := Option.isSome_iff_exists.mp r2
    simp only [cont, hp] at h
    obtain ⟨g1, g2⟩ := getO_some hp
    obtain ⟨u, e, so⟩ := ok.sl i m d g1
    rw [r1] at e
    cases e
    refine ⟨d, ?_, h⟩
    have z : Cont K F H v d := by
      cases m with
      | v => exact absurd rfl g2
      | o => exact so.1
      | m => exact so.1.mono ok.eb fun _ _ _ q => q
    cases d with
    | list ds =>
      obtain ⟨a, ws, rfl, q, rr⟩ := z
      refine .lst ?_ (rr.mono sm)
      rw [lend_in ⟨i, hx, r1⟩]
      exact q
    | _ => exact z.elim
theorem conts_lend : ∀ {vs : List V} {xs ys : List Od} {k : List D → Prop}, Ok K c F H σ ρ → Same F (lend σ ys F H) → (∀ x ∈ xs, x ∈ ys) → OdReps K F σ ρ vs xs → conts ρ xs k → ∃ ds, Reps K (lend σ ys F H) vs ds ∧ k ds
  | _, _, _, _, _, _, _, .nil, h => ⟨[], .nil, h⟩
  | _, x :: xs, ys, _, ok, sm, sub, .cons r rs, h => by
    obtain ⟨d, rd, h⟩ := cont_lend ok sm (sub x List.mem_cons_self) r h
    obtain ⟨ds, rds, h⟩ := conts_lend ok sm (fun y hy => sub y (List.mem_cons_of_mem _ hy)) rs h
    exact ⟨d :: ds, .cons rd rds, h⟩
/-- behind a call: what was lent is one's own again -/
theorem Ok.unlend {vs : List V} {xs : List Od} {ma : Option Addr} (ok : Ok K c F H σ ρ) (r : OdReps K F σ ρ vs xs) (fe : FExt K ma (lend σ xs F H) H G H')
    (hm : ∀ a, ma = some a → OwnAt σ ρ a)
    (hs : ∀ (i : Nat) (m : Md) (d : D), ρ'[i]? = some (some (m, d)) → ρ[i]? = some (some (m, d)) ∧ (m ≠ .v → σ[i]? ≠ some (some (.ref (ma.getD 0))) ∨ ma = none) ∨
      ∃ a d0, ma = some a ∧ m ≠ .v ∧ ρ[i]? = some (some (m, d0)) ∧ σ[i]? = some (some (.ref a)) ∧ Cont K (fbOf m c.Fb F) H' (.ref a) d)
    (hl : ρ'.length = ρ.length) : Ok K c (unlend σ xs G) H' σ ρ' ∧ (∀ a, H a ≠ none → DL.unlend σ xs G a = F a) ∧ Same F (DL.unlend σ xs G) := by
  have key : ∀ a, H a ≠ none → DL.unlend σ xs G a = F a := fun a h => by
    by_cases z : Lent σ xs a
    · rw [unlend_in z, (ok.ownAt (lent_own r z)).1]
    · rw [unlend_out z, fe.nf a h, lend_out z]
  have sm : Same F (DL.unlend σ xs G) := fun a o e => by
    rw [key a (by rw [ok.fh a o e]; exact fun z => nomatch z)]
    exact e
  refine ⟨⟨fun a o e => ?_, ok.ln.trans hl.symm, fun a h => fe.hn a (ok.e0 a h), fun a o h nt hne => ?_, fun a h => (key a (ok.e0 a h)).trans (ok.e2 a h), ok.e3.trans sm, ok.eb.trans sm, fun i m d h => ?_, fun i j a p q hp hq np nq => ?_, ok.tb.trans fe.tb, ok.te, fun a ps e => ?_⟩, key, sm⟩
  · by_cases z : Lent σ xs a
    · rw [unlend_in z] at e
      cases e
    · rw [unlend_out z] at e
      exact fe.fh a o e
  · refine fe.hh a o (ok.e1 a o h nt hne) nt fun e => ?_
    obtain ⟨i, ⟨m, d⟩, hp, es⟩ := hm a e
    obtain ⟨g1, g2⟩ := getO_some hp
    obtain ⟨v, e', rr⟩ := ok.sl i m d g1
    rw [es] at e'
    cases e'
    cases m with
    | v => exact g2 rfl
    | o =>
      rw [(rr.2 a rfl).2] at h
      cases h
    | m => exact hne (rr.2 a rfl).2
  · rcases hs i m d h with ⟨g, hne⟩ | ⟨a, d0, e, nv, g0, es, ct⟩
    · obtain ⟨v, es, rr⟩ := ok.sl i m d g
      refine ⟨v, es, ?_⟩
      have kp : ∀ a o, m ≠ .v → v = .ref a → H a = some (.lst o) → H' a = some (.lst o) := fun a o nv ev q => fe.hh a _ q (fun _ z => nomatch z) fun z => by
        rcases hne nv with z' | z'
        · rw [z, es, ev] at z'
          exact z' rfl
        · rw [z'] at z
          cases z
      cases m with
      | v => exact Rep.mono sm d v rr
      | o =>
        refine ⟨rr.1.mono sm fun a o ev q => kp a o (fun z => nomatch z) ev q, fun a ev => ⟨?_, (rr.2 a ev).2⟩⟩
        obtain ⟨b, o, e', q, _⟩ := rr.1.at
        rw [ev] at e'
        cases e'
        rw [key a (by rw [q]; exact fun z => nomatch z)]
        exact (rr.2 a ev).1
      | m =>
        refine ⟨rr.1.mono (Same.refl _) fun a o ev q => kp a o (fun z => nomatch z) ev q, fun a ev => ⟨?_, (rr.2 a ev).2⟩⟩
        obtain ⟨b, o, e', q, _⟩ := rr.1.at
        rw [ev] at e'
        cases e'
        rw [key a (by rw [q]; exact fun z => nomatch z)]
        exact (rr.2 a ev).1
    · obtain ⟨v, es', rr⟩ := ok.sl i m d0 g0
      rw [es] at es'
      cases es'
      refine ⟨.ref a, es, ?_⟩
      have nH : H a ≠ none := by
        obtain ⟨_, o, q⟩ := ok.ownAt (hm a e)
        rw [q]
        exact fun z => nomatch z
      have nF := (ok.ownAt (hm a e)).1
      cases m with
      | v => exact absurd rfl nv
      | o => exact ⟨ct.mono sm fun _ _ _ q => q, fun b eb => by cases eb; exact ⟨(key a nH).trans nF, (rr.2 a rfl).2⟩⟩
      | m => exact ⟨ct, fun b eb => by cases eb; exact ⟨(key a nH).trans nF, (rr.2 a rfl).2⟩⟩
  · rcases hs i p.1 p.2 hp with ⟨g, _⟩ | ⟨_, d0, _, _, g, _⟩ <;> rcases hs j q.1 q.2 hq with ⟨g', _⟩ | ⟨_, d0', _, _, g', _⟩
    · exact ok.ds i j a _ _ g g' np nq
    · exact ok.ds i j a _ _ g g' np nq
    · exact ok.ds i j a _ _ g g' np nq
    · exact ok.ds i j a _ _ g g' np nq
  · by_cases z : Lent σ xs a
    · rw [unlend_in z] at e
      cases e
    · rw [unlend_out z] at e
      exact fe.nt (lend_nt ok r) a ps e
theorem scal_two : ∀ {vs : List V} {l m : List D} {A B : Hp}, Reps K A vs l → Reps K B vs m → l.all scalD = true → m.all scalD = true
  | _, _, _, _, _, .nil, .nil, _ => rfl
  | _, d :: l, e :: m, _, _, .cons h r, .cons h' r', hf => by
    rw [List.all_cons] at hf ⊢
    have hf := Bool.and_eq_true_iff.mp hf
    rw [scal_two r r' hf.2, Bool.and_true]
    have hd := hf.1
    cases h <;> first
      | (cases h'; rfl)
      | cases hd
theorem scal_flat : ∀ {l : List D}, l.all scalD = true → flatDs l = true
  | [], _ => rfl
  | d :: l, h => by
    rw [List.all_cons] at h
    have h := Bool.and_eq_true_iff.mp h
    show (flatD d && flatDs l) = true
    rw [scal_flat h.2, Bool.and_true]
    have hd := h.1
    cases d <;> first
      | rfl
      | cases hd
theorem lent_nest {a : Addr} {L : Hp} : ∀ {vs : List V} {xs : List Od} {ds : List D}, OdReps K F σ ρ vs xs → Reps K L vs ds → lentNest xs ds = true → Lent σ xs a → ∃ ws m, L a = some (.lst ws) ∧ Reps K L ws m ∧ m.all scalD = false
  | _, _, _, .nil, .nil, _, ⟨i, hi, _⟩ => nomatch hi
  | _, x :: xs, d :: ds, .cons r rs, .cons q qs, hn, ⟨i, hi, es⟩ => by
    cases x with
    | d e =>
      rcases List.mem_cons.mp hi with z | z
      · cases z
      · exact lent_nest rs qs hn ⟨i, z, es⟩
    | s j =>
      cases d with
      | list m =>
        have hn2 := Bool.and_eq_true_iff.mp (show (!(m.all scalD) && lentNest xs ds) = true from hn)
        rcases List.mem_cons.mp hi with z | z
        · cases z
          have e := r.1
          rw [es] at e
          cases e
          cases q with
          | lst h1 h2 => exact ⟨_, m, h1, h2, by simpa using hn2.1⟩
        · exact lent_nest rs qs hn2.2 ⟨i, z, es⟩
      | _ => cases hn
theorem ResRep.unlend {vs : List V} {xs : List Od} {ds : List D} {ma : Option Addr} {fr : Bool} (ok : Ok K c F H σ ρ) (r : OdReps K F σ ρ vs xs) (fe : FExt K ma (lend σ xs F H) H G H') (rds : Reps K (lend σ xs F H) vs ds) (hr : resOk xs ds d fr) (rr : ResRep K H G H' v d fr) :
    ResRep K H (DL.unlend σ xs G) H' v d fr := by
  rcases hr with hr | hr
  · have e : DL.unlend σ xs G = G := funext fun a => unlend_out (noOwn_no hr a)
    rw [e]
    exact rr
  · have diff : ∀ a, G a ≠ DL.unlend σ xs G a → ∃ ys, G a = some (.lst ys) := fun a h => by
      by_cases z : Lent σ xs a
      · obtain ⟨ys, e⟩ := own_lst ok (lent_own r z)
        refine ⟨ys, ?_⟩
        rw [fe.nf a (by rw [e]; exact fun z => nomatch z), lend_in z]
        exact e
      · exact absurd (unlend_out z).symm h
    cases fr with
    | false =>
      cases d with
      | list l =>
        obtain ⟨hr1, hr2⟩ := hr
        cases rr.unfz with
        | lst g1 g2 =>
          rename_i a ws
          have nl : ¬ Lent σ xs a := fun z => by
            obtain ⟨ws', m, e1, e2, e3⟩ := lent_nest r rds hr2 z
            have e4 := fe.ff a _ e1
            rw [g1] at e4
            cases e4
            rw [scal_two g2 e2 hr1] at e3
            cases e3
          exact .fz (.lst ((unlend_out nl).trans g1) (reps_flat diff l _ (scal_flat hr1) g2))
      | _ => exact .fz (rep_flat diff _ v hr rr.unfz)
    | true =>
      obtain ⟨r1, r2⟩ := rr.own
      cases d with
      | list l =>
        obtain ⟨a, ws, rfl, q, rs⟩ := r1
        refine .of_own ⟨⟨a, ws, rfl, q, reps_flat diff l _ hr rs⟩, fun b e => ⟨?_, (r2 b e).2⟩⟩
        cases e
        by_cases z : Lent σ xs a
        · exact unlend_in z
        · rw [unlend_out z]
          exact (r2 a rfl).1
      | _ => exact hr.elim
end
end DL

set_option maxHeartbeats 4000000
/-! DL part H: calls of defs and of built-in functions. -/
namespace DL
open PySem PySem.Spec PyProof.Rows L2

/-- a def of the text that keeps its promise, as a body may call it -/
structure FnAt (X : Cx) (x : Str) (g : FSpec) (tp : Bool) (np : Nat) : Prop where
  ar : ∀ t ds Q R, g t ds Q R → t.isSome = tp ∧ (if tp then ds.length + 1 else ds.length) = np
  at_ : ∃ (f : Addr) (fd : FuncData) (ps : List Str) (n : Nat), X.mg x = some (.ref f) ∧ FnOk X.prog X.w X.K X.mg X.base CX0 n f fd ps (spOf X.K g tp np) ∧ Room n X.A ∧ PySem.W.keepIn X.K (.ref f) = true ∧ Binds X.K fd ps []
/-- the same with one keyword-only parameter -/
structure FnAtK (X : Cx) (x : Str) (g : FSpec) (np : Nat) (kn : Str) (d0 : D) : Prop where
  ar : ∀ t ds Q R, g t ds Q R → t.isSome = false ∧ (if false then ds.length + 1 else ds.length) = np
  at_ : ∃ (f : Addr) (fd : FuncData) (ps : List Str) (n : Nat), X.mg x = some (.ref f) ∧ FnOk X.prog X.w X.K X.mg X.base CX0 n f fd ps (spOf X.K g false np) ∧ Room n X.A ∧ PySem.W.keepIn X.K (.ref f) = true ∧
    KBn X.K fd ps (np - 1) [kn] (· ++ ·) (· ++ ·) ∧ ∃ (v : V) (u : Value), Binds X.K fd ps [u] ∧ Vals [v] [u] ∧ ∀ F, Rep X.K F v d0
abbrev noR : Xn → Store → Prop := fun _ _ => False

theorem OdReps.slot {K : PySem.W.Frag} {F : Hp} {σ : L2.St} {ρ : Store} {vs : List V} {xs : List Od} (r : OdReps K F σ ρ vs xs) {j : Nat} (h : Od.s j ∈ xs) : ∃ p, getO ρ j = some p := by
  induction r with
  | nil => cases h
  | cons g _ ih =>
    rcases List.mem_cons.mp h with z | z
    · subst z
      exact Option.isSome_iff_exists.mp g.2
    · exact ih z
theorem OdReps.len {K : PySem.W.Frag} {F : Hp} {σ : L2.St} {ρ : Store} {vs : List V} {xs : List Od} (r : OdReps K F σ ρ vs xs) : vs.length = xs.length := by
  induction r with
  | nil => rfl
  | cons _ _ ih => exact congrArg (· + 1) ih
section
variable {K : PySem.W.Frag} {c : Ent} {F H F1 H1 G H' : Hp} {σ : L2.St} {ρ ρ1 : Store}
theorem own_set {i j : Nat} {p p' : Md × D} (hp : getO ρ i = some p) (e : p'.1 = p.1) : (getO (ρ.set i (some p')) j).isSome = (getO ρ j).isSome := by
  obtain ⟨g1, g2⟩ := getO_some hp
  have hl : i < ρ.length := (List.getElem?_eq_some_iff.mp g1).1
  by_cases h : i = j
  · subst h
    rw [hp, getO_of (p := p') (by rw [List.getElem?_set_self hl]) (by rw [e]; exact g2)]
    rfl
  · unfold getO
    rw [List.getElem?_set_ne h]
/-- from before the arguments to behind the call -/
theorem ext_call {vs : List V} {xs : List Od} {ma : Option Addr} {ρ' : Store} (ex1 : Ext σ ρ F H ρ1 F1 H1) (ok1 : Ok K c F1 H1 σ ρ1) (r : OdReps K F1 σ ρ1 vs xs) (fe : FExt K ma (lend σ xs F1 H1) H1 G H')
    (hm : ∀ a, ma = some a → OwnAt σ ρ1 a) (hk : ∀ a, H1 a ≠ none → unlend σ xs G a = F1 a) (sm : Same F1 (unlend σ xs G)) (md : ∀ j, (getO ρ1 j).isSome = (getO ρ' j).isSome) : Ext σ ρ F H ρ' (unlend σ xs G) H' where
  ff := ex1.ff.trans sm
  nf := fun a h => (hk a (ex1.hn a h)).trans (ex1.nf a h)
  hh := fun a o h nt n => fe.hh a o (ex1.hh a o h nt n) nt fun e => n ((ex1.own a).mp (hm a e))
  hn := fun a h => fe.hn a (ex1.hn a h)
  md := fun j => (ex1.md j).trans (md j)
end
section
variable {X : Cx} {c : Ent} {e : Expr} {es : List Expr} {ws : Store → (List Od → Store → Prop) → Prop} {a1 : WO} {x : Str} {p pos : Pos} {g : FSpec} {np : Nat}
theorem sp_plain {σ : L2.St} {F H F1 H1 : Hp} {ρ ρ1 : Store} {vs : List V} {xs : List Od} {Q : VK} {Qd : D → Bool → Store → Prop} {E : XK} (far : ∀ t ds Q R, g t ds Q R → t.isSome = false ∧ (if false then ds.length + 1 else ds.length) = np) (ok1 : Ok X.K c F1 H1 σ ρ1) (ex1 : Ext σ ρ F H ρ1 F1 H1) (r1 : OdReps X.K F1 σ ρ1 vs xs)
    (hx : conts ρ1 xs fun ds => callS g none xs ds ρ1 noR Qd)
    (q : ∀ d fr ρ' v F' H', Qd d fr ρ' → Ok X.K c F' H' σ ρ' → Ext σ ρ F H ρ' F' H' → ResRep X.K H F' H' v d fr → Q v H') : spOf X.K g false np vs H1 Q E := by
  obtain ⟨ds, rds, hg⟩ := conts_lend ok1 (lend_same ok1 r1) (fun _ h => h) r1 hx
  have hg : g none ds (fun d fr _ => resOk xs ds d fr ∧ Qd d fr ρ1) (fun _ _ => False) := hg
  have ha : ds.length = np := (far _ _ _ _ hg).2
  refine ⟨by rw [rds.len]; exact ha, ok1.tb ok1.te, lend σ xs F1 H1, lend σ xs F1 H1, none, ds, none, _, rfl, ⟨lend_heap ok1, Same.refl _, lend_nt ok1 r1, rfl, rds⟩, hg, fun d fr t' v G H' ⟨h1, h2⟩ fe _ rr => ?_⟩
  obtain ⟨okU, k1, k2⟩ := ok1.unlend (ρ' := ρ1) r1 fe (fun a e => nomatch e) (fun i m d h => .inl ⟨h, fun _ => .inr rfl⟩) rfl
  exact q d fr ρ1 v _ H' h2 okU (ext_call ex1 ok1 r1 fe (fun a e => nomatch e) k1 k2 fun _ => rfl) ((rr.unlend ok1 r1 fe rds h1).from ex1.hn)
theorem sp_tape {σ : L2.St} {F H F1 H1 : Hp} {ρ ρ1 : Store} {vs : List V} {xs : List Od} {Q : VK} {Qd : D → Bool → Store → Prop} {E : XK} {i : Nat} {v0 : V} (fa : FnAt X x g true np) (ok1 : Ok X.K c F1 H1 σ ρ1) (ex1 : Ext σ ρ F H ρ1 F1 H1) (r1 : OdReps X.K F1 σ ρ1 vs xs)
    (h0 : σ[i]? = some (some v0)) (hx : conts ρ1 xs fun ds => callS g (some i) xs ds ρ1 noR Qd)
    (q : ∀ d fr ρ' v F' H', Qd d fr ρ' → Ok X.K c F' H' σ ρ' → Ext σ ρ F H ρ' F' H' → ResRep X.K H F' H' v d fr → Q v H') : spOf X.K g true np (v0 :: vs) H1 Q E := by
  obtain ⟨ds, rds, ⟨m, d0⟩, hp, hns, hg⟩ := conts_lend ok1 (lend_same ok1 r1) (fun _ h => h) r1 hx
  have hg : g (some d0) ds (fun d fr t => ∃ d', t = some d' ∧ resOk xs ds d fr ∧ Qd d fr (ρ1.set i (some (m, d')))) (fun _ t => ∃ d', t = some d' ∧ False) := hg
  have hg : g (some d0) ds (fun d fr t => ∃ d', t = some d' ∧ resOk xs ds d fr ∧ Qd d fr (ρ1.set i (some (m, d')))) (fun _ _ => False) := by
    have e : (fun (_ : Xn) (t : Option D) => ∃ d', t = some d' ∧ False) = fun _ _ => False := funext fun _ => funext fun t => propext ⟨fun ⟨_, _, z⟩ => z, False.elim⟩
    rw [e] at hg
    exact hg
  have ha := (fa.ar _ _ _ _ hg).2
  obtain ⟨g1, g2⟩ := getO_some hp
  obtain ⟨v1, e1, so⟩ := ok1.sl i m d0 g1
  rw [h0] at e1
  cases e1
  -- the object that may be written
  have hct : ∃ (Fb : Hp) (a : Addr), v0 = .ref a ∧ Same Fb F1 ∧ Cont X.K Fb H1 (.ref a) d0 ∧ F1 a = none ∧ Fb = fbOf m c.Fb F1 := by
    cases m with
    | v => exact absurd rfl g2
    | o =>
      obtain ⟨a, o, rfl, _, _⟩ := so.1.at
      exact ⟨F1, a, rfl, Same.refl _, so.1, (so.2 a rfl).1, rfl⟩
    | m =>
      obtain ⟨a, o, rfl, _, _⟩ := so.1.at
      exact ⟨c.Fb, a, rfl, ok1.eb, so.1, (so.2 a rfl).1, rfl⟩
  obtain ⟨Fb, a, rfl, sb, ct, nF, eb⟩ := hct
  have own : OwnAt σ ρ1 a := ⟨i, (m, d0), hp, h0⟩
  have ds1 : ∀ j p, getO ρ1 j = some p → σ[j]? = some (some (.ref a)) → j = i := fun j p hj ej => by
    obtain ⟨gj1, gj2⟩ := getO_some hj
    exact ok1.ds j i a p (m, d0) gj1 g1 gj2 g2 ej h0
  have hl : i < ρ1.length := (List.getElem?_eq_some_iff.mp g1).1
  have nl : ¬ Lent σ xs a := by
    rintro ⟨j, hj, ej⟩
    have hs : ∀ ys : List Od, noSl i ys = true → .s i ∉ ys := fun ys => by
      induction ys with
      | nil => exact fun _ h => nomatch h
      | cons y ys ih =>
        intro hn hm
        cases y with
        | d d =>
          rcases List.mem_cons.mp hm with z | z
          · cases z
          · exact ih hn z
        | s k =>
          have hn' := Bool.and_eq_true_iff.mp hn
          rcases List.mem_cons.mp hm with z | z
          · cases z
            exact of_decide_eq_true hn'.1 rfl
          · exact ih hn'.2 z
    have hso := r1.slot hj
    obtain ⟨p, hp2⟩ := hso
    have e := ds1 j p hp2 ej
    subst e
    exact hs xs hns hj
  refine ⟨by rw [List.length_cons, rds.len]; exact ha, ok1.tb ok1.te, lend σ xs F1 H1, Fb, some d0, ds, some a, _, rfl, ⟨lend_heap ok1, sb.trans (lend_same ok1 r1), lend_nt ok1 r1, a, vs, rfl, rfl, ct, by rw [lend_out nl]; exact nF, rds⟩, hg, fun d fr t' v G H' ⟨d', et, h1, h2⟩ fe tp rr => ?_⟩
  obtain ⟨t2, et2, ct2, n2⟩ := tp
  rw [et] at et2
  cases et2
  have hm : ∀ b, some a = some b → OwnAt σ ρ1 b := fun b e => by
    cases e
    exact own
  have hset : ∀ j, j ≠ i → (ρ1.set i (some (m, d')))[j]? = ρ1[j]? := fun j hj => List.getElem?_set_ne fun e => hj e.symm
  obtain ⟨okU, k1, k2⟩ := ok1.unlend (ρ' := ρ1.set i (some (m, d'))) r1 fe hm (fun j mj dj h => by
    by_cases hj : j = i
    · subst hj
      rw [List.getElem?_set_self hl] at h
      cases h
      rw [eb] at ct2
      exact .inr ⟨a, d0, rfl, g2, g1, h0, ct2⟩
    · rw [hset j hj] at h
      exact .inl ⟨h, fun nv => .inl fun e => hj (ds1 j (mj, dj) (getO_of h nv) e)⟩) (List.length_set ..)
  exact q d fr _ v _ H' h2 okU (ext_call ex1 ok1 r1 fe hm k1 k2 fun j => (own_set (p' := (m, d')) hp rfl).symm) ((rr.unlend ok1 r1 fe rds h1).from ex1.hn)
end
end DL

set_option maxHeartbeats 4000000
/-! DL part I: calls as expressions, built-in functions, methods, comprehensions. -/
namespace DL
open PySem PySem.Spec PyProof.Rows L2
section
variable {X : Cx} {c : Ent} {e : Expr} {es : List Expr} {ws : Store → (List Od → Store → Prop) → Prop} {a1 : WO} {x y : Str} {p p' pos : Pos} {g : FSpec} {np : Nat}
theorem any_plain : ∀ {es : List Expr} {env : Env} {pos : Pos}, (starEach es env).any (·.1) = false → (backTo pos (starEach es env)).any (·.1) = false := fun {es env pos} h => by
  generalize starEach es env = l at h
  unfold backTo
  first
    | simpa using h
    | (induction l with
      | nil => rfl
      | cons z zs ih => simp_all)
theorem sn_call (fa : FnAt X x g false np) (hg : Gl X x) (hd : (x == ("__debug__" : Str)) = false) (hs : PA X (e :: es) (tOs X.K c ws)) (st : starEach (e :: es) X.env = (false, eval e X.env) :: starEach es X.env) (sa : (starEach es X.env).any (·.1) = false) :
    PE X (.Call (.Name x p) (e :: es) [] pos) (tB X.K c fun ρ Q => ws ρ fun xs ρ1 => conts ρ1 xs fun ds => callS g none xs ds ρ1 noR Q) := by
  obtain ⟨f, fd, ps, n, hm, F, hr, hk, hb⟩ := fa.at_
  refine PE.imp (pe_call (E := E0) F hr hg hm hk hb .nil pass0 hs hd st (any_plain sa)) fun σ H Q ⟨F, ρ, Qd, ok, gw, q⟩ => ⟨F, ρ, _, ok, gw, fun xs ρ1 vs F1 H1 hx ok1 ex1 r1 => ?_⟩
  show spOf X.K g false np (vs ++ []) H1 Q E0
  rw [List.append_nil]
  exact sp_plain fa.ar ok1 ex1 r1 hx q
theorem conts_len : ∀ {xs : List Od} {ρ : Store} {k : List D → Prop}, conts ρ xs k → ∃ ds, ds.length = xs.length ∧ k ds
  | [], _, _, h => ⟨[], rfl, h⟩
  | x :: xs, ρ, k, h => by
    have h : cont ρ x fun d => conts ρ xs fun ds => k (d :: ds) := h
    have key : ∃ d, conts ρ xs fun ds => k (d :: ds) := by
      cases x with
      | d d => exact ⟨d, h⟩
      | s i =>
        have h : (match getO ρ i with | some p => conts ρ xs fun ds => k (p.2 :: ds) | none => False) := h
        split at h
        · exact ⟨_, h⟩
        · exact h.elim
    obtain ⟨d, hd⟩ := key
    obtain ⟨ds, e, hk⟩ := conts_len hd
    exact ⟨d :: ds, congrArg (· + 1) e, hk⟩
theorem OdReps.app {K : PySem.W.Frag} {F : Hp} {σ : L2.St} {ρ : Store} {vs ws : List V} {xs ys : List Od} (r : OdReps K F σ ρ vs xs) (q : OdReps K F σ ρ ws ys) : OdReps K F σ ρ (vs ++ ws) (xs ++ ys) := by
  induction r with
  | nil => exact q
  | cons h _ ih => exact .cons h ih
theorem sn_callD {d0 : D} {kn : Str} (fa : FnAtK X x g np kn d0) (hg : Gl X x) (hd : (x == ("__debug__" : Str)) = false) (hs : PA X (e :: es) (tOs X.K c ws)) (st : starEach (e :: es) X.env = (false, eval e X.env) :: starEach es X.env) (sa : (starEach es X.env).any (·.1) = false) :
    PE X (.Call (.Name x p) (e :: es) [] pos) (tB X.K c fun ρ Q => ws ρ fun xs ρ1 => conts ρ1 (xs ++ [.d d0]) fun ds => callS g none (xs ++ [.d d0]) ds ρ1 noR Q) := by
  obtain ⟨f, fd, ps, n, hm, F, hr, hk, _, v, u, hb, hv, hrep⟩ := fa.at_
  refine PE.imp (pe_call (E := E0) F hr hg hm hk hb hv pass0 hs hd st (any_plain sa)) fun σ H Q ⟨F, ρ, Qd, ok, gw, q⟩ => ⟨F, ρ, _, ok, gw, fun xs ρ1 vs F1 H1 hx ok1 ex1 r1 => ?_⟩
  show spOf X.K g false np (vs ++ [v]) H1 Q E0
  exact sp_plain fa.ar ok1 ex1 (r1.app (OdReps.cons (x := .d d0) (hrep F1) .nil)) hx q
theorem sn_callK {d0 : D} {kn : Str} {kp : Pos} {e2 : Expr} (fa : FnAtK X x g np kn d0) (hg : Gl X x) (hd : (x == ("__debug__" : Str)) = false) (hs : PA X (e :: es) (tOs X.K c ws)) (h2 : PE X e2 (tO X.K c a1)) (st : starEach (e :: es) X.env = (false, eval e X.env) :: starEach es X.env) (sa : (starEach es X.env).any (·.1) = false) :
    PE X (.Call (.Name x p) (e :: es) [⟨some kn, e2, kp⟩] pos) (tB X.K c fun ρ Q => ws ρ fun xs ρ1 => a1 ρ1 fun y ρ2 => conts ρ2 (xs ++ [y]) fun ds => callS g none (xs ++ [y]) ds ρ2 noR Q) := by
  obtain ⟨f, fd, ps, n, hm, F, hr, hk, hb, _⟩ := fa.at_
  have hpl : ((backTo pos (starEach (e :: es) X.env)).any (·.1) || (backToKw pos (keywordEach [⟨some kn, e2, kp⟩] X.env)).any (·.1.isNone)) = false := by
    rw [any_plain (by rw [st, List.any_cons, sa]; rfl)]
    rfl
  refine PE.imp (pe_callN (E := E0) F hr hg hm hk hb pass0 hs (pk_cons h2 pk_nil) rfl rfl hd st hpl) fun σ H Q ⟨F, ρ, Qd, ok, gw, q⟩ => ⟨F, ρ, _, ok, gw, fun xs ρ1 vs F1 H1 hx ok1 ex1 r1 => ⟨F1, ρ1, _, ok1, hx, fun y ρ2 v F2 H2 hy ok2 ex2 r2 => ?_⟩⟩
  obtain ⟨ds, el, hc⟩ := conts_len hy
  have hl : ds.length = np := (fa.ar _ _ _ _ (show g none ds _ _ from hc)).2
  refine ⟨?_, rfl, ?_⟩
  · rw [r1.len]
    rw [List.length_append, List.length_singleton] at el
    omega
  · show spOf X.K g false np (vs ++ [v]) H2 Q E0
    exact sp_plain fa.ar ok2 (ex1.trans ex2) ((r1.ext ex2).app (.cons r2 .nil)) hy q
theorem sn_call0 (fa : FnAt X x g false np) (hg : Gl X x) (hd : (x == ("__debug__" : Str)) = false) :
    PE X (.Call (.Name x p) [] [] pos) (tB X.K c fun ρ Q => callS g none [] [] ρ noR Q) := by
  obtain ⟨f, fd, ps, n, hm, F, hr, hk, hb⟩ := fa.at_
  refine PE.imp (pe_call0 (E := E0) F hr hg hm hk hb .nil pass0 hd) fun σ H Q ⟨F, ρ, Qd, ok, gw, q⟩ => ?_
  show spOf X.K g false np [] H Q E0
  exact sp_plain (vs := []) (xs := []) (E := E0) fa.ar ok .refl .nil gw q
theorem sn_tape {i : Nat} (fa : FnAt X x g true np) (hg : Gl X x) (hd : (x == ("__debug__" : Str)) = false) (hv : PE X (.Name y p') (tVar i)) (hs : PA X es (tOs X.K c ws)) (st : starEach (.Name y p' :: es) X.env = (false, eval (.Name y p') X.env) :: starEach es X.env) (sa : (starEach es X.env).any (·.1) = false) :
    PE X (.Call (.Name x p) (.Name y p' :: es) [] pos) (tB X.K c fun ρ Q => (getO ρ i).isSome = true ∧ ws ρ fun xs ρ1 => conts ρ1 xs fun ds => callS g (some i) xs ds ρ1 noR Q) := by
  obtain ⟨f, fd, ps, n, hm, F, hr, hk, hb⟩ := fa.at_
  refine PE.imp (pe_call (E := E0) F hr hg hm hk hb .nil pass0 (pa_cons hv hs st) hd st (any_plain sa)) fun σ H Q ⟨F, ρ, Qd, ok, ⟨g0, gw⟩, q⟩ => ?_
  obtain ⟨⟨m, d⟩, hp⟩ := Option.isSome_iff_exists.mp g0
  obtain ⟨v0, e0, _⟩ := ok.sl i m d (getO_some hp).1
  refine ⟨v0, e0, F, ρ, _, ok, gw, fun xs ρ1 vs F1 H1 hx ok1 ex1 r1 => ?_⟩
  show spOf X.K g true np (v0 :: vs ++ []) H1 Q E0
  rw [List.append_nil]
  exact sp_tape fa ok1 ex1 r1 e0 hx q
/-! built-in functions -/
theorem bf_run {f : List D → P1} {t : TA} (h : ∀ σ H Q, tOs X.K c ws σ H Q → t σ H Q) : ∀ σ H Q, tB X.K c (fun ρ Q => ws ρ fun xs ρ1 => conts ρ1 xs fun ds => f ds fun d => Q d (isMut d) ρ1) σ H Q → tCB (DRL X.K f) t σ H Q :=
  fun σ H Q ⟨F, ρ, Qd, ok, g, q⟩ => h _ _ _ ⟨F, ρ, _, ok, g, fun xs ρ1 vs F1 H1 hx ok1 ex1 r1 => by
    obtain ⟨ds, rds, hf⟩ := conts_reds ok1 r1 hx
    exact ⟨F1, ds, _, ok1.fh, rds, hf, fun d u F' H' hq ne nr => q d _ ρ1 u F' H' hq (ok1.newE ne) (ex1.trans ne.ext) (nr.res.from ex1.hn)⟩⟩
theorem sn_bfB {f : List D → P1} {id : String} (hc : CallR X (.builtin id) (DRL X.K f)) (hg : Gl X x) (hm : X.mg x = none) (hv : bootBuiltins x = some (.builtin id)) (hn : x ≠ "__name__") (hd : (x == ("__debug__" : Str)) = false)
    (hs : PA X (e :: es) (tOs X.K c ws)) (st : starEach (e :: es) X.env = (false, eval e X.env) :: starEach es X.env) (sa : (starEach es X.env).any (·.1) = false) :
    PE X (.Call (.Name x p) (e :: es) [] pos) (tB X.K c fun ρ Q => ws ρ fun xs ρ1 => conts ρ1 xs fun ds => f ds fun d => Q d (isMut d) ρ1) :=
  PE.imp (pe_callB hc hg hm hv hs hn hd st (any_plain sa)) (bf_run fun _ _ _ h => h)
theorem sn_bfT {f : List D → P1} {id : String} (hc : CallR X (.type id) (DRL X.K f)) (hg : Gl X x) (hm : X.mg x = none) (hv : bootBuiltins x = some (.type id)) (hn : x ≠ "__name__") (hd : (x == ("__debug__" : Str)) = false)
    (hs : PA X (e :: es) (tOs X.K c ws)) (st : starEach (e :: es) X.env = (false, eval e X.env) :: starEach es X.env) (sa : (starEach es X.env).any (·.1) = false) :
    PE X (.Call (.Name x p) (e :: es) [] pos) (tB X.K c fun ρ Q => ws ρ fun xs ρ1 => conts ρ1 xs fun ds => f ds fun d => Q d (isMut d) ρ1) :=
  PE.imp (pe_callTy hc hg hm hv hs hn hd st (any_plain sa)) (bf_run fun _ _ _ h => h)
theorem sn_is {b : Bf} {t : String} {q2 : Pos} (hb : isTy b = some t) (hg : Gl X "isinstance") (hm : X.mg "isinstance" = none) (ht : PE X (.Name (Str.ofString t) q2) (tC (.ty t))) (h : PE X e (tO X.K c a1)) (st : starEach [e, .Name (Str.ofString t) q2] X.env = (false, eval e X.env) :: starEach [.Name (Str.ofString t) q2] X.env) :
    PE X (.Call (.Name "isinstance" p) [e, .Name (Str.ofString t) q2] [] pos) (tB X.K c fun ρ Q => a1 ρ fun x ρ1 => cont ρ1 x fun d => bfS b [d] fun r => Q r (isMut r) ρ1) :=
  PE.imp (pe_callB (callIs hb) hg hm PyProof.Rows.boot_isinstance (pa_cons h (pa_cons ht pa_nil) st) (by decide) (by decide) st rfl) fun σ H Q ⟨F, ρ, Qd, ok, g, q⟩ => ⟨F, ρ, _, ok, g, fun x ρ1 v F1 H1 hx ok1 ex1 r1 => by
    obtain ⟨dx, rx, hf⟩ := cont_red ok1 r1 hx
    exact ⟨[v], rfl, F1, [dx], _, ok1.fh, .cons rx .nil, hf, fun d u F' H' hq ne nr => q d _ ρ1 u F' H' hq (ok1.newE ne) (ex1.trans ne.ext) (nr.res.from ex1.hn)⟩⟩
theorem sn_bits {apos : Pos} (h : PE X e (tO X.K c a1)) (hbase : attributeBase e "bit_length" X.env (eval e X.env) = eval e X.env) (hl : (apos.endLine == pos.line) = true) :
    PE X (.Call (.Attribute e "bit_length" apos) [] [] pos) (tB X.K c fun ρ Q => a1 ρ fun x ρ1 => mtOk .bitLength ρ1 x ∧ cont ρ1 x fun dx => mtS .bitLength dx [] fun d => Q d (isMut d) ρ1) :=
  PE.imp (pe_bits h hbase hl) fun σ H Q ⟨F, ρ, Qd, ok, g, q⟩ => ⟨F, ρ, _, ok, g, fun x ρ1 v F1 H1 ⟨_, hx⟩ ok1 ex1 r1 => by
    obtain ⟨dx, rx, hf⟩ := cont_red ok1 r1 hx
    cases dx with
    | int i => exact ⟨i, rx.int, q _ _ ρ1 _ F1 H1 hf ok1 ex1 (.fz (.int _))⟩
    | _ => exact hf.elim⟩
end
end DL

set_option maxHeartbeats 4000000
/-! DL part I2: max and min with a default. -/
namespace DL
open PySem PySem.Spec PyProof.Rows L2
theorem bf_mxD {b : Bf} {gt : Bool} (hb : (b = .maxD ∧ gt = true) ∨ (b = .minD ∧ gt = false)) {ds : List D} {Q : D → Prop} (h : bfS b ds Q) : ∃ u z xs ns, ds = [u, .int z] ∧ seqOf u = some xs ∧ intsD xs = some ns ∧ (ns = [] → Q (.int z)) ∧ ∀ m, isMx gt ns m → Q (.int m) := by
  rcases hb with ⟨rfl, rfl⟩ | ⟨rfl, rfl⟩
  · match ds, h with
    | [u, .int z], h =>
      have h : ∃ xs ns, seqOf u = some xs ∧ intsD xs = some ns ∧ (ns = [] → Q (.int z)) ∧ ∀ m, isMx true ns m → Q (.int m) := by
        cases u <;> exact h
      obtain ⟨xs, ns, h1, h2, h3, h4⟩ := h
      exact ⟨u, z, xs, ns, rfl, h1, h2, h3, h4⟩
  · match ds, h with
    | [u, .int z], h =>
      have h : ∃ xs ns, seqOf u = some xs ∧ intsD xs = some ns ∧ (ns = [] → Q (.int z)) ∧ ∀ m, isMx false ns m → Q (.int m) := by
        cases u <;> exact h
      obtain ⟨xs, ns, h1, h2, h3, h4⟩ := h
      exact ⟨u, z, xs, ns, rfl, h1, h2, h3, h4⟩
section
variable {X : Cx} {c : Ent} {e e2 : Expr} {a1 a2 : WO} {x : Str} {p pos kp : Pos}
theorem sn_mxD {gt : Bool} {id : String} {b : Bf} (hb : (b = .maxD ∧ gt = true) ∨ (b = .minD ∧ gt = false)) (hc : CallRK X (.builtin id) [Str.ofString "default"] (rMxD gt X.K)) (hg : Gl X x) (hm : X.mg x = none) (hv : bootBuiltins x = some (.builtin id)) (hn : x ≠ "__name__") (hd : (x == ("__debug__" : Str)) = false)
    (h1 : PE X e (tO X.K c a1)) (h2 : PE X e2 (tO X.K c a2)) (st : starEach [e] X.env = (false, eval e X.env) :: starEach [] X.env) :
    PE X (.Call (.Name x p) [e] [⟨some "default", e2, kp⟩] pos) (tB X.K c fun ρ Q => a1 ρ fun x ρ1 => a2 ρ1 fun y ρ2 => conts ρ2 [x, y] fun ds => bfS b ds fun d => Q d (isMut d) ρ2) :=
  PE.imp (pe_callBK hc hg hm hv (pa_cons h1 pa_nil st) (pk_cons h2 pk_nil) hn hd (by rw [st]; rfl) (by rw [st]; rfl)) fun σ H Q ⟨F, ρ, Qd, ok, g, q⟩ => ⟨F, ρ, _, ok, g, fun x ρ1 v F1 H1 hx ok1 ex1 r1 => ⟨F1, ρ1, _, ok1, hx, fun y ρ2 u F2 H2 hy ok2 ex2 r2 => by
    obtain ⟨ds, hr, hf⟩ := conts_reds ok2 (.cons (r1.ext ex2) (.cons r2 .nil)) hy
    obtain ⟨d, z, xs, ns, rfl, e1, e2', q0, qm⟩ := bf_mxD hb hf
    obtain ⟨v', w, ev, rv, rw'⟩ := hr.two
    injection ev with ev1 ev2
    injection ev2 with ev2 _
    subst ev1 ev2
    obtain ⟨tk, a, vs, rfl, s1, r1'⟩ := red_sqx ok2.fh rv e1
    have ei := r1'.intsV e2'
    subst ei
    have ez := rw'.int
    subst ez
    exact ⟨tk, a, ns, z, rfl, rfl, s1, fun e0 => q _ _ ρ2 _ F2 H2 (q0 e0) ok2 (ex1.trans ex2) (.fz (.int _)), fun m hm => q _ _ ρ2 _ F2 H2 (qm m hm) ok2 (ex1.trans ex2) (.fz (.int _))⟩⟩⟩
end
end DL

set_option maxHeartbeats 4000000
/-! DL part I3: forms of their own: tuple(reversed(x)), x[::-1], sorted(x, reverse=True), tuple(range(n)), index, count. -/
namespace L2
open PySem PySem.Spec PyProof.Rows
section
variable {prog : Program} {w : World} {A : Around} {E : Value → Shared → Prop} {s : Shared}
theorem sliceApplied_rev {sl : Addr} {vs : Value} {n : Nat} {Q : Int × Int × Nat → Shared → Prop} (hs : s.heap.IsSliceOf sl .none .none vs) (ps : IsPart vs (some (-1)))
    (h : Q ((n : Int) - 1, -1, n) s) : wpAny (model prog w) A (Builtin.Slice.sliceApplied (.ref sl) (pure (n : Int))) Q E s := by
  obtain ⟨os, hos, hcs, hds⟩ := id hs
  unfold Builtin.Slice.sliceApplied Builtin.Slice.sliceFields
  refine wpAny_bind (wpAny_bind (wpAny_field hos hds (x := .none) rfl (wpAny_bind (wpAny_field hos hds (x := .none) rfl (wpAny_bind (wpAny_field hos hds (x := vs) rfl (wpAny_pure ?_)))))))
  refine wpAny_bind (HT.slicePart_ ps ?_)
  show wpAny _ _ (if ((-1 : Int) == 0) = true then _ else _) _ _ s
  rw [if_neg (by decide)]
  refine wpAny_bind (slicePart_none (wpAny_bind (slicePart_none (wpAny_bind (wpAny_pure ?_)))))
  have e1 : Builtin.Slice.sliceAdjust none none (-1) (n : Int) = ((n : Int) - 1, -1) := by
    unfold Builtin.Slice.sliceAdjust
    simp
  have e2 : Builtin.Slice.slicePlaces ((n : Int) - 1) (-1) (-1) = n := by
    unfold Builtin.Slice.slicePlaces
    have h1 : ¬ ((-1 : Int) > 0) := by decide
    rw [if_neg h1]
    split
    · rw [show (- -1 : Int) = 1 by decide, Int.ediv_one]
      omega
    · omega
  show wpAny _ _ (match Builtin.Slice.sliceAdjust none none (-1) (n : Int) with | (lo, hi) => pure (lo, (-1 : Int), Builtin.Slice.slicePlaces lo hi (-1))) _ _ s
  rw [e1]
  show wpAny _ _ (pure ((n : Int) - 1, (-1 : Int), Builtin.Slice.slicePlaces ((n : Int) - 1) (-1) (-1))) _ _ s
  rw [e2]
  exact wpAny_pure h
theorem pick_rev (xs : Array Value) : ((List.range xs.size).filterMap fun (m : Nat) => xs[(((xs.size : Int) - 1) + (m : Int) * (-1)).toNat]?).toArray = xs.toList.reverse.toArray := by
  rw [← PySem.W.krv_pick]
  unfold slicePick
  rw [PySem.W.krv_bounds]
  show _ = ((sliceRange ((xs.size : Int) - 1) (-1) (-1)).filterMap (xs[·]?)).toArray
  rw [PySem.W.krv_sliceRange, List.filterMap_map]
  congr 2
  funext m
  show xs[_]? = xs[xs.size - 1 - m]?
  congr 1
  omega
theorem getItem_tuple_rev {t sl : Addr} {items : Array Value} {vs : Value} {Q : Value → Shared → Prop} (ht : IsTup s.heap t items) (hs : s.heap.IsSliceOf sl .none .none vs) (ps : IsPart vs (some (-1)))
    (h : Q (.ref s.heap.objs.size) { s with heap := s.heap.push { cls := .type "tuple", data := .seq items.toList.reverse.toArray } })
    (hsz : items.size ≤ sizeLine) : wpAny (model prog w) A (getItem (.ref t) (.ref sl)) Q E s := by
  have htake : sizeOk (.seq items.toList.reverse.toArray) := by
    show items.toList.reverse.toArray.size ≤ sizeLine
    rw [List.size_toArray, List.length_reverse, Array.length_toList]
    exact hsz
  obtain ⟨os, hos, hcs, hds⟩ := id hs
  have hTs : s.TypeIs (.ref sl) "slice" := ⟨os, hos, hcs⟩
  unfold getItem
  try with_reducible refine wpAny_holding ?_
  first | refine wpAny_bind (wpAny_pure ?_) | skip
  refine wpAny_bind (wpAny_sequenceKey ht.typeIs (by decide) ?_)
  refine wpAny_bind (wpAny_callSpecial?_slot (name := Str.ofString "__getitem__") ht.typeIs PyProof.Rows.slot_tuple_getitem
    (wpAny_call_entry PyProof.Rows.slot_tuple_getitem ht.typeIs entry_tuple_getitem ?_ (args_tuple_getitem _ _)))
  show wpAny _ _ (Builtin.Tuple.tupleItemsOf (.ref t) >>= _) _ _ s
  refine wpAny_bind (tupleItemsOf_ ht ?_)
  refine wpAny_bind (wpAny_typeOf hTs ?_)
  rw [if_pos (by decide)]
  refine wpAny_bind (sliceApplied_rev hs ps ?_)
  have hno : ¬ ((((items.size : Int) - 1) == 0 && (-1 : Int) == 1 && items.size == items.size) = true) := by
    intro q
    rw [Bool.and_eq_true, Bool.and_eq_true] at q
    exact absurd q.1.2 (by decide)
  show wpAny _ _ (if (((items.size : Int) - 1) == 0 && (-1 : Int) == 1 && items.size == items.size) = true then _ else _) _ _ s
  rw [if_neg hno, pick_rev]
  first
    | exact wpAny_bind (m := Builtin.Tuple.tupleExact _) (wpAny_newObj_type (wpAny_pure ⟨_, rfl, wpAny_pure h⟩) htake)
    | exact wpAny_bind (m := Builtin.Tuple.tupleExact _) (wpAny_newObj_type (wpAny_bind (wpAny_pure (wpAny_pure ⟨_, rfl, wpAny_pure h⟩))) htake)
    | exact wpAny_bind (wpAny_bind (m := Builtin.Tuple.tupleExact _) (wpAny_newObj_type (wpAny_pure (wpAny_pure ⟨_, rfl, wpAny_pure h⟩)) htake))
    | exact wpAny_bind (wpAny_bind (m := Builtin.Tuple.tupleExact _) (wpAny_newObj_type (wpAny_pure ⟨_, rfl, wpAny_pure h⟩) htake))
end
section
variable {X : Cx}
/-- x[::-1], a list or a tuple -/
def tRevX (K : PySem.W.Frag) (te : TE) : TE := fun σ H Q => te σ H fun x H1 => ∃ a xs, x = .ref a ∧ ((SqL K H1 a xs ∧ ∀ p, H1 p = none → Q (.ref p) (upd H1 p (.lst xs.reverse))) ∨ (SqT K H1 a xs ∧ NewT H1 xs.reverse Q))
theorem pe_revX {e : Expr} {te : TE} {k : Nat} {p1 p2 p3 pos : Pos} (he : PE X e te) : PE X (.Subscript e (.Slice none none (some (.UnaryOp .USub (.Constant (.int 1) k p1) p2)) p3) pos) (tRevX X.K te) := by
  refine ⟨fun pins s σ H Q I h => ?_⟩
  refine Subscript_ (thn (he.run pins s σ H _ I h) fun v s1 ⟨x, H1, I1, r1, q1⟩ => ?_)
  obtain ⟨a, xs, ex, hq⟩ := q1
  subst ex
  cases r1
  have hst : PO X (some (.UnaryOp .USub (.Constant (.int 1) k p1) p2)) (tPart (tUn (rU fun i => .int (-i)) (tC (.int 1)))) := po_some (pe_un un_neg pe_int)
  refine wpAny_Slice (thn (po_none.run pins s1 σ H1 (fun o H2 => o = none ∧ H2 = H1) I1 ⟨rfl, rfl⟩) fun vl s2 ⟨l, H2, I2, pl, el, e2⟩ => ?_)
  subst el e2
  refine thn (po_none.run pins s2 σ H2 (fun o H3 => o = none ∧ H3 = H2) I2 ⟨rfl, rfl⟩) fun vu s3 ⟨u, H3, I3, pu, eu, e3⟩ => ?_
  subst eu e3
  refine thn (hst.run pins s3 σ H3 (fun o H4 => o = some (-1) ∧ H4 = H3) I3 ⟨1, rfl, -1, rfl, rfl, rfl⟩) fun vs s4 ⟨o, H4, I4, ps, eo, e4⟩ => ?_
  subst eo e4
  have I5 : Inv X pins σ H4 { s4 with heap := s4.heap.push { cls := .type "slice", data := .fields #[vl, vu, vs] } } := I4.kept (t' := s4.toks) fun b ob q => Heap.get?_push_of_some _ q
  show wpAny (model X.prog X.w) X.A (subscriptTail e (.Slice none none (some (.UnaryOp .USub (.Constant (.int 1) k p1) p2)) p3) (.ref a) (.ref s4.heap.objs.size)) (EP X pins σ Q) X.xe { s4 with heap := s4.heap.push { cls := .type "slice", data := .fields #[vl, vu, vs] } }
  rcases hq with ⟨hx, q⟩ | ⟨hx, q⟩
  · obtain ⟨its, r, ht, hz⟩ := I5.list hx
    have hlen := r.length
    refine tail_any (ops := [.ref a, .ref s4.heap.objs.size]) ht.isList.typeIs (PySem.slot_list_getitem.lookup) ?_ (by with_unfolding_all rfl)
    refine wpAny_getItem_list_slice ht.isList (Heap.IsSliceOf.new _ vl vu vs) pl pu ps (by decide) ?_ (by rw [List.size_toArray]; omega)
    rw [PySem.W.krv_pick]
    refine ⟨.ref _, _, I5.laid (t' := s4.toks) (o := .lst xs.reverse) (fun b ob q => Heap.get?_push_of_some _ q) (Nat.le_refl _) ?_, rfl, q _ (I5.hok.fresh (Nat.le_refl _))⟩
    exact ⟨by rw [List.length_reverse]; exact hz, _, 0, r.reverse, Heap.get?_push_size _ rfl⟩
  · obtain ⟨its, r, ht, hz⟩ := I5.tuple hx
    have hlen := r.length
    cases pl
    cases pu
    refine tail_any (ops := [.ref a, .ref s4.heap.objs.size]) ht.typeIs (PyProof.Rows.slot_tuple_getitem.lookup) ?_ (by with_unfolding_all rfl)
    refine getItem_tuple_rev ht (Heap.IsSliceOf.new _ _ _ vs) ps ?_ (by rw [List.size_toArray]; omega)
    exact ⟨.ref _, _, I5.laid (t' := s4.toks) (fun b ob q => Heap.get?_push_of_some _ q) (Nat.le_refl _) (pt_ok (by rw [List.length_reverse]; exact hz) r.reverse (Heap.get?_push_size _ rfl)), rfl, q _ _ plo_new (I5.hok.fresh (Nat.le_refl _))⟩
end
end L2
namespace DL
open PySem PySem.Spec PyProof.Rows L2
section
variable {X : Cx} {c : Ent} {e e1 e2 : Expr} {a1 a2 : WO} {f : List D → P1} {p p2 p3 pos pos2 q1 q2 : Pos} {k : Nat}
/-- one operand, then a rule -/
theorem one_run {r : V → Hp → VK → Prop} (i : ∀ v H Q, DRL X.K f [v] H Q → r v H Q) (σ : L2.St) (H : Hp) (Q : VK) (h : tB X.K c (fun ρ Q => a1 ρ fun x ρ1 => conts ρ1 [x] fun ds => f ds fun d => Q d (isMut d) ρ1) σ H Q) : tO X.K c a1 σ H fun v H1 => r v H1 Q := by
  obtain ⟨F, ρ, Qd, ok, g, q⟩ := h
  refine ⟨F, ρ, _, ok, g, fun x ρ1 v F1 H1 hx ok1 ex1 r1 => ?_⟩
  obtain ⟨ds, rds, hf⟩ := conts_reds ok1 (.cons r1 .nil) hx
  exact i v H1 Q ⟨F1, ds, _, ok1.fh, rds, hf, fun d u F' H' hq ne nr => q d _ ρ1 u F' H' hq (ok1.newE ne) (ex1.trans ne.ext) (nr.res.from ex1.hn)⟩
theorem two_run {r : V → V → Hp → VK → Prop} (i : ∀ v w H Q, DRL X.K f [v, w] H Q → r v w H Q) (σ : L2.St) (H : Hp) (Q : VK) (h : tB X.K c (fun ρ Q => a1 ρ fun x ρ1 => a2 ρ1 fun y ρ2 => conts ρ2 [x, y] fun ds => f ds fun d => Q d (isMut d) ρ2) σ H Q) : tO X.K c a1 σ H fun v H1 => tO X.K c a2 σ H1 fun w H2 => r v w H2 Q := by
  obtain ⟨F, ρ, Qd, ok, g, q⟩ := h
  refine ⟨F, ρ, _, ok, g, fun x ρ1 v F1 H1 hx ok1 ex1 r1 => ⟨F1, ρ1, _, ok1, hx, fun y ρ2 u F2 H2 hy ok2 ex2 r2 => ?_⟩⟩
  obtain ⟨ds, rds, hf⟩ := conts_reds ok2 (.cons (r1.ext ex2) (.cons r2 .nil)) hy
  exact i v u H2 Q ⟨F2, ds, _, ok2.fh, rds, hf, fun d z F' H' hq ne nr => q d _ ρ2 z F' H' hq (ok2.newE ne) ((ex1.trans ex2).trans ne.ext) (nr.res.from (ex1.trans ex2).hn)⟩
theorem sn_tupRev (hc : X.calm = true) (hg : Gl X "tuple") (hm : X.mg "tuple" = none) (hg2 : Gl X "reversed") (hm2 : X.mg "reversed" = none) (h : PE X e (tO X.K c a1)) (hs : starEach [e] X.env = (false, eval e X.env) :: starEach [] X.env) :
    PE X (.Call (.Name "tuple" p) [.Call (.Name "reversed" p2) [e] [] pos2] [] pos) (tB X.K c fun ρ Q => a1 ρ fun x ρ1 => conts ρ1 [x] fun ds => bfS .tupRev ds fun d => Q d (isMut d) ρ1) :=
  PE.imp (pe_tupRevP hc hg hm hg2 hm2 h hs) (one_run fun v H Q ⟨F, ds, Qd, hs, hr, hg, q⟩ => by
    match ds, hg with
    | [.list ys], hg =>
      obtain ⟨w, ew, rv⟩ := hr.one
      injection ew with ew _
      subst ew
      obtain ⟨a, xs, rfl, s1, r1⟩ := rv.sql hs
      exact ⟨a, xs, rfl, s1, fun p o po hp => q _ _ _ _ hg (.frz hs hp) (.tup hs po hp r1.rev)⟩)
theorem sn_revL (h : PE X e (tO X.K c a1)) : PE X (.Subscript e (.Slice none none (some (.UnaryOp .USub (.Constant (.int 1) k q1) q2)) p3) pos) (tB X.K c fun ρ Q => a1 ρ fun x ρ1 => conts ρ1 [x] fun ds => bfS .revL ds fun d => Q d (isMut d) ρ1) :=
  PE.imp (pe_revX h) (one_run fun v H Q ⟨F, ds, Qd, hs, hr, hg, q⟩ => by
    match ds, hg with
    | [.list ys], hg =>
      obtain ⟨w, ew, rv⟩ := hr.one
      injection ew with ew _
      subst ew
      obtain ⟨a, xs, rfl, s1, r1⟩ := rv.sql hs
      exact ⟨a, xs, rfl, .inl ⟨s1, fun p hp => q _ _ _ _ hg (.own hs hp) (.lst hs hp r1.rev)⟩⟩
    | [.tuple ys], hg =>
      obtain ⟨w, ew, rv⟩ := hr.one
      injection ew with ew _
      subst ew
      obtain ⟨a, xs, rfl, s1, r1⟩ := rv.tup hs
      exact ⟨a, xs, rfl, .inr ⟨s1, fun p o po hp => q _ _ _ _ hg (.frz hs hp) (.tup hs po hp r1.rev)⟩⟩)
theorem rgV_reps {K : PySem.W.Frag} {F : Hp} (a b : Int) : Reps K F (rgV a b) (rangeD a b) := by
  unfold rgV rangeD
  generalize List.range (b - a).toNat = l
  induction l with
  | nil => exact .nil
  | cons x l ih => exact .cons (.int _) ih
theorem sn_tupRng (hc : X.calm = true) (hg : Gl X "tuple") (hm : X.mg "tuple" = none) (hg2 : Gl X "range") (hm2 : X.mg "range" = none) (h : PE X e (tO X.K c a1)) (hs : starEach [e] X.env = (false, eval e X.env) :: starEach [] X.env)
    (hs2 : starEach [.Call (.Name "range" p2) [e] [] pos2] X.env = (false, eval (.Call (.Name "range" p2) [e] [] pos2) X.env) :: starEach [] X.env) :
    PE X (.Call (.Name "tuple" p) [.Call (.Name "range" p2) [e] [] pos2] [] pos) (tB X.K c fun ρ Q => a1 ρ fun x ρ1 => conts ρ1 [x] fun ds => bfS .tupRng ds fun d => Q d (isMut d) ρ1) :=
  PE.imp (pe_tupRgP hc hg hm (prg_1 hg2 hm2 h hs) hs2) (one_run fun v H Q ⟨F, ds, Qd, hs, hr, hg, q⟩ => by
    match ds, hg with
    | [.int n], hg =>
      obtain ⟨w, ew, rv⟩ := hr.one
      injection ew with ew _
      subst ew
      exact ⟨n, rv.int, RgOk.of_le (Int.le_refl _) hg.1.2 (by decide) hg.1.1, fun p o po hp => q _ _ _ _ hg.2 (.frz hs hp) (.tup hs po hp (rgV_reps 0 n))⟩)
theorem sn_srtR {kp : Pos} {kc : Nat} (hg : Gl X "sorted") (hm : X.mg "sorted" = none) (h : PE X e (tO X.K c a1)) (hs : starEach [e] X.env = (false, eval e X.env) :: starEach [] X.env) (ht : PE X e2 (tC (.bl true))) :
    PE X (.Call (.Name "sorted" p) [e] [⟨some "reverse", e2, kp⟩] pos) (tB X.K c fun ρ Q => a1 ρ fun x ρ1 => conts ρ1 [x] fun ds => bfS .srtR ds fun d => Q d (isMut d) ρ1) :=
  PE.imp (pe_callBK (cr_sortedRev (b := true)) hg hm (by decide +kernel) (pa_cons h pa_nil hs) (pk_cons ht pk_nil) (by decide) (by decide) (by rw [hs]; rfl) (by rw [hs]; rfl)) (one_run fun v H Q ⟨F, ds, Qd, hs, hr, hg, q⟩ => by
    match ds, hg with
    | [.list ys], ⟨ns, e2, hq⟩ =>
      obtain ⟨w, ew, rv⟩ := hr.one
      injection ew with ew _
      subst ew
      obtain ⟨a, xs, rfl, s1, r1⟩ := rv.sql hs
      have ev := r1.intsV e2
      subst ev
      exact ⟨a, ns, rfl, rfl, s1, fun ms p h1 h2 hp => q _ _ _ _ (hq ms h1 h2) (.own hs hp) (.lst hs hp (reps_ints ms))⟩)
end
/-! methods of a list -/
def rIxI (K : PySem.W.Frag) : V → List V → Hp → VK → Prop := fun x xs H Q => ∃ (p : Addr) (ns : List Int) (k : Int), x = .ref p ∧ xs = [.int k] ∧ SqL K H p (ns.map V.int) ∧ k ∈ ns ∧ Q (.int (ns.idxOf k : Nat)) H
def rIxS (K : PySem.W.Frag) : V → List V → Hp → VK → Prop := fun x xs H Q => ∃ (p : Addr) (ns : List Str) (k : Str), x = .ref p ∧ xs = [.str k] ∧ SqL K H p (ns.map V.str) ∧ k ∈ ns ∧ Q (.int (ns.idxOf k : Nat)) H
theorem strsAre {ys : List Str} {us : List Value} (r : Vals (ys.map V.str) us) : StrsAre us ys := by
  induction ys generalizing us with
  | nil =>
    cases r
    exact .nil
  | cons y ys ih =>
    cases r with
    | cons r t =>
      obtain ⟨k, rfl⟩ := r
      exact .cons y k (ih t)
section
variable {X : Cx} {c : Ent} {e e2 : Expr} {a1 a2 : WO} {apos cpos : Pos}
theorem mt_ixI : MtR X "list.index" (fun x xs H Q => rIxI X.K x xs H Q ∨ rIxS X.K x xs H Q) := by
  intro pins s σ H x xs v us Q I rx rxs h
  rcases h with ⟨p, ns, k, rfl, rfl, hs, hk, q⟩ | ⟨p, ns, k, rfl, rfl, hs, hk, q⟩
  · cases rx
    obtain ⟨u, rfl, ru⟩ := rxs.one
    obtain ⟨t, rfl⟩ := ru
    obtain ⟨its, rv, hl, hz⟩ := I.list hs
    exact SeqAt.list_index_ints hl.isList rv.ints (by rw [List.length_map] at hz; exact hz) hk ⟨.int _, H, I.tok _, ⟨_, rfl⟩, q⟩
  · cases rx
    obtain ⟨u, rfl, ru⟩ := rxs.one
    obtain ⟨t, rfl⟩ := ru
    obtain ⟨its, rv, hl, hz⟩ := I.list hs
    exact SeqAt.list_index_strs hl.isList (strsAre rv) (by rw [List.length_map] at hz; exact hz) hk ⟨.int _, H, I.tok _, ⟨_, rfl⟩, q⟩
theorem tyV_lst {K : PySem.W.Frag} {H : Hp} {a : Addr} {xs : List V} (h : SqL K H a xs) : tyV K "list" (.ref a) H := .inl ⟨rfl, xs, h⟩
theorem sn_lm {name : Str} {id : String} {r : V → List V → Hp → VK → Prop} (hm0 : ∀ ρ x, mtOk .count ρ x = cont ρ x isLstD) (slot : Slot "list" name id) (hty : typeOf (.builtin id) = pure (.type "method_descriptor")) (hm : MtR X id r)
    (hr : ∀ (F H : Hp) (a : Addr) (vs : List V) (xs : List D) (w : V) (dy : D) (Q : VK) (Qd : D → Prop), Same F H → SqL X.K H a vs → Reps X.K F vs xs → Red X.K F H w dy → mtS .count (.list xs) [dy] Qd → (∀ i : Int, Qd (.int i) → Q (.int i) H) → r (.ref a) [w] H Q)
    (h1 : PE X e (tO X.K c a1)) (h2 : PE X e2 (tO X.K c a2)) (hbase : attributeBase e name X.env (eval e X.env) = eval e X.env) (hl : (apos.endLine == cpos.line) = true) (hs : starEach [e2] X.env = (false, eval e2 X.env) :: starEach [] X.env) :
    PE X (.Call (.Attribute e name apos) [e2] [] cpos) (tB X.K c fun ρ Q => a1 ρ fun x ρ1 => mtOk .count ρ1 x ∧ a2 ρ1 fun y ρ2 => cont ρ2 x fun dx => conts ρ2 [y] fun ds => mtS .count dx ds fun d => Q d (isMut d) ρ2) :=
  PE.imp (pe_bm PySem.F.plainAttrs_list slot hty hm h1 (pa_cons h2 pa_nil hs) hbase (by rw [hs]; rfl) hl hs rfl) fun σ H Q ⟨F, ρ, Qd, ok, g, q⟩ => ⟨F, ρ, _, ok, g, fun x ρ1 v F1 H1 ⟨ht, hx⟩ ok1 ex1 r1 => by
    rw [hm0] at ht
    obtain ⟨dx, rx, hd⟩ := cont_red ok1 r1 ht
    cases dx with
    | list xs =>
      obtain ⟨a, vs, rfl, s1, rs⟩ := rx.sql ok1.fh
      refine ⟨tyV_lst s1, F1, ρ1, _, ok1, hx, fun y ρ2 u F2 H2 hy ok2 ex2 r2 => ?_⟩
      obtain ⟨dx, rx, hy⟩ := cont_red ok2 (r1.ext ex2) hy
      obtain ⟨dy, ry, hf⟩ := cont_red ok2 r2 hy
      cases dx with
      | list xs =>
        obtain ⟨b, ws, eb, s2, rs2⟩ := rx.sql ok2.fh
        cases eb
        refine hr F2 H2 a ws xs u dy Q (fun d => Qd d (isMut d) ρ2) ok2.fh s2 rs2 ry hf fun i hi => q _ _ ρ2 _ F2 H2 hi ok2 (ex1.trans ex2) (.fz (.int _))
      | dict kv => exact hf.elim
      | _ => exact hf.elim
    | _ => exact hd.elim⟩
def rIxT0 (K : PySem.W.Frag) : V → List V → Hp → VK → Prop := fun x xs H Q => ∃ p, ∃ ys : List Int, ∃ z, x = .ref p ∧ xs = [.int z] ∧ SqT K H p (ys.map V.int) ∧ z ∈ ys ∧ Q (.int (ys.idxOf z : Nat)) H
def rIxTS (K : PySem.W.Frag) : V → List V → Hp → VK → Prop := fun x xs H Q => ∃ (p : Addr) (ns : List Str) (k : Str), x = .ref p ∧ xs = [.str k] ∧ SqT K H p (ns.map V.str) ∧ k ∈ ns ∧ Q (.int (ns.idxOf k : Nat)) H
def rIxT (K : PySem.W.Frag) : V → List V → Hp → VK → Prop := fun x xs H Q => rIxT0 K x xs H Q ∨ rIxTS K x xs H Q
theorem mt_tup_ix : MtR X "tuple.index" (rIxT X.K) := by
  intro pins s σ H x xs v us Q I rx rxs h
  rcases h with h | ⟨p, ns, k, rfl, rfl, hs, hk, q⟩
  · exact mt_tup_indexI pins s σ H x xs v us Q I rx rxs h
  · cases rx
    obtain ⟨u, rfl, ru⟩ := rxs.one
    obtain ⟨t, rfl⟩ := ru
    obtain ⟨its, rv, hl, hz⟩ := I.tuple hs
    exact SeqAt.tuple_index_strs (show s.heap.IsTuple p its.toArray from hl) (strsAre rv) hk ⟨.int _, H, I.tok _, ⟨_, rfl⟩, q⟩
theorem sn_index (h1 : PE X e (tO X.K c a1)) (h2 : PE X e2 (tO X.K c a2)) (hbase : attributeBase e "index" X.env (eval e X.env) = eval e X.env) (hl : (apos.endLine == cpos.line) = true) (hs : starEach [e2] X.env = (false, eval e2 X.env) :: starEach [] X.env) :
    PE X (.Call (.Attribute e "index" apos) [e2] [] cpos) (tB X.K c fun ρ Q => a1 ρ fun x ρ1 => mtOk .index ρ1 x ∧ a2 ρ1 fun y ρ2 => cont ρ2 x fun dx => conts ρ2 [y] fun ds => mtS .index dx ds fun d => Q d (isMut d) ρ2) :=
  PE.imp (pe_bm2 (r := fun x xs H Q => rIxI X.K x xs H Q ∨ rIxS X.K x xs H Q) (r' := rIxT X.K) PySem.F.slot_list_index (by rfl) mt_ixI PySem.F.slot_tuple_index (by rfl) mt_tup_ix h1 (pa_cons h2 pa_nil hs) hbase (by rw [hs]; rfl) hl hs rfl) fun σ H Q ⟨F, ρ, Qd, ok, g, q⟩ => ⟨F, ρ, _, ok, g, fun x ρ1 v F1 H1 ⟨ht, hx⟩ ok1 ex1 r1 => by
    have lst : ∀ (F2 H2 : Hp) (ρ2 : Store) (u : V) (y : Od) (a : Addr) (vs : List V) (xs : List D), Ok X.K c F2 H2 σ ρ2 → Ext σ ρ F H ρ2 F2 H2 → SqL X.K H2 a vs → Reps X.K F2 vs xs → OdRep X.K F2 σ ρ2 u y → (conts ρ2 [y] fun ds => mtS .index (.list xs) ds fun d => Qd d (isMut d) ρ2) → rIxI X.K (.ref a) [u] H2 Q ∨ rIxS X.K (.ref a) [u] H2 Q := fun F2 H2 ρ2 u y a vs xs ok2 ex s2 rs2 r2 hy => by
      obtain ⟨dy, ry, hf⟩ := cont_red ok2 r2 hy
      cases dy with
      | int i =>
        obtain ⟨ns, e1, hk, qd⟩ := hf
        have ev := rs2.intsV e1
        subst ev
        exact .inl ⟨a, ns, i, rfl, by rw [ry.int], s2, hk, q _ _ ρ2 _ F2 H2 qd ok2 ex (.fz (.int _))⟩
      | str i =>
        obtain ⟨ns, e1, hk, qd⟩ := hf
        have ev := rs2.strsV e1
        subst ev
        exact .inr ⟨a, ns, i, rfl, by rw [ry.str], s2, hk, q _ _ ρ2 _ F2 H2 qd ok2 ex (.fz (.int _))⟩
      | _ => exact hf.elim
    cases x with
    | d d =>
      have r1 : Rep X.K F1 v d := r1
      cases d with
      | list xs =>
        cases r1 with
        | lst s1 rs => exact .inl ⟨⟨_, _, rfl, .of (ok1.fh _ _ s1)⟩, F1, ρ1, _, ok1, hx, fun y ρ2 u F2 H2 hy ok2 ex2 r2 => lst F2 H2 ρ2 u y _ _ xs ok2 (ex1.trans ex2) (.of (ok2.fh _ _ (ex2.ff _ _ s1))) (rs.mono ex2.ff) r2 hy⟩
      | tuple xs =>
        cases r1 with
        | tup s1 rs => exact .inr ⟨⟨_, _, rfl, plt_mono ok1.fh s1⟩, F1, ρ1, _, ok1, hx, fun y ρ2 u F2 H2 hy ok2 ex2 r2 => by
            obtain ⟨dy, ry, hf⟩ := cont_red ok2 r2 hy
            cases dy with
            | int i =>
              obtain ⟨ns, e1, hk, qd⟩ := hf
              have ev := rs.intsV e1
              subst ev
              exact .inl ⟨_, ns, i, rfl, by rw [ry.int], (plt_mono ok2.fh (plt_mono ex2.ff s1)).sqt, hk, q _ _ ρ2 _ F2 H2 qd ok2 (ex1.trans ex2) (.fz (.int _))⟩
            | str i =>
              obtain ⟨ns, e1, hk, qd⟩ := hf
              have ev := rs.strsV e1
              subst ev
              exact .inr ⟨_, ns, i, rfl, by rw [ry.str], (plt_mono ok2.fh (plt_mono ex2.ff s1)).sqt, hk, q _ _ ρ2 _ F2 H2 qd ok2 (ex1.trans ex2) (.fz (.int _))⟩
            | _ => exact hf.elim⟩
      | _ => exact ht.elim
    | s i =>
      have at_ : ∀ (F2 H2 : Hp) (ρ2 : Store), Ok X.K c F2 H2 σ ρ2 → (getO ρ2 i).isSome = true → ∃ p a vs xs, getO ρ2 i = some p ∧ p.2 = .list xs ∧ v = .ref a ∧ SqL X.K H2 a vs ∧ Reps X.K F2 vs xs := fun F2 H2 ρ2 ok2 z => by
        obtain ⟨⟨m, d⟩, hp⟩ := Option.isSome_iff_exists.mp z
        obtain ⟨g1, g2⟩ := getO_some hp
        obtain ⟨u, e, so⟩ := ok2.sl i m d g1
        rw [r1.1] at e
        cases e
        have ct : Cont X.K F2 H2 v d := by
          cases m with
          | v => exact absurd rfl g2
          | o => exact so.1
          | m => exact so.1.mono ok2.eb fun _ _ _ q => q
        cases d with
        | list xs =>
          obtain ⟨a, vs, e1, q1, rr⟩ := ct
          exact ⟨(m, .list xs), a, vs, xs, hp, rfl, e1, .of q1, rr⟩
        | _ => exact ct.elim
      obtain ⟨p, a, vs, xs, hp, e1, rfl, s1, rs⟩ := at_ F1 H1 ρ1 ok1 r1.2
      refine .inl ⟨⟨a, vs, rfl, s1⟩, F1, ρ1, _, ok1, hx, fun y ρ2 u F2 H2 hy ok2 ex2 r2 => ?_⟩
      obtain ⟨p2, a2, vs2, xs2, hp2, e2, ea, s2, rs2⟩ := at_ F2 H2 ρ2 ok2 ((ex2.md i).symm.trans r1.2)
      cases ea
      have hy : cont ρ2 (.s i) fun dx => conts ρ2 [y] fun ds => mtS .index dx ds fun d => Qd d (isMut d) ρ2 := hy
      simp only [cont, hp2, e2] at hy
      exact lst F2 H2 ρ2 u y _ _ xs2 ok2 (ex1.trans ex2) s2 rs2 r2 hy⟩
theorem sn_count (h1 : PE X e (tO X.K c a1)) (h2 : PE X e2 (tO X.K c a2)) (hbase : attributeBase e "count" X.env (eval e X.env) = eval e X.env) (hl : (apos.endLine == cpos.line) = true) (hs : starEach [e2] X.env = (false, eval e2 X.env) :: starEach [] X.env) :
    PE X (.Call (.Attribute e "count" apos) [e2] [] cpos) (tB X.K c fun ρ Q => a1 ρ fun x ρ1 => mtOk .count ρ1 x ∧ a2 ρ1 fun y ρ2 => cont ρ2 x fun dx => conts ρ2 [y] fun ds => mtS .count dx ds fun d => Q d (isMut d) ρ2) :=
  sn_lm (fun _ _ => rfl) PySem.F.slot_list_count (by rfl) mt_lcount (fun F H a vs xs w dy Q Qd hs s1 r1 ry hf hq => by
    cases dy with
    | int i =>
      obtain ⟨ns, e1, qd⟩ := hf
      have ev := r1.intsV e1
      subst ev
      exact ⟨a, ns, i, rfl, by rw [ry.int], s1, hq _ qd⟩
    | _ => exact hf.elim) h1 h2 hbase hl hs
theorem valV_merge (k : Int) : ∀ (ps : List (Int × Int)) (acc : List (Key × V)), valV (mergeK acc (ps.map fun p => ((Sum.inl p.1 : Key), V.int p.2))) (Sum.inl k) = (match lastP ps k with | some i => some (.int i) | none => valV acc (Sum.inl k))
  | [], acc => rfl
  | p :: ps, acc => by
    have e : mergeK acc ((p :: ps).map fun p => ((Sum.inl p.1 : Key), V.int p.2)) = mergeK (putK acc (Sum.inl p.1) (.int p.2)) (ps.map fun p => ((Sum.inl p.1 : Key), V.int p.2)) := rfl
    have e2 : lastP (p :: ps) k = (match lastP ps k with | some i => some i | none => if p.1 = k then some p.2 else none) := by
      unfold lastP
      rw [List.reverse_cons, List.find?_append]
      cases hf : ps.reverse.find? fun p => decide (p.1 = k) with
      | some x => rfl
      | none =>
        by_cases h : p.1 = k
        · simp [h]
        · simp [h]
    rw [e, valV_merge k ps, valV_put, e2]
    cases lastP ps k with
    | some i => rfl
    | none =>
      by_cases h : p.1 = k
      · subst h
        simp
      · simp [h, Ne.symm h]
theorem sn_get {e3 : Expr} {a3 : WO} (hu : X.A.units + 1 < cLine) (h1 : PE X e (tO X.K c a1)) (h2 : PE X e2 (tO X.K c a2)) (h3 : PE X e3 (tO X.K c a3)) (hm : M2 X e "get" apos e2 e3 cpos) :
    PE X (.Call (.Attribute e "get" apos) [e2, e3] [] cpos) (tB X.K c fun ρ Q => a1 ρ fun x ρ1 => mtOk .get ρ1 x ∧ a2 ρ1 fun y ρ2 => a3 ρ2 fun z ρ3 => cont ρ3 x fun dx => conts ρ3 [y, z] fun ds => mtS .get dx ds fun d => Q d (isMut d) ρ3) :=
  PE.imp (pe_dget2 hu h1 h2 h3 hm) fun σ H Q ⟨F, ρ, Qd, ok, g, q⟩ => ⟨F, ρ, _, ok, g, fun x ρ1 v F1 H1 ⟨ht, hx⟩ ok1 ex1 r1 => by
    obtain ⟨dx, rx, hd⟩ := cont_red ok1 r1 ht
    obtain ⟨ps, hps⟩ := Option.isSome_iff_exists.mp (show (dctOf dx).isSome = true from hd)
    obtain ⟨r, rfl, hk⟩ := dctOf_is hps
    obtain ⟨a, rfl, ha⟩ := rx.dct ok1.fh hk
    refine ⟨a, rfl, .inl ⟨_, .inl ha⟩, F1, ρ1, _, ok1, hx, fun y ρ2 u F2 H2 hy ok2 ex2 r2 => ⟨F2, ρ2, _, ok2, hy, fun z ρ3 w F3 H3 hz ok3 ex3 r3 => ?_⟩⟩
    obtain ⟨dx, rx3, hz⟩ := cont_red ok3 ((r1.ext ex2).ext ex3) hz
    obtain ⟨dy, ry, hz⟩ := cont_red ok3 (r2.ext ex3) hz
    obtain ⟨dz, rz, hz⟩ := cont_red ok3 r3 hz
    cases dy with
    | int i =>
      obtain ⟨ps3, hp3, hm3, hq⟩ := (show ∃ ps, dctOf dx = some ps ∧ isMut dz = false ∧ Qd (match lastP ps i with | some i => .int i | none => dz) (isMut (match lastP ps i with | some i => .int i | none => dz)) ρ3 from hz)
      obtain ⟨r3', rfl, hk3⟩ := dctOf_is hp3
      obtain ⟨a3, ea, ha3⟩ := rx3.dct ok3.fh hk3
      cases ea
      refine ⟨valV (mergeK [] (ps3.map fun p => ((Sum.inl p.1 : Key), V.int p.2))) (Sum.inl i), .inl ⟨_, _, .inl ha3, by rw [ry.int]; rfl, rfl⟩, ?_⟩
      rw [valV_merge]
      cases hl : lastP ps3 i with
      | some j =>
        rw [hl] at hq
        exact q _ _ ρ3 _ F3 H3 hq ok3 ((ex1.trans ex2).trans ex3) (.fz (.int _))
      | none =>
        rw [hl] at hq
        exact q _ _ ρ3 _ F3 H3 hq ok3 ((ex1.trans ex2).trans ex3) (hm3 ▸ .fz (rz.rep hm3))
    | _ => exact hz.elim⟩
end
end DL

set_option maxHeartbeats 4000000
/-! DL part J: targets, what is walked, comprehensions, pop. -/
namespace DL
open PySem PySem.Spec PyProof.Rows L2

def gNs : List Nat → TGs
  | [] => gNil
  | i :: is => gCons (gName i) (gNs is)
def gB (K : PySem.W.Frag) : Tg → TG
  | .nm i => gName i
  | .tp is => gTup K is.length (gNs is)
section
variable {K : PySem.W.Frag} {c : Ent} {F H F' H' F1 H1 : Hp} {σ σ' : L2.St} {ρ ρ' ρ1 : Store} {v : V} {d : D}
theorem Ok.set (ok : Ok K c F H σ ρ) (i : Nat) (r : Rep K F v d) : Ok K c F H (σ.set i (some v)) (ρ.set i (some (.v, d))) := by
  have hl := ok.ln
  refine ⟨ok.fh, by rw [List.length_set, List.length_set]; exact hl, ok.e0, ok.e1, ok.e2, ok.e3, ok.eb, fun j m d' h => ?_, fun j k a p q hp hq np nq ej ek => ?_, ok.tb, ok.te, ok.nt⟩
  · by_cases e : i = j
    · subst e
      by_cases hi : i < ρ.length
      · rw [List.getElem?_set_self hi] at h
        cases h
        exact ⟨v, List.getElem?_set_self (by omega), r⟩
      · rw [List.getElem?_eq_none (by rw [List.length_set]; omega)] at h
        cases h
    · rw [List.getElem?_set_ne e] at h ⊢
      exact ok.sl j m d' h
  · have off : ∀ j (p : Md × D), (ρ.set i (some (.v, d)))[j]? = some (some p) → p.1 ≠ .v → i ≠ j ∧ ρ[j]? = some (some p) := fun j p hp np => by
      by_cases e : i = j
      · subst e
        by_cases hi : i < ρ.length
        · rw [List.getElem?_set_self hi] at hp
          cases hp
          exact absurd rfl np
        · rw [List.getElem?_eq_none (by rw [List.length_set]; omega)] at hp
          cases hp
      · rw [List.getElem?_set_ne e] at hp
        exact ⟨e, hp⟩
    obtain ⟨n1, g1⟩ := off j p hp np
    obtain ⟨n2, g2⟩ := off k q hq nq
    rw [List.getElem?_set_ne n1] at ej
    rw [List.getElem?_set_ne n2] at ek
    exact ok.ds j k a p q g1 g2 np nq ej ek
theorem binds_ok : ∀ {is : List Nat} {ds : List D} {vs : List V} {ρ ρ' : Store} {σ : L2.St} {Q : L2.St → Hp → Prop}, Ok K c F H σ ρ → Reps K F vs ds → bindTs is ds ρ = some ρ' → (∀ σ', Ok K c F H σ' ρ' → Q σ' H) → gNs is vs σ H Q
  | [], _, _, _, _, _, _, ok, .nil, e, q => ⟨rfl, q _ (by cases e; exact ok)⟩
  | i :: is, _, _, _, _, _, _, ok, .cons r rs, e, q => ⟨_, _, rfl, binds_ok (ok.set i r) rs e q⟩
  | [], _, _, _, _, _, _, _, .cons _ _, e, _ => nomatch e
  | _ :: _, _, _, _, _, _, _, _, .nil, e, _ => nomatch e
theorem bindTs_len : ∀ {is : List Nat} {ds : List D} {ρ ρ' : Store}, bindTs is ds ρ = some ρ' → ds.length = is.length
  | [], [], _, _, _ => rfl
  | _ :: is, _ :: ds, _, _, e => congrArg (· + 1) (bindTs_len (is := is) (ds := ds) e)
  | [], _ :: _, _, _, e => nomatch e
  | _ :: _, [], _, _, e => nomatch e
theorem bind_ok {t : Tg} {k : Store → Prop} {Q : L2.St → Hp → Prop} (ok : Ok K c F H σ ρ) (r : Rep K F v d) (h : bindT t d ρ k) (q : ∀ σ' ρ', k ρ' → Ok K c F H σ' ρ' → Q σ' H) : gB K t v σ H Q := by
  cases t with
  | nm i => exact q _ _ h (ok.set i r)
  | tp is =>
    cases d with
    | tuple ds =>
      obtain ⟨ρ', e, hk⟩ := h
      cases r with
      | tup s rs => exact ⟨_, _, rfl, sqt_mono ok.fh s.sqt, by rw [rs.len]; exact bindTs_len e, binds_ok ok rs e fun σ' ok' => q σ' ρ' hk ok'⟩
    | _ => exact h.elim

/-! ### what is walked -/
structure DWalk (K : PySem.W.Frag) (F : Hp) (J : L2.It) (ds : List D) : Prop where
  goes : ∀ i H, i < ds.length → Same F H → J.go i H
  stops : ∀ H, Same F H → J.stop ds.length H
  yields : ∀ i H x H' G, i < ds.length → Same F G → Same G H → J.yld i H x H' → ∃ d G', ds[i]? = some d ∧ NewE G H G' H' ∧ Rep K G' x d
def tI (K : PySem.W.Frag) (c : Ent) (w : Store → (List D → Store → Prop) → Prop) : TI := fun σ H R => ∃ (F : Hp) (ρ : Store) (Qd : List D → Store → Prop), Ok K c F H σ ρ ∧ w ρ Qd ∧
  ∀ ds ρ' F' H' J, Qd ds ρ' → Ok K c F' H' σ ρ' → Ext σ ρ F H ρ' F' H' → DWalk K F' J ds → R J H'
theorem dw_list {a : Addr} {xs : List V} {ds : List D} (q : F a = some (.lst xs)) (r : Reps K F xs ds) : DWalk K F (Itl K a) ds where
  goes := fun i H hi hs => ⟨xs, xs[i]'(by rw [r.len]; exact hi), .of (hs _ _ q), List.getElem?_eq_getElem _⟩
  stops := fun H hs => ⟨xs, .of (hs _ _ q), by rw [r.len]; exact Nat.le_refl _⟩
  yields := fun i H x H' G hi hs hg ⟨e, y⟩ => by
    subst e
    have z := y xs (.of (hg _ _ (hs _ _ q)))
    obtain ⟨d, ed, rd⟩ := r.getV z
    exact ⟨d, G, ed, .refl hg, Rep.mono hs d x rd⟩
theorem dw_scr {a : Addr} {ns : List Int} (q : SqL K F a (ns.map V.int)) : DWalk K F (Itl K a) (ns.map PyData.int) where
  goes := fun i H hi hs => ⟨ns.map V.int, V.int (ns[i]'(by rw [List.length_map] at hi; exact hi)), hs.seq q, by rw [List.getElem?_map, List.getElem?_eq_getElem]; rfl⟩
  stops := fun H hs => ⟨ns.map V.int, hs.seq q, by rw [List.length_map, List.length_map]; exact Nat.le_refl _⟩
  yields := fun i H x H' G hi hs hg ⟨e, y⟩ => by
    subst e
    have z := y _ ((hs.trans hg).seq q)
    obtain ⟨d, ed, rd⟩ := (reps_ints (K := K) (F := G) ns).getV z
    exact ⟨d, G, ed, .refl hg, rd⟩
theorem dw_tup {a : Addr} {xs : List V} {ds : List D} (q : SqT K F a xs) (r : Reps K F xs ds) : DWalk K F (Itt K a) ds where
  goes := fun i H hi hs => ⟨xs, xs[i]'(by rw [r.len]; exact hi), sqt_mono hs q, List.getElem?_eq_getElem _⟩
  stops := fun H hs => ⟨xs, sqt_mono hs q, by rw [r.len]; exact Nat.le_refl _⟩
  yields := fun i H x H' G hi hs hg ⟨e, y⟩ => by
    subst e
    have z := y xs (sqt_mono (hs.trans hg) q)
    obtain ⟨d, ed, rd⟩ := r.getV z
    exact ⟨d, G, ed, .refl hg, Rep.mono hs d x rd⟩
theorem rangeD_len (a b : Int) : (rangeD a b).length = (b - a).toNat := by
  unfold rangeD
  rw [List.length_map, List.length_range]
theorem dw_range {a b : Int} {n : Nat} (hn : n = (b - a).toNat) : DWalk K F (Itr a n) (rangeD a b) where
  goes := fun i H hi _ => by
    rw [rangeD_len, ← hn] at hi
    exact hi
  stops := fun H _ => by
    rw [rangeD_len, ← hn]
    exact Nat.le_refl _
  yields := fun i H x H' G hi hs hg ⟨e1, e2⟩ => by
    subst e1 e2
    rw [rangeD_len] at hi
    refine ⟨.int (a + (i : Nat)), G, ?_, .refl hg, .int _⟩
    unfold rangeD
    rw [List.getElem?_map, List.getElem?_range hi]
    rfl
end
section
variable {X : Cx} {c : Ent} {e e2 tg : Expr} {w w2 : WB} {p pos : Pos}
/-- iter of a list or a tuple -/
theorem iter_new {pins : List (Addr × Obj)} {s : Shared} {σ : L2.St} {H : Hp} {R : L2.It → Hp → Prop} {J : L2.It} {tn : Nat → Heap → Prop} {ob : Obj} (I : Inv X pins σ H s) (T : Turn X.prog X.w X.K tg J [s.heap.objs.size] s.heap.objs.size tn)
    (h0 : tn 0 (s.heap.push ob)) (q : R J H) : PIE X pins σ tg R (.ref s.heap.objs.size) { s with heap := s.heap.push ob } :=
  ⟨_, [_], tn, J, H, rfl, I.kept (t' := s.toks) fun _ _ g => Heap.get?_push_of_some _ g, T, h0, fun b hb => by
    rw [List.mem_singleton.mp hb]
    exact I.fpOk (Nat.le_refl _) I.fresh, q⟩
def iSeq (K : PySem.W.Frag) (tl : TE) : TI := fun σ H R => tl σ H fun x H1 => (∃ a, x = .ref a ∧ (((∃ xs, SqL K H1 a xs) ∧ R (Itl K a) H1) ∨ ((∃ xs, SqT K H1 a xs) ∧ R (Itt K a) H1))) ∨ (∃ z, x = .str z ∧ R (Its z) H1) ∨ ∃ a lo hi, x = .ref a ∧ H1 a = some (.rng lo hi) ∧ (-(2 ^ 62) ≤ lo ∧ lo < 2 ^ 62 ∧ -(2 ^ 62) ≤ hi ∧ hi < 2 ^ 62) ∧ R (Itr lo (hi - lo).toNat) H1
theorem pi_seq {t : TE} (h : PE X e t) : PI X tg e (iSeq X.K t) :=
  ⟨fun pins s σ H R I q => thn (h.run pins s σ H _ I q) fun v s1 ⟨x, H1, I1, r1, q0⟩ => by
    rcases q0 with ⟨a, ex, q1⟩ | ⟨z, ex, q1⟩ | ⟨a, lo, hi, ex, ha, ⟨b1, b2, b3, b4⟩, q1⟩
    rotate_left
    · subst ex
      obtain ⟨t, rfl⟩ := r1
      cases ha : z.cps.all (· < 128)
      · exact wpAny_pyIter_wide ha (iter_new I1 (turn_str _ z t "str_iterator" (.inr rfl)) ⟨_, Heap.get?_push_size _ rfl, rfl, rfl⟩ q1)
      · exact wpAny_pyIter_ascii ha (iter_new I1 (turn_str _ z t "str_ascii_iterator" (.inl rfl)) ⟨_, Heap.get?_push_size _ rfl, rfl, rfl⟩ q1)
    · subst ex
      cases r1
      obtain ⟨t, u, v, hr⟩ : ∃ t u v, s1.heap.get? a = some { cls := .type "range", data := .fields #[.int lo t, .int hi u, .int 1 v] } := I1.hok a _ ha
      refine wpAny_pyIter_range (show IsRange s1.heap a lo hi 1 t u v from hr) (small_one b1 b2 b3 b4) (iter_new I1 (turn_range _ lo (hi - lo).toNat) ?_ q1)
      have e1 : lo + ((0 : Nat) : Int) * 1 = lo := by simp
      have e2 : (((hi - lo).toNat : Nat) : Int) - ((0 : Nat) : Int) = Builtin.Range.rangeSize lo hi 1 := by rw [rangeSize_one]; split <;> omega
      show IsRangeIter _ _ (lo + ((0 : Nat) : Int) * 1) ((((hi - lo).toNat : Nat) : Int) - ((0 : Nat) : Int)) 1
      rw [e1, e2]
      exact Heap.get?_push_size _ rfl
    subst ex
    cases r1
    rcases q1 with ⟨⟨xs, hx⟩, q1⟩ | ⟨⟨xs, hx⟩, q1⟩
    · obtain ⟨us, _, pl, _⟩ := I1.list hx
      exact wpAny_pyIter_list pl.isList (iter_new I1 (turn_list a _) ⟨_, Heap.get?_push_size _ rfl, rfl, rfl⟩ q1)
    · obtain ⟨us, _, pl, _⟩ := I1.tuple hx
      exact wpAny_pyIter_tuple (show s1.heap.IsTuple a us.toArray from pl) (iter_new I1 (turn_tuple a _) ⟨_, Heap.get?_push_size _ rfl, rfl, rfl⟩ q1)⟩
theorem seqOf_cases {d : D} {xs : List D} (h : seqOf d = some xs) : d = .list xs ∨ d = .tuple xs ∨ d = .dict [(.none, .list xs)] := by
  unfold seqOf at h
  split at h
  · cases h
    exact .inl rfl
  · cases h
    exact .inr (.inl rfl)
  · cases h
    exact .inr (.inr rfl)
  · cases h
theorem dw_str {K : PySem.W.Frag} {F : Hp} {z : Str} : DWalk K F (Its z) (signsD z) where
  goes := fun i H hi _ => by
    unfold signsD at hi
    rw [List.length_map, Array.length_toList] at hi
    exact hi
  stops := fun H _ => by
    unfold signsD
    rw [List.length_map, Array.length_toList]
    exact Nat.le_refl _
  yields := fun i H x H' G hi hs hg ⟨e1, c, hc, e2⟩ => by
    subst e1 e2
    refine ⟨.str ⟨#[c]⟩, G, ?_, .refl hg, .str _⟩
    unfold signsD
    rw [List.getElem?_map, Array.getElem?_toList, hc]
    rfl
theorem itOf_cases {d : D} {xs : List D} (h : itOf d = some xs) : (∃ z, d = .str z ∧ xs = signsD z) ∨ (∃ lo hi : Int, d = rgoD lo hi ∧ ((-(2 ^ 62) ≤ lo ∧ lo < 2 ^ 62) ∧ -(2 ^ 62) ≤ hi ∧ hi < 2 ^ 62) ∧ xs = rangeD lo hi) ∨ seqOf d = some xs := by
  unfold itOf at h
  split at h
  · cases h
    exact .inl ⟨_, rfl, rfl⟩
  · rename_i lo hi
    split at h
    · rename_i hb
      cases h
      exact .inr (.inl ⟨lo, hi, rfl, hb, rfl⟩)
    · cases h
  · exact .inr (.inr h)
theorem si_val (h : PE X e (tFz X.K c (frz w))) : PI X tg e (tI X.K c fun ρ Q => frz w ρ fun d ρ1 => ∃ xs, itOf d = some xs ∧ Q xs ρ1) := by
  refine PI.imp (pi_seq h) fun σ H R ⟨F, ρ, Qd, ok, g, q⟩ => ⟨F, ρ, _, ok, g, fun d ρ1 v F1 H1 ⟨xs, es, hx⟩ ok1 ex1 r1 => ?_⟩
  rcases itOf_cases es with ⟨z, e, e'⟩ | ⟨lo, hi, e, ⟨⟨b1, b2⟩, b3, b4⟩, e'⟩ | es
  · subst e e'
    cases r1
    exact .inr (.inl ⟨z, rfl, q _ ρ1 F1 H1 _ hx ok1 ex1 dw_str⟩)
  · subst e e'
    cases r1 with
    | rgo _ _ ha => exact .inr (.inr ⟨_, lo, hi, rfl, ok1.fh _ _ ha, ⟨b1, b2, b3, b4⟩, q _ ρ1 F1 H1 _ hx ok1 ex1 (dw_range rfl)⟩)
  refine .inl ?_
  rcases seqOf_cases es with e | e | e
  · subst e
    cases r1 with
    | lst s r => exact ⟨_, rfl, .inl ⟨⟨_, .of (ok1.fh _ _ s)⟩, q xs ρ1 F1 H1 _ hx ok1 ex1 (dw_list s r)⟩⟩
  · subst e
    cases r1 with
    | tup s r => exact ⟨_, rfl, .inr ⟨⟨_, sqt_mono ok1.fh s.sqt⟩, q xs ρ1 F1 H1 _ hx ok1 ex1 (dw_tup s.sqt r)⟩⟩
  · subst e
    obtain ⟨a, ns, rfl, e, s⟩ := (show Red X.K F1 F1 v _ from .inl r1).scr (Same.refl _) (by intro lo hi e; cases e) (by intro b x r e; cases e)
    obtain rfl : xs = ns.map PyData.int := by
      injection e with e1 _
      injection e1 with _ e2
      injection e2
    exact ⟨_, rfl, .inl ⟨⟨_, ok1.fh.seq s⟩, q _ ρ1 F1 H1 _ hx ok1 ex1 (dw_scr s)⟩⟩
theorem si_rng (hg : Gl X "range") (hm : X.mg "range" = none) (h : PE X e (tFz X.K c (frz w))) (st : starEach [e] X.env = (false, eval e X.env) :: starEach [] X.env) :
    PI X tg (.Call (.Name "range" p) [e] [] pos) (tI X.K c fun ρ Q => frz w ρ fun x ρ1 => ∃ n, x = .int n ∧ rngOk 0 n ∧ Q (rangeD 0 n) ρ1) :=
  PI.imp (pi_range1 hg hm (pa_cons h pa_nil st) st) fun σ H R ⟨F, ρ, Qd, ok, g, q⟩ => ⟨F, ρ, _, ok, g, fun d ρ1 v F1 H1 ⟨n, e, ho, hx⟩ ok1 ex1 r1 => by
    subst e
    cases r1
    obtain ⟨_, _, z1, z2⟩ := ho
    exact ⟨n, rfl, z1, z2, q _ ρ1 F1 H1 _ hx ok1 ex1 (dw_range (by omega))⟩⟩
theorem si_rng2 (hg : Gl X "range") (hm : X.mg "range" = none) (h : PE X e (tFz X.K c (frz w))) (h2 : PE X e2 (tFz X.K c (frz w2))) (st : starEach [e, e2] X.env = (false, eval e X.env) :: starEach [e2] X.env) (st2 : starEach [e2] X.env = (false, eval e2 X.env) :: starEach [] X.env) :
    PI X tg (.Call (.Name "range" p) [e, e2] [] pos) (tI X.K c fun ρ Q => frz w ρ fun x ρ1 => frz w2 ρ1 fun y ρ2 => ∃ m n, x = .int m ∧ y = .int n ∧ rngOk m n ∧ Q (rangeD m n) ρ2) :=
  PI.imp (pi_range2 hg hm (pa_cons h (pa_cons h2 pa_nil st2) st) (by rw [st, st2]; rfl) st2) fun σ H R ⟨F, ρ, Qd, ok, g, q⟩ => ⟨F, ρ, _, ok, g, fun d ρ1 v F1 H1 hd ok1 ex1 r1 => ⟨F1, ρ1, _, ok1, hd, fun d2 ρ2 v2 F2 H2 ⟨m, n, e, e', ho, hx⟩ ok2 ex2 r2 => by
    subst e e'
    cases r1
    cases r2
    exact ⟨m, n, rfl, ho, q _ ρ2 F2 H2 _ hx ok2 (ex1.trans ex2) (dw_range rfl)⟩⟩⟩
end
end DL

set_option maxHeartbeats 4000000
/-! DL part J2: enumerate over a list or a tuple. -/
namespace DL
open PySem PySem.Spec PyProof.Rows L2
open Sem (wp)
theorem en_meets {v : Value} {cell : Obj} {Hd : Heap → Prop} (B : Begins v cell Hd) :
    Meets (Builtin.«enumerate.__new__» ⟨[.type "enumerate", v], []⟩) (fun _ R s => Hd s.heap ∧
      R (.ok (.ret (.ref (s.heap.push cell).objs.size))) { s with heap := (s.heap.push cell).push ⟨.type "enumerate", none, .fields #[.none, .bool false, .ref s.heap.objs.size, rawInt 0, .none, .none], #[]⟩ }) :=
  .of_wp fun prog w A R s h => by
    obtain ⟨hp, gs, dr, tok, oss⟩ := s
    obtain ⟨h1, h2⟩ := h
    have hsub := sub_enumerate
    have stp : ∀ {A' : Around} {E' : Value → Shared → Prop} {Q' : Value → Shared → Prop}, Q' (.ref hp.objs.size) ⟨hp.push cell, gs, dr, tok, oss⟩ → wpAny (model prog w) A' (pyIter v) Q' E' ⟨hp, gs, dr, tok, oss⟩ := fun q => B.iter prog w _ _ ⟨hp, gs, dr, tok, oss⟩ _ h1 q
    wp_walk
    refine (wpAny_stack_any fun stk => wpAny_pure ?_)
    split
    · rename_i c _ _ _ _ _
      cases (c == Value.type "enumerate")
      · wp_walk using stp
        exact ⟨_, rfl, h2⟩
      · wp_walk using stp
        exact ⟨_, rfl, h2⟩
    · wp_walk using stp
      exact ⟨_, rfl, h2⟩
section
variable {prog : Program} {w : World} {A : Around} {E : Value → Shared → Prop} {s : Shared}
theorem en_call {v : Value} {cell : Obj} {Hd : Heap → Prop} {Q : Value → Shared → Prop} (B : Begins v cell Hd) (h1 : Hd s.heap)
    (k : ∀ h', IsEnum h' (s.heap.objs.size + 1) s.heap.objs.size 0 .none → h'.get? s.heap.objs.size = some cell → (∀ b o, s.heap.get? b = some o → h'.get? b = some o) → Q (.ref (s.heap.objs.size + 1)) { s with heap := h' }) :
    wpAny (model prog w) A (call (.type "enumerate") [v]) Q E s := by
  refine callType_new F.called_enumerate (by decide) (F.typeCall_enumerate_1 _) (F.newCall_enumerate_1 _) (fun obj => F.args_object_init_2 obj _) F.entry_enumerate_new (en_meets B) ⟨h1, ?_⟩
  have sz : (s.heap.push cell).objs.size = s.heap.objs.size + 1 := Heap.size_push ..
  show _ ∧ _
  rw [sz]
  have ie : IsEnum ((s.heap.push cell).push ⟨.type "enumerate", none, .fields #[.none, .bool false, .ref s.heap.objs.size, rawInt 0, .none, .none], #[]⟩) (s.heap.objs.size + 1) s.heap.objs.size 0 .none := by
    have z := Heap.get?_push_size (s.heap.push cell) (o := ⟨.type "enumerate", none, .fields #[.none, .bool false, .ref s.heap.objs.size, rawInt 0, .none, .none], #[]⟩) rfl
    rw [sz] at z
    exact z
  exact ⟨⟨_, ie, rfl⟩, k _ ie (Heap.get?_push_of_some _ (Heap.get?_push_size _ B.free)) fun b o x => Heap.get?_push_of_some _ (Heap.get?_push_of_some _ x)⟩
end
def IterX (tk : Bool) (h : Heap) (it a : Addr) (i : Nat) : Prop := match tk with
  | true => h.IsTupleIter it a i
  | false => h.IsListIter it a i
def cellX (tk : Bool) (a : Addr) : Obj := match tk with
  | true => ⟨.type "tuple_iterator", none, .fields #[.ref a, .int 0 0], #[]⟩
  | false => ⟨.type "list_iterator", none, .fields #[.ref a, .int 0 0], #[]⟩
theorem drawsX {P : Program} {w : World} {A : Around} (tk : Bool) (hh : A.handled = none) (it a : Addr) (hne : a ≠ it) (its : Array Value) :
    Draws P w A it [it, a] its.size (fun i v => its[i]? = some v) (fun i h => IterX tk h it a i ∧ IsX tk h a its) := by
  cases tk with
  | true => exact Draws.tuple hh it a hne its
  | false => exact Draws.list hh it a hne its
theorem beginsX (tk : Bool) (a : Addr) (its : Array Value) : Begins (.ref a) (cellX tk a) fun h => IsX tk h a its := by
  cases tk with
  | true => exact begins_tuple a its
  | false => exact begins_list a its
theorem iterX_new {tk : Bool} {h : Heap} {it a : Addr} (e : h.get? it = some (cellX tk a)) : IterX tk h it a 0 := by
  cases tk with
  | true => exact ⟨_, e, rfl, rfl⟩
  | false => exact ⟨_, e, rfl, rfl⟩
theorem IterX.obj {tk : Bool} {h : Heap} {it a : Addr} {i : Nat} (q : IterX tk h it a i) : ∃ o, h.get? it = some o ∧ ∀ v, o.data ≠ .cell v := by
  cases tk with
  | true =>
    obtain ⟨o, h1, h2, h3⟩ := q
    exact ⟨o, h1, fun v z => by rw [h3] at z; cases z⟩
  | false =>
    obtain ⟨o, h1, h2, h3⟩ := q
    exact ⟨o, h1, fun v z => by rw [h3] at z; cases z⟩
theorem IterX.lt {tk : Bool} {h : Heap} {it a : Addr} {i : Nat} (q : IterX tk h it a i) : it < h.objs.size := by
  obtain ⟨o, e, _⟩ := q.obj
  exact Heap.lt_size e
theorem IterX.keep {tk : Bool} {h h' : Heap} {it a : Addr} {i : Nat} (q : IterX tk h it a i) (k : ∀ o, h.get? it = some o → h'.get? it = some o) : IterX tk h' it a i := by
  cases tk with
  | true => exact q.at k
  | false => exact q.at k
theorem size_of {xs : List V} {its : List Value} (v : Vals xs its) : its.toArray.size = xs.length := by
  have := v.length
  simp only [List.size_toArray]
  omega
theorem val_of {xs : List V} {its : List Value} {i : Nat} {u : Value} (v : Vals xs its) (hi : i < xs.length) (h : its.toArray[i]? = some u) : ∃ x, xs[i]? = some x ∧ RelV x u := by
  obtain ⟨u', hu, ru⟩ := v.get (List.getElem?_eq_getElem hi)
  rw [List.getElem?_toArray, hu] at h
  cases h
  exact ⟨_, List.getElem?_eq_getElem hi, ru⟩
/-- a new pair, as a frozen object -/
theorem pair_ok {P : Program} {w : World} {H : Hp} {h : Heap} {T : Addr} {x y : V} {u v : Value} (e : h.get? T = some ⟨.type "tuple", none, .seq #[u, v] 0, #[]⟩) (r1 : RelV x u) (r2 : RelV y v) : ObjOk P w (upd H T (HO.pt ⟨.type "tuple", none, .seq #[u, v] 0, #[]⟩ [x, y])) h T (HO.pt ⟨.type "tuple", none, .seq #[u, v] 0, #[]⟩ [x, y]) :=
  ⟨e, by show 2 ≤ sizeLine; decide, [u, v], .cons r1 (.cons r2 .nil), ⟨_, e, rfl, _, rfl⟩⟩

/-! enumerate -/
def ItE (tk : Bool) (K : PySem.W.Frag) (a : Addr) (xs : List V) : L2.It :=
  ⟨fun i H => SqX tk K H a xs ∧ i < xs.length, fun i H v H' => ∃ T x o, PlO o ∧ v = .ref T ∧ H T = none ∧ H' = upd H T (HO.pt o [.int (i : Nat), x]) ∧ xs[i]? = some x, fun i H => SqX tk K H a xs ∧ i = xs.length⟩
theorem turn_en {P : Program} {w : World} {K : PySem.W.Frag} {tk : Bool} {elts : List Expr} {kk : Nat} {tpos : Pos} {a e it : Addr} {xs : List V} (ha : a ≠ it) (hae : e ≠ a) (hne : e ≠ it) :
    Turn P w K (.Tuple elts kk tpos) (ItE tk K a xs) [e, it] e (fun i h => (∃ old, IsEnum h e it ((i : Nat) : Int) old) ∧ IterX tk h it a i) where
  mem := List.mem_cons_self
  obj := fun i h ⟨⟨old, hE⟩, hI⟩ b hb => by
    rcases List.mem_cons.mp hb with z | z
    · subst z
      exact ⟨_, hE, fun v q => nomatch q⟩
    · have z := List.mem_singleton.mp z
      subst z
      exact hI.obj
  keep := fun i h h' ⟨⟨old, hE⟩, hI⟩ kp => ⟨⟨old, kp e List.mem_cons_self _ hE⟩, hI.keep fun o q => kp it (List.mem_cons_of_mem _ List.mem_cons_self) o q⟩
  item := by
    intro X eP ew eK calm i pins s σ H E I fpk st ⟨hq, hlt⟩
    subst eP ew eK
    obtain ⟨⟨old, hE⟩, hI⟩ := st
    obtain ⟨its, vals, tup, _⟩ := invX I hq
    have le : e < s.heap.objs.size := Heap.lt_size hE
    have li : it < s.heap.objs.size := hI.lt
    have sz := size_of vals
    have hh : X.A.in1.handled = none := I.ok.hd calm
    refine wpAny_pyNext_enum_itemC (drawsX tk hh it a ha its.toArray) hE ⟨hI, tup⟩ (by omega) hne (fun q => ?_) fun v h' tk' hv hO ⟨hI', _⟩ hT _ kp => ?_
    · rcases List.mem_cons.mp q with z | z
      · exact hne z
      · exact hae (List.mem_singleton.mp z)
    · obtain ⟨x, hx, rx⟩ := val_of vals hlt hv
      refine ⟨_, rfl, wpAny_letOwnedTupleGo_enum (s := { s with heap := h', toks := tk' + 1 }) hO fun h2 hE2 sb => ?_⟩
      have hT2 : h2.get? s.heap.objs.size = some ⟨.type "tuple", none, .seq #[.int i tk', v] 0, #[]⟩ := (sb.2 _ (Nat.ne_of_gt le)).trans hT
      have I1 : Inv X pins σ (upd H s.heap.objs.size (HO.pt ⟨.type "tuple", none, .seq #[.int i tk', v] 0, #[]⟩ [.int (i : Nat), x])) { s with heap := h2, toks := tk' + 1 } :=
        I.turnedNew (ch := [e, it]) (fun b ob hb q => (sb.2 b fun z => hb (by rw [z]; exact List.mem_cons_self)).trans (kp b ob (fun z => hb (by rw [z]; exact List.mem_cons_self)) (fun z => hb (by rw [z]; exact List.mem_cons_of_mem _ List.mem_cons_self)) q)) fpk (Nat.le_refl _) (pair_ok hT2 ⟨_, rfl⟩ rx)
      refine ⟨.ref s.heap.objs.size, _, I1, rfl, ⟨_, _, _, ⟨rfl, rfl⟩, rfl, I.hok.fresh (Nat.le_refl _), rfl, hx⟩, ⟨⟨v, ?_⟩, hI'.keep fun o q => (sb.2 it (Ne.symm hne)).trans q⟩, fun b hb => ?_⟩
      · have e1 : ((i + 1 : Nat) : Int) = (i : Int) + 1 := by omega
        rw [e1]
        exact hE2
      · have lb : b < s.heap.objs.size := by
          rcases List.mem_cons.mp hb with z | z
          · rw [z]
            exact le
          · rw [List.mem_singleton.mp z]
            exact li
        rw [upd_ne (Nat.ne_of_lt lb)]
        exact (fpk b hb).1
  done := by
    intro X eP ew eK calm i pins s σ H E I fpk st ⟨hq, hn⟩
    subst eP ew eK
    obtain ⟨⟨old, hE⟩, hI⟩ := st
    obtain ⟨its, vals, tup, _⟩ := invX I hq
    have hh : X.A.in1.handled = none := I.ok.hd calm
    have sz : i = its.toArray.size := hn.trans (size_of vals).symm
    obtain ⟨f0, f1, f2, f3, f4, f5⟩ := fpk it (List.mem_cons_of_mem _ List.mem_cons_self)
    refine wpAny_pyNext_enum_endD (drawsX tk hh it a ha its.toArray) hE (by rw [← sz]; exact ⟨hI, tup⟩) fun h' eb => ⟨rfl, I.turned (t' := s.toks) (fun b o hb q => eb b o hb q) f0 f1 f3 f4 f5⟩
  self := fun A i s Q E ⟨⟨_, hE⟩, _⟩ h => wpAny_pyIter_enum hE h
def iEn (K : PySem.W.Frag) (ta : TA) : TI := fun σ H R => ta σ H fun vs H1 => ∃ (tk : Bool) (a : Addr) (xs : List V), vs = [.ref a] ∧ SqX tk K H1 a xs ∧ R (ItE tk K a xs) H1
theorem pi_en {X : Cx} {e : Expr} {ta : TA} {p pos tpos : Pos} {elts : List Expr} {kk : Nat} (hg : Gl X "enumerate") (hm : X.mg "enumerate" = none) (ha : PA X [e] ta) (hs : starEach [e] X.env = (false, eval e X.env) :: starEach [] X.env) :
    PI X (.Tuple elts kk tpos) (.Call (.Name "enumerate" p) [e] [] pos) (iEn X.K ta) := by
  refine ⟨fun pins s σ H R I h => Call_ (ld_blt I hg hm boot_enumerate (PyProof.Rows.callWith_type1 (thn (ha.run pos pins s σ H _ I h) fun us s1 ⟨vs, H1, I1, r1, tk, a, xs, ex, hq, q⟩ => ?_) hs rfl))⟩
  subst ex
  cases r1 with
  | cons r rr =>
    cases rr
    cases r
    obtain ⟨its, vals, tup, lt⟩ := invX I1 hq
    refine en_call (beginsX tk a its.toArray) tup fun h' hE hI kp => wpAny_pyIter_enum hE ?_
    have I2 : Inv X pins σ H1 { s1 with heap := h' } := I1.kept (t' := s1.toks) kp
    refine ⟨_, [s1.heap.objs.size + 1, s1.heap.objs.size], _, _, H1, rfl, I2, turn_en (a := a) (e := s1.heap.objs.size + 1) (it := s1.heap.objs.size) (Nat.ne_of_lt lt) (Nat.ne_of_gt (Nat.lt_succ_of_lt lt)) (Nat.succ_ne_self _), ⟨⟨.none, hE⟩, iterX_new hI⟩, fun b hb => ?_, q⟩
    have hle : s1.heap.objs.size ≤ b := by
      rcases List.mem_cons.mp hb with z | z
      · rw [z]
        exact Nat.le_succ _
      · rw [List.mem_singleton.mp z]
        exact Nat.le_refl _
    exact I1.fpOk hle (I1.hok.fresh hle)
/-! zip -/
def ItZ (t1 t2 : Bool) (K : PySem.W.Frag) (a b : Addr) (xs ys : List V) : L2.It :=
  ⟨fun i H => (SqX t1 K H a xs ∧ SqX t2 K H b ys) ∧ i < xs.length ∧ i < ys.length, fun i H v H' => ∃ T x y o, PlO o ∧ v = .ref T ∧ H T = none ∧ H' = upd H T (HO.pt o [x, y]) ∧ xs[i]? = some x ∧ ys[i]? = some y,
    fun i H => (SqX t1 K H a xs ∧ SqX t2 K H b ys) ∧ i ≤ xs.length ∧ i ≤ ys.length ∧ (i = xs.length ∨ i = ys.length)⟩
theorem turn_zp {P : Program} {w : World} {K : PySem.W.Frag} {t1 t2 : Bool} {elts : List Expr} {kk : Nat} {tpos : Pos} {a b z TI TO i1 i2 : Addr} {xs ys : List V} (S : ZipSep2 z TI TO i1 i2 [i1, a] [i2, b]) (h1 : a ≠ i1) (h2 : b ≠ i2) :
    Turn P w K (.Tuple elts kk tpos) (ItZ t1 t2 K a b xs ys) [z, TI, TO, i1, i2] z (fun i h => IsZip h z TI TO .none ∧ IsTupOf2 h TI (.ref i1) (.ref i2) ∧ (∃ u v, IsTupOf2 h TO u v) ∧ IterX t1 h i1 a i ∧ IterX t2 h i2 b i) where
  mem := List.mem_cons_self
  obj := fun i h ⟨hz, hI, ⟨u, v, hO⟩, j1, j2⟩ c hc => by
    have e : c = z ∨ c = TI ∨ c = TO ∨ c = i1 ∨ c = i2 := by simpa using hc
    rcases e with q | q | q | q | q <;> subst q
    · exact ⟨_, hz, fun v q => nomatch q⟩
    · exact ⟨_, hI, fun v q => nomatch q⟩
    · exact ⟨_, hO, fun v q => nomatch q⟩
    · exact j1.obj
    · exact j2.obj
  keep := fun i h h' ⟨hz, hI, ⟨u, v, hO⟩, j1, j2⟩ kp =>
    ⟨kp z (by simp) _ hz, kp TI (by simp) _ hI, ⟨u, v, kp TO (by simp) _ hO⟩, j1.keep fun o q => kp i1 (by simp) o q, j2.keep fun o q => kp i2 (by simp) o q⟩
  item := by
    intro X eP ew eK calm i pins s σ H E I fpk ⟨hz, hI, ⟨u, v, hO⟩, j1, j2⟩ ⟨⟨hq1, hq2⟩, l1, l2⟩
    subst eP ew eK
    obtain ⟨its1, vals1, tup1, la⟩ := invX I hq1
    obtain ⟨its2, vals2, tup2, lb⟩ := invX I hq2
    have hh : X.A.in1.handled = none := I.ok.hd calm
    have s1 := size_of vals1
    have s2 := size_of vals2
    have lz : z < s.heap.objs.size := Heap.lt_size hz
    refine wpAny_pyNext_zipD2_item S (drawsX t1 hh i1 a h1 its1.toArray) (drawsX t2 hh i2 b h2 its2.toArray) hz hI hO ⟨j1, tup1⟩ ⟨j2, tup2⟩ (by omega) (by omega) fun x1 x2 h' tk y1 y2 hz' hO' k1 k2 hT _ kp => ?_
    obtain ⟨x, hx, rx⟩ := val_of vals1 l1 y1
    obtain ⟨y, hy, ry⟩ := val_of vals2 l2 y2
    refine ⟨_, rfl, wpAny_letOwnedTupleGo_zip (s := { s with heap := h', toks := tk }) hz' fun h3 hz3 sb => ?_⟩
    have hT2 : h3.get? s.heap.objs.size = some ⟨.type "tuple", none, .seq #[x1, x2] 0, #[]⟩ := (sb.2 _ (Nat.ne_of_gt lz)).trans hT
    have I1 : Inv X pins σ (upd H s.heap.objs.size (HO.pt ⟨.type "tuple", none, .seq #[x1, x2] 0, #[]⟩ [x, y])) { s with heap := h3, toks := tk } :=
      I.turnedNew (ch := [z, TI, TO, i1, i2]) (fun c o hc q => (sb.2 c fun e => hc (by simp [e])).trans (kp c o (fun e => hc (by simp [e])) (fun e => hc (by simp [e])) (fun e => hc (by simp [e])) (fun e => hc (by simp [e])) q)) fpk (Nat.le_refl _) (pair_ok hT2 rx ry)
    refine ⟨.ref s.heap.objs.size, _, I1, rfl, ⟨_, _, _, _, ⟨rfl, rfl⟩, rfl, I.hok.fresh (Nat.le_refl _), rfl, hx, hy⟩, ⟨hz3, ?_, ⟨x1, x2, ?_⟩, ?_, ?_⟩, fun c hc => ?_⟩
    · exact (sb.2 _ S.TIz).trans (kp _ _ S.TIz S.TITO S.TIi1 S.TIi2 hI)
    · exact (sb.2 _ S.TOz).trans hO'
    · exact k1.1.keep fun o q => (sb.2 _ (Ne.symm S.zi1)).trans q
    · exact k2.1.keep fun o q => (sb.2 _ (Ne.symm S.zi2)).trans q
    · have e : c = z ∨ c = TI ∨ c = TO ∨ c = i1 ∨ c = i2 := by simpa using hc
      have lt : c < s.heap.objs.size := by
        rcases e with q | q | q | q | q <;> subst q
        · exact lz
        · exact Heap.lt_size hI
        · exact Heap.lt_size hO
        · exact j1.lt
        · exact j2.lt
      rw [upd_ne (Nat.ne_of_lt lt)]
      exact (fpk c hc).1
  done := by
    intro X eP ew eK calm i pins s σ H E I fpk ⟨hz, hI, ⟨u, v, hO⟩, j1, j2⟩ ⟨⟨hq1, hq2⟩, l1, l2, le⟩
    subst eP ew eK
    obtain ⟨its1, vals1, tup1, la⟩ := invX I hq1
    obtain ⟨its2, vals2, tup2, lb⟩ := invX I hq2
    have hh : X.A.in1.handled = none := I.ok.hd calm
    have s1 := size_of vals1
    have s2 := size_of vals2
    exact wpAny_pyNext_zipD2_end S (drawsX t1 hh i1 a h1 its1.toArray) (drawsX t2 hh i2 b h2 its2.toArray) hz hI hO ⟨j1, tup1⟩ ⟨j2, tup2⟩ (by omega) (by omega) (by omega) fun h' tk kp => ⟨rfl, I.turnedL (t' := tk) (ch := [z, TI, TO, i1, i2])
      (fun c o hc q => kp c o (fun e => hc (by simp [e])) (fun e => hc (by simp [e])) (fun e => hc (by simp [e])) (fun e => hc (by simp [e])) q) fpk⟩
  self := fun A i s Q E st h => wpAny_pyIter_zip st.1 h
end DL

set_option maxHeartbeats 4000000
/-! DL part J3: enumerate and zip as sources of a loop. -/
namespace DL
open PySem PySem.Spec PyProof.Rows L2
def iZp (K : PySem.W.Frag) (ta : TA) : TI := fun σ H R => ta σ H fun vs H1 => ∃ (t1 t2 : Bool) (a b : Addr) (xs ys : List V), vs = [.ref a, .ref b] ∧ SqX t1 K H1 a xs ∧ SqX t2 K H1 b ys ∧ R (ItZ t1 t2 K a b xs ys) H1
theorem sep_of {n a b : Nat} (la : a < n) (lb : b < n) : ZipSep2 (n + 4) (n + 2) (n + 3) n (n + 1) [n, a] [n + 1, b] := by
  have k : ∀ x y z : Nat, x ≠ y → x ≠ z → x ∉ [y, z] := fun x y z h1 h2 h => by
    rcases List.mem_cons.mp h with q | q
    · exact h1 q
    · exact h2 (List.mem_singleton.mp q)
  have ne : ∀ x y : Nat, (x < y ∨ y < x) → x ≠ y := fun x y h e => by omega
  exact ⟨ne (n + 2) (n + 4) (by omega), ne (n + 3) (n + 4) (by omega), ne (n + 2) (n + 3) (by omega), ne (n + 2) n (by omega), List.mem_cons_self, k (n + 4) n a (by omega) (by omega), k (n + 3) n a (by omega) (by omega), ne (n + 2) (n + 1) (by omega), List.mem_cons_self,
    k (n + 4) (n + 1) b (by omega) (by omega), k (n + 3) (n + 1) b (by omega) (by omega), k n (n + 1) b (by omega) (by omega), k (n + 1) n a (by omega) (by omega)⟩
theorem pi_zp {X : Cx} {e e2 : Expr} {ta : TA} {p pos tpos : Pos} {elts : List Expr} {kk : Nat} (hg : Gl X "zip") (hm : X.mg "zip" = none) (ha : PA X [e, e2] ta)
    (hs : starEach [e, e2] X.env = (false, eval e X.env) :: starEach [e2] X.env) (hs2 : starEach [e2] X.env = (false, eval e2 X.env) :: starEach [] X.env) :
    PI X (.Tuple elts kk tpos) (.Call (.Name "zip" p) [e, e2] [] pos) (iZp X.K ta) := by
  have hpl : (backTo pos (starEach [e2] X.env)).any (·.1) = false := by
    rw [hs2]
    rfl
  refine ⟨fun pins s σ H R I h => Call_ (ld_blt I hg hm PyProof.Rows.boot_zip (PyProof.Rows.callWith_type1 (thn (ha.run pos pins s σ H _ I h) fun us s1 ⟨vs, H1, I1, r1, t1, t2, a, b, xs, ys, ex, q1, q2, q⟩ => ?_) hs hpl))⟩
  subst ex
  cases r1 with
  | cons r rr =>
    cases rr with
    | cons r' rr =>
      cases rr
      cases r
      cases r'
      obtain ⟨its1, vals1, tup1, la⟩ := invX I1 q1
      obtain ⟨its2, vals2, tup2, lb⟩ := invX I1 q2
      refine zip_begins2 (beginsX t1 a its1.toArray) (beginsX t2 b its2.toArray) tup1 tup2 fun h' hz hI hO j1 j2 _ kp => wpAny_pyIter_zip hz ?_
      have I2 : Inv X pins σ H1 { s1 with heap := h' } := I1.kept (t' := s1.toks) kp
      refine ⟨s1.heap.objs.size + 4, [s1.heap.objs.size + 4, s1.heap.objs.size + 2, s1.heap.objs.size + 3, s1.heap.objs.size, s1.heap.objs.size + 1], _, _, H1, rfl, I2, turn_zp (sep_of la lb) (Nat.ne_of_lt la) (Nat.ne_of_lt (Nat.lt_succ_of_lt lb)), ⟨hz, hI, ⟨_, _, hO⟩, iterX_new j1, iterX_new j2⟩, fun c hc => ?_, q⟩
      have e' : c = s1.heap.objs.size + 4 ∨ c = s1.heap.objs.size + 2 ∨ c = s1.heap.objs.size + 3 ∨ c = s1.heap.objs.size ∨ c = s1.heap.objs.size + 1 := by simpa using hc
      have hle : s1.heap.objs.size ≤ c := by
        rcases e' with z | z | z | z | z <;> rw [z]
        · exact Nat.le_add_right _ _
        · exact Nat.le_add_right _ _
        · exact Nat.le_add_right _ _
        · exact Nat.le_refl _
        · exact Nat.le_add_right _ _
      exact I1.fpOk hle (I1.hok.fresh hle)
section
variable {K : PySem.W.Frag} {F : Hp}
theorem enum_at {xs : List D} {i : Nat} {d : D} (h : xs[i]? = some d) : (enumD xs)[i]? = some (.tuple [.int (i : Nat), d]) := by
  have hl : i < xs.length := (List.getElem?_eq_some_iff.mp h).1
  unfold enumD
  rw [List.getElem?_zipWith, List.getElem?_range hl, h]
theorem enum_len (xs : List D) : (enumD xs).length = xs.length := by
  unfold enumD
  rw [List.length_zipWith, List.length_range]
  omega
theorem pair_new {G H : Hp} {T : Addr} {o : Obj} {x y : V} {d e : D} (po : PlO o) (sg : Same G H) (hT : H T = none) (r1 : Rep K G x d) (r2 : Rep K G y e) : NewE G H (upd G T (HO.pt o [x, y])) (upd H T (HO.pt o [x, y])) ∧ Rep K (upd G T (HO.pt o [x, y])) (.ref T) (.tuple [d, e]) := by
  have n := NewE.frz (a := T) (ob := o) (xs := [x, y]) sg hT
  exact ⟨n, .tup (.upd po) (.cons (Rep.mono n.ff d x r1) (.cons (Rep.mono n.ff e y r2) .nil))⟩
theorem dw_en {tk : Bool} {a : Addr} {xs : List V} {ds : List D} (q : SqX tk K F a xs) (r : Reps K F xs ds) : DWalk K F (ItE tk K a xs) (enumD ds) where
  goes := fun i H hi hs => ⟨sqx_mono hs q, by rw [enum_len] at hi; rw [r.len]; exact hi⟩
  stops := fun H hs => ⟨sqx_mono hs q, by rw [enum_len, r.len]⟩
  yields := fun i H x H' G hi hs hg ⟨T, y, o, po, ex, hT, eH, hy⟩ => by
    subst ex eH
    obtain ⟨d, ed, rd⟩ := r.getV hy
    obtain ⟨n1, n2⟩ := pair_new (K := K) (x := .int (i : Nat)) (d := .int (i : Nat)) po hg hT (.int _) (Rep.mono hs d y rd)
    exact ⟨_, _, enum_at ed, n1, n2⟩
def zipD (xs ys : List D) : List D := xs.zipWith (fun u v => .tuple [u, v]) ys
theorem dw_zp {t1 t2 : Bool} {a b : Addr} {xs ys : List V} {ds es : List D} (q1 : SqX t1 K F a xs) (r1 : Reps K F xs ds) (q2 : SqX t2 K F b ys) (r2 : Reps K F ys es) : DWalk K F (ItZ t1 t2 K a b xs ys) (zipD ds es) where
  goes := fun i H hi hs => by
    unfold zipD at hi
    rw [List.length_zipWith] at hi
    exact ⟨⟨sqx_mono hs q1, sqx_mono hs q2⟩, by rw [r1.len]; omega, by rw [r2.len]; omega⟩
  stops := fun H hs => by
    unfold zipD
    rw [List.length_zipWith]
    exact ⟨⟨sqx_mono hs q1, sqx_mono hs q2⟩, by rw [r1.len]; omega, by rw [r2.len]; omega, by rw [r1.len, r2.len]; omega⟩
  yields := fun i H x H' G hi hs hg ⟨T, x1, y1, o, po, ex, hT, eH, hx, hy⟩ => by
    subst ex eH
    obtain ⟨d, ed, rd⟩ := r1.getV hx
    obtain ⟨e, ee, re⟩ := r2.getV hy
    obtain ⟨n1, n2⟩ := pair_new (K := K) po hg hT (Rep.mono hs d x1 rd) (Rep.mono hs e y1 re)
    refine ⟨_, _, ?_, n1, n2⟩
    unfold zipD
    rw [List.getElem?_zipWith, ed, ee]
theorem seq_sqx {v : V} {d : D} {ds : List D} (r : Rep K F v d) (e : seqOf d = some ds) : ∃ (tk : Bool) (a : Addr) (xs : List V), v = .ref a ∧ SqX tk K F a xs ∧ Reps K F xs ds := by
  rcases seqOf_cases e with z | z | z
  · subst z
    cases r with
    | lst s r => exact ⟨false, _, _, rfl, .of s, r⟩
  · subst z
    cases r with
    | tup s r => exact ⟨true, _, _, rfl, s.sqt, r⟩
  · subst z
    obtain ⟨a, ns, rfl, e2, s⟩ := (show Red K F F v _ from .inl r).scr (Same.refl _) (by intro lo hi e; cases e) (by intro b x r e; cases e)
    obtain rfl : ds = ns.map PyData.int := by
      injection e2 with e1 _
      injection e1 with _ e2
      injection e2
    exact ⟨false, a, _, rfl, s, reps_ints ns⟩
end
section
variable {X : Cx} {c : Ent} {e e2 : Expr} {w w2 : WB} {p pos tpos : Pos} {elts : List Expr} {kk : Nat}
theorem si_enum (hg : Gl X "enumerate") (hm : X.mg "enumerate" = none) (h : PE X e (tFz X.K c (frz w))) (st : starEach [e] X.env = (false, eval e X.env) :: starEach [] X.env) :
    PI X (.Tuple elts kk tpos) (.Call (.Name "enumerate" p) [e] [] pos) (tI X.K c fun ρ Q => frz w ρ fun d ρ1 => ∃ xs, seqOf d = some xs ∧ Q (enumD xs) ρ1) :=
  PI.imp (pi_en hg hm (pa_cons h pa_nil st) st) fun σ H R ⟨F, ρ, Qd, ok, g, q⟩ => ⟨F, ρ, _, ok, g, fun d ρ1 v F1 H1 ⟨xs, es, hx⟩ ok1 ex1 r1 => by
    obtain ⟨tk, a, vs, rfl, s, r⟩ := seq_sqx r1 es
    exact ⟨tk, a, vs, rfl, sqx_mono ok1.fh s, q _ ρ1 F1 H1 _ hx ok1 ex1 (dw_en s r)⟩⟩
theorem si_zip (hg : Gl X "zip") (hm : X.mg "zip" = none) (h : PE X e (tFz X.K c (frz w))) (h2 : PE X e2 (tFz X.K c (frz w2))) (st : starEach [e, e2] X.env = (false, eval e X.env) :: starEach [e2] X.env) (st2 : starEach [e2] X.env = (false, eval e2 X.env) :: starEach [] X.env) :
    PI X (.Tuple elts kk tpos) (.Call (.Name "zip" p) [e, e2] [] pos) (tI X.K c fun ρ Q => frz w ρ fun x ρ1 => frz w2 ρ1 fun y ρ2 => ∃ xs ys, seqOf x = some xs ∧ seqOf y = some ys ∧ Q (xs.zipWith (fun u v => .tuple [u, v]) ys) ρ2) :=
  PI.imp (pi_zp hg hm (pa_cons h (pa_cons h2 pa_nil st2) st) st st2) fun σ H R ⟨F, ρ, Qd, ok, g, q⟩ => ⟨F, ρ, _, ok, g, fun d ρ1 v F1 H1 hd ok1 ex1 r1 => ⟨F1, ρ1, _, ok1, hd, fun d2 ρ2 v2 F2 H2 ⟨xs, ys, e1, e2, hx⟩ ok2 ex2 r2 => by
    obtain ⟨t1, a, vs, rfl, s1, rs1⟩ := seq_sqx (Rep.mono ex2.ff d v r1) e1
    obtain ⟨t2, b, us, rfl, s2, rs2⟩ := seq_sqx r2 e2
    exact ⟨t1, t2, a, b, vs, us, rfl, sqx_mono ok2.fh s1, sqx_mono ok2.fh s2, q _ ρ2 F2 H2 _ hx ok2 (ex1.trans ex2) (dw_zp s1 rs1 s2 rs2)⟩⟩⟩
end
end DL

set_option maxHeartbeats 4000000
/-! DL part K: comprehensions. -/
namespace DL
open PySem PySem.Spec PyProof.Rows L2
section
variable {K : PySem.W.Frag} {c : Ent} {F H F' H' F1 H1 F2 H2 : Hp} {σ σ' σ2 : L2.St} {ρ ρ' ρ1 ρ2 ρ3 : Store} {v : V} {d : D} {vs : List Nat}
theorem wipe_get {σ : L2.St} {i : Nat} : ∀ {vs : List Nat}, i ∉ vs → (wipe σ vs)[i]? = σ[i]?
  | [], _ => rfl
  | v :: vs, h => by
    unfold wipe
    rw [List.getElem?_set_ne fun e => h (by rw [e]; exact List.mem_cons_self), wipe_get fun z => h (List.mem_cons_of_mem _ z)]
theorem wipes_get {ρ : Store} {i : Nat} : ∀ {vs : List Nat}, i ∉ vs → (wipes ρ vs)[i]? = ρ[i]?
  | [], _ => rfl
  | v :: vs, h => by
    unfold wipes
    rw [List.getElem?_set_ne fun e => h (by rw [e]; exact List.mem_cons_self), wipes_get fun z => h (List.mem_cons_of_mem _ z)]
theorem wipes_len {ρ : Store} : ∀ {vs : List Nat}, (wipes ρ vs).length = ρ.length
  | [] => rfl
  | v :: vs => by
    unfold wipes
    rw [List.length_set, wipes_len]
theorem wipes_in {ρ : Store} {i : Nat} : ∀ {vs : List Nat}, i ∈ vs → ∀ p, (wipes ρ vs)[i]? ≠ some (some p)
  | v :: vs, h, p, e => by
    unfold wipes at e
    by_cases z : v = i
    · subst z
      by_cases hl : v < (wipes ρ vs).length
      · rw [List.getElem?_set_self hl] at e
        cases e
      · rw [List.getElem?_eq_none (by rw [List.length_set]; omega)] at e
        cases e
    · rw [List.getElem?_set_ne z] at e
      rcases List.mem_cons.mp h with y | y
      · exact z y.symm
      · exact wipes_in y p e
theorem backs_len {ρ₀ ρ : Store} : ∀ {vs : List Nat}, (backs ρ₀ ρ vs).length = ρ.length
  | [] => rfl
  | v :: vs => by
    unfold backs
    rw [List.length_set, backs_len]
theorem backs_get {ρ₀ ρ : Store} {i : Nat} : ∀ {vs : List Nat}, i ∉ vs → (backs ρ₀ ρ vs)[i]? = ρ[i]?
  | [], _ => rfl
  | v :: vs, h => by
    unfold backs
    rw [List.getElem?_set_ne fun e => h (by rw [e]; exact List.mem_cons_self), backs_get fun z => h (List.mem_cons_of_mem _ z)]
theorem backs_in {ρ₀ ρ : Store} {i : Nat} (hl : ρ₀.length = ρ.length) : ∀ {vs : List Nat}, i ∈ vs → (backs ρ₀ ρ vs)[i]? = ρ₀[i]?
  | v :: vs, h => by
    unfold backs
    by_cases z : v = i
    · subst z
      by_cases hv : v < ρ₀.length
      · rw [List.getElem?_set_self (by rw [backs_len]; omega), List.getElem?_eq_getElem hv]
        rfl
      · rw [List.getElem?_eq_none (by rw [List.length_set, backs_len]; omega), List.getElem?_eq_none (by omega)]
    · rw [List.getElem?_set_ne z]
      rcases List.mem_cons.mp h with y | y
      · exact absurd y.symm z
      · exact backs_in hl y
/-- no own object among the slots vs -/
def NoOwn (ρ : Store) (vs : List Nat) : Prop := ∀ i ∈ vs, getO ρ i = none
theorem noOwn_val (h : valOk ρ vs = true) : NoOwn ρ vs := fun i hi => by
  have z := List.all_eq_true.mp h i hi
  unfold getO
  split
  · next p e =>
    simp only [e, decide_eq_true_eq] at z
    exact if_pos z
  · rfl
theorem getO_wipes (hn : NoOwn ρ vs) (i : Nat) : getO (wipes ρ vs) i = getO ρ i := by
  by_cases h : i ∈ vs
  · rw [hn i h]
    cases e : getO (wipes ρ vs) i with
    | none => rfl
    | some p => exact absurd (getO_some e).1 (wipes_in h p)
  · unfold getO
    rw [wipes_get h]
theorem own_wipes (hn : NoOwn ρ vs) (a : Addr) : OwnAt (wipe σ vs) (wipes ρ vs) a ↔ OwnAt σ ρ a := by
  constructor
  · rintro ⟨i, p, h, e⟩
    rw [getO_wipes hn] at h
    have hi : i ∉ vs := fun z => by
      rw [hn i z] at h
      cases h
    rw [wipe_get hi] at e
    exact ⟨i, p, h, e⟩
  · rintro ⟨i, p, h, e⟩
    have hi : i ∉ vs := fun z => by
      rw [hn i z] at h
      cases h
    exact ⟨i, p, by rw [getO_wipes hn]; exact h, by rw [wipe_get hi]; exact e⟩
theorem Ok.wiped (ok : Ok K c F H σ ρ) : Ok K c F H (wipe σ vs) (wipes ρ vs) := by
  refine ⟨ok.fh, by rw [wipe_length, wipes_len]; exact ok.ln, ok.e0, ok.e1, ok.e2, ok.e3, ok.eb, fun j m d' h => ?_, fun j k a p q hp hq np nq ej ek => ?_, ok.tb, ok.te, ok.nt⟩
  · have hj : j ∉ vs := fun z => wipes_in z _ h
    rw [wipes_get hj] at h
    rw [wipe_get hj]
    exact ok.sl j m d' h
  · have hj : j ∉ vs := fun z => wipes_in z _ hp
    have hk : k ∉ vs := fun z => wipes_in z _ hq
    rw [wipes_get hj] at hp
    rw [wipes_get hk] at hq
    rw [wipe_get hj] at ej
    rw [wipe_get hk] at ek
    exact ok.ds j k a p q hp hq np nq ej ek
/-- the slots vs get what they had -/
theorem Ok.backs (ok0 : Ok K c F1 H1 σ ρ1) (hn : NoOwn ρ1 vs) (sm : Same F1 F) (ok : Ok K c F H σ2 ρ2) (e2 : wipe σ2 vs = wipe σ vs) : Ok K c F H σ (backs ρ1 ρ2 vs) := by
  have hlen : σ2.length = σ.length := by
    have z := congrArg List.length e2
    rw [wipe_length, wipe_length] at z
    exact z
  have hl : ρ1.length = ρ2.length := by rw [← ok0.ln, ← ok.ln, hlen]
  have out : ∀ j, j ∉ vs → σ2[j]? = σ[j]? := fun j hj => by
    rw [← wipe_get hj, e2, wipe_get hj]
  refine ⟨ok.fh, by rw [backs_len, ← hl]; exact ok0.ln, ok.e0, ok.e1, ok.e2, ok.e3, ok.eb, fun j m d' h => ?_, fun j k a p q hp hq np nq ej ek => ?_, ok.tb, ok.te, ok.nt⟩
  · by_cases hj : j ∈ vs
    · rw [backs_in hl hj] at h
      obtain ⟨v, e, r⟩ := ok0.sl j m d' h
      refine ⟨v, e, ?_⟩
      cases m with
      | v => exact Rep.mono sm d' v r
      | o =>
        have z := hn j hj
        rw [getO_of h fun z => nomatch z] at z
        cases z
      | m =>
        have z := hn j hj
        rw [getO_of h fun z => nomatch z] at z
        cases z
    · rw [backs_get hj] at h
      rw [← out j hj]
      exact ok.sl j m d' h
  · have off : ∀ j (p : Md × D), (DL.backs ρ1 ρ2 vs)[j]? = some (some p) → p.1 ≠ .v → j ∉ vs ∧ ρ2[j]? = some (some p) := fun j p h np => by
      by_cases hj : j ∈ vs
      · rw [backs_in hl hj] at h
        have z := hn j hj
        rw [getO_of h np] at z
        cases z
      · rw [backs_get hj] at h
        exact ⟨hj, h⟩
    obtain ⟨n1, g1⟩ := off j p hp np
    obtain ⟨n2, g2⟩ := off k q hq nq
    rw [← out j n1] at ej
    rw [← out k n2] at ek
    exact ok.ds j k a p q g1 g2 np nq ej ek
theorem getO_backs (hl : ρ1.length = ρ2.length) (hn : NoOwn ρ1 vs) (i : Nat) : getO (backs ρ1 ρ2 vs) i = if i ∈ vs then none else getO ρ2 i := by
  by_cases h : i ∈ vs
  · rw [if_pos h]
    have z := hn i h
    unfold getO at z ⊢
    rw [backs_in hl h]
    exact z
  · rw [if_neg h]
    unfold getO
    rw [backs_get h]
/-- an object of no one's is laid | changes -/
theorem Ok.tmp {D : Addr} {o : HO} (ok : Ok K c F H σ ρ) (nF : F D = none) (n0 : c.H0 D = none) (no : ¬ OwnAt σ ρ D) (hD : H D = none ∨ ∃ xs, H D = some (.lst xs)) : Ok K c F (upd H D o) σ ρ := by
  have keep : ∀ a u, a ≠ D → H a = some u → upd H D o a = some u := fun a u n e => by
    rw [upd_ne n]
    exact e
  have ne : ∀ a u, F a = some u → a ≠ D := fun a u e z => by
    rw [z, nF] at e
    cases e
  have ne0 : ∀ a, c.H0 a ≠ none → a ≠ D := fun a h z => h (by rw [z]; exact n0)
  refine ⟨fun a u e => keep a u (ne a u e) (ok.fh a u e), ok.ln, fun a h => ?_, fun a u h nt hm => keep a u (ne0 a (by rw [h]; exact fun z => nomatch z)) (ok.e1 a u h nt hm), ok.e2, ok.e3, ok.eb, fun i m d h => ?_, ok.ds, ok.tb.trans (hD.elim (fun n => .of (same_new n)) fun ⟨_, n⟩ => .put n), ok.te, ok.nt⟩
  · rw [upd_ne (ne0 a h)]
    exact ok.e0 a h
  · obtain ⟨v, e, r⟩ := ok.sl i m d h
    refine ⟨v, e, ?_⟩
    have kp : m ≠ .v → ∀ a u, v = .ref a → H a = some (.lst u) → upd H D o a = some (.lst u) := fun nm a u ev q => keep a _ (fun z => no ⟨i, (m, d), getO_of h nm, by rw [e, ev, z]⟩) q
    cases m with
    | v => exact r
    | o => exact ⟨r.1.mono (Same.refl _) (kp fun z => nomatch z), r.2⟩
    | m => exact ⟨r.1.mono (Same.refl _) (kp fun z => nomatch z), r.2⟩
theorem Ext.tmp {D : Addr} {o : HO} (e : Ext σ ρ F H ρ' F' H') (nH : H D = none) : Ext σ ρ F H ρ' F' (upd H' D o) :=
  ⟨e.ff, e.nf, fun a u h nt n => by
    rw [upd_ne fun z => by rw [z, nH] at h; cases h]
    exact e.hh a u h nt n, fun a h => by
    rw [upd_ne fun z => h (by rw [z]; exact nH)]
    exact e.hn a h, e.md⟩
end
/-- the slots of a target -/
def tgIn (t : Tg) (vs : List Nat) : Bool := match t with
  | .nm i => decide (i ∈ vs)
  | .tp is => is.all fun i => decide (i ∈ vs)
theorem wipe_set {σ : L2.St} {i : Nat} {x : Option V} {vs : List Nat} (h : i ∈ vs) : wipe (σ.set i x) vs = wipe σ vs := by
  apply List.ext_getElem?
  intro j
  have out : ∀ {σ : L2.St} {vs : List Nat}, j ∈ vs → (wipe σ vs)[j]? = if j < σ.length then some none else none := by
    intro σ vs
    induction vs with
    | nil => exact fun h => nomatch h
    | cons v vs ih =>
      intro h
      unfold wipe
      by_cases z : v = j
      · subst z
        by_cases hl : v < σ.length
        · rw [if_pos hl, List.getElem?_set_self (by rw [wipe_length]; exact hl)]
        · rw [if_neg hl, List.getElem?_eq_none (by rw [List.length_set, wipe_length]; omega)]
      · rw [List.getElem?_set_ne z]
        rcases List.mem_cons.mp h with y | y
        · exact absurd y.symm z
        · exact ih y
  by_cases hj : j ∈ vs
  · rw [out hj, out hj, List.length_set]
  · rw [wipe_get hj, wipe_get hj, List.getElem?_set_ne fun e => hj (by rw [← e]; exact h)]
section
variable {K : PySem.W.Frag} {c : Ent} {F H : Hp} {σ : L2.St} {ρ : Store} {v : V} {d : D} {vs : List Nat}
theorem getO_setV {i j : Nat} (hn : getO ρ i = none) : (getO (ρ.set i (some (.v, d))) j).isSome = (getO ρ j).isSome := by
  by_cases h : i = j
  · subst h
    rw [hn]
    cases e : getO (ρ.set i (some (.v, d))) i with
    | none => rfl
    | some p =>
      obtain ⟨g1, g2⟩ := getO_some e
      by_cases hl : i < ρ.length
      · rw [List.getElem?_set_self hl] at g1
        cases g1
        exact absurd rfl g2
      · rw [List.getElem?_eq_none (by rw [List.length_set]; omega)] at g1
        cases g1
  · unfold getO
    rw [List.getElem?_set_ne h]
/-- a target's slots are bound: nothing else changes -/
theorem binds_in : ∀ {is : List Nat} {ds : List D} {vs' : List V} {ρ ρ' : Store} {σ : L2.St} {Q : L2.St → Hp → Prop}, Ok K c F H σ ρ → Reps K F vs' ds → bindTs is ds ρ = some ρ' → NoOwn ρ vs → (∀ i ∈ is, i ∈ vs) →
    (∀ σ', Ok K c F H σ' ρ' → wipe σ' vs = wipe σ vs → NoOwn ρ' vs → (∀ j, (getO ρ j).isSome = (getO ρ' j).isSome) → Q σ' H) → gNs is vs' σ H Q
  | [], _, _, _, _, _, _, ok, .nil, e, hn, _, q => ⟨rfl, by cases e; exact q _ ok rfl hn fun _ => rfl⟩
  | i :: is, _, _, ρ, _, _, _, ok, .cons r rs, e, hn, hi, q => ⟨_, _, rfl, by
      have i0 := hi i List.mem_cons_self
      refine binds_in (ok.set i r) rs e (fun j hj => ?_) (fun j hj => hi j (List.mem_cons_of_mem _ hj)) fun σ' ok' e' n' md => q σ' ok' (e'.trans (wipe_set i0)) n' fun j => (getO_setV (hn i i0)).symm.trans (md j)
      have z := getO_setV (d := by assumption) (j := j) (hn i i0)
      rw [hn j hj] at z
      cases y : getO (ρ.set i (some (.v, _))) j with
      | none => rfl
      | some p =>
        rw [y] at z
        cases z⟩
  | [], _, _, _, _, _, _, _, .cons _ _, e, _, _, _ => nomatch e
  | _ :: _, _, _, _, _, _, _, _, .nil, e, _, _, _ => nomatch e
theorem bind_in {t : Tg} {k : Store → Prop} {Q : L2.St → Hp → Prop} (ok : Ok K c F H σ ρ) (r : Rep K F v d) (h : bindT t d ρ k) (hn : NoOwn ρ vs) (ht : tgIn t vs = true)
    (q : ∀ σ' ρ', k ρ' → Ok K c F H σ' ρ' → wipe σ' vs = wipe σ vs → NoOwn ρ' vs → (∀ j, (getO ρ j).isSome = (getO ρ' j).isSome) → Q σ' H) : gB K t v σ H Q := by
  cases t with
  | nm i =>
    have hi : i ∈ vs := of_decide_eq_true ht
    refine q _ _ h (ok.set i r) (wipe_set hi) (fun j hj => ?_) fun j => (getO_setV (hn i hi)).symm
    have z := getO_setV (d := d) (j := j) (hn i hi)
    rw [hn j hj] at z
    cases y : getO (ρ.set i (some (.v, d))) j with
    | none => rfl
    | some p =>
      rw [y] at z
      cases z
  | tp is =>
    cases d with
    | tuple ds =>
      obtain ⟨ρ', e, hk⟩ := h
      cases r with
      | tup s rs => exact ⟨_, _, rfl, sqt_mono ok.fh s.sqt, by rw [rs.len]; exact bindTs_len e, binds_in ok rs e hn (fun i hi => of_decide_eq_true (List.all_eq_true.mp ht i hi)) fun σ' ok' => q σ' ρ' hk ok'⟩
    | _ => exact h.elim
end
end DL

set_option maxHeartbeats 4000000
/-! DL part L: a comprehension's reading; pop. -/
namespace DL
open PySem PySem.Spec PyProof.Rows L2
def off (H : Hp) (d : Addr) : Hp := fun b => if b = d then none else H b
theorem off_same {H : Hp} {d : Addr} : off H d d = none := if_pos rfl
theorem off_ne {H : Hp} {d b : Addr} (h : b ≠ d) : off H d b = H b := if_neg h
section
variable {K : PySem.W.Frag} {c : Ent} {F H F' H' F1 H1 F2 H2 F3 H3 : Hp} {σ σ' σ2 : L2.St} {ρ ρ' ρ1 ρa ρb : Store} {v : V} {d : D} {vs : List Nat}
theorem own_same (h : ∀ j, (getO ρ j).isSome = (getO ρ' j).isSome) (hs : ∀ j, (getO ρ j).isSome = true → σ[j]? = σ'[j]?) (a : Addr) : OwnAt σ ρ a ↔ OwnAt σ' ρ' a := by
  constructor
  · rintro ⟨i, p, hp, e⟩
    have z := h i
    rw [hp] at z
    obtain ⟨p', hp'⟩ := Option.isSome_iff_exists.mp z.symm
    exact ⟨i, p', hp', by rw [← hs i (by rw [hp]; rfl)]; exact e⟩
  · rintro ⟨i, p, hp, e⟩
    have z := h i
    rw [hp] at z
    obtain ⟨p', hp'⟩ := Option.isSome_iff_exists.mp z
    exact ⟨i, p', hp', by rw [hs i (by rw [hp']; rfl)]; exact e⟩
theorem wipe_idem {σ : L2.St} : ∀ {vs ws : List Nat}, (∀ i ∈ vs, i ∈ ws) → wipe (wipe σ vs) ws = wipe σ ws
  | [], _, _ => rfl
  | v :: vs, ws, h => by
    show wipe ((wipe σ vs).set v none) ws = wipe σ ws
    rw [wipe_set (h v List.mem_cons_self), wipe_idem fun i hi => h i (List.mem_cons_of_mem _ hi)]
/-- what holds of a comprehension ahead of its i-th turn -/
structure CW (K : PySem.W.Frag) (c : Ent) (σ : L2.St) (ρ1 : Store) (F1 H1 : Hp) (Dn : Addr) (vs : List Nat) (t : Tg) (wc : Store → (Bool → Store → Prop) → Prop) (we : Store → (D → Store → Prop) → Prop) (items : List D) (Qf : List D → Store → Prop) (i : Nat) (H : Hp) : Prop where
  le : i ≤ items.length
  ex : ∃ (F : Hp) (ρ : Store) (acc : List V) (da : List D), Ok K c F H σ ρ ∧ Ext σ ρ1 F1 H1 ρ F H ∧ H Dn = some (.lst acc) ∧ F Dn = none ∧ Reps K F acc da ∧ da.length ≤ i ∧ (∀ j ∈ vs, ρ[j]? = ρ1[j]?) ∧ compL t vs ρ1 wc we (items.drop i) da ρ Qf
/-- the end of a turn: from within the block to without -/
theorem turn_end {Dn : Addr} (hv : NoOwn ρ1 vs) (hD : H1 Dn = none) (ok1 : Ok K c F1 H1 σ ρ1) (ok : Ok K c F H σ ρ) (ex : Ext σ ρ1 F1 H1 ρ F H) {G Hg : Hp} (ne : NewE F H G Hg)
    (oka : Ok K c G Hg σ2 ρa) (e2 : wipe σ2 vs = wipe σ vs) (mda : ∀ j, (getO ρ j).isSome = (getO ρa j).isSome) (okb : Ok K c F3 H3 σ2 ρb) (exb : Ext σ2 ρa G Hg ρb F3 H3) {acc : List V} (hacc : H Dn = some (.lst acc)) (nF : F Dn = none) :
    H3 Dn = some (.lst acc) ∧ F3 Dn = none ∧ Ok K c F3 H3 σ (backs ρ1 ρb vs) ∧ Ext σ ρ1 F1 H1 (backs ρ1 ρb vs) F3 H3 ∧ (∀ j ∈ vs, (backs ρ1 ρb vs)[j]? = ρ1[j]?) ∧ Same F F3 ∧ c.H0 Dn = none ∧ ¬ OwnAt σ (backs ρ1 ρb vs) Dn := by
  have md1 : ∀ j, (getO ρ1 j).isSome = (getO ρa j).isSome := fun j => (ex.md j).trans (mda j)
  have own : ∀ a, OwnAt σ ρ1 a ↔ OwnAt σ2 ρa a := own_same md1 fun j hj => by
    have nj : j ∉ vs := fun z => by
      rw [hv j z] at hj
      cases hj
    rw [← wipe_get (σ := σ2) nj, e2, wipe_get nj]
  have nown : ¬ OwnAt σ ρ1 Dn := fun z => by
    obtain ⟨_, o, q⟩ := ok1.ownAt z
    rw [hD] at q
    cases q
  have hg : Hg Dn = some (.lst acc) := ne.hh _ _ hacc
  have h3 : H3 Dn = some (.lst acc) := exb.hh _ _ hg (fun _ z => nomatch z) fun z => nown ((own Dn).mpr z)
  have f3 : F3 Dn = none := by
    rw [exb.nf Dn (by rw [hg]; exact fun z => nomatch z), ne.nf Dn (by rw [hacc]; exact fun z => nomatch z)]
    exact nF
  have hl : ρ1.length = ρb.length := by
    have z := congrArg List.length e2
    rw [wipe_length, wipe_length] at z
    rw [← ok1.ln, ← okb.ln, z]
  have n0 : c.H0 Dn = none := by
    cases z : c.H0 Dn with
    | none => rfl
    | some o => exact absurd hD (ok1.e0 Dn (by rw [z]; exact fun z => nomatch z))
  have E : Ext σ ρ1 F1 H1 (backs ρ1 ρb vs) F3 H3 := by
    refine ⟨(ex.ff.trans ne.ff).trans exb.ff, fun a h => ?_, fun a o h nt n => ?_, fun a h => exb.hn a (ne.hn a (ex.hn a h)), fun j => ?_⟩
    · rw [exb.nf a (ne.hn a (ex.hn a h)), ne.nf a (ex.hn a h), ex.nf a h]
    · exact exb.hh a o (ne.hh a o (ex.hh a o h nt n)) nt fun z => n ((own a).mpr z)
    · rw [getO_backs hl hv]
      by_cases hj : j ∈ vs
      · rw [if_pos hj, hv j hj]
      · rw [if_neg hj, md1 j, exb.md j]
  exact ⟨h3, f3, ok1.backs hv ((ex.ff.trans ne.ff).trans exb.ff) okb e2, E, fun j hj => backs_in hl hj, ne.ff.trans exb.ff, n0, fun z => nown ((E.own Dn).mp z)⟩
end
section
variable {K : PySem.W.Frag} {c : Ent} {F H F1 H1 F2 H2 F3 H3 : Hp} {σ σ2 : L2.St} {ρ ρ1 ρa ρb : Store} {vs : List Nat}
theorem turn_end2 {Dn : Addr} {Hb : Hp} (hv : NoOwn ρ1 vs) (nown : ¬ OwnAt σ ρ1 Dn) (hb : Hb Dn = none) (ok1 : Ok K c F1 H1 σ ρ1) (ex : Ext σ ρ1 F1 Hb ρ F H) {G Hg : Hp} (ne : NewE F H G Hg)
    (e2 : wipe σ2 vs = wipe σ vs) (mda : ∀ j, (getO ρ j).isSome = (getO ρa j).isSome) (okb : Ok K c F3 H3 σ2 ρb) (exb : Ext σ2 ρa G (off Hg Dn) ρb F3 H3) :
    Ok K c F3 H3 σ (backs ρ1 ρb vs) ∧ Ext σ ρ1 F1 Hb (backs ρ1 ρb vs) F3 H3 ∧ (∀ j ∈ vs, (backs ρ1 ρb vs)[j]? = ρ1[j]?) ∧ Same F F3 ∧ ¬ OwnAt σ (backs ρ1 ρb vs) Dn ∧ ∀ a, OwnAt σ ρ1 a ↔ OwnAt σ2 ρa a := by
  have md1 : ∀ j, (getO ρ1 j).isSome = (getO ρa j).isSome := fun j => (ex.md j).trans (mda j)
  have own : ∀ a, OwnAt σ ρ1 a ↔ OwnAt σ2 ρa a := own_same md1 fun j hj => by
    have nj : j ∉ vs := fun z => by
      rw [hv j z] at hj
      cases hj
    rw [← wipe_get (σ := σ2) nj, e2, wipe_get nj]
  have hl : ρ1.length = ρb.length := by
    have z := congrArg List.length e2
    rw [wipe_length, wipe_length] at z
    rw [← ok1.ln, ← okb.ln, z]
  have nD : ∀ a, Hb a ≠ none → a ≠ Dn := fun a h z => h (by rw [z]; exact hb)
  have E : Ext σ ρ1 F1 Hb (backs ρ1 ρb vs) F3 H3 := by
    refine ⟨(ex.ff.trans ne.ff).trans exb.ff, fun a h => ?_, fun a o h nt n => ?_, fun a h => exb.hn a (by rw [off_ne (nD a h)]; exact ne.hn a (ex.hn a h)), fun j => ?_⟩
    · rw [exb.nf a (by rw [off_ne (nD a h)]; exact ne.hn a (ex.hn a h)), ne.nf a (ex.hn a h), ex.nf a h]
    · exact exb.hh a o (by rw [off_ne (nD a (by rw [h]; exact fun z => nomatch z))]; exact ne.hh a o (ex.hh a o h nt n)) nt fun z => n ((own a).mpr z)
    · rw [getO_backs hl hv]
      by_cases hj : j ∈ vs
      · rw [if_pos hj, hv j hj]
      · rw [if_neg hj, md1 j, exb.md j]
  exact ⟨ok1.backs hv ((ex.ff.trans ne.ff).trans exb.ff) okb e2, E, fun j hj => backs_in hl hj, ne.ff.trans exb.ff, fun z => nown ((E.own Dn).mp z), own⟩
theorem Ext.off {Dn : Addr} {ρ' : Store} {F' H' : Hp} (e : Ext σ ρ F H ρ' F' H') : Ext σ ρ F (DL.off H Dn) ρ' F' H' := by
  have k : ∀ a, DL.off H Dn a ≠ none → a ≠ Dn := fun a h z => h (by rw [z]; exact off_same)
  refine ⟨e.ff, fun a h => e.nf a (by rw [off_ne (k a h)] at h; exact h), fun a o h nt n => e.hh a o (by rw [off_ne (k a (by rw [h]; exact fun z => nomatch z))] at h; exact h) nt n, fun a h => e.hn a (by rw [off_ne (k a h)] at h; exact h), e.md⟩
/-- ahead of the i-th turn of the first clause -/
structure CO (K : PySem.W.Frag) (c : Ent) (σ : L2.St) (ρ1 : Store) (F1 H1 : Hp) (Dn : Addr) (vs : List Nat) (P : List D → Store → Prop) (i n : Nat) (H : Hp) : Prop where
  le : i ≤ n
  ex : ∃ (F : Hp) (ρ : Store) (acc : List V) (da : List D), Ok K c F H σ ρ ∧ Ext σ ρ1 F1 H1 ρ F H ∧ H Dn = some (.lst acc) ∧ F Dn = none ∧ Reps K F acc da ∧ (∀ j ∈ vs, ρ[j]? = ρ1[j]?) ∧ P da ρ
/-- ahead of the j-th turn of the second one -/
structure CI (K : PySem.W.Frag) (c : Ent) (σ : L2.St) (ρ1 : Store) (F1 Hb : Hp) (Dn : Addr) (vs : List Nat) (P : List D → Store → Prop) (n0 i n : Nat) (H : Hp) : Prop where
  le : i ≤ n
  ex : ∃ (F : Hp) (ρ : Store) (acc : List V) (da : List D), Ok K c F H σ ρ ∧ Ext σ ρ1 F1 Hb ρ F H ∧ H Dn = some (.lst acc) ∧ F Dn = none ∧ Reps K F acc da ∧ da.length ≤ n0 + i ∧ (∀ j ∈ vs, ρ[j]? = ρ1[j]?) ∧ P da ρ
theorem comp_run2 {t t1 : Tg} {vs1 : List Nat} {wIt wIt1 : Store → (List D → Store → Prop) → Prop} {wc : Store → (Bool → Store → Prop) → Prop} {we : Store → (D → Store → Prop) → Prop} {Q : VK} (htg : tgIn t vs = true) (htg1 : tgIn t1 vs1 = true)
    (h : tB K c (fun ρ Q => wIt ρ fun items ρ1 => valOk ρ1 vs = true ∧ compL2 t vs ρ1 wIt1 t1 vs1 wc we items [] ρ1 fun ds ρ2 => Q (.list ds) true ρ2) σ H Q) :
    tLc2 (tI K c wIt) (gB K t) (tT K c fun ρ Q => Q true ρ) (tI K c wIt1) (gB K t1) (tT K c wc) (tFz K c we) vs vs1 σ H Q := by
  obtain ⟨F, ρ, Qd, ok, g, q⟩ := h
  refine ⟨F, ρ, _, ok, g, fun items ρ1 F1 H1 J ⟨hv, hL⟩ ok1 ex1 dw Dn hD => ?_⟩
  have hvn := noOwn_val hv
  have nF1 : F1 Dn = none := ok1.fh.free hD
  have n0 : c.H0 Dn = none := by
    cases z : c.H0 Dn with
    | none => rfl
    | some o => exact absurd hD (ok1.e0 Dn (by rw [z]; exact fun z => nomatch z))
  have no1 : ¬ OwnAt σ ρ1 Dn := fun z => by
    obtain ⟨_, o, q⟩ := ok1.ownAt z
    rw [hD] at q
    cases q
  let P : Nat → List D → Store → Prop := fun i da ρ => compL2 t vs ρ1 wIt1 t1 vs1 wc we (items.drop i) da ρ fun ds ρ2 => Qd (.list ds) true ρ2
  refine ⟨fun i m H' => m = items.length - i ∧ CO K c σ ρ1 F1 H1 Dn vs (P i) i items.length H', ⟨items.length, rfl, Nat.zero_le _, F1, ρ1, [], [], ok1.tmp nF1 n0 no1 (.inl hD), Ext.refl.tmp hD, upd_same, nF1, .nil, fun _ _ => rfl, hL⟩, ?_⟩
  rintro i m Hi ⟨rfl, hle, Fi, ρi, acc, da, oki, exi, hacc, nFi, racc, hback, hLi⟩
  have hni : NoOwn ρi vs := fun j hj => by
    have z := hvn j hj
    unfold getO at z ⊢
    rw [hback j hj]
    exact z
  by_cases hlt : i < items.length
  · refine .inr ⟨dw.goes i Hi hlt (exi.ff.trans oki.fh), fun H' => CO K c σ ρ1 F1 H1 Dn vs (P (i + 1)) (i + 1) items.length H', fun H' z => ⟨items.length - (i + 1), by omega, rfl, z⟩, fun x Hg hy => ?_⟩
    obtain ⟨d, G, ed, ne, rd⟩ := dw.yields i Hi x Hg Fi hlt exi.ff oki.fh hy
    have edrop : items.drop i = d :: items.drop (i + 1) := by
      rw [List.drop_eq_getElem_cons hlt]
      rw [List.getElem?_eq_getElem hlt] at ed
      rw [Option.some.inj ed]
    have hLi : compL2 t vs ρ1 wIt1 t1 vs1 wc we (items.drop i) da ρi fun ds ρ2 => Qd (.list ds) true ρ2 := hLi
    rw [edrop] at hLi
    refine bind_in (vs := vs) ((oki.newE ne).wiped) rd hLi (fun j hj => by rw [getO_wipes hni]; exact hni j hj) htg fun σ2 ρa hwi oka e2 na mda => ?_
    have e2' : wipe σ2 vs = wipe σ vs := e2.trans (wipe_idem fun _ h => h)
    have mda' : ∀ j, (getO ρi j).isSome = (getO ρa j).isSome := fun j => by rw [← getO_wipes hni]; exact mda j
    have nFG : G Dn = none := by
      rw [ne.nf Dn (by rw [hacc]; exact fun z => nomatch z)]
      exact nFi
    have haccg : Hg Dn = some (.lst acc) := ne.hh _ _ hacc
    have noA : ¬ OwnAt σ2 ρa Dn := fun z => by
      have own := (turn_end2 hvn no1 hD ok1 exi ne e2' mda' oka (Ext.off Ext.refl)).2.2.2.2.2
      exact no1 ((own Dn).mpr z)
    refine ⟨e2', G, ρa, fun b ρ' => b = true ∧ wIt1 ρ' fun ys ρ2 => valOk ρ2 vs1 = true ∧ da.length + ys.length ≤ sizeLine ∧ compL t1 vs1 ρ2 wc we ys da ρ2 fun acc' ρ3 => compL2 t vs ρ1 wIt1 t1 vs1 wc we (items.drop (i + 1)) acc' (backs ρ1 ρ3 vs) fun ds ρ2 => Qd (.list ds) true ρ2, oka, ⟨rfl, hwi⟩, fun b ρb F3 H3 hb okb exb => ?_⟩
    obtain ⟨eb, hb⟩ := hb
    subst eb
    rw [if_pos rfl]
    refine ⟨F3, ρb, _, okb, hb, fun ys ρ2 F2 H2 J1 ⟨hv2, hz2, hL2⟩ ok2 ex2 dw1 => ?_⟩
    have exB := exb.trans ex2
    have h2D : H2 Dn = some (.lst acc) := exB.hh _ _ haccg (fun _ z => nomatch z) noA
    have f2D : F2 Dn = none := by
      rw [exB.nf Dn (by rw [haccg]; exact fun z => nomatch z)]
      exact nFG
    have no2 : ¬ OwnAt σ2 ρ2 Dn := fun z => noA ((exB.own Dn).mp z)
    have hvn2 := noOwn_val hv2
    let P1 : Nat → List D → Store → Prop := fun j da ρ => compL t1 vs1 ρ2 wc we (ys.drop j) da ρ fun acc' ρ3 => compL2 t vs ρ1 wIt1 t1 vs1 wc we (items.drop (i + 1)) acc' (backs ρ1 ρ3 vs) fun ds ρ2 => Qd (.list ds) true ρ2
    refine ⟨fun j m H' => m = ys.length - j ∧ CI K c σ2 ρ2 F2 (DL.off H2 Dn) Dn vs1 (P1 j) da.length j ys.length H', ⟨ys.length, rfl, Nat.zero_le _, F2, ρ2, acc, da, ok2, Ext.off Ext.refl, h2D, f2D, racc.mono (ne.ff.trans exB.ff), Nat.le_refl _, fun _ _ => rfl, hL2⟩, ?_⟩
    rintro j m Hj ⟨rfl, hle1, Fj, ρj, accj, daj, okj, exj, haccj, nFj, raccj, hdaj, hbackj, hLj⟩
    have hnj : NoOwn ρj vs1 := fun k hk => by
      have z := hvn2 k hk
      unfold getO at z ⊢
      rw [hbackj k hk]
      exact z
    by_cases hlt1 : j < ys.length
    · refine .inr ⟨dw1.goes j Hj hlt1 (exj.ff.trans okj.fh), fun H' => CI K c σ2 ρ2 F2 (DL.off H2 Dn) Dn vs1 (P1 (j + 1)) da.length (j + 1) ys.length H', fun H' z => ⟨ys.length - (j + 1), by omega, rfl, z⟩, fun x Hq hy => ?_⟩
      obtain ⟨d1, G1, ed1, ne1, rd1⟩ := dw1.yields j Hj x Hq Fj hlt1 exj.ff okj.fh hy
      have edrop1 : ys.drop j = d1 :: ys.drop (j + 1) := by
        rw [List.drop_eq_getElem_cons hlt1]
        rw [List.getElem?_eq_getElem hlt1] at ed1
        rw [Option.some.inj ed1]
      have hLj : compL t1 vs1 ρ2 wc we (ys.drop j) daj ρj fun acc' ρ3 => compL2 t vs ρ1 wIt1 t1 vs1 wc we (items.drop (i + 1)) acc' (backs ρ1 ρ3 vs) fun ds ρ2 => Qd (.list ds) true ρ2 := hLj
      rw [edrop1] at hLj
      refine bind_in (vs := vs1) ((okj.newE ne1).wiped) rd1 hLj (fun k hk => by rw [getO_wipes hnj]; exact hnj k hk) htg1 fun σ3 ρc hwc okc e3 nc mdc => ?_
      have e3' : wipe σ3 vs1 = wipe σ2 vs1 := e3.trans (wipe_idem fun _ h => h)
      have mdc' : ∀ k, (getO ρj k).isSome = (getO ρc k).isSome := fun k => by rw [← getO_wipes hnj]; exact mdc k
      have own3 := (turn_end2 hvn2 no2 off_same ok2 exj ne1 e3' mdc' okc (Ext.off Ext.refl)).2.2.2.2.2
      have noC : ¬ OwnAt σ3 ρc Dn := fun z => no2 ((own3 Dn).mpr z)
      have hq : Hq Dn = some (.lst accj) := ne1.hh _ _ haccj
      have fq : G1 Dn = none := by
        rw [ne1.nf Dn (by rw [haccj]; exact fun z => nomatch z)]
        exact nFj
      refine ⟨e3', G1, ρc, _, okc, hwc, fun b ρd F4 H4 hb okd exd => ?_⟩
      have stay : ∀ {ρ' : Store} {F' H' : Hp}, Ext σ3 ρc G1 Hq ρ' F' H' → H' Dn = some (.lst accj) ∧ F' Dn = none := fun {ρ' F' H'} e => by
        refine ⟨e.hh _ _ hq (fun _ z => nomatch z) noC, ?_⟩
        rw [e.nf Dn (by rw [hq]; exact fun z => nomatch z)]
        exact fq
      cases b with
      | false =>
        obtain ⟨okr, exr, bk, sm, mo, _⟩ := turn_end2 hvn2 no2 off_same ok2 exj ne1 e3' mdc' okd (Ext.off exd)
        obtain ⟨h4, f4⟩ := stay exd
        exact ⟨hlt1, F4, _, accj, daj, okr, exr, h4, f4, raccj.mono sm, by omega, bk, hb⟩
      | true =>
        refine ⟨F4, ρd, _, okd, hb, fun d2 ρe y F5 H5 hd oke exe ry => ?_⟩
        obtain ⟨okr, exr, bk, sm, mo, _⟩ := turn_end2 hvn2 no2 off_same ok2 exj ne1 e3' mdc' oke (Ext.off (exd.trans exe))
        obtain ⟨h5, f5⟩ := stay (exd.trans exe)
        refine ⟨accj, h5, ?_, hlt1, F5, _, accj ++ [y], daj ++ [d2], okr.tmp f5 n0 mo (.inr ⟨_, h5⟩), exr.tmp off_same, upd_same, f5, (raccj.mono sm).snoc ry, ?_, bk, hd⟩
        · rw [raccj.len]
          omega
        · rw [List.length_append, List.length_singleton]
          omega
    · have e : j = ys.length := by omega
      subst e
      have hLj : compL t1 vs1 ρ2 wc we (ys.drop ys.length) daj ρj fun acc' ρ3 => compL2 t vs ρ1 wIt1 t1 vs1 wc we (items.drop (i + 1)) acc' (backs ρ1 ρ3 vs) fun ds ρ2 => Qd (.list ds) true ρ2 := hLj
      rw [List.drop_length] at hLj
      refine .inl ⟨dw1.stops Hj (exj.ff.trans okj.fh), ?_⟩
      have exall : Ext σ2 ρa G (DL.off Hg Dn) ρj Fj Hj := by
        have z : Ext σ2 ρa G (DL.off Hg Dn) ρ2 F2 H2 := Ext.off exB
        refine ⟨z.ff.trans exj.ff, fun a h => ?_, fun a o h nt n => ?_, fun a h => ?_, fun k => (z.md k).trans (exj.md k)⟩
        · have na : a ≠ Dn := fun y => h (by rw [y]; exact off_same)
          rw [exj.nf a (by rw [off_ne na]; exact z.hn a h), z.nf a h]
        · have na : a ≠ Dn := fun y => by
            rw [y, off_same] at h
            cases h
          exact exj.hh a o (by rw [off_ne na]; exact z.hh a o h nt n) nt fun y => n ((exB.own a).mp y)
        · have na : a ≠ Dn := fun y => h (by rw [y]; exact off_same)
          exact exj.hn a (by rw [off_ne na]; exact z.hn a h)
      obtain ⟨okr, exr, bk, sm, mo, _⟩ := turn_end2 hvn no1 hD ok1 exi ne e2' mda' okj exall
      exact ⟨hlt, Fj, _, accj, daj, okr, exr, haccj, nFj, raccj, bk, hLj⟩
  · have e : i = items.length := by omega
    subst e
    have hLi : compL2 t vs ρ1 wIt1 t1 vs1 wc we (items.drop items.length) da ρi fun ds ρ2 => Qd (.list ds) true ρ2 := hLi
    rw [List.drop_length] at hLi
    refine .inl ⟨dw.stops Hi (exi.ff.trans oki.fh), q (.list da) true ρi (.ref Dn) Fi Hi hLi oki (ex1.trans exi) (.of_own ⟨⟨Dn, acc, rfl, hacc, racc⟩, fun b e => ?_⟩)⟩
    cases e
    refine ⟨nFi, ?_⟩
    cases z : H Dn with
    | none => rfl
    | some o => exact absurd hD (ex1.hn Dn (by rw [z]; exact fun z => nomatch z))
end
section
variable {X : Cx} {c : Ent} {elt tg iter : Expr} {ifs : List Expr} {scope : Scope} {own : List (Str × Nat)} {pos : Pos} {t : Tg} {wIt : Store → (List D → Store → Prop) → Prop} {wc : Store → (Bool → Store → Prop) → Prop} {we : Store → (D → Store → Prop) → Prop}
theorem comp_run {K : PySem.W.Frag} {wi : TI} {σ : L2.St} {H : Hp} {Q : VK} {vs : List Nat} (htg : tgIn t vs = true)
    (h : tB K c (fun ρ Q => wIt ρ fun items ρ1 => valOk ρ1 vs = true ∧ items.length ≤ sizeLine ∧ compL t vs ρ1 wc we items [] ρ1 fun ds ρ2 => Q (.list ds) true ρ2) σ H Q) :
    tLc (tI K c wIt) (gB K t) (tT K c wc) (tFz K c we) vs σ H Q := by
  obtain ⟨F, ρ, Qd, ok, g, q⟩ := h
  refine ⟨F, ρ, _, ok, g, fun items ρ1 F1 H1 J ⟨hv, hz, hL⟩ ok1 ex1 dw Dn hD => ?_⟩
  have hvn := noOwn_val hv
  have nF1 : F1 Dn = none := ok1.fh.free hD
  have n0 : c.H0 Dn = none := by
    cases z : c.H0 Dn with
    | none => rfl
    | some o => exact absurd hD (ok1.e0 Dn (by rw [z]; exact fun z => nomatch z))
  have no1 : ¬ OwnAt σ ρ1 Dn := fun z => by
    obtain ⟨_, o, q⟩ := ok1.ownAt z
    rw [hD] at q
    cases q
  refine ⟨fun i m H' => m = items.length - i ∧ CW K c σ ρ1 F1 H1 Dn vs t wc we items (fun ds ρ2 => Qd (.list ds) true ρ2) i H', ⟨items.length, rfl, Nat.zero_le _, F1, ρ1, [], [], ok1.tmp nF1 n0 no1 (.inl hD), Ext.refl.tmp hD, upd_same, nF1, .nil, Nat.le_refl _, fun _ _ => rfl, hL⟩, ?_⟩
  rintro i m Hi ⟨rfl, hle, Fi, ρi, acc, da, oki, exi, hacc, nFi, racc, hda, hback, hLi⟩
  have hni : NoOwn ρi vs := fun j hj => by
    have z := hvn j hj
    unfold getO at z ⊢
    rw [hback j hj]
    exact z
  by_cases hlt : i < items.length
  · refine .inr ⟨dw.goes i Hi hlt (exi.ff.trans oki.fh), fun H' => CW K c σ ρ1 F1 H1 Dn vs t wc we items (fun ds ρ2 => Qd (.list ds) true ρ2) (i + 1) H', fun H' z => ⟨items.length - (i + 1), by omega, rfl, z⟩, fun x Hg hy => ?_⟩
    obtain ⟨d, G, ed, ne, rd⟩ := dw.yields i Hi x Hg Fi hlt exi.ff oki.fh hy
    have edrop : items.drop i = d :: items.drop (i + 1) := by
      rw [List.drop_eq_getElem_cons hlt]
      rw [List.getElem?_eq_getElem hlt] at ed
      rw [Option.some.inj ed]
    rw [edrop] at hLi
    refine bind_in (vs := vs) ((oki.newE ne).wiped) rd hLi (fun j hj => by rw [getO_wipes hni]; exact hni j hj) htg fun σ2 ρa hwc oka e2 na mda => ?_
    have e2' : wipe σ2 vs = wipe σ vs := e2.trans (wipe_idem fun _ h => h)
    have mda' : ∀ j, (getO ρi j).isSome = (getO ρa j).isSome := fun j => by rw [← getO_wipes hni]; exact mda j
    refine ⟨e2', G, ρa, _, oka, hwc, fun b ρb F3 H3 hb okb exb => ?_⟩
    cases b with
    | false =>
      obtain ⟨h3, f3, okr, exr, bk, sm, m0, mo⟩ := turn_end hvn hD ok1 oki exi ne oka e2' mda' okb exb hacc nFi
      exact ⟨hlt, F3, _, acc, da, okr, exr, h3, f3, racc.mono sm, by omega, bk, hb⟩
    | true =>
      refine ⟨F3, ρb, _, okb, hb, fun d2 ρc y F4 H4 hd okc exc ry => ?_⟩
      obtain ⟨h3, f3, okr, exr, bk, sm, m0, mo⟩ := turn_end hvn hD ok1 oki exi ne oka e2' mda' okc (exb.trans exc) hacc nFi
      refine ⟨acc, h3, ?_, hlt, F4, _, acc ++ [y], da ++ [d2], okr.tmp f3 m0 mo (.inr ⟨_, h3⟩), exr.tmp hD, upd_same, f3, (racc.mono sm).snoc ry, ?_, bk, hd⟩
      · rw [racc.len]
        omega
      · rw [List.length_append, List.length_singleton]
        omega
  · have e : i = items.length := by omega
    subst e
    rw [List.drop_length] at hLi
    refine .inl ⟨dw.stops Hi (exi.ff.trans oki.fh), q (.list da) true ρi (.ref Dn) Fi Hi hLi oki (ex1.trans exi) (.of_own ⟨⟨Dn, acc, rfl, hacc, racc⟩, fun b e => ?_⟩)⟩
    cases e
    refine ⟨nFi, ?_⟩
    cases z : H Dn with
    | none => rfl
    | some o => exact absurd hD (ex1.hn Dn (by rw [z]; exact fun z => nomatch z))
theorem sn_comp (hc : X.calm = true) (hN : X.N.Nodup) (hi : PI X tg iter (tI X.K c wIt)) (ok : BlkOk X.N X.env.scope scope own) (htg : tgIn t (own.map (·.2)) = true)
    (hg : ∀ (s : Shared) (H : Hp) (C : Addr) (cl : List (Str × Addr)) (fp : List Addr), PG (X.blk s H scope (compEnvC scope cl C X.env) fp) tg (gB X.K t))
    (ht : ∀ (s : Shared) (H : Hp) (C : Addr) (cl : List (Str × Addr)) (fp : List Addr), PTs (X.blk s H scope (compEnvC scope cl C X.env) fp) ifs (tT X.K c wc))
    (he : ∀ (s : Shared) (H : Hp) (C : Addr) (cl : List (Str × Addr)) (fp : List Addr), PE (X.blk s H scope (compEnvC scope cl C X.env) fp) elt (tFz X.K c we)) (hs : ∀ x, foldedSetIterable iter X.env x = pure x) :
    PE X (.ListComp elt [⟨tg, iter, ifs, 0⟩] scope pos) (tB X.K c fun ρ Q => wIt ρ fun items ρ1 => valOk ρ1 (own.map (·.2)) = true ∧ items.length ≤ sizeLine ∧ compL t (own.map (·.2)) ρ1 wc we items [] ρ1 fun ds ρ2 => Q (.list ds) true ρ2) :=
  PE.imp (pe_lc hc hN hi ok hg ht he hs) fun σ H Q h => comp_run (wi := tI X.K c wIt) htg h
theorem sn_comp2 {tg1 iter1 : Expr} {ifs1 : List Expr} {t1 : Tg} {vs1 : List Nat} {wIt1 : Store → (List D → Store → Prop) → Prop} (hc : X.calm = true) (hN : X.N.Nodup) (hi : PI X tg iter (tI X.K c wIt)) (ok : BlkOk X.N X.env.scope scope own) (hv : ∀ i ∈ vs1, i ∈ own.map (·.2)) (htg : tgIn t (own.map (·.2)) = true) (htg1 : tgIn t1 vs1 = true)
    (hg : ∀ (s : Shared) (H : Hp) (C : Addr) (cl : List (Str × Addr)) (fp : List Addr), PG (X.blk s H scope (compEnvC scope cl C X.env) fp) tg (gB X.K t))
    (ht : ∀ (s : Shared) (H : Hp) (C : Addr) (cl : List (Str × Addr)) (fp : List Addr), PTs (X.blk s H scope (compEnvC scope cl C X.env) fp) ifs (tT X.K c fun ρ Q => Q true ρ))
    (hi1 : ∀ (s : Shared) (H : Hp) (C : Addr) (cl : List (Str × Addr)) (fp : List Addr), PI (X.blk s H scope (compEnvC scope cl C X.env) fp) tg1 iter1 (tI X.K c wIt1))
    (hg1 : ∀ (s : Shared) (H : Hp) (C : Addr) (cl : List (Str × Addr)) (fp : List Addr), PG (X.blk s H scope (compEnvC scope cl C X.env) fp) tg1 (gB X.K t1))
    (ht1 : ∀ (s : Shared) (H : Hp) (C : Addr) (cl : List (Str × Addr)) (fp : List Addr), PTs (X.blk s H scope (compEnvC scope cl C X.env) fp) ifs1 (tT X.K c wc))
    (he : ∀ (s : Shared) (H : Hp) (C : Addr) (cl : List (Str × Addr)) (fp : List Addr), PE (X.blk s H scope (compEnvC scope cl C X.env) fp) elt (tFz X.K c we)) (hs : ∀ x, foldedSetIterable iter X.env x = pure x) (hs1 : ∀ env x, foldedSetIterable iter1 env x = pure x) :
    PE X (.ListComp elt [⟨tg, iter, ifs, 0⟩, ⟨tg1, iter1, ifs1, 0⟩] scope pos) (tB X.K c fun ρ Q => wIt ρ fun items ρ1 => valOk ρ1 (own.map (·.2)) = true ∧ compL2 t (own.map (·.2)) ρ1 wIt1 t1 vs1 wc we items [] ρ1 fun ds ρ2 => Q (.list ds) true ρ2) :=
  PE.imp (pe_lc2 hc hN hi ok hv hg ht hi1 hg1 ht1 he hs hs1) fun σ H Q h => comp_run2 htg htg1 h
end
end DL

set_option maxHeartbeats 4000000
/-! DL part M: statements. -/
namespace DL
open PySem PySem.Spec PyProof.Rows L2
section
variable {K : PySem.W.Frag} {c : Ent} {F H F' H' F1 H1 : Hp} {σ σ' : L2.St} {ρ ρ' ρ1 : Store} {v : V} {d d0 d' : D} {a : Addr} {o : HO} {i : Nat} {m : Md}
theorem getO_list (h : getO ρ i = some (m, d)) (ok : Ok K c F H σ ρ) : ∃ (a : Addr) (ds : List D) (xs : List V), σ[i]? = some (some (.ref a)) ∧ d = .list ds ∧ H a = some (.lst xs) ∧ Reps K (fbOf m c.Fb F) xs ds := by
  obtain ⟨g1, g2⟩ := getO_some h
  obtain ⟨v, e, r⟩ := ok.sl i m d g1
  have z : Cont K (fbOf m c.Fb F) H v d := by
    cases m with
    | v => exact absurd rfl g2
    | o => exact r.1
    | m => exact r.1
  cases d with
  | list ds =>
    obtain ⟨a, xs, rfl, q, rs⟩ := z
    exact ⟨a, ds, xs, e, rfl, q, rs⟩
  | _ => exact z.elim
/-- an own object's content changes -/
theorem Ok.put (ok : Ok K c F H σ ρ) (hp : getO ρ i = some (m, d0)) (ha : σ[i]? = some (some (.ref a))) (ct : Cont K (fbOf m c.Fb F) (upd H a o) (.ref a) d') : Ok K c F (upd H a o) σ (ρ.set i (some (m, d'))) := by
  obtain ⟨g1, g2⟩ := getO_some hp
  have hl : i < ρ.length := (List.getElem?_eq_some_iff.mp g1).1
  obtain ⟨v, e, r⟩ := ok.sl i m d0 g1
  rw [ha] at e
  cases e
  have own : OwnAt σ ρ a := ⟨i, (m, d0), hp, ha⟩
  obtain ⟨nF, u, hu⟩ := ok.ownAt own
  have off : ∀ j (p : Md × D), (ρ.set i (some (m, d')))[j]? = some (some p) → p.1 ≠ .v → ∃ q : Md × D, ρ[j]? = some (some q) ∧ q.1 ≠ .v := fun j p hj np => by
    by_cases z : i = j
    · subst z
      exact ⟨_, g1, g2⟩
    · rw [List.getElem?_set_ne z] at hj
      exact ⟨p, hj, np⟩
  have hy : ∃ ys, H a = some (.lst ys) := by
    cases m with
    | v => exact absurd rfl g2
    | o => exact r.1.lstAt
    | m => exact r.1.lstAt
  obtain ⟨ys, hy⟩ := hy
  refine ⟨fun b w q => ?_, by rw [List.length_set]; exact ok.ln, fun b h => ?_, fun b w h nt hm => ?_, ok.e2, ok.e3, ok.eb, fun j mj dj h => ?_, fun j k b p q hp' hq np nq ej ek => ?_, ok.tb.trans (.put hy), ok.te, ok.nt⟩
  · rw [upd_ne fun z => by rw [z, nF] at q; cases q]
    exact ok.fh b w q
  · by_cases z : b = a
    · rw [z, upd_same]
      exact fun z => nomatch z
    · rw [upd_ne z]
      exact ok.e0 b h
  · rw [upd_ne fun z => ?_]
    · exact ok.e1 b w h nt hm
    · subst z
      cases m with
      | v => exact g2 rfl
      | o =>
        rw [(r.2 b rfl).2] at h
        cases h
      | m => exact hm (r.2 b rfl).2
  · by_cases z : i = j
    · subst z
      rw [List.getElem?_set_self hl] at h
      cases h
      refine ⟨.ref a, ha, ?_⟩
      cases m with
      | v => exact absurd rfl g2
      | o => exact ⟨ct, r.2⟩
      | m => exact ⟨ct, r.2⟩
    · rw [List.getElem?_set_ne z] at h
      obtain ⟨w, ew, rw'⟩ := ok.sl j mj dj h
      refine ⟨w, ew, ?_⟩
      have kp : mj ≠ .v → ∀ b u, w = .ref b → H b = some (.lst u) → upd H a o b = some (.lst u) := fun nv b u eb q => by
        rw [upd_ne fun y => z (ok.ds i j a _ _ g1 h g2 nv ha (by rw [ew, eb, y]))]
        exact q
      cases mj with
      | v => exact rw'
      | o => exact ⟨rw'.1.mono (Same.refl _) (kp fun z => nomatch z), rw'.2⟩
      | m => exact ⟨rw'.1.mono (Same.refl _) (kp fun z => nomatch z), rw'.2⟩
  · obtain ⟨p', gp, np'⟩ := off j p hp' np
    obtain ⟨q', gq, nq'⟩ := off k q hq nq
    exact ok.ds j k b p' q' gp gq np' nq' ej ek
theorem Ext.put (e : Ext σ ρ F H ρ1 F1 H1) (hp : getO ρ1 i = some (m, d0)) (ha : σ[i]? = some (some (.ref a))) : Ext σ ρ F H (ρ1.set i (some (m, d'))) F1 (upd H1 a o) := by
  have own : OwnAt σ ρ a := (e.own a).mp ⟨i, _, hp, ha⟩
  refine ⟨e.ff, e.nf, fun b u h nt n => ?_, fun b h => ?_, fun j => (e.md j).trans (own_set (p' := (m, d')) hp rfl).symm⟩
  · rw [upd_ne fun z => n (by rw [z]; exact own)]
    exact e.hh b u h nt n
  · by_cases z : b = a
    · rw [z, upd_same]
      exact fun z => nomatch z
    · rw [upd_ne z]
      exact e.hn b h
theorem fb_same (ok : Ok K c F H σ ρ) (m : Md) : Same (fbOf m c.Fb F) F := by
  cases m with
  | m => exact ok.eb
  | v => exact Same.refl _
  | o => exact Same.refl _
theorem rep_scal {G : Hp} (h : scalD d = true) (r : Rep K F v d) : Rep K G v d := by
  cases r with
  | non => exact .non
  | bl b => exact .bl b
  | int i => exact .int i
  | str x => exact .str x
  | lst _ _ => cases h
  | tup _ _ => cases h
  | scr _ _ => cases h
  | rgo _ _ _ => cases h
  | dct _ _ _ => cases h
  | opq _ => cases h
theorem rep_fb (h : mOk m d) (r : Rep K F v d) : Rep K (fbOf m c.Fb F) v d := by
  cases m with
  | m => exact rep_scal (h rfl) r
  | v => exact r
  | o => exact r
theorem reps_fb : ∀ {vs : List V} {ds : List D}, (∀ x ∈ ds, mOk m x) → Reps K F vs ds → Reps K (fbOf m c.Fb F) vs ds
  | _, _, _, .nil => .nil
  | _, _, h, .cons r rs => .cons (rep_fb (h _ List.mem_cons_self) r) (reps_fb (fun x hx => h x (List.mem_cons_of_mem _ hx)) rs)
end

/-- what is wanted behind, in the layer's own ends -/
structure KdOk (K : PySem.W.Frag) (c : Ent) (F : Hp) (k : Kd) (D : Ends) : Prop where
  nx : ∀ ρ σ F' H', k.nx ρ → Ok K c F' H' σ ρ → Same F F' → D.nx σ H'
  bk : ∀ ρ σ F' H', k.bk ρ → Ok K c F' H' σ ρ → Same F F' → D.bk σ H'
  ct : ∀ ρ σ F' H', k.ct ρ → Ok K c F' H' σ ρ → Same F F' → D.ct σ H'
  rt : ∀ d fr ρ σ v F' H', k.rt d fr ρ → Ok K c F' H' σ ρ → ResRep K c.H0 F' H' v d fr → D.rt v H'
  ex : k.ex = noR
theorem KdOk.at {K : PySem.W.Frag} {c : Ent} {F F' : Hp} {k : Kd} {D : Ends} (h : KdOk K c F k D) (s : Same F F') : KdOk K c F' k D :=
  ⟨fun ρ σ G H' q ok e => h.nx ρ σ G H' q ok (s.trans e), fun ρ σ G H' q ok e => h.bk ρ σ G H' q ok (s.trans e), fun ρ σ G H' q ok e => h.ct ρ σ G H' q ok (s.trans e), h.rt, h.ex⟩
def tS (K : PySem.W.Frag) (c : Ent) (w : WS) : TS := fun D σ H => ∃ (F : Hp) (ρ : Store) (k : Kd), Ok K c F H σ ρ ∧ w ρ k ∧ KdOk K c F k D
section
variable {X : Cx} {c : Ent} {e e1 e2 tg : Expr} {w : (Xn → Store → Prop) → WB} {wf wf2 : (Xn → Store → Prop) → WB} {u u2 : WS} {st : Stmt} {rest : List Stmt} {pos : Pos} {t : Tg}
theorem ss_nil : PSs X [] (tS X.K c fun ρ k => k.nx ρ) := PSs.imp pss_nil fun D σ H ⟨F, ρ, k, ok, h, q⟩ => q.nx ρ σ F H h ok (Same.refl _)
theorem ss_cons (h1 : PS X st (tS X.K c u)) (h2 : PSs X rest (tS X.K c u2)) : PSs X (st :: rest) (tS X.K c fun ρ k => u ρ { k with nx := fun ρ1 => u2 ρ1 k }) :=
  PSs.imp (pss_cons h1 h2) fun D σ H ⟨F, ρ, k, ok, h, q⟩ => ⟨F, ρ, { k with nx := fun ρ1 => u2 ρ1 k }, ok, h, ⟨fun ρ' σ' F' H' h' ok' s => ⟨F', ρ', k, ok', h', q.at s⟩, q.bk, q.ct, q.rt, q.ex⟩⟩
theorem ss_frz {i : Nat} (h2 : PSs X rest (tS X.K c u2)) : PSs X rest (tS X.K c fun ρ k => ∃ d, ρ[i]? = some (some (.o, d)) ∧ u2 (ρ.set i (some (.v, d))) k) :=
  PSs.imp h2 fun D σ H ⟨F, ρ, k, ok, ⟨d, g, h⟩, q⟩ => by
    have hp : getO ρ i = some (.o, d) := getO_of g fun z => nomatch z
    obtain ⟨a, ds, xs, ea, rfl, ha, rs⟩ := getO_list hp ok
    obtain ⟨v, e, r⟩ := ok.sl i .o _ g
    rw [ea] at e
    cases e
    have nF := (r.2 a rfl).1
    have sm : Same F (upd F a (.lst xs)) := same_new nF
    have hl : i < ρ.length := (List.getElem?_eq_some_iff.mp g).1
    -- the slot let go, the object frozen, the slot bound to it
    have ok1 : Ok X.K c F H σ (ρ.set i none) := by
      have off : ∀ j (p : Md × DL.D), (ρ.set i none)[j]? = some (some p) → i ≠ j ∧ ρ[j]? = some (some p) := fun j p hj => by
        by_cases z : i = j
        · subst z
          rw [List.getElem?_set_self hl] at hj
          cases hj
        · rw [List.getElem?_set_ne z] at hj
          exact ⟨z, hj⟩
      exact ⟨ok.fh, by rw [List.length_set]; exact ok.ln, ok.e0, ok.e1, ok.e2, ok.e3, ok.eb, fun j m d h => ok.sl j m d (off j _ h).2, fun j l b p q hp hq => ok.ds j l b p q (off j p hp).2 (off l q hq).2, ok.tb, ok.te, ok.nt⟩
    have no : ¬ OwnAt σ (ρ.set i none) a := by
      rintro ⟨j, p, hj, ej⟩
      obtain ⟨g1, g2⟩ := getO_some hj
      by_cases z : i = j
      · subst z
        rw [List.getElem?_set_self hl] at g1
        cases g1
      · rw [List.getElem?_set_ne z] at g1
        exact z (ok.ds i j a _ p g g1 (fun z => nomatch z) g2 ea ej)
    have ok2 := (ok1.freeze ha nF (r.2 a rfl).2 no).set i (.lst upd_same (rs.mono sm))
    have es : σ.set i (some (.ref a)) = σ := by
      apply List.ext_getElem?
      intro j
      by_cases z : i = j
      · subst z
        rw [List.getElem?_set_self (by rw [ok.ln]; exact hl), ea]
      · rw [List.getElem?_set_ne z]
    rw [es, List.set_set] at ok2
    exact ⟨_, _, k, ok2, h, q.at sm⟩
theorem xf {P : WB → Prop} {R : Xn → Store → Prop} (e : R = noR) (h : P (w noR)) : P (w R) := by
  rw [e]
  exact h
theorem ps_asgT (he : PE X e (tFz X.K c (frz (w noR)))) (hx : ∀ te, PE X e te → PS X st (tAsg te (gB X.K t))) : PS X st (tS X.K c fun ρ k => frz (w k.ex) ρ fun d ρ1 => bindT t d ρ1 k.nx) :=
  PS.imp (hx _ he) fun D σ H ⟨F, ρ, k, ok, h, q⟩ => by
    simp only [q.ex] at h
    exact ⟨F, ρ, _, ok, h, fun d ρ1 v F1 H1 hb ok1 ex1 r1 => bind_ok ok1 r1 hb fun σ' ρ' hk ok' => q.nx ρ' σ' F1 H1 hk ok' ex1.ff⟩
theorem ps_ownZ {i : Nat} (hx : PS X st (tAsg (tB X.K c (w noR)) (gName i))) : PS X st (tS X.K c fun ρ k => w k.ex ρ fun d fr ρ1 => fr = true ∧ i < ρ1.length ∧ k.nx (ρ1.set i (some (.o, d)))) :=
  PS.imp hx fun D σ H ⟨F, ρ, k, ok, h, q⟩ => by
    simp only [q.ex] at h
    refine ⟨F, ρ, _, ok, h, fun d fr ρ1 v F1 H1 ⟨ef, hl, hk⟩ ok1 ex1 r1 => ?_⟩
    subst ef
    obtain ⟨ct, r2⟩ := r1.own
    obtain ⟨a, o, rfl, ha, _⟩ := ct.at
    obtain ⟨nF, nH⟩ := r2 a rfl
    have n0 : c.H0 a = none := by
      cases z : c.H0 a with
      | none => rfl
      | some o => exact absurd nH (ok.e0 a (by rw [z]; exact fun z => nomatch z))
    have no : ¬ OwnAt σ ρ1 a := fun z => by
      obtain ⟨_, o, q⟩ := ok.ownAt ((ex1.own a).mp z)
      rw [nH] at q
      cases q
    refine q.nx _ _ F1 H1 hk ?_ ex1.ff
    refine ⟨ok1.fh, by rw [List.length_set, List.length_set]; exact ok1.ln, ok1.e0, ok1.e1, ok1.e2, ok1.e3, ok1.eb, fun j m d' h => ?_, fun j k b p q hp hq np nq ej ek => ?_, ok1.tb, ok1.te, ok1.nt⟩
    · by_cases z : i = j
      · subst z
        rw [List.getElem?_set_self hl] at h
        cases h
        exact ⟨_, List.getElem?_set_self (by rw [ok1.ln]; exact hl), ct, fun b e => by cases e; exact ⟨nF, n0⟩⟩
      · rw [List.getElem?_set_ne z] at h ⊢
        exact ok1.sl j m d' h
    · have hs : i < σ.length := by rw [ok1.ln]; exact hl
      by_cases z : i = j
      · subst z
        by_cases y : i = k
        · exact y
        · rw [List.getElem?_set_self hs] at ej
          cases ej
          rw [List.getElem?_set_ne y] at hq ek
          exact absurd ⟨k, q, getO_of hq nq, ek⟩ no
      · by_cases y : i = k
        · subst y
          rw [List.getElem?_set_self hs] at ek
          cases ek
          rw [List.getElem?_set_ne z] at hp ej
          exact absurd ⟨j, p, getO_of hp np, ej⟩ no
        · rw [List.getElem?_set_ne z] at hp ej
          rw [List.getElem?_set_ne y] at hq ek
          exact ok1.ds j k b p q hp hq np nq ej ek
theorem ps_exprT (he : PE X e (tFz X.K c (frz (w noR)))) (hx : ∀ te, PE X e te → PS X st (tDrop te)) : PS X st (tS X.K c fun ρ k => frz (w k.ex) ρ fun _ ρ1 => k.nx ρ1) :=
  PS.imp (hx _ he) fun D σ H ⟨F, ρ, k, ok, h, q⟩ => by
    simp only [q.ex] at h
    exact ⟨F, ρ, _, ok, h, fun d ρ1 v F1 H1 hk ok1 ex1 r1 => q.nx ρ1 σ F1 H1 hk ok1 ex1.ff⟩
theorem ps_retT (he : PE X e (tB X.K c (w noR))) : PS X (.Return (some e) pos) (tS X.K c fun ρ k => w k.ex ρ k.rt) :=
  PS.imp (ps_ret he) fun D σ H ⟨F, ρ, k, ok, h, q⟩ => by
    simp only [q.ex] at h
    exact ⟨F, ρ, _, ok, h, fun d fr ρ1 v F1 H1 hk ok1 ex1 r1 => q.rt d fr ρ1 σ v F1 H1 hk ok1 (r1.from ok.e0)⟩
theorem ps_retOT {i : Nat} (he : PE X e (tVar i)) : PS X (.Return (some e) pos) (tS X.K c fun ρ k => ∃ d, ρ[i]? = some (some (.o, d)) ∧ k.rt d true (ρ.set i none)) :=
  PS.imp (ps_ret he) fun D σ H ⟨F, ρ, k, ok, ⟨d, g, h⟩, q⟩ => by
    obtain ⟨v, e, r⟩ := ok.sl i .o d g
    have hl : i < ρ.length := (List.getElem?_eq_some_iff.mp g).1
    refine ⟨v, e, q.rt d true _ σ v F H h ?_ (.of_own r)⟩
    have off : ∀ j (p : Md × DL.D), (ρ.set i none)[j]? = some (some p) → ρ[j]? = some (some p) := fun j p hj => by
      by_cases z : i = j
      · subst z
        rw [List.getElem?_set_self hl] at hj
        cases hj
      · rw [List.getElem?_set_ne z] at hj
        exact hj
    exact ⟨ok.fh, by rw [List.length_set]; exact ok.ln, ok.e0, ok.e1, ok.e2, ok.e3, ok.eb, fun j m d h => ok.sl j m d (off j _ h), fun j l b p q hp hq => ok.ds j l b p q (off j p hp) (off l q hq), ok.tb, ok.te, ok.nt⟩
theorem ps_retNT : PS X (.Return none pos) (tS X.K c fun ρ k => k.rt .none false ρ) :=
  PS.imp ps_retN fun D σ H ⟨F, ρ, k, ok, h, q⟩ => q.rt .none false ρ σ .non F H h ok (.fz .non)
theorem ps_brkT : PS X (.Break pos) (tS X.K c fun ρ k => k.bk ρ) := PS.imp ps_break fun D σ H ⟨F, ρ, k, ok, h, q⟩ => q.bk ρ σ F H h ok (Same.refl _)
theorem ps_cntT : PS X (.Continue pos) (tS X.K c fun ρ k => k.ct ρ) := PS.imp ps_continue fun D σ H ⟨F, ρ, k, ok, h, q⟩ => q.ct ρ σ F H h ok (Same.refl _)
theorem ps_pasT : PS X (.Pass pos) (tS X.K c fun ρ k => k.nx ρ) := PS.imp ps_pass fun D σ H ⟨F, ρ, k, ok, h, q⟩ => q.nx ρ σ F H h ok (Same.refl _)
theorem ps_nevT : PS X st (tS X.K c fun _ _ => False) := PS.imp ps_never fun D σ H ⟨F, ρ, k, ok, h, q⟩ => h
theorem ps_ifT {tt : (Xn → Store → Prop) → Store → (Bool → Store → Prop) → Prop} {a b : List Stmt} (hc : PT X e (tT X.K c (tt noR))) (ha : PSs X a (tS X.K c u)) (hb : PSs X b (tS X.K c u2)) :
    PS X (.If e a b pos) (tS X.K c fun ρ k => tt k.ex ρ fun r ρ1 => if r then u ρ1 k else u2 ρ1 k) :=
  PS.imp (ps_if hc ha hb) fun D σ H ⟨F, ρ, k, ok, h, q⟩ => by
    simp only [q.ex] at h
    exact ⟨F, ρ, _, ok, h, fun r ρ1 F1 H1 hk ok1 ex1 => by
      cases r with
      | true => exact ⟨F1, ρ1, k, ok1, hk, q.at ex1.ff⟩
      | false => exact ⟨F1, ρ1, k, ok1, hk, q.at ex1.ff⟩⟩
theorem ps_whlT {tt : (Xn → Store → Prop) → Store → (Bool → Store → Prop) → Prop} {b : List Stmt} (hp : PassesOwn (model X.prog X.w) X.A X.env X.xe) (hc : PT X e (tT X.K c (tt noR))) (hb : PSs X b (tS X.K c u)) :
    PS X (.While e b [] pos) (tS X.K c fun ρ k => ∃ n, whlN (tt k.ex) u n ρ k) :=
  PS.imp (ps_while hp hc hb) fun D σ H ⟨F, ρ, k, ok, ⟨n, h⟩, q⟩ => by
    simp only [q.ex] at h
    refine ⟨fun m σ H => ∃ F ρ, Ok X.K c F H σ ρ ∧ whlN (tt noR) u m ρ k ∧ KdOk X.K c F k D, ⟨n, F, ρ, ok, h, q⟩, fun m σ H ⟨F, ρ, ok, h, q⟩ => ?_⟩
    cases m with
    | zero => exact h.elim
    | succ m =>
      refine ⟨F, ρ, _, ok, h, fun r ρ1 F1 H1 hk ok1 ex1 => ?_⟩
      cases r with
      | false => exact q.nx ρ1 σ F1 H1 hk ok1 ex1.ff
      | true =>
        refine ⟨fun σ' H' => ∃ F' ρ', Ok X.K c F' H' σ' ρ' ∧ whlN (tt noR) u m ρ' k ∧ KdOk X.K c F' k D, fun σ' H' z => ⟨m, Nat.lt_succ_self m, z⟩, F1, ρ1, _, ok1, hk, ?_⟩
        have q1 := q.at ex1.ff
        exact ⟨fun ρ2 σ2 F2 H2 g ok2 s => ⟨F2, ρ2, ok2, g, q1.at s⟩, fun ρ2 σ2 F2 H2 g ok2 s => q1.nx ρ2 σ2 F2 H2 g ok2 s, fun ρ2 σ2 F2 H2 g ok2 s => ⟨F2, ρ2, ok2, g, q1.at s⟩, q1.rt, q1.ex⟩
theorem ps_forT {ti : (Xn → Store → Prop) → Store → (List D → Store → Prop) → Prop} {iter : Expr} {b : List Stmt} (hp : PassesOwn (model X.prog X.w) X.A X.env X.xe) (hc : X.calm = true) (hi : PI X tg iter (tI X.K c (ti noR))) (hg : PG X tg (gB X.K t)) (hb : PSs X b (tS X.K c u))
    (hs : ∀ x, foldedSetIterable iter X.env x = pure x) : PS X (.For tg iter b [] pos) (tS X.K c fun ρ k => ti k.ex ρ fun items ρ1 => forL t u items ρ1 k) :=
  PS.imp (ps_for hp hc hi hg hb hs) fun D σ H ⟨F, ρ, k, ok, h, q⟩ => by
    simp only [q.ex] at h
    refine ⟨F, ρ, _, ok, h, fun items ρ1 F1 H1 J hL ok1 ex1 dw => ?_⟩
    refine ⟨fun i m σ H => m = items.length - i ∧ i ≤ items.length ∧ ∃ F ρ, Ok X.K c F H σ ρ ∧ Same F1 F ∧ forL t u (items.drop i) ρ k, ⟨items.length, rfl, Nat.zero_le _, F1, ρ1, ok1, Same.refl _, hL⟩, ?_⟩
    rintro i m σ H ⟨rfl, hle, F2, ρ2, ok2, s2, hL2⟩
    have q2 := q.at (ex1.ff.trans s2)
    by_cases hlt : i < items.length
    · refine .inr ⟨dw.goes i H hlt (s2.trans ok2.fh), fun σ' H' => i + 1 ≤ items.length ∧ ∃ F ρ, Ok X.K c F H' σ' ρ ∧ Same F1 F ∧ forL t u (items.drop (i + 1)) ρ k, fun σ' H' ⟨z1, z2⟩ => ⟨items.length - (i + 1), by omega, rfl, z1, z2⟩, fun x Hg hy => ?_⟩
      obtain ⟨d, G, ed, ne, rd⟩ := dw.yields i H x Hg F2 hlt s2 ok2.fh hy
      have edrop : items.drop i = d :: items.drop (i + 1) := by
        rw [List.drop_eq_getElem_cons hlt]
        rw [List.getElem?_eq_getElem hlt] at ed
        rw [Option.some.inj ed]
      rw [edrop] at hL2
      have sG := s2.trans ne.ff
      refine bind_ok (ok2.newE ne) rd hL2 fun σ' ρ' hw ok' => ⟨G, ρ', _, ok', hw, ?_⟩
      have q3 := q2.at ne.ff
      exact ⟨fun ρ2 σ2 F2 H2 g ok2 s => ⟨hlt, F2, ρ2, ok2, sG.trans s, g⟩, fun ρ2 σ2 F2 H2 g ok2 s => q3.nx ρ2 σ2 F2 H2 g ok2 s, fun ρ2 σ2 F2 H2 g ok2 s => ⟨hlt, F2, ρ2, ok2, sG.trans s, g⟩, q3.rt, q3.ex⟩
    · have e : i = items.length := by omega
      subst e
      rw [List.drop_length] at hL2
      exact .inl ⟨dw.stops H (s2.trans ok2.fh), q2.nx ρ2 σ F2 H hL2 ok2 (Same.refl _)⟩
end
end DL

set_option maxHeartbeats 4000000
/-! DL part N: statements that change own objects. -/
namespace DL
open PySem PySem.Spec PyProof.Rows L2
section
variable {X : Cx} {c : Ent} {e e1 e2 tg : Expr} {w wi : (Xn → Store → Prop) → WB} {u u2 : WS} {st : Stmt} {pos apos cpos p p' : Pos} {x : Str} {i : Nat} {a1 : WO}
theorem few_of (st : starEach [e] X.env = (false, eval e X.env) :: starEach [] X.env) : ((backTo cpos (starEach [e] X.env)).all (fun x => !x.1) && (backToKw cpos (keywordEach [] X.env)).all (fun x => x.1.isSome)
      && decide (([e] : List Expr).length + ([] : List Keyword).length + (if ([] : List Keyword).isEmpty then 0 else 1) < 30)) = true := by
  rw [st]
  rfl
theorem pe_app (hv : PE X (.Name x p) (tVar i)) (he : PE X e (tFz X.K c (frz (w noR)))) (hl : (apos.endLine == cpos.line) = true) (st : starEach [e] X.env = (false, eval e X.env) :: starEach [] X.env) :
    PS X (.Expr (.Call (.Attribute (.Name x p) "append" apos) [e] [] cpos) pos) (tS X.K c fun ρ k => (getO ρ i).isSome = true ∧ frz (w k.ex) ρ fun d ρ1 => ∃ m ds, getO ρ1 i = some (m, .list ds) ∧ mOk m d ∧ ds.length < sizeLine ∧ k.nx (ρ1.set i (some (m, .list (ds ++ [d]))))) :=
  PS.imp (ps_expr (pe_bm PySem.F.plainAttrs_list PySem.F.slot_list_append PySem.F.type_list_append mt_append hv (pa_cons he pa_nil st) rfl (few_of st) hl st rfl)) fun D σ H ⟨F, ρ, k, ok, ⟨g0, h⟩, q⟩ => by
    simp only [q.ex] at h
    obtain ⟨⟨m0, d0⟩, hp0⟩ := Option.isSome_iff_exists.mp g0
    obtain ⟨a, ds0, xs0, ea, rfl, ha0, _⟩ := getO_list hp0 ok
    refine ⟨.ref a, ea, .inl ⟨rfl, _, .of ha0⟩, F, ρ, _, ok, h, fun d ρ1 v F1 H1 ⟨m, ds, hp, hm, hz, hk⟩ ok1 ex1 r1 => ?_⟩
    obtain ⟨b, ds', xs, eb, e', ha, rs⟩ := getO_list hp ok1
    cases e'
    rw [ea] at eb
    cases eb
    refine ⟨a, xs, v, rfl, rfl, ha, by rw [rs.len]; exact hz, q.nx _ σ F1 _ hk (ok1.put hp ea ?_) ex1.ff⟩
    exact ⟨a, _, rfl, upd_same, rs.snoc (rep_fb hm r1)⟩
theorem pe_ext (hv : PE X (.Name x p) (tVar i)) (he : PE X e (tFz X.K c (frz (w noR)))) (hl : (apos.endLine == cpos.line) = true) (st : starEach [e] X.env = (false, eval e X.env) :: starEach [] X.env) :
    PS X (.Expr (.Call (.Attribute (.Name x p) "extend" apos) [e] [] cpos) pos) (tS X.K c fun ρ k => (getO ρ i).isSome = true ∧ frz (w k.ex) ρ fun d ρ1 => ∃ m ds xs, getO ρ1 i = some (m, .list ds) ∧ d = .list xs ∧ (∀ x ∈ xs, mOk m x) ∧ ds.length + xs.length ≤ sizeLine ∧ k.nx (ρ1.set i (some (m, .list (ds ++ xs))))) :=
  PS.imp (ps_expr (pe_bm PySem.F.plainAttrs_list PySem.F.slot_list_extend PySem.F.type_list_extend mt_extend hv (pa_cons he pa_nil st) rfl (few_of st) hl st rfl)) fun D σ H ⟨F, ρ, k, ok, ⟨g0, h⟩, q⟩ => by
    simp only [q.ex] at h
    obtain ⟨⟨m0, d0⟩, hp0⟩ := Option.isSome_iff_exists.mp g0
    obtain ⟨a, ds0, xs0, ea, rfl, ha0, _⟩ := getO_list hp0 ok
    refine ⟨.ref a, ea, .inl ⟨rfl, _, .of ha0⟩, F, ρ, _, ok, h, fun d ρ1 v F1 H1 ⟨m, ds, zs, hp, hd, hm, hz, hk⟩ ok1 ex1 r1 => ?_⟩
    subst hd
    obtain ⟨b, ds', xs, eb, e', ha, rs⟩ := getO_list hp ok1
    cases e'
    rw [ea] at eb
    cases eb
    cases r1 with
    | lst sb rb =>
      refine ⟨a, _, xs, _, rfl, rfl, ha, ok1.fh _ _ sb, by rw [rs.len, rb.len]; exact hz, q.nx _ σ F1 _ hk (ok1.put hp ea ?_) ex1.ff⟩
      exact ⟨a, _, rfl, upd_same, rs.app (reps_fb hm rb)⟩
theorem ixN_len {n m : Nat} (h : n = m) (j : Int) : ixN n j = ixN m j := by rw [h]
theorem pe_put (hv : PE X (.Name x p) (tVar i)) (he : PE X e (tFz X.K c (frz (w noR)))) (hi : PE X e2 (tFz X.K c (frz (wi noR)))) (hsw : swapsWithSole [.Subscript (.Name x p) e2 p'] e pos.line X.env = pure false) (hst : swappedStores [.Subscript (.Name x p) e2 p'] e X.env = pure none)
    (ha : ∀ v, assign (.Subscript (.Name x p) e2 p') X.env v = (do
      let ov ← holding [v] (eval (.Name x p) X.env)
      let iv ← holding [v, ov] (eval e2 X.env)
      standAt p'
      holding [v, ov, iv] (setItem ov iv v)
      release [v, ov, iv] [])) :
    PS X (.Assign [.Subscript (.Name x p) e2 p'] e pos) (tS X.K c fun ρ k => frz (w k.ex) ρ fun v ρ1 => (getO ρ1 i).isSome = true ∧ frz (wi k.ex) ρ1 fun j ρ2 => ∃ p, getO ρ2 i = some p ∧ mOk p.1 v ∧ putS p.2 j v fun d => k.nx (ρ2.set i (some (p.1, d)))) :=
  PS.imp (ps_asg he (pg_sub hv hi set_list ha) hsw hst) fun D σ H ⟨F, ρ, k, ok, h, q⟩ => by
    simp only [q.ex] at h
    refine ⟨F, ρ, _, ok, h, fun d ρ1 v F1 H1 ⟨g0, h1⟩ ok1 ex1 r1 => ?_⟩
    obtain ⟨⟨m0, d0⟩, hp0⟩ := Option.isSome_iff_exists.mp g0
    obtain ⟨a, ds0, xs0, ea, rfl, ha0, _⟩ := getO_list hp0 ok1
    refine ⟨.ref a, ea, F1, ρ1, _, ok1, h1, fun j ρ2 vj F2 H2 ⟨⟨m, d2⟩, hp, hm, hput⟩ ok2 ex2 r2 => ?_⟩
    obtain ⟨b, ds', xs, eb, e', ha, rs⟩ := getO_list hp ok2
    have e' : d2 = .list ds' := e'
    subst e'
    rw [ea] at eb
    cases eb
    cases j with
    | int j =>
      obtain ⟨kk, hk1, hk⟩ := hput
      cases r2
      refine ⟨a, xs, j, kk, rfl, rfl, ha, by rw [rs.len]; exact hk1, q.nx _ σ F2 _ hk (ok2.put hp ea ?_) (ex1.ff.trans ex2.ff)⟩
      exact ⟨a, _, rfl, upd_same, Reps.set (rep_fb hm (Rep.mono ex2.ff d v r1)) kk rs⟩
    | _ => exact hput.elim
theorem pe_pop (hv : PE X (.Name x p) (tVar i)) (he : PE X e (tO X.K c a1)) (hl : (apos.endLine == cpos.line) = true) (st : starEach [e] X.env = (false, eval e X.env) :: starEach [] X.env) :
    PE X (.Call (.Attribute (.Name x p) "pop" apos) [e] [] cpos) (tB X.K c fun ρ Q => (getO ρ i).isSome = true ∧ a1 ρ fun x ρ1 => cont ρ1 x fun dx => ∃ m ds j k d, getO ρ1 i = some (m, .list ds) ∧ dx = .int j ∧ (-(2 ^ 63) ≤ j ∧ j < 2 ^ 63) ∧ seqIndex? j ds.length = some k ∧ ds[k]? = some d ∧
      Q d false (ρ1.set i (some (m, .list (ds.eraseIdx k))))) :=
  PE.imp (pe_bm PySem.F.plainAttrs_list PySem.F.slot_list_pop PySem.F.type_list_pop mt_popAt hv (pa_cons he pa_nil st) rfl (few_of st) hl st rfl) fun σ H Q ⟨F, ρ, Qd, ok, ⟨g0, h⟩, q⟩ => by
    obtain ⟨⟨m0, d0⟩, hp0⟩ := Option.isSome_iff_exists.mp g0
    obtain ⟨a, ds0, xs0, ea, rfl, ha0, _⟩ := getO_list hp0 ok
    refine ⟨.ref a, ea, .inl ⟨rfl, _, .of ha0⟩, F, ρ, _, ok, h, fun y ρ1 v F1 H1 hx ok1 ex1 r1 => ?_⟩
    obtain ⟨dx, rx, m, ds, j, k, d, hp, rfl, ⟨j1, j2⟩, hk, hd, hq⟩ := cont_red ok1 r1 hx
    obtain ⟨b, ds', xs, eb, e', ha, rs⟩ := getO_list hp ok1
    cases e'
    rw [ea] at eb
    cases eb
    obtain ⟨z, hz, rz⟩ := rs.get hd
    refine ⟨a, xs, j, k, z, rfl, by rw [rx.int], ha, j1, j2, by rw [rs.len]; exact hk, hz, q d false _ z F1 _ hq (ok1.put hp ea ⟨a, _, rfl, upd_same, rs.erase k⟩) (ex1.put hp ea) (.fz ?_)⟩
    exact Rep.mono (fb_same ok1 m) d z rz
/-! x op= e -/
theorem augR_ : ∀ o : Operator, PIp X o (DR2 X.K (augS o))
  | .Add => OpR.imp iop_add fun x y H Q ⟨F, dx, dy, Qd, hs, hx, hy, hg, q⟩ => by
    cases dx with
    | int i =>
      cases dy with
      | int j => exact ⟨i, j, hx.int, hy.int, res_same hs q hg rfl (.int _)⟩
      | _ => exact hg.elim
    | _ => exact hg.elim
  | .Sub => OpR.imp iop_sub fun x y H Q ⟨F, dx, dy, Qd, hs, hx, hy, hg, q⟩ => by
    cases dx with
    | int i =>
      cases dy with
      | int j => exact ⟨i, j, hx.int, hy.int, res_same hs q hg rfl (.int _)⟩
      | _ => exact hg.elim
    | _ => exact hg.elim
  | .Mult => OpR.imp iop_mul fun x y H Q ⟨F, dx, dy, Qd, hs, hx, hy, hg, q⟩ => by
    cases dx with
    | int i =>
      cases dy with
      | int j => exact ⟨i, j, hx.int, hy.int, hg.1, res_same hs q hg.2 rfl (.int _)⟩
      | _ => exact hg.elim
    | _ => exact hg.elim
  | .FloorDiv | .Mod | .Pow | .LShift | .RShift | .BitAnd | .MatMult | .Div | .BitOr | .BitXor => fun _ _ _ _ x y _ _ _ _ _ _ ⟨_, dx, dy, _, _, _, _, h, _⟩ => by cases dx <;> cases dy <;> exact h.elim
theorem aug_int {o : Operator} {x y : D} {Q : D → Prop} (h : augS o x y Q) : ∃ j, Q (.int j) ∧ augS o x y fun d => d = .int j := by
  cases o <;> cases x <;> first
    | exact h.elim
    | (cases y <;> first
        | exact h.elim
        | exact ⟨_, h, rfl⟩
        | exact ⟨_, h.2, h.1, rfl⟩)
theorem ps_augT {o : Operator} (hv : PE X (.Name x p) (tVar i)) (he : PE X e (tFz X.K c (frz (w noR)))) (hN : X.N.Nodup) (hi : X.N[i]? = some x) (hx : Loc X.env.scope x) (hf : X.fn x = true ∨ X.env.scope.names.lookup x = some .local) :
    PS X (.AugAssign (.Name x p) o e pos) (tS X.K c fun ρ k => ∃ x, getV ρ i = some x ∧ frz (w k.ex) ρ fun y ρ1 => augS o x y fun d => k.nx (ρ1.set i (some (.v, d)))) :=
  PS.imp (ps_aug hN hi hx he (augR_ o) hf) fun D σ H ⟨F, ρ, k, ok, ⟨d, g, h⟩, q⟩ => by
    simp only [q.ex] at h
    obtain ⟨v, ev, r⟩ := ok.sl i .v d (getV_some g)
    refine ⟨v, ev, F, ρ, _, ok, h, fun y ρ1 vy F1 H1 hk ok1 ex1 r1 => ?_⟩
    obtain ⟨j, hj, ha⟩ := aug_int hk
    refine ⟨F1, d, y, _, ok1.fh, .inl (Rep.mono ex1.ff d v r), .inl r1, ha, fun d' z F' H' e' ne nr => ?_⟩
    subst e'
    have rz := nr.res.unfz
    exact q.nx _ _ F' H' hj ((ok1.newE ne).set i rz) (ex1.ff.trans ne.ff)
end
end DL

set_option maxHeartbeats 4000000
/-! DL part NA: lists that a statement or an expression leaves alone (a frame). -/
namespace DL
open PySem PySem.Spec PyProof.Rows L2

/-- lists by their addresses -/
abbrev Fl := List (Addr × List V)
def hide : Fl → Hp → Hp
  | [], H => H
  | p :: N, H => hide N (off H p.1)
def shw : Fl → Hp → Hp
  | [], H => H
  | p :: N, H => upd (shw N H) p.1 (.lst p.2)
/-- the lists stand in the heap -/
structure FlOk (N : Fl) (H : Hp) : Prop where
  nd : (N.map (·.1)).Nodup
  at_ : ∀ p ∈ N, H p.1 = some (.lst p.2)
theorem FlOk.tail {p : Addr × List V} {N : Fl} {H : Hp} (h : FlOk (p :: N) H) : FlOk N (off H p.1) := by
  have nd := List.nodup_cons.mp h.nd
  refine ⟨nd.2, fun q hq => ?_⟩
  rw [off_ne fun e => nd.1 (List.mem_map.mpr ⟨q, hq, e⟩)]
  exact h.at_ q (List.mem_cons_of_mem _ hq)
theorem hide_in : ∀ {N : Fl} {H : Hp} {a : Addr}, a ∈ N.map (·.1) ∨ H a = none → hide N H a = none
  | [], _, _, h => h.elim (fun z => nomatch z) id
  | p :: N, H, a, h => by
    refine hide_in (N := N) (H := off H p.1) ?_
    by_cases e : a = p.1
    · exact .inr (by rw [e]; exact off_same)
    · rcases h with h | h
      · rcases List.mem_cons.mp h with z | z
        · exact absurd z e
        · exact .inl z
      · exact .inr (by rw [off_ne e]; exact h)
theorem hide_out : ∀ {N : Fl} {H : Hp} {a : Addr}, a ∉ N.map (·.1) → hide N H a = H a
  | [], _, _, _ => rfl
  | p :: N, H, a, h => by
    have h1 : a ≠ p.1 := fun e => h (by rw [e]; exact List.mem_cons_self)
    show hide N (off H p.1) a = H a
    rw [hide_out (fun z => h (List.mem_cons_of_mem _ z)), off_ne h1]
theorem shw_in : ∀ {N : Fl} {H : Hp} {p : Addr × List V}, (N.map (·.1)).Nodup → p ∈ N → shw N H p.1 = some (.lst p.2)
  | q :: N, H, p, nd, h => by
    have nd := List.nodup_cons.mp nd
    show upd (shw N H) q.1 (.lst q.2) p.1 = _
    rcases List.mem_cons.mp h with z | z
    · rw [z, upd_same]
    · rw [upd_ne fun e => nd.1 (List.mem_map.mpr ⟨p, z, e⟩)]
      exact shw_in nd.2 z
theorem shw_out : ∀ {N : Fl} {H : Hp} {a : Addr}, a ∉ N.map (·.1) → shw N H a = H a
  | [], _, _, _ => rfl
  | p :: N, H, a, h => by
    have h1 : a ≠ p.1 := fun e => h (by rw [e]; exact List.mem_cons_self)
    show upd (shw N H) p.1 (.lst p.2) a = H a
    rw [upd_ne h1, shw_out fun z => h (List.mem_cons_of_mem _ z)]
theorem shw_hide {N : Fl} {H : Hp} (h : FlOk N H) : shw N (hide N H) = H := funext fun a => by
  by_cases e : a ∈ N.map (·.1)
  · obtain ⟨p, hp, rfl⟩ := List.mem_map.mp e
    rw [shw_in h.nd hp, h.at_ p hp]
  · rw [shw_out e, hide_out e]
theorem hide_shw {N : Fl} {H : Hp} (h : ∀ p ∈ N, H p.1 = none) : hide N (shw N H) = H := funext fun a => by
  by_cases e : a ∈ N.map (·.1)
  · rw [hide_in (.inl e)]
    obtain ⟨p, hp, rfl⟩ := List.mem_map.mp e
    exact (h p hp).symm
  · rw [hide_out e, shw_out e]
theorem flOk_shw {N : Fl} {H : Hp} (nd : (N.map (·.1)).Nodup) : FlOk N (shw N H) := ⟨nd, fun _ hp => shw_in nd hp⟩
section
variable {X : Cx} {pins : List (Addr × Obj)} {σ : L2.St} {H H' : Hp} {s s' : Shared} {d : Addr} {xs : List V}
/-- one list is set aside -/
theorem inv_off (I : Inv X pins σ H s) (h : H d = some (.lst xs)) : ∃ od : Obj, Inv X ((d, od) :: pins) σ (off H d) s ∧
    ∀ σ' H' s', Inv X ((d, od) :: pins) σ' H' s' → Inv X pins σ' (upd H' d (.lst xs)) s' ∧ H' d = none := by
  obtain ⟨hz, its, n, hv, hg⟩ := (show ObjOk X.prog X.w H s.heap d (.lst xs) from I.hok d _ h)
  have hne : H d ≠ none := by
    rw [h]
    exact fun z => nomatch z
  have nl : d ≠ X.env.locals := fun e => hne (by rw [e]; exact I.free)
  have nc : ∀ (x : Str) (c : Addr), List.lookup x X.env.cells = some c → c ≠ d := fun x c e z => hne (by rw [← z]; exact I.freeC x c e)
  have base0 : ∀ o, X.s_0.heap.get? d = some o → X.H_0 d = none → d ∈ X.ex := fun o e1 e2 => by
    by_cases z : d ∈ X.ex
    · exact z
    · exact absurd (I.base.free d o e1 e2 z) hne
  have nfs : d ∉ X.fs := fun z => by
    obtain ⟨_, o, e1, _⟩ := I.ok.funs.mem z
    exact I.ok.exfs d (base0 o e1 (I.ok.frf d z)) z
  have npin : ∀ p ∈ X.pn ++ pins, p.1 ≠ d := fun p hp e => hne (by rw [← e]; exact (I.pin p hp).2.1)
  refine ⟨{ cls := Value.type "list", data := Data.seq its.toArray n }, ⟨I.ok, I.os, I.bare, ?_, I.loc, I.cell, ?_, fun x c e => ?_, fun p hp => ?_, fun a o e => ?_, I.len⟩, fun σ' H' s' J => ?_⟩
  · have b := I.base
    refine ⟨b.keep, b.slot, fun c o e1 e2 e3 => ?_, b.there, fun c ys e => ?_, fun c o u e => ?_, fun c ps e => ?_⟩
    · by_cases z : c = d
      · rw [z]
        exact off_same
      · rw [off_ne z]
        exact b.free c o e1 e2 e3
    · rw [off_ne fun z => ?_]
      · exact b.tups c ys e
      · have := b.tups c ys e
        rw [z, h] at this
        cases this
    · rw [off_ne fun z => ?_]
      · exact b.frzs c o u e
      · have := b.frzs c o u e
        rw [z, h] at this
        cases this
    · obtain ⟨more, e⟩ := b.tbls c ps e
      refine ⟨more, ?_⟩
      rw [off_ne fun z => ?_]
      · exact e
      · rw [z, h] at e
        cases e
  · rw [off_ne fun z => nl z.symm]
    exact I.free
  · rw [off_ne (nc x c e)]
    exact I.freeC x c e
  · have hp : p = (d, ({ cls := Value.type "list", data := Data.seq its.toArray n } : Obj)) ∨ p ∈ X.pn ++ pins := by
      rcases List.mem_append.mp hp with z | z
      · exact .inr (List.mem_append_left _ z)
      · rcases List.mem_cons.mp z with z | z
        · exact .inl z
        · exact .inr (List.mem_append_right _ z)
    rcases hp with rfl | hp
    · exact ⟨hg, off_same, nl, nfs, fun v e => nomatch e⟩
    · obtain ⟨e1, e2, e3⟩ := I.pin p hp
      exact ⟨e1, by rw [off_ne (npin p hp)]; exact e2, e3⟩
  · by_cases z : a = d
    · rw [z, off_same] at e
      cases e
    · rw [off_ne z] at e
      refine (I.hok a o e).stay (fun _ _ _ q => q) (fun b e2 => ?_) fun b ys e2 => ?_
      · rw [off_ne fun z => by rw [z, h] at e2; cases e2]
        exact e2
      · rw [off_ne fun z => by rw [z, h] at e2; cases e2]
        exact e2
  · obtain ⟨p1, p2, _, _, _⟩ := J.pin _ (List.mem_append_right _ List.mem_cons_self)
    have keep : ∀ b u, H' b = some u → upd H' d (.lst xs) b = some u := fun b u e => by
      rw [upd_ne fun z => by rw [z, p2] at e; cases e]
      exact e
    refine ⟨⟨J.ok, J.os, J.bare, ?_, J.loc, J.cell, ?_, fun x c e => ?_, fun p hp => ?_, fun a o e => ?_, J.len⟩, p2⟩
    · have b := J.base
      refine ⟨b.keep, b.slot, fun c o e1 e2 e3 => ?_, b.there, fun c ys e => keep _ _ (b.tups c ys e), fun c o u e => keep _ _ (b.frzs c o u e), fun c ps e => ?_⟩
      · rw [upd_ne fun z => e3 (by rw [z] at e1 e2 ⊢; exact base0 o e1 e2)]
        exact b.free c o e1 e2 e3
      · obtain ⟨more, e⟩ := b.tbls c ps e
        exact ⟨more, keep _ _ e⟩
    · rw [upd_ne fun z => nl z.symm]
      exact J.free
    · rw [upd_ne (nc x c e)]
      exact J.freeC x c e
    · have hp2 : p ∈ X.pn ++ (d, ({ cls := Value.type "list", data := Data.seq its.toArray n } : Obj)) :: pins := by
        rcases List.mem_append.mp hp with z | z
        · exact List.mem_append_left _ z
        · exact List.mem_append_right _ (List.mem_cons_of_mem _ z)
      obtain ⟨e1, e2, e3⟩ := J.pin p hp2
      exact ⟨e1, by rw [upd_ne (npin p hp)]; exact e2, e3⟩
    · by_cases z : a = d
      · rw [z, upd_same] at e
        cases e
        rw [z]
        exact ⟨hz, its, n, hv, p1⟩
      · rw [upd_ne z] at e
        exact (J.hok a o e).stay (fun _ _ _ q => q) (fun b e2 => keep _ _ e2) fun b ys e2 => keep _ _ e2
/-- lists are set aside -/
theorem inv_hide : ∀ (N : Fl) {pins : List (Addr × Obj)} {H : Hp}, Inv X pins σ H s → FlOk N H → ∃ ps, (∀ q ∈ pins, q ∈ ps) ∧ (∀ p ∈ N, ∃ q ∈ ps, q.1 = p.1) ∧ Inv X ps σ (hide N H) s ∧ ∀ σ' H' s', Inv X ps σ' H' s' → Inv X pins σ' (shw N H') s' ∧ ∀ p ∈ N, H' p.1 = none
  | [], pins, H, I, _ => ⟨pins, fun _ h => h, fun p hp => (nomatch hp), I, fun σ' H' s' J => ⟨J, fun p hp => nomatch hp⟩⟩
  | p :: N, pins, H, I, h => by
    obtain ⟨od, I1, b1⟩ := inv_off I (h.at_ p List.mem_cons_self)
    obtain ⟨ps, s1, s2, I2, b2⟩ := inv_hide N I1 h.tail
    have nd := List.nodup_cons.mp h.nd
    refine ⟨ps, fun q hq => s1 q (List.mem_cons_of_mem _ hq), fun q hq => ?_, I2, fun σ' H' s' J => ?_⟩
    · rcases List.mem_cons.mp hq with z | z
      · exact ⟨_, s1 _ List.mem_cons_self, by rw [z]⟩
      · exact s2 q z
    obtain ⟨J1, e1⟩ := b2 _ _ _ J
    obtain ⟨J2, e2⟩ := b1 _ _ _ J1
    refine ⟨J2, fun q hq => ?_⟩
    rcases List.mem_cons.mp hq with z | z
    · rw [z]
      exact (shw_out (H := H') nd.1).symm.trans e2
    · exact e1 q z
end
/-! ### frames -/
def frE (D : Ends) (N : Fl) : Ends where
  nx := fun σ H => (∀ p ∈ N, H p.1 = none) → D.nx σ (shw N H)
  rt := fun v H => (∀ p ∈ N, H p.1 = none) → D.rt v (shw N H)
  bk := fun σ H => (∀ p ∈ N, H p.1 = none) → D.bk σ (shw N H)
  ct := fun σ H => (∀ p ∈ N, H p.1 = none) → D.ct σ (shw N H)
section
variable {X : Cx} {e : Expr} {st : Stmt} {ss : List Stmt}
theorem SP.of_fr {pins ps : List (Addr × Obj)} {D : Ends} {N : Fl} (b : ∀ σ' H' s', Inv X ps σ' H' s' → Inv X pins σ' (shw N H') s' ∧ ∀ p ∈ N, H' p.1 = none) {f : Flow} {s' : Shared} (h : SP X ps (frE D N) f s') : SP X pins D f s' := by
  cases f with
  | next =>
    obtain ⟨σ', H', J, q⟩ := h
    obtain ⟨J2, n⟩ := b _ _ _ J
    exact ⟨σ', _, J2, q n⟩
  | brk =>
    obtain ⟨σ', H', J, q⟩ := h
    obtain ⟨J2, n⟩ := b _ _ _ J
    exact ⟨σ', _, J2, q n⟩
  | cont =>
    obtain ⟨σ', H', J, q⟩ := h
    obtain ⟨J2, n⟩ := b _ _ _ J
    exact ⟨σ', _, J2, q n⟩
  | ret u =>
    obtain ⟨v, σ', H', J, r, q⟩ := h
    obtain ⟨J2, n⟩ := b _ _ _ J
    exact ⟨v, σ', _, J2, r, q n⟩
theorem PE.fr {t : TE} (h : PE X e t) : PE X e fun σ H Q => ∃ N, FlOk N H ∧ t σ (hide N H) fun v H' => (∀ p ∈ N, H' p.1 = none) → Q v (shw N H') :=
  ⟨fun pins s σ H Q I ⟨N, hN, q⟩ => by
    obtain ⟨ps, _, _, I2, b⟩ := inv_hide N I hN
    refine wpAny_mono (h.run ps s σ _ _ I2 q) (fun u s' ⟨v, H', J, r, k⟩ => ?_) (fun _ _ z => z)
    obtain ⟨J2, n⟩ := b _ _ _ J
    exact ⟨v, _, J2, r, k n⟩⟩
theorem PS.fr {t : TS} (h : PS X st t) : PS X st fun D σ H => ∃ N, FlOk N H ∧ t (frE D N) σ (hide N H) :=
  ⟨fun pins s σ H D I ⟨N, hN, q⟩ => by
    obtain ⟨ps, _, _, I2, b⟩ := inv_hide N I hN
    exact wpAny_mono (h.run ps s σ _ _ I2 q) (fun u s' k => SP.of_fr b k) (fun _ _ z => z)⟩
theorem PT.fr {t : TT} (h : PT X e t) : PT X e fun σ H Q => ∃ N, FlOk N H ∧ t σ (hide N H) fun v H' => (∀ p ∈ N, H' p.1 = none) → Q v (shw N H') :=
  ⟨fun pins s σ H Q I ⟨N, hN, q⟩ => by
    obtain ⟨ps, _, _, I2, b⟩ := inv_hide N I hN
    refine wpAny_mono (h.run ps s σ _ _ I2 q) (fun u s' ⟨H', J, k⟩ => ?_) (fun _ _ z => z)
    obtain ⟨J2, n⟩ := b _ _ _ J
    exact ⟨_, J2, k n⟩⟩
theorem PSs.fr {t : TS} (h : PSs X ss t) : PSs X ss fun D σ H => ∃ N, FlOk N H ∧ t (frE D N) σ (hide N H) :=
  ⟨fun pins s σ H D I ⟨N, hN, q⟩ => by
    obtain ⟨ps, _, _, I2, b⟩ := inv_hide N I hN
    exact wpAny_mono (h.run ps s σ _ _ I2 q) (fun u s' k => SP.of_fr b k) (fun _ _ z => z)⟩
theorem PI.fr {tg : Expr} {t : TI} (h : PI X tg e t) : PI X tg e fun σ H R => ∃ N, FlOk N H ∧ t σ (hide N H) fun J H' => (∀ p ∈ N, H' p.1 = none) → R J (shw N H') :=
  ⟨fun pins s σ H Q I ⟨N, hN, q⟩ => by
    obtain ⟨ps, s1, s2, I2, b⟩ := inv_hide N I hN
    refine wpAny_mono (h.run ps s σ _ _ I2 q) (fun u s' k => wpAny_mono k (fun itv s2' k2 => ?_) fun _ _ z => z) (fun _ _ z => z)
    obtain ⟨it, fp, tn, J, H', e1, I3, tu, t0, fo, k3⟩ := k2
    obtain ⟨J2, n⟩ := b _ _ _ I3
    refine ⟨it, fp, tn, J, _, e1, J2, tu, t0, fun c hc => ?_, k3 n⟩
    obtain ⟨f1, f2, f3, f4, f5, f6⟩ := fo c hc
    refine ⟨?_, f2, f3, f4, f5, fun p hp => f6 p ?_⟩
    · rw [shw_out]
      · exact f1
      · intro z
        obtain ⟨p, hp, e⟩ := List.mem_map.mp z
        obtain ⟨q, hq, e2⟩ := s2 p hp
        exact f6 q (List.mem_append_right _ hq) (e2.trans e)
    · rcases List.mem_append.mp hp with z | z
      · exact List.mem_append_left _ z
      · exact List.mem_append_right _ (s1 p z)⟩
theorem PG.fr {tg : Expr} {t : TG} (h : PG X tg t) : PG X tg fun v σ H Q => ∃ N, FlOk N H ∧ t v σ (hide N H) fun σ' H' => (∀ p ∈ N, H' p.1 = none) → Q σ' (shw N H') :=
  ⟨fun pins s σ H v u Q I r ⟨N, hN, q⟩ => by
    obtain ⟨ps, _, _, I2, b⟩ := inv_hide N I hN
    refine wpAny_mono (h.run ps s σ _ v u _ I2 r q) (fun u s' ⟨σ', H', J, k⟩ => ?_) (fun _ _ z => z)
    obtain ⟨J2, n⟩ := b _ _ _ J
    exact ⟨_, _, J2, k n⟩⟩
end
end DL

set_option maxHeartbeats 4000000
/-! DL part NB: rows of one's own: the invariant. -/
namespace DL
open PySem PySem.Spec PyProof.Rows L2

inductive RwOk (K : PySem.W.Frag) : Fl → Rw → Prop
  | nil : RwOk K [] []
  | cons {b : Nat} {ws : List V} {ds : List D} {N : Fl} {rw : Rw} : (∀ F, Reps K F ws ds) → RwOk K N rw → RwOk K ((b, ws) :: N) ((b, ds) :: rw)
def rwRefs (rw : Rw) : List V := rw.map fun p => V.ref p.1
def topN (a : Nat) (rw : Rw) (N : Fl) : Fl := (a, rwRefs rw) :: N
section
variable {K : PySem.W.Frag} {N N' : Fl} {rw : Rw}
theorem RwOk.fst (h : RwOk K N rw) : N.map (·.1) = rw.map (·.1) := by
  induction h with
  | nil => rfl
  | cons _ _ ih => rw [List.map_cons, List.map_cons, ih]
theorem RwOk.get (h : RwOk K N rw) {q : Nat} {b : Nat} {ds : List D} (e : rw[q]? = some (b, ds)) : ∃ ws, N[q]? = some (b, ws) ∧ ∀ F, Reps K F ws ds := by
  induction h generalizing q with
  | nil => cases e
  | cons r _ ih =>
    cases q with
    | zero =>
      cases e
      exact ⟨_, rfl, r⟩
    | succ q => exact ih e
theorem RwOk.set (h : RwOk K N rw) {q : Nat} {b : Nat} {ds ds' : List D} {ws' : List V} (e : rw[q]? = some (b, ds)) (r' : ∀ F, Reps K F ws' ds') : RwOk K (N.set q (b, ws')) (rw.set q (b, ds')) := by
  induction h generalizing q with
  | nil => cases e
  | cons r rs ih =>
    cases q with
    | zero =>
      cases e
      exact .cons r' rs
    | succ q => exact .cons r (ih e)
theorem RwOk.snoc (h : RwOk K N rw) {b : Nat} {ds : List D} {ws : List V} (r' : ∀ F, Reps K F ws ds) : RwOk K (N ++ [(b, ws)]) (rw ++ [(b, ds)]) := by
  induction h with
  | nil => exact .cons r' .nil
  | cons r _ ih => exact .cons r ih
theorem reps_sc : ∀ {ds : List D} {ws : List V} {F : Hp}, ds.all scalD = true → Reps K F ws ds → ∀ G, Reps K G ws ds
  | [], _, _, _, .nil, _ => .nil
  | d :: ds, _, _, h, .cons r rs, G => by
    rw [List.all_cons] at h
    have h := Bool.and_eq_true_iff.mp h
    exact .cons (rep_scal h.1 r) (reps_sc h.2 rs G)
theorem rw_reps {F : Hp} (h : RwOk K N rw) (hf : ∀ p ∈ N, F p.1 = some (.lst p.2)) : Reps K F (rwRefs rw) (rw.map fun p => .list p.2) := by
  induction h with
  | nil => exact .nil
  | cons r _ ih => exact .cons (.lst (hf _ List.mem_cons_self) (r F)) (ih fun p hp => hf p (List.mem_cons_of_mem _ hp))
theorem hide_eq {H H' : Hp} (e : ∀ a, a ∈ N'.map (·.1) ↔ a ∈ N.map (·.1)) (h : ∀ x, x ∉ N.map (·.1) → H' x = H x) : hide N' H' = hide N H := funext fun a => by
  by_cases z : a ∈ N.map (·.1)
  · rw [hide_in (.inl z), hide_in (.inl ((e a).mpr z))]
  · rw [hide_out z, hide_out fun y => z ((e a).mp y), h a z]
theorem tbs_off {H : Hp} {a : Addr} {xs : List V} (h : H a = some (.lst xs)) (t : TbsOf K H) : TbsOf K (off H a) := fun x hx c P e => by
  obtain ⟨ps, h1, h2, h3⟩ := t x hx c P e
  have nP : P ≠ a := fun z => by
    rw [z, h] at h1
    cases h1
  refine ⟨ps, by rw [off_ne nP]; exact h1, h2, fun pos cv hc => ?_⟩
  obtain ⟨c, e1, e2⟩ := h3 pos cv hc
  have nC : c ≠ a := fun z => by
    rw [z, h] at e2
    unfold LamX.CodeO at e2
    cases e2
  exact ⟨c, e1, by rw [off_ne nC]; exact e2⟩
theorem tbs_hide : ∀ {N : Fl} {H : Hp}, FlOk N H → TbsOf K H → TbsOf K (hide N H)
  | [], _, _, t => t
  | p :: N, H, h, t => tbs_hide (N := N) h.tail (tbs_off (h.at_ p List.mem_cons_self) t)
end
/-- a list of one's own is let go -/
theorem Ok.drop {K : PySem.W.Frag} {c : Ent} {F H : Hp} {σ : L2.St} {ρ : Store} {j : Nat} {b : Addr} {d e : D} (ok : Ok K c F H σ ρ) (g : ρ[j]? = some (some (.o, d))) (es : σ[j]? = some (some (.ref b))) :
    Ok K c F (off H b) σ (ρ.set j (some (.v, opqD b))) ∧ c.H0 b = none ∧ ∃ xs, H b = some (.lst xs) ∧ Cont K F H (.ref b) d := by
  have hl : j < ρ.length := (List.getElem?_eq_some_iff.mp g).1
  obtain ⟨v, e1, r⟩ := ok.sl j .o d g
  rw [es] at e1
  cases e1
  obtain ⟨xs, hx⟩ := r.1.lstAt
  obtain ⟨nF, n0⟩ := r.2 b rfl
  have nb : ∀ a u, F a = some u → a ≠ b := fun a u h z => by
    rw [z, nF] at h
    cases h
  have n0' : ∀ a, c.H0 a ≠ none → a ≠ b := fun a h z => h (by rw [z]; exact n0)
  refine ⟨⟨fun a u h => ?_, by rw [List.length_set]; exact ok.ln, fun a h => ?_, fun a u h nt m => ?_, ok.e2, ok.e3, ok.eb, fun k m d' h => ?_, fun k l a p q hp hq np nq ek el => ?_, fun t => tbs_off hx (ok.tb t), ok.te, ok.nt⟩, n0, xs, hx, r.1⟩
  · rw [off_ne (nb a u h)]
    exact ok.fh a u h
  · rw [off_ne (n0' a h)]
    exact ok.e0 a h
  · rw [off_ne (n0' a (by rw [h]; exact fun z => nomatch z))]
    exact ok.e1 a u h nt m
  · by_cases z : j = k
    · subst z
      rw [List.getElem?_set_self hl] at h
      cases h
      exact ⟨.ref b, es, .opq b⟩
    · rw [List.getElem?_set_ne z] at h
      obtain ⟨v, e2, r2⟩ := ok.sl k m d' h
      refine ⟨v, e2, ?_⟩
      have kp : m ≠ .v → ∀ a u, v = .ref a → H a = some (.lst u) → off H b a = some (.lst u) := fun nv a u ev q => by
        rw [off_ne fun y => z (ok.ds j k b _ _ g h (fun z => nomatch z) nv es (by rw [e2, ev, y]))]
        exact q
      cases m with
      | v => exact r2
      | o => exact ⟨r2.1.mono (Same.refl _) (kp fun z => nomatch z), r2.2⟩
      | m => exact ⟨r2.1.mono (Same.refl _) (kp fun z => nomatch z), r2.2⟩
  · have off' : ∀ k (p : Md × D), (ρ.set j (some (.v, opqD b)))[k]? = some (some p) → p.1 ≠ .v → ρ[k]? = some (some p) := fun k p h np => by
      by_cases z : j = k
      · subst z
        rw [List.getElem?_set_self hl] at h
        cases h
        exact absurd rfl np
      · rw [List.getElem?_set_ne z] at h
        exact h
    exact ok.ds k l a p q (off' k p hp np) (off' l q hq nq) np nq ek el
structure NOk (K : PySem.W.Frag) (c : Ent) (F H : Hp) (σ : L2.St) (ρ : Store) (a : Nat) (rw : Rw) (N : Fl) : Prop where
  ok : Ok K c F (hide (topN a rw N) H) σ ρ
  fl : FlOk (topN a rw N) H
  n0 : ∀ p ∈ topN a rw N, c.H0 p.1 = none
  rw : RwOk K N rw
section
variable {K : PySem.W.Frag} {c : Ent} {F H F' H' F2 H2 : Hp} {σ σ' : L2.St} {ρ ρ' ρ2 : Store} {a i j : Nat} {rw : Rw} {N : Fl}
theorem NOk.fn (n : NOk K c F H σ ρ a rw N) : ∀ p ∈ topN a rw N, F p.1 = none := fun p hp => by
  cases e : F p.1 with
  | none => rfl
  | some u =>
    have := n.ok.fh _ _ e
    rw [hide_in (.inl (List.mem_map.mpr ⟨p, hp, rfl⟩))] at this
    cases this
/-- behind a part that left the rows alone -/
theorem NOk.back (n : NOk K c F H σ ρ a rw N) (ok : Ok K c F' H' σ' ρ') (h : ∀ p ∈ topN a rw N, H' p.1 = none) : NOk K c F' (shw (topN a rw N) H') σ' ρ' a rw N :=
  ⟨by rw [hide_shw h]; exact ok, flOk_shw n.fl.nd, n.n0, n.rw⟩
theorem shw_same {M : Fl} (h : ∀ p ∈ M, F p.1 = none) : Same F (shw M F) := fun x u e => by
  rw [shw_out]
  · exact e
  · intro z
    obtain ⟨p, hp, e2⟩ := List.mem_map.mp z
    rw [← e2] at e
    rw [h p hp] at e
    cases e
theorem hide_sub {M : Fl} : Same (hide M H) H := fun x u e => by
  by_cases z : x ∈ M.map (·.1)
  · rw [hide_in (.inl z)] at e
    cases e
  · rw [hide_out z] at e
    exact e
/-- the rows with all else -/
theorem NOk.all (n : NOk K c F H σ ρ a rw N) : Ok K c F H σ ρ := by
  have ok := n.ok
  have hs := hide_sub (M := topN a rw N) (H := H)
  refine ⟨fun x u e => hs _ _ (ok.fh x u e), ok.ln, fun x h => ?_, fun x u h nt m => hs _ _ (ok.e1 x u h nt m), ok.e2, ok.e3, ok.eb, fun k m d h => ?_, ok.ds, ok.tb.trans (.of hs), ok.te, ok.nt⟩
  · cases e : hide (topN a rw N) H x with
    | none => exact absurd e (ok.e0 x h)
    | some u =>
      rw [hs _ _ e]
      exact fun z => nomatch z
  · obtain ⟨v, e, r⟩ := ok.sl k m d h
    refine ⟨v, e, ?_⟩
    cases m with
    | v => exact r
    | o => exact ⟨r.1.mono (Same.refl _) fun _ _ _ q => hs _ _ q, r.2⟩
    | m => exact ⟨r.1.mono (Same.refl _) fun _ _ _ q => hs _ _ q, r.2⟩
/-- the rows lent: frozen for a while -/
theorem NOk.lend (n : NOk K c F H σ ρ a rw N) : Ok K c (shw (topN a rw N) F) H σ ρ := by
  have ok := n.ok
  have sm := shw_same n.fn
  have hs := hide_sub (M := topN a rw N) (H := H)
  have out : ∀ x, hide (topN a rw N) H x ≠ none → x ∉ (topN a rw N).map (·.1) := fun x h z => h (hide_in (.inl z))
  have okA := n.all
  refine ⟨fun x u e => ?_, ok.ln, okA.e0, okA.e1, fun x h => ?_, ok.e3.trans sm, ok.eb.trans sm, fun k m d h => ?_, ok.ds, okA.tb, ok.te, fun x ps e => ?_⟩
  · by_cases z : x ∈ (topN a rw N).map (·.1)
    · obtain ⟨p, hp, rfl⟩ := List.mem_map.mp z
      rw [shw_in n.fl.nd hp] at e
      rw [n.fl.at_ p hp]
      exact e
    · rw [shw_out z] at e
      exact hs _ _ (ok.fh x u e)
  · rw [shw_out fun z => ?_]
    · exact ok.e2 x h
    · obtain ⟨p, hp, rfl⟩ := List.mem_map.mp z
      exact h (n.n0 p hp)
  · obtain ⟨v, e, r⟩ := ok.sl k m d h
    refine ⟨v, e, ?_⟩
    cases m with
    | v => exact Rep.mono sm d v r
    | o =>
      obtain ⟨b, o, e', q, _⟩ := r.1.at
      subst e'
      refine ⟨r.1.mono sm fun _ _ _ q => hs _ _ q, fun x ex => ?_⟩
      cases ex
      rw [shw_out (out _ (by rw [q]; exact fun z => nomatch z))]
      exact r.2 b rfl
    | m =>
      obtain ⟨b, o, e', q, _⟩ := r.1.at
      subst e'
      refine ⟨r.1.mono (Same.refl _) fun _ _ _ q => hs _ _ q, fun x ex => ?_⟩
      cases ex
      rw [shw_out (out _ (by rw [q]; exact fun z => nomatch z))]
      exact r.2 b rfl
  · by_cases z : x ∈ (topN a rw N).map (·.1)
    · obtain ⟨p, hp, rfl⟩ := List.mem_map.mp z
      rw [shw_in n.fl.nd hp] at e
      cases e
    · rw [shw_out z] at e
      exact ok.nt x ps e
/-- behind a loan -/
theorem NOk.unlend (n : NOk K c F H σ ρ a rw N) {e : D} {b : Nat} (hj : getV ρ j = some (opqD b)) (ok2 : Ok K c F2 H2 σ ρ2) (sm : Same (shw (topN a rw N) F) F2) (hl : lendOk (ρ.set j (some (.v, e))) ρ2) :
    NOk K c (hide (topN a rw N) F2) H2 σ (ρ2.set j (some (.v, opqD b))) a rw N ∧ Same F (hide (topN a rw N) F2) ∧ ∀ x, F2 x ≠ hide (topN a rw N) F2 x → ∃ ys, F2 x = some (.lst ys) := by
  have f2 : ∀ p ∈ topN a rw N, F2 p.1 = some (.lst p.2) := fun p hp => sm _ _ (shw_in n.fl.nd hp)
  have fl2 : FlOk (topN a rw N) H2 := ⟨n.fl.nd, fun p hp => ok2.fh _ _ (f2 p hp)⟩
  have nin : ∀ x, F2 x = none → x ∉ (topN a rw N).map (·.1) := fun x h z => by
    obtain ⟨p, hp, rfl⟩ := List.mem_map.mp z
    rw [f2 p hp] at h
    cases h
  have smF : Same F (hide (topN a rw N) F2) := fun x u e => by
    rw [hide_out]
    · exact sm _ _ (shw_same n.fn _ _ e)
    · intro z
      obtain ⟨p, hp, rfl⟩ := List.mem_map.mp z
      rw [n.fn p hp] at e
      cases e
  have diff : ∀ x, F2 x ≠ hide (topN a rw N) F2 x → ∃ ys, F2 x = some (.lst ys) := fun x h => by
    by_cases z : x ∈ (topN a rw N).map (·.1)
    · obtain ⟨p, hp, rfl⟩ := List.mem_map.mp z
      exact ⟨_, f2 p hp⟩
    · exact absurd (hide_out z).symm h
  have n0 : ∀ x, c.H0 x ≠ none → x ∉ (topN a rw N).map (·.1) := fun x h z => by
    obtain ⟨p, hp, rfl⟩ := List.mem_map.mp z
    exact h (n.n0 p hp)
  have gj := getV_some hj
  have hlj : j < ρ.length := (List.getElem?_eq_some_iff.mp gj).1
  have hl2 : ρ2.length = ρ.length := ok2.ln.symm.trans n.ok.ln
  have off' : ∀ k (p : Md × D), (ρ2.set j (some (.v, opqD b)))[k]? = some (some p) → p.1 ≠ .v → ρ2[k]? = some (some p) := fun k p h np => by
    by_cases z : j = k
    · subst z
      rw [List.getElem?_set_self (by omega)] at h
      cases h
      exact absurd rfl np
    · rw [List.getElem?_set_ne z] at h
      exact h
  refine ⟨⟨⟨fun x u e => ?_, by rw [List.length_set]; exact ok2.ln, fun x h => ?_, fun x u h nt m => ?_, fun x h => ?_, n.ok.e3.trans smF, n.ok.eb.trans smF, fun k m d h => ?_, fun k l x p q hp hq np nq ek el => ok2.ds k l x p q (off' k p hp np) (off' l q hq nq) np nq ek el, fun t => tbs_hide fl2 (ok2.tb t), n.ok.te, fun x ps e => ?_⟩, fl2, n.n0, n.rw⟩, smF, diff⟩
  · have z : x ∉ (topN a rw N).map (·.1) := fun z => by
      rw [hide_in (.inl z)] at e
      cases e
    rw [hide_out z] at e ⊢
    exact ok2.fh x u e
  · rw [hide_out (n0 x h)]
    exact ok2.e0 x h
  · rw [hide_out (n0 x (by rw [h]; exact fun z => nomatch z))]
    exact ok2.e1 x u h nt m
  · rw [hide_out (n0 x h)]
    exact ok2.e2 x h
  · by_cases z : j = k
    · subst z
      rw [List.getElem?_set_self (by omega)] at h
      cases h
      obtain ⟨v, e1, r⟩ := n.ok.sl j .v _ gj
      exact ⟨v, e1, Rep.mono smF _ v r⟩
    · rw [List.getElem?_set_ne z] at h
      cases m with
      | v =>
        have h1 := hl.1 k d h
        rw [List.getElem?_set_ne z] at h1
        obtain ⟨v, e1, r⟩ := n.ok.sl k .v d h1
        exact ⟨v, e1, Rep.mono smF d v r⟩
      | o =>
        obtain ⟨ds, rfl, hf⟩ := hl.2 k d h
        obtain ⟨v, e1, r⟩ := ok2.sl k .o _ h
        obtain ⟨⟨y, ys, rfl, q, rs⟩, r2⟩ := r
        obtain ⟨q1, q2⟩ := r2 y rfl
        have ny := nin y q1
        refine ⟨_, e1, ⟨y, ys, rfl, by rw [hide_out ny]; exact q, reps_flat diff ds ys hf rs⟩, fun w ew => ?_⟩
        cases ew
        exact ⟨by rw [hide_out ny]; exact q1, q2⟩
      | m =>
        obtain ⟨v, e1, r⟩ := ok2.sl k .m d h
        obtain ⟨y, o, e', q, _⟩ := r.1.at
        subst e'
        obtain ⟨q1, q2⟩ := r.2 y rfl
        have ny := nin y q1
        refine ⟨_, e1, r.1.mono (Same.refl _) fun w xs ew q => ?_, fun w ew => ?_⟩
        · cases ew
          rw [hide_out ny]
          exact q
        · cases ew
          exact ⟨by rw [hide_out ny]; exact q1, q2⟩
  · exact ok2.nt x ps (hide_sub _ _ e)
/-- a row changes -/
theorem NOk.cell (n : NOk K c F H σ ρ a rw N) {q b : Nat} {ds ds' : List D} {ws' : List V} (e : rw[q]? = some (b, ds)) (r' : ∀ G, Reps K G ws' ds') : NOk K c F (upd H b (.lst ws')) σ ρ a (rw.set q (b, ds')) (N.set q (b, ws')) := by
  obtain ⟨ws, eN, r⟩ := n.rw.get e
  have hb : (b, ws) ∈ N := List.mem_of_getElem? eN
  have hq : q < N.length := (List.getElem?_eq_some_iff.mp eN).1
  have er : rwRefs (rw.set q (b, ds')) = rwRefs rw := by
    unfold rwRefs
    rw [List.map_set]
    apply List.ext_getElem?
    intro k
    by_cases z : q = k
    · subst z
      have hq2 : q < rw.length := (List.getElem?_eq_some_iff.mp e).1
      rw [List.getElem?_set_self (by rw [List.length_map]; exact hq2), List.getElem?_map, e]
      rfl
    · rw [List.getElem?_set_ne z]
  have ef : (N.set q (b, ws')).map (·.1) = N.map (·.1) := by
    rw [List.map_set]
    apply List.ext_getElem?
    intro k
    by_cases z : q = k
    · subst z
      rw [List.getElem?_set_self (by rw [List.length_map]; exact hq), List.getElem?_map, eN]
      rfl
    · rw [List.getElem?_set_ne z]
  have et : (topN a (rw.set q (b, ds')) (N.set q (b, ws'))).map (·.1) = (topN a rw N).map (·.1) := congrArg (a :: ·) ef
  have nd := n.fl.nd
  have nd2 := List.nodup_cons.mp nd
  have inb : b ∈ (topN a rw N).map (·.1) := List.mem_map.mpr ⟨(b, ws), List.mem_cons_of_mem _ hb, rfl⟩
  refine ⟨?_, ⟨by rw [et]; exact nd, fun p hp => ?_⟩, fun p hp => ?_, n.rw.set e r'⟩
  · rw [hide_eq (N := topN a rw N) (fun x => by rw [et]) fun x hx => upd_ne fun z => hx (by rw [z]; exact inb)]
    exact n.ok
  · rcases List.mem_cons.mp hp with z | z
    · rw [z]
      have nab : a ≠ b := fun y => nd2.1 (by rw [y]; exact List.mem_map.mpr ⟨(b, ws), hb, rfl⟩)
      show upd H b (.lst ws') a = some (.lst (rwRefs (rw.set q (b, ds'))))
      rw [upd_ne nab, er]
      exact n.fl.at_ _ List.mem_cons_self
    · obtain ⟨k, hk⟩ := List.mem_iff_getElem?.mp z
      by_cases y : q = k
      · subst y
        rw [List.getElem?_set_self hq] at hk
        cases hk
        exact upd_same
      · rw [List.getElem?_set_ne y] at hk
        have npb : p.1 ≠ b := fun w => y (by
          have h1 : (N.map (·.1))[k]? = some b := by rw [List.getElem?_map, hk, ← w]; rfl
          have h2 : (N.map (·.1))[q]? = some b := by rw [List.getElem?_map, eN]; rfl
          have hq' : q < (N.map (·.1)).length := (List.getElem?_eq_some_iff.mp h2).1
          exact (List.getElem?_inj hq' nd2.2).mp (h2.trans h1.symm))
        rw [upd_ne npb]
        exact n.fl.at_ p (List.mem_cons_of_mem _ (List.mem_of_getElem? hk))
  · have : p.1 ∈ (topN a rw N).map (·.1) := by
      rw [← et]
      exact List.mem_map.mpr ⟨p, hp, rfl⟩
    obtain ⟨p', hp', e'⟩ := List.mem_map.mp this
    rw [← e']
    exact n.n0 p' hp'
/-- a list becomes a row -/
theorem NOk.add0 (n : NOk K c F H σ ρ a rw N) {F4 : Hp} {σ4 : L2.St} {ρ4 : Store} {b : Nat} {ds : List D} {ws : List V} (ok1 : Ok K c F4 (off (hide (topN a rw N) H) b) σ4 ρ4) (nb : b ∉ (topN a rw N).map (·.1)) (q : H b = some (.lst ws)) (n0b : c.H0 b = none) (rs : ∀ G, Reps K G ws ds) :
    NOk K c F4 (upd H a (.lst (rwRefs rw ++ [.ref b]))) σ4 ρ4 a (rw ++ [(b, ds)]) (N ++ [(b, ws)]) := by
  have nd := n.fl.nd
  have nd2 := List.nodup_cons.mp nd
  have nba : b ≠ a := fun z => nb (by rw [z]; exact List.mem_cons_self)
  have ef : (topN a (rw ++ [(b, ds)]) (N ++ [(b, ws)])).map (·.1) = (topN a rw N).map (·.1) ++ [b] := by
    show a :: (N ++ [(b, ws)]).map (·.1) = _
    rw [List.map_append]
    rfl
  refine ⟨?_, ⟨?_, fun p hp => ?_⟩, fun p hp => ?_, n.rw.snoc rs⟩
  · have e : hide (topN a (rw ++ [(b, ds)]) (N ++ [(b, ws)])) (upd H a (.lst (rwRefs rw ++ [.ref b]))) = off (hide (topN a rw N) H) b := funext fun x => by
      by_cases z : x = b
      · rw [z, off_same, hide_in (.inl (by rw [ef]; exact List.mem_append_right _ List.mem_cons_self))]
      · rw [off_ne z]
        by_cases y : x ∈ (topN a rw N).map (·.1)
        · rw [hide_in (.inl y), hide_in (.inl (by rw [ef]; exact List.mem_append_left _ y))]
        · rw [hide_out y, hide_out fun w => ?_, upd_ne fun w => y (by rw [w]; exact List.mem_cons_self)]
          rw [ef] at w
          rcases List.mem_append.mp w with w | w
          · exact y w
          · exact z (List.mem_singleton.mp w)
    rw [e]
    exact ok1
  · rw [ef]
    exact List.nodup_append.mpr ⟨nd, List.nodup_cons.mpr ⟨fun z => (nomatch z), List.nodup_nil⟩, fun x hx y hy z => nb (by rw [← List.mem_singleton.mp hy, ← z]; exact hx)⟩
  · rcases List.mem_cons.mp hp with z | z
    · rw [z]
      show upd H a _ a = some (.lst (rwRefs (rw ++ [(b, ds)])))
      rw [upd_same]
      unfold rwRefs
      rw [List.map_append]
      rfl
    · rcases List.mem_append.mp z with z | z
      · rw [upd_ne fun w => nd2.1 (by rw [← w]; exact List.mem_map.mpr ⟨p, z, rfl⟩)]
        exact n.fl.at_ p (List.mem_cons_of_mem _ z)
      · have z := List.mem_singleton.mp z
        rw [z, upd_ne nba]
        exact q
  · rcases List.mem_cons.mp hp with z | z
    · rw [z]
      exact n.n0 (a, rwRefs rw) List.mem_cons_self
    · rcases List.mem_append.mp z with z | z
      · exact n.n0 p (List.mem_cons_of_mem _ z)
      · rw [List.mem_singleton.mp z]
        exact n0b
/-- a list of one's own becomes a row -/
theorem NOk.add (n : NOk K c F H σ ρ a rw N) {b : Nat} {ds : List D} (g : ρ[j]? = some (some (.o, .list ds))) (es : σ[j]? = some (some (.ref b))) (hs : ds.all scalD = true) :
    ∃ ws, NOk K c F (upd H a (.lst (rwRefs rw ++ [.ref b]))) σ (ρ.set j (some (.v, opqD b))) a (rw ++ [(b, ds)]) (N ++ [(b, ws)]) := by
  obtain ⟨ok1, n0b, xs, hx, ct⟩ := n.ok.drop (e := .none) g es
  obtain ⟨b', ws, eb, q, rs⟩ := ct
  cases eb
  have nb : b ∉ (topN a rw N).map (·.1) := fun z => by
    rw [hide_in (.inl z)] at hx
    cases hx
  rw [hide_out nb] at q
  exact ⟨ws, n.add0 ok1 nb q n0b (reps_sc hs rs)⟩
/-- the end: the rows are frozen -/
theorem NOk.frz (n : NOk K c F H σ ρ a rw N) (hi : getV ρ i = some (opqD a)) : Ok K c (shw (topN a rw N) F) H σ (ρ.set i (some (.v, rwD rw))) ∧ Same F (shw (topN a rw N) F) ∧ Rep K (shw (topN a rw N) F) (.ref a) (rwD rw) := by
  have gi := getV_some hi
  obtain ⟨v, e, r⟩ := n.ok.sl i .v _ gi
  have ev : v = .ref a := by
    unfold SlotOk at r
    cases r with
    | opq => rfl
  have hl : i < ρ.length := (List.getElem?_eq_some_iff.mp gi).1
  have hf : ∀ p ∈ topN a rw N, shw (topN a rw N) F p.1 = some (.lst p.2) := fun p hp => shw_in n.fl.nd hp
  have rep : Rep K (shw (topN a rw N) F) (.ref a) (rwD rw) := .lst (hf _ List.mem_cons_self) (rw_reps n.rw fun p hp => hf p (List.mem_cons_of_mem _ hp))
  have ok := n.lend.set i rep
  have es : σ.set i (some (.ref a)) = σ := by
    apply List.ext_getElem?
    intro k
    by_cases z : i = k
    · subst z
      rw [List.getElem?_set_self (by rw [n.ok.ln]; exact hl), e, ev]
    · rw [List.getElem?_set_ne z]
  rw [es] at ok
  exact ⟨ok, shw_same n.fn, rep⟩
end
end DL

set_option maxHeartbeats 4000000
/-! DL part NC: rows of one's own: statements. -/
namespace DL
open PySem PySem.Spec PyProof.Rows L2

structure KdNOk (K : PySem.W.Frag) (c : Ent) (a : Nat) (F : Hp) (k : KdN) (D : Ends) : Prop where
  nx : ∀ ρ rw σ F' H' N, k.nx ρ rw → NOk K c F' H' σ ρ a rw N → Same F F' → D.nx σ H'
  bk : ∀ ρ rw σ F' H' N, k.bk ρ rw → NOk K c F' H' σ ρ a rw N → Same F F' → D.bk σ H'
  ct : ∀ ρ rw σ F' H' N, k.ct ρ rw → NOk K c F' H' σ ρ a rw N → Same F F' → D.ct σ H'
  rt : ∀ d fr ρ σ v F' H', k.rt d fr ρ → Ok K c F' H' σ ρ → ResRep K c.H0 F' H' v d fr → D.rt v H'
  ex : k.ex = noR
theorem KdNOk.at {K : PySem.W.Frag} {c : Ent} {a : Nat} {F F' : Hp} {k : KdN} {D : Ends} (h : KdNOk K c a F k D) (s : Same F F') : KdNOk K c a F' k D :=
  ⟨fun ρ rw σ G H' N q ok e => h.nx ρ rw σ G H' N q ok (s.trans e), fun ρ rw σ G H' N q ok e => h.bk ρ rw σ G H' N q ok (s.trans e), fun ρ rw σ G H' N q ok e => h.ct ρ rw σ G H' N q ok (s.trans e), h.rt, h.ex⟩
abbrev WN := Store → Rw → KdN → Prop
def tN (K : PySem.W.Frag) (c : Ent) (a : Nat) (w : WN) : TS := fun D σ H => ∃ (F : Hp) (ρ : Store) (rw : Rw) (N : Fl) (k : KdN), NOk K c F H σ ρ a rw N ∧ w ρ rw k ∧ KdNOk K c a F k D
/-- rows, then statements behind them -/
def tNS (K : PySem.W.Frag) (c : Ent) (a : Nat) (w : Store → Rw → Kd → Prop) : TS := fun D σ H => ∃ (F : Hp) (ρ : Store) (rw : Rw) (N : Fl) (k : Kd), NOk K c F H σ ρ a rw N ∧ w ρ rw k ∧ KdOk K c F k D
def kEnd (i a : Nat) (u : WS) (k : Kd) : KdN := { nx := fun ρ2 rw => getV ρ2 i = some (opqD a) ∧ u (ρ2.set i (some (.v, rwD rw))) k, rt := k.rt, bk := fun _ _ => False, ct := fun _ _ => False, ex := k.ex }
section
variable {K : PySem.W.Frag} {c : Ent} {F H F' H' : Hp} {σ : L2.St} {ρ ρ' : Store} {a b i j : Nat} {rw : Rw} {N : Fl} {v : V}
theorem opq_v (ok : Ok K c F H σ ρ) (h : getV ρ j = some (opqD b)) : σ[j]? = some (some (.ref b)) := by
  obtain ⟨v, e, r⟩ := ok.sl j .v _ (getV_some h)
  unfold SlotOk at r
  cases r with
  | opq => exact e
theorem set_same {v : V} (ok : Ok K c F H σ ρ) (h : σ[j]? = some (some v)) : σ.set j (some v) = σ := by
  apply List.ext_getElem?
  intro k
  by_cases z : j = k
  · subst z
    rw [List.getElem?_set_self (List.getElem?_eq_some_iff.mp h).1, h]
  · rw [List.getElem?_set_ne z]
theorem ResRep.more {d : D} {fr : Bool} {H0 : Hp} (r : ResRep K H0 F H v d fr) (h : Same H H') : ResRep K H0 F H' v d fr := by
  cases fr with
  | false => exact .fz r.unfz
  | true =>
    obtain ⟨r1, r2⟩ := r.own
    exact .of_own ⟨r1.mono (Same.refl _) fun _ _ _ q => h _ _ q, r2⟩
end
section
variable {X : Cx} {c : Ent} {a i j : Nat} {e e1 e2 ie ve tg iter : Expr} {st : Stmt} {rest ss s1 s2 : List Stmt} {u : WS} {w w1 w2 : WN} {pos apos cpos sp p p' : Pos} {x y : Str} {wv wi : (Xn → Store → Prop) → WB}
theorem ns_nil : PSs X [] (tN X.K c a fun ρ rw k => k.nx ρ rw) := PSs.imp pss_nil fun D σ H ⟨F, ρ, rw, N, k, n, h, q⟩ => q.nx ρ rw σ F H N h n (Same.refl _)
theorem ns_cons (h1 : PS X st (tN X.K c a w1)) (h2 : PSs X rest (tN X.K c a w2)) : PSs X (st :: rest) (tN X.K c a fun ρ rw k => w1 ρ rw { k with nx := fun ρ1 rw1 => w2 ρ1 rw1 k }) :=
  PSs.imp (pss_cons h1 h2) fun D σ H ⟨F, ρ, rw, N, k, n, h, q⟩ => ⟨F, ρ, rw, N, { k with nx := fun ρ1 rw1 => w2 ρ1 rw1 k }, n, h, ⟨fun ρ' rw' σ' F' H' N' h' n' s => ⟨F', ρ', rw', N', k, n', h', q.at s⟩, q.bk, q.ct, q.rt, q.ex⟩⟩
theorem ne_nil (h : PSs X ss (tS X.K c u)) : PSs X ss (tNS X.K c a fun ρ rw k => getV ρ i = some (opqD a) ∧ u (ρ.set i (some (.v, rwD rw))) k) :=
  PSs.imp h fun D σ H ⟨F, ρ, rw, N, k, n, ⟨g, h⟩, q⟩ => by
    obtain ⟨ok, sm, _⟩ := n.frz g
    exact ⟨_, _, k, ok, h, q.at sm⟩
theorem ne_cons {w2 : Store → Rw → Kd → Prop} (h1 : PS X st (tN X.K c a w1)) (h2 : PSs X rest (tNS X.K c a w2)) : PSs X (st :: rest) (tNS X.K c a fun ρ rw k => w1 ρ rw { nx := fun ρ1 rw1 => w2 ρ1 rw1 k, rt := k.rt, bk := fun _ _ => False, ct := fun _ _ => False, ex := k.ex }) :=
  PSs.imp (pss_cons h1 h2) fun D σ H ⟨F, ρ, rw, N, k, n, h, q⟩ => ⟨F, ρ, rw, N, { nx := fun ρ1 rw1 => w2 ρ1 rw1 k, rt := k.rt, bk := fun _ _ => False, ct := fun _ _ => False, ex := k.ex }, n, h, ⟨fun ρ' rw' σ' F' H' N' h' n' s => ⟨F', ρ', rw', N', k, n', h', q.at s⟩, fun _ _ _ _ _ _ z => z.elim, fun _ _ _ _ _ _ z => z.elim, q.rt, q.ex⟩⟩
theorem n_st (h : PS X st (tS X.K c u)) : PS X st (tN X.K c a fun ρ rw k => u ρ { nx := fun ρ1 => k.nx ρ1 rw, rt := k.rt, bk := fun ρ1 => k.bk ρ1 rw, ct := fun ρ1 => k.ct ρ1 rw, ex := k.ex }) :=
  PS.imp (PS.fr h) fun D σ H ⟨F, ρ, rw, N, k, n, h, q⟩ => ⟨topN a rw N, n.fl, F, ρ, _, n.ok, h,
    ⟨fun ρ' σ' F' H' hk ok' sm hn => q.nx ρ' rw σ' F' _ N hk (n.back ok' hn) sm, fun ρ' σ' F' H' hk ok' sm hn => q.bk ρ' rw σ' F' _ N hk (n.back ok' hn) sm, fun ρ' σ' F' H' hk ok' sm hn => q.ct ρ' rw σ' F' _ N hk (n.back ok' hn) sm,
     fun d fr ρ' σ' v F' H' hk ok' rr hn => q.rt d fr ρ' σ' v F' _ hk (n.back ok' hn).all (rr.more (shw_same hn)), q.ex⟩⟩
theorem n_if {tt : (Xn → Store → Prop) → Store → (Bool → Store → Prop) → Prop} (hc : PT X e (tT X.K c (tt noR))) (ha : PSs X s1 (tN X.K c a w1)) (hb : PSs X s2 (tN X.K c a w2)) :
    PS X (.If e s1 s2 pos) (tN X.K c a fun ρ rw k => tt k.ex ρ fun r ρ1 => if r then w1 ρ1 rw k else w2 ρ1 rw k) :=
  PS.imp (ps_if (PT.fr hc) ha hb) fun D σ H ⟨F, ρ, rw, N, k, n, h, q⟩ => by
    simp only [q.ex] at h
    exact ⟨topN a rw N, n.fl, F, ρ, _, n.ok, h, fun r ρ1 F1 H1 hk ok1 ex1 hn => by
      cases r with
      | true => exact ⟨F1, ρ1, rw, N, k, n.back ok1 hn, hk, q.at ex1.ff⟩
      | false => exact ⟨F1, ρ1, rw, N, k, n.back ok1 hn, hk, q.at ex1.ff⟩⟩
theorem newE_hide {F G H Hg : Hp} {M : Fl} (hn : ∀ p ∈ M, F p.1 = none) (fl : FlOk M H) (hs : Same F (hide M H)) (ne : NewE F H G Hg) : NewE F (hide M H) G (hide M Hg) ∧ FlOk M Hg := by
  refine ⟨⟨ne.ff, fun x u e => ?_, fun x u e => ?_, fun x h => ?_, ne.nt⟩, ⟨fl.nd, fun p hp => ne.hh _ _ (fl.at_ p hp)⟩⟩
  · have z : x ∉ M.map (·.1) := fun z => by
      rw [hide_in (.inl z)] at e
      cases e
    rw [hide_out z] at e ⊢
    exact ne.hh x u e
  · have z : x ∉ M.map (·.1) := fun z => by
      obtain ⟨p, hp, rfl⟩ := List.mem_map.mp z
      rw [ne.nf p.1 (by rw [fl.at_ p hp]; exact fun z => nomatch z), hn p hp] at e
      cases e
    rw [hide_out z]
    exact ne.fh x u e
  · refine ne.nf x fun z => h ?_
    exact hide_in (.inr z)
theorem NOk.newE {K : PySem.W.Frag} {F G H Hg : Hp} {σ : L2.St} {ρ : Store} {rw : Rw} {N : Fl} (n : NOk K c F H σ ρ a rw N) (ne : NewE F H G Hg) : NOk K c G Hg σ ρ a rw N := by
  obtain ⟨h1, h2⟩ := newE_hide n.fn n.fl n.ok.fh ne
  exact ⟨n.ok.newE h1, h2, n.n0, n.rw⟩
/-- binding, the rows aside -/
def gBf (K : PySem.W.Frag) (t : Tg) : TG := fun v σ H Q => ∃ N, FlOk N H ∧ gB K t v σ (hide N H) fun σ' H' => (∀ p ∈ N, H' p.1 = none) → Q σ' (shw N H')
theorem n_for {t : Tg} {ti : (Xn → Store → Prop) → Store → (List D → Store → Prop) → Prop} (hp : PassesOwn (model X.prog X.w) X.A X.env X.xe) (hc : X.calm = true) (hi : PI X tg iter (tI X.K c (ti noR))) (hg : PG X tg (gB X.K t)) (hb : PSs X ss (tN X.K c a w))
    (hs : ∀ x, foldedSetIterable iter X.env x = pure x) : PS X (.For tg iter ss [] pos) (tN X.K c a fun ρ rw k => ti k.ex ρ fun items ρ1 => forN t w items ρ1 rw k) :=
  PS.imp (ps_for hp hc (PI.fr hi) (g := gBf X.K t) (PG.fr hg) hb hs) fun D σ H ⟨F, ρ, rw, N, k, n, h, q⟩ => by
    simp only [q.ex] at h
    refine ⟨topN a rw N, n.fl, F, ρ, _, n.ok, h, fun items ρ1 F1 H1 J hL ok1 ex1 dw hn => ?_⟩
    refine ⟨fun i m σ H => m = items.length - i ∧ i ≤ items.length ∧ ∃ F ρ rw N, NOk X.K c F H σ ρ a rw N ∧ Same F1 F ∧ forN t w (items.drop i) ρ rw k, ⟨items.length, rfl, Nat.zero_le _, F1, ρ1, rw, N, n.back ok1 hn, Same.refl _, hL⟩, ?_⟩
    rintro i m σ H ⟨rfl, hle, F2, ρ2, rw2, N2, n2, s2, hL2⟩
    have q2 := q.at (ex1.ff.trans s2)
    have sH : Same F2 H := n2.ok.fh.trans hide_sub
    by_cases hlt : i < items.length
    · refine .inr ⟨dw.goes i H hlt (s2.trans sH), fun σ' H' => i + 1 ≤ items.length ∧ ∃ F ρ rw N, NOk X.K c F H' σ' ρ a rw N ∧ Same F1 F ∧ forN t w (items.drop (i + 1)) ρ rw k, fun σ' H' ⟨z1, z2⟩ => ⟨items.length - (i + 1), by omega, rfl, z1, z2⟩, fun x Hg hy => ?_⟩
      obtain ⟨d, G, ed, ne, rd⟩ := dw.yields i H x Hg F2 hlt s2 sH hy
      have edrop : items.drop i = d :: items.drop (i + 1) := by
        rw [List.drop_eq_getElem_cons hlt]
        rw [List.getElem?_eq_getElem hlt] at ed
        rw [Option.some.inj ed]
      rw [edrop] at hL2
      have sG := s2.trans ne.ff
      have n3 := n2.newE ne
      refine ⟨topN a rw2 N2, n3.fl, bind_ok n3.ok rd hL2 fun σ' ρ' hw ok' hn' => ⟨G, ρ', rw2, N2, _, n3.back ok' hn', hw, ?_⟩⟩
      have q3 := q2.at ne.ff
      exact ⟨fun ρ2 rw2 σ2 F2 H2 N2 g n2 s => ⟨hlt, F2, ρ2, rw2, N2, n2, sG.trans s, g⟩, fun ρ2 rw2 σ2 F2 H2 N2 g n2 s => q3.nx ρ2 rw2 σ2 F2 H2 N2 g n2 s, fun ρ2 rw2 σ2 F2 H2 N2 g n2 s => ⟨hlt, F2, ρ2, rw2, N2, n2, sG.trans s, g⟩, q3.rt, q3.ex⟩
    · have e : i = items.length := by omega
      subst e
      rw [List.drop_length] at hL2
      exact .inl ⟨dw.stops H (s2.trans sH), q2.nx ρ2 rw2 σ F2 H N2 hL2 n2 (Same.refl _)⟩
theorem NOk.set {K : PySem.W.Frag} {F H : Hp} {σ : L2.St} {ρ : Store} {rw : Rw} {N : Fl} {v : V} {d : D} (n : NOk K c F H σ ρ a rw N) (j : Nat) (r : Rep K F v d) : NOk K c F H (σ.set j (some v)) (ρ.set j (some (.v, d))) a rw N := ⟨n.ok.set j r, n.fl, n.n0, n.rw⟩
theorem n_als (hx : ∀ te, PE X (.Subscript (.Name x p) ie sp) te → PS X st (tAsg te (gName j))) (hv : PE X (.Name x p) (tVar i)) (he : PE X ie (tFz X.K c (frz (wi noR)))) (hs : PlainIx ie) :
    PS X st (tN X.K c a fun ρ rw k => getV ρ i = some (opqD a) ∧ frz (wi k.ex) ρ fun x ρ1 => ∃ n p, x = .int n ∧ atI rw n = some p ∧ k.nx (ρ1.set j (some (.v, opqD p.1))) rw) :=
  PS.imp (hx _ (pe_ix ix_seq hv (PE.fr he) hs)) fun D σ H ⟨F, ρ, rw, N, k, n, ⟨g, h⟩, q⟩ => by
    simp only [q.ex] at h
    refine ⟨.ref a, opq_v n.ok g, topN a rw N, n.fl, F, ρ, _, n.ok, h, fun d ρ1 v F1 H1 ⟨m, pr, ed, hm, hk⟩ ok1 ex1 r1 hn => ?_⟩
    subst ed
    cases r1
    have n1 := n.back ok1 hn
    have em : atI (rwRefs rw) m = some (.ref pr.1) := by
      unfold rwRefs
      unfold atI at hm ⊢
      rw [List.length_map]
      cases e : ixN rw.length m with
      | none =>
        rw [e] at hm
        cases hm
      | some q =>
        rw [e] at hm
        have hm : rw[q]? = some pr := hm
        show (rw.map fun p => V.ref p.1)[q]? = _
        rw [List.getElem?_map, hm]
        rfl
    exact .inl ⟨a, rwRefs rw, m, .ref pr.1, rfl, rfl, .of (n1.fl.at_ _ List.mem_cons_self), em, q.nx _ _ _ F1 _ N hk (n1.set j (.opq pr.1)) ex1.ff⟩
theorem n_put (hx : ∀ te tO ti, PE X ve te → PE X (.Name y p) tO → PE X ie ti → PS X st (tAsg te (gSub tO ti rSetL))) (hv : PE X (.Name y p) (tVar j)) (he : PE X ve (tFz X.K c (frz (wv noR)))) (hi : PE X ie (tFz X.K c (frz (wi noR)))) :
    PS X st (tN X.K c a fun ρ rw k => ∃ b q ds, getV ρ j = some (opqD b) ∧ rw[q]? = some (b, ds) ∧ frz (wv k.ex) ρ fun v ρ1 => getV ρ1 j = some (opqD b) ∧ frz (wi k.ex) ρ1 fun x ρ2 => ∃ n m, x = .int n ∧ ixN ds.length n = some m ∧ scalD v = true ∧ k.nx ρ2 (rw.set q (b, ds.set m v))) :=
  PS.imp (hx _ _ _ (PE.fr he) hv (PE.fr hi)) fun D σ H ⟨F, ρ, rw, N, k, n, ⟨b, r, ds, g, er, h⟩, q⟩ => by
    simp only [q.ex] at h
    refine ⟨topN a rw N, n.fl, F, ρ, _, n.ok, h, fun d ρ1 v F1 H1 ⟨g1, h1⟩ ok1 ex1 r1 hn => ?_⟩
    have n1 := n.back ok1 hn
    refine ⟨.ref b, opq_v n1.ok g1, topN a rw N, n1.fl, F1, ρ1, _, n1.ok, h1, fun d2 ρ2 v2 F2 H2 ⟨m, kk, e2, hk, hsc, hq⟩ ok2 ex2 r2 hn2 => ?_⟩
    subst e2
    cases r2
    have n2 := n1.back ok2 hn2
    obtain ⟨ws, eN, rr⟩ := n2.rw.get er
    have hb : (b, ws) ∈ topN a rw N := List.mem_cons_of_mem _ (List.mem_of_getElem? eN)
    exact ⟨b, ws, m, kk, rfl, rfl, n2.fl.at_ _ hb, by rw [(rr F).len]; exact hk, q.nx _ _ _ F2 _ _ hq (n2.cell er fun G => Reps.set (rep_scal hsc r1) kk (rr G)) (ex1.ff.trans ex2.ff)⟩
theorem n_putL (hx : ∀ te tO ti, PE X ve te → PE X (.Name y p) tO → PE X ie ti → PS X st (tAsg te (gSub tO ti rSetL))) (hv : PE X (.Name y p) (tVar j)) (he : PE X ve (tFz X.K c (frz (wv noR)))) (hi : PE X ie (tFz X.K c (frz (wi noR)))) :
    PS X st (tN X.K c a fun ρ rw k => ∃ b q ds, getV ρ j = some (opqD b) ∧ rw[q]? = some (b, ds) ∧ frz (wv k.ex) (ρ.set j (some (.v, .list ds))) fun v ρ1 => frz (wi k.ex) ρ1 fun x ρ2 => lendOk (ρ.set j (some (.v, .list ds))) ρ2 ∧
      ∃ n m, x = .int n ∧ ixN ds.length n = some m ∧ scalD v = true ∧ k.nx (ρ2.set j (some (.v, opqD b))) (rw.set q (b, ds.set m v))) :=
  PS.imp (hx _ _ _ he hv hi) fun D σ H ⟨F, ρ, rw, N, k, n, ⟨b, r, ds, g, er, h⟩, q⟩ => by
    simp only [q.ex] at h
    obtain ⟨ws, eN, rr⟩ := n.rw.get er
    have hb : (b, ws) ∈ topN a rw N := List.mem_cons_of_mem _ (List.mem_of_getElem? eN)
    have ej := opq_v n.ok g
    have okL := n.lend.set j (v := .ref b) (d := .list ds) (.lst (shw_in n.fl.nd hb) (rr _))
    rw [set_same n.ok ej] at okL
    refine ⟨_, _, _, okL, h, fun d ρ1 v F1 H1 h1 ok1 ex1 r1 => ⟨.ref b, ej, F1, ρ1, _, ok1, h1, fun d2 ρ2 v2 F2 H2 ⟨hl, m, kk, e2, hk, hsc, hq⟩ ok2 ex2 r2 => ?_⟩⟩
    subst e2
    cases r2
    obtain ⟨n2, sm, _⟩ := n.unlend g ok2 (ex1.ff.trans ex2.ff) hl
    exact ⟨b, ws, m, kk, rfl, rfl, n2.fl.at_ _ hb, by rw [(rr F).len]; exact hk, q.nx _ _ _ _ _ _ hq (n2.cell er fun G => Reps.set (rep_scal hsc r1) kk (rr G)) sm⟩
theorem n_asgL (hx : ∀ te, PE X e te → PS X st (tAsg te (gName j))) (he : PE X e (tB X.K c (wv noR))) :
    PS X st (tN X.K c a fun ρ rw k => getV ρ i = some (opqD a) ∧ wv k.ex (ρ.set i (some (.v, rwD rw))) fun d fr ρ1 => lendOk (ρ.set i (some (.v, rwD rw))) ρ1 ∧ flatR d fr ∧ bindT (.nm j) d (ρ1.set i (some (.v, opqD a))) fun ρ2 => k.nx ρ2 rw) :=
  PS.imp (hx _ he) fun D σ H ⟨F, ρ, rw, N, k, n, ⟨g, h⟩, q⟩ => by
    simp only [q.ex] at h
    obtain ⟨okL, sm0, _⟩ := n.frz g
    refine ⟨_, _, _, okL, h, fun d fr ρ1 v F1 H1 ⟨hl, hf, hb⟩ ok1 ex1 r1 => ?_⟩
    have hnone : fr = true → ∀ x, v = .ref x → H x = none := fun e x ev => by
      subst e
      exact (r1.own.2 x ev).2
    obtain ⟨G, okG, exG, rG⟩ := r1.freeze okL ok1 ex1
    obtain ⟨n2, sm, diff⟩ := n.unlend g okG exG.ff hl
    have rr : Rep X.K (hide (topN a rw N) G) v d := by
      rcases hf with hf | ⟨ef, ds, rfl, hf⟩
      · exact rep_flat diff d v hf rG
      · cases rG with
        | lst q1 q2 =>
          rename_i y ws
          have ny : y ∉ (topN a rw N).map (·.1) := fun z => by
            obtain ⟨p, hp, ep⟩ := List.mem_map.mp z
            have := n.fl.at_ p hp
            rw [ep, hnone ef y rfl] at this
            cases this
          exact .lst (by rw [hide_out ny]; exact q1) (reps_flat diff ds _ hf q2)
    exact q.nx _ _ _ _ _ N hb (n2.set j rr) sm
theorem n_app (hv : PE X (.Name x p) (tVar i)) (hw : PE X (.Name y p') (tVar j)) (hl : (apos.endLine == cpos.line) = true) (st : starEach [Expr.Name y p'] X.env = (false, eval (.Name y p') X.env) :: starEach [] X.env) :
    PS X (.Expr (.Call (.Attribute (.Name x p) "append" apos) [.Name y p'] [] cpos) pos) (tN X.K c a fun ρ rw k => getV ρ i = some (opqD a) ∧ ∃ ds, ρ[j]? = some (some (.o, .list ds)) ∧ ds.all scalD = true ∧ rw.length < sizeLine ∧ ∀ b : Nat, k.nx (ρ.set j (some (.v, opqD b))) (rw ++ [(b, ds)])) :=
  PS.imp (ps_expr (pe_bm PySem.F.plainAttrs_list PySem.F.slot_list_append PySem.F.type_list_append mt_append hv (pa_cons hw pa_nil st) rfl (few_of st) hl st rfl)) fun D σ H ⟨F, ρ, rw, N, k, n, ⟨g, ds, g1, hs, hz, hk⟩, q⟩ => by
    obtain ⟨v, ev, r⟩ := n.ok.sl j .o _ g1
    obtain ⟨b, _, rfl, _, _⟩ := r.1.at
    obtain ⟨ws, n2⟩ := n.add g1 ev hs
    have ha := n.fl.at_ _ List.mem_cons_self
    refine ⟨.ref a, opq_v n.ok g, .inl ⟨rfl, _, .of ha⟩, .ref b, ev, a, rwRefs rw, .ref b, rfl, rfl, ha, ?_, q.nx _ _ _ F _ _ (hk b) n2 (Same.refl _)⟩
    unfold rwRefs
    rw [List.length_map]
    exact hz
theorem pget_list : PGet X (rIxL X.K) := by
  intro pins s σ H x y v u Q I rx ry h
  obtain ⟨p, xs, i, z, rfl, rfl, hq, he, q⟩ := h
  cases rx
  obtain ⟨t, rfl⟩ := ry
  obtain ⟨its, r, pl, hz⟩ := I.list hq
  obtain ⟨j, h1, h2, h3, h4, h5⟩ := atI_get he
  obtain ⟨w, ew, rw'⟩ := r.get h2
  have hl := r.length
  have hn := line63
  have fin : EP X pins σ Q w s := ⟨z, H, I, rw', q⟩
  by_cases h0 : 0 ≤ i
  · have hj : i.toNat = j := by
      rw [seqIndex_of h0 h5] at h1
      exact Option.some.inj h1
    exact wpAny_getItem_list pl.isList h0 (by omega) (by rw [hj]; simpa using ew) fin
  · have hj : (i + (its.toArray.size : Int)).toNat = j := by
      rw [seqIndex_neg (by omega) h4] at h1
      rw [List.size_toArray, ← hl]
      exact Option.some.inj h1
    exact wpAny_getItem_list_neg pl.isList (by omega) (by rw [List.size_toArray] <;> omega) (by omega) (by rw [hj]; simpa using ew) fin
theorem refs_at {rw : Rw} {m : Int} {q : Nat} {pr : Nat × List D} (h : ixN rw.length m = some q) (e : rw[q]? = some pr) : atI (rwRefs rw) m = some (.ref pr.1) := by
  unfold atI rwRefs
  rw [List.length_map, h]
  show (rw.map fun p => V.ref p.1)[q]? = _
  rw [List.getElem?_map, e]
  rfl
theorem n_aug2 {o : Operator} {re ce : Expr} {sp2 : Pos} {wr wc : (Xn → Store → Prop) → WB} (hv : PE X (.Name x p) (tVar i)) (h1 : PE X re (tFz X.K c (frz (wr noR)))) (hs1 : PlainIx re) (h2 : PE X ce (tFz X.K c (frz (wc noR)))) (h3 : PE X ve (tFz X.K c (frz (wv noR))))
    (ha : ∀ ov iv new, augStore ce ov iv new = (do holding [new, ov, iv] (setItem ov iv new); release [new, ov, iv] []; pure .next)) :
    PS X (.AugAssign (.Subscript (.Subscript (.Name x p) re sp) ce sp2) o ve pos) (tN X.K c a fun ρ rw k => getV ρ i = some (opqD a) ∧ frz (wr k.ex) ρ fun x ρ1 => ∃ n q p, x = .int n ∧ ixN rw.length n = some q ∧ rw[q]? = some p ∧ frz (wc k.ex) ρ1 fun y ρ2 =>
      ∃ n2 m c, y = .int n2 ∧ ixN p.2.length n2 = some m ∧ p.2[m]? = some c ∧ frz (wv k.ex) ρ2 fun v ρ3 => augS o c v fun d => k.nx ρ3 (rw.set q (p.1, p.2.set m d))) :=
  PS.imp (ps_augS (pe_ix ix_seq hv (PE.fr h1) hs1) (PE.fr h2) pget_list (PE.fr h3) (augR_ o) set_list ha) fun D σ H ⟨F, ρ, rw, N, k, n, ⟨g, h⟩, q⟩ => by
    simp only [q.ex] at h
    refine ⟨.ref a, opq_v n.ok g, topN a rw N, n.fl, F, ρ, _, n.ok, h, fun d ρ1 v F1 H1 ⟨nn, qq, pr, ed, hm, er, hk⟩ ok1 ex1 r1 hn => ?_⟩
    subst ed
    cases r1
    have n1 := n.back ok1 hn
    refine .inl ⟨a, rwRefs rw, nn, .ref pr.1, rfl, rfl, .of (n1.fl.at_ _ List.mem_cons_self), refs_at hm er, topN a rw N, n1.fl, F1, ρ1, _, n1.ok, hk, fun d2 ρ2 v2 F2 H2 ⟨n2, m, cc, e2, hm2, ec, hk2⟩ ok2 ex2 r2 hn2 => ?_⟩
    subst e2
    cases r2
    have nn2 := n1.back ok2 hn2
    obtain ⟨b, ds⟩ := pr
    obtain ⟨ws, eN, rr⟩ := nn2.rw.get er
    have hb : (b, ws) ∈ topN a rw N := List.mem_cons_of_mem _ (List.mem_of_getElem? eN)
    obtain ⟨w, ew, rw1⟩ := (rr F2).get ec
    have hlen := (rr F2).len
    have at1 : atI ws n2 = some w := by
      unfold atI
      rw [hlen, hm2]
      exact ew
    refine ⟨b, ws, n2, w, rfl, rfl, .of (nn2.fl.at_ _ hb), at1, topN a rw N, nn2.fl, F2, ρ2, _, nn2.ok, hk2, fun d3 ρ3 v3 F3 H3 hk3 ok3 ex3 r3 hn3 => ?_⟩
    have n3 := nn2.back ok3 hn3
    obtain ⟨jj, hj, ha3⟩ := aug_int hk3
    have sH : Same F3 (shw (topN a rw N) H3) := n3.ok.fh.trans hide_sub
    refine ⟨F3, cc, d3, _, sH, .inl (Rep.mono ex3.ff cc w rw1), .inl r3, ha3, fun d' z F' H' e' ne nr => ?_⟩
    subst e'
    have rz := nr.res.unfz
    cases rz
    have n4 := n3.newE ne
    exact ⟨b, ws, n2, m, rfl, rfl, n4.fl.at_ _ hb, by rw [hlen]; exact hm2, q.nx _ _ _ F' _ _ hj (n4.cell er fun G => Reps.set (.int jj) m (rr G)) ((ex1.ff.trans (ex2.ff.trans ex3.ff)).trans ne.ff)⟩
/-- no rows yet -/
theorem n_new {w : Nat → Store → Rw → Kd → Prop} (hx : ∀ te, PE X (.List [] sp) te → PS X st (tAsg te (gName i))) (h2 : ∀ a, PSs X rest (tNS X.K c a (w a))) :
    PSs X (st :: rest) (tS X.K c fun ρ k => i < ρ.length ∧ ∀ a : Nat, w a (ρ.set i (some (.v, opqD a))) [] k) :=
  PSs.imp (pss_cons (hx _ (pe_lst pa_nil)) (u := fun D σ H => ∃ a, tNS X.K c a (w a) D σ H) ⟨fun pins s σ H D I ⟨a, h⟩ => (h2 a).run pins s σ H D I h⟩) fun D σ H ⟨F, ρ, k, ok, ⟨hi, h⟩, q⟩ => by
    refine ⟨Nat.zero_le _, fun b hb => ⟨b, F, _, [], [], k, ?_, h b, q⟩⟩
    have e : hide (topN b [] []) (upd H b (.lst [])) = H := funext fun x => by
      show off (upd H b (.lst [])) b x = H x
      by_cases z : x = b
      · rw [z, off_same, hb]
      · rw [off_ne z, upd_ne z]
    refine ⟨?_, ⟨List.nodup_cons.mpr ⟨fun z => (nomatch z), List.nodup_nil⟩, fun p hp => ?_⟩, fun p hp => ?_, .nil⟩
    · rw [e]
      exact ok.set i (.opq b)
    · rw [List.mem_singleton.mp hp]
      exact upd_same
    · rw [List.mem_singleton.mp hp]
      show c.H0 b = none
      cases z : c.H0 b with
      | none => rfl
      | some o => exact absurd hb (ok.e0 b (by rw [z]; exact fun z => nomatch z))
end
end DL

set_option maxHeartbeats 4000000
/-! DL part ND: rows of one's own: copied rows, changed cells. -/
namespace DL
open PySem PySem.Spec PyProof.Rows L2
/-- a list that no slot holds is let go -/
theorem Ok.dropFree {K : PySem.W.Frag} {c : Ent} {F H : Hp} {σ : L2.St} {ρ : Store} {b : Addr} {xs : List V} (ok : Ok K c F H σ ρ) (nF : F b = none) (n0 : c.H0 b = none) (no : ¬ OwnAt σ ρ b) (hx : H b = some (.lst xs)) : Ok K c F (off H b) σ ρ := by
  have nb : ∀ a u, F a = some u → a ≠ b := fun a u h z => by
    rw [z, nF] at h
    cases h
  have n0' : ∀ a, c.H0 a ≠ none → a ≠ b := fun a h z => h (by rw [z]; exact n0)
  refine ⟨fun a u h => ?_, ok.ln, fun a h => ?_, fun a u h nt m => ?_, ok.e2, ok.e3, ok.eb, fun k m d' h => ?_, ok.ds, fun t => tbs_off hx (ok.tb t), ok.te, ok.nt⟩
  · rw [off_ne (nb a u h)]
    exact ok.fh a u h
  · rw [off_ne (n0' a h)]
    exact ok.e0 a h
  · rw [off_ne (n0' a (by rw [h]; exact fun z => nomatch z))]
    exact ok.e1 a u h nt m
  · obtain ⟨v, e2, r2⟩ := ok.sl k m d' h
    refine ⟨v, e2, ?_⟩
    have kp : m ≠ .v → ∀ a u, v = .ref a → H a = some (.lst u) → off H b a = some (.lst u) := fun nv a u ev q => by
      rw [off_ne fun y => no ⟨k, (m, d'), getO_of h nv, by rw [e2, ev, y]⟩]
      exact q
    cases m with
    | v => exact r2
    | o => exact ⟨r2.1.mono (Same.refl _) (kp fun z => nomatch z), r2.2⟩
    | m => exact ⟨r2.1.mono (Same.refl _) (kp fun z => nomatch z), r2.2⟩
theorem rowsD_get : ∀ {xs : List D} {yss : List (List D)}, rowsD xs = some yss → yss.length = xs.length ∧ ∀ (k : Nat) (d : D), xs[k]? = some d → ∃ ds, yss[k]? = some ds ∧ seqOf d = some ds ∧ ds.all scalD = true
  | [], _, h => by
    cases h
    exact ⟨rfl, fun k d e => by cases k <;> cases e⟩
  | x :: xs, yss, h => by
    unfold rowsD at h
    split at h
    · next ys r e1 e2 =>
      split at h
      · next hs =>
        cases h
        obtain ⟨h1, h2⟩ := rowsD_get e2
        refine ⟨by rw [List.length_cons, List.length_cons, h1], fun k d e => ?_⟩
        cases k with
        | zero =>
          cases e
          exact ⟨ys, rfl, e1, hs⟩
        | succ k => exact h2 k d e
      · cases h
    · cases h
theorem zip_rw : ∀ {rw : Rw} {yss : List (List D)}, rw.map (·.2) = yss → rw = (rw.map (·.1)).zip yss
  | [], _, h => by
    cases h
    rfl
  | p :: rw, _, h => by
    cases h
    rw [List.map_cons, List.map_cons, List.zip_cons_cons, ← zip_rw rfl]
section
variable {X : Cx} {c : Ent} {a i j : Nat} {e iter tg elt : Expr} {scope : Scope} {st : Stmt} {rest : List Stmt} {pos : Pos} {y : Str}
def frT (t : TE) : TE := fun σ H Q => ∃ N, FlOk N H ∧ t σ (hide N H) fun v H' => (∀ p ∈ N, H' p.1 = none) → Q v (shw N H')
theorem n_cpy {w : Nat → Store → Rw → Kd → Prop} {own : List (Str × Nat)} {ti : (Xn → Store → Prop) → Store → (List D → Store → Prop) → Prop} {we : WB} (hvs : own.map (·.2) = [j])
    (hx : PS X st (tAsg (tLc (tI X.K c (ti noR)) (gB X.K (.nm j)) tYes (frT (tB X.K c we)) (own.map (·.2))) (gName i))) (hw : ∀ ρ d ds Q, getV ρ j = some d → seqOf d = some ds → Q (.list ds) true ρ → we ρ Q)
    (h2 : ∀ a, PSs X rest (tNS X.K c a (w a))) :
    PSs X (st :: rest) (tS X.K c fun ρ k => ti k.ex ρ fun xs ρ1 => valOk ρ1 [j] = true ∧ xs.length ≤ sizeLine ∧ ∃ yss, rowsD xs = some yss ∧ i < ρ1.length ∧ ∀ (a : Nat) (bs : List Nat), bs.length = yss.length → w a (ρ1.set i (some (.v, opqD a))) (bs.zip yss) k) :=
  PSs.imp (pss_cons hx (u := fun D σ H => ∃ a, tNS X.K c a (w a) D σ H) ⟨fun pins s σ H D I ⟨a, h⟩ => (h2 a).run pins s σ H D I h⟩) fun D σ H ⟨F, ρ, k, okk, h, q⟩ => by
    simp only [q.ex] at h
    rw [hvs]
    refine ⟨F, ρ, _, okk, h, fun items ρ1 F1 H1 J ⟨hv, hz, yss, hr, hil, hk⟩ ok1 ex1 dw Dn hD => ?_⟩
    obtain ⟨hlen, hget⟩ := rowsD_get hr
    have hvn := noOwn_val hv
    have n0 : c.H0 Dn = none := by
      cases z : c.H0 Dn with
      | none => rfl
      | some o => exact absurd hD (ok1.e0 Dn (by rw [z]; exact fun z => nomatch z))
    have start : NOk X.K c F1 (upd H1 Dn (.lst [])) σ ρ1 Dn [] [] := by
      have e : hide (topN Dn [] []) (upd H1 Dn (.lst [])) = H1 := funext fun x => by
        show off (upd H1 Dn (.lst [])) Dn x = H1 x
        by_cases z : x = Dn
        · rw [z, off_same, hD]
        · rw [off_ne z, upd_ne z]
      refine ⟨by rw [e]; exact ok1, ⟨List.nodup_cons.mpr ⟨fun z => (nomatch z), List.nodup_nil⟩, fun p hp => ?_⟩, fun p hp => ?_, .nil⟩
      · rw [List.mem_singleton.mp hp]
        exact upd_same
      · rw [List.mem_singleton.mp hp]
        exact n0
    refine ⟨fun r m H' => m = items.length - r ∧ r ≤ items.length ∧ ∃ F N rw, NOk X.K c F H' σ ρ1 Dn rw N ∧ Same F1 F ∧ rw.map (·.2) = yss.take r ∧ rw.length = r, ⟨items.length, rfl, Nat.zero_le _, F1, [], [], start, Same.refl _, by rw [List.take_zero]; rfl, rfl⟩, ?_⟩
    rintro r m Hi ⟨rfl, hle, Fi, N, rw_, n, sm, hrw, hrl⟩
    have sH : Same Fi Hi := n.ok.fh.trans hide_sub
    by_cases hlt : r < items.length
    · refine .inr ⟨dw.goes r Hi hlt (sm.trans sH), fun H' => r + 1 ≤ items.length ∧ ∃ F N rw, NOk X.K c F H' σ ρ1 Dn rw N ∧ Same F1 F ∧ rw.map (·.2) = yss.take (r + 1) ∧ rw.length = r + 1, fun H' ⟨z1, z2⟩ => ⟨items.length - (r + 1), by omega, rfl, z1, z2⟩, fun x Hg hy => ?_⟩
      obtain ⟨d, G, ed, ne, rd⟩ := dw.yields r Hi x Hg Fi hlt sm sH hy
      obtain ⟨ds, e1, e2, e3⟩ := hget r d ed
      have n3 := n.newE ne
      have okw := (n3.ok.wiped (vs := [j])).set j rd
      have hj1 : j < ρ1.length := by
        unfold valOk at hv
        rw [List.all_cons, List.all_nil, Bool.and_true] at hv
        by_cases z : j < ρ1.length
        · exact z
        · rw [List.getElem?_eq_none (by omega)] at hv
          cases hv
      have ew : wipe ((wipe σ [j]).set j (some x)) [j] = wipe σ [j] := by
        rw [wipe_set List.mem_cons_self]
        exact wipe_idem fun _ h => h
      have gj : getV ((wipes ρ1 [j]).set j (some (.v, d))) j = some d := by
        unfold getV
        rw [List.getElem?_set_self (by rw [wipes_len]; exact hj1)]
      refine ⟨ew, topN Dn rw_ N, n3.fl, G, _, fun dd fr ρ' => dd = .list ds ∧ fr = true ∧ ρ' = (wipes ρ1 [j]).set j (some (.v, d)), okw, hw _ d ds _ gj e2 ⟨rfl, rfl, rfl⟩, fun dd fr ρ' v F4 H4 hq ok5 ex5 r5 hn => ?_⟩
      obtain ⟨rfl, rfl, rfl⟩ := hq
      obtain ⟨ct, fr5⟩ := r5.own
      obtain ⟨b, ws, rfl, hb, rs⟩ := ct
      obtain ⟨f4, h4⟩ := fr5 b rfl
      have nb : b ∉ (topN Dn rw_ N).map (·.1) := fun z => by
        obtain ⟨p, hp, ep⟩ := List.mem_map.mp z
        have := hn p hp
        rw [ep, hb] at this
        cases this
      have n0b : c.H0 b = none := by
        cases z : c.H0 b with
        | none => rfl
        | some o => exact absurd h4 (okw.e0 b (by rw [z]; exact fun z => nomatch z))
      have no : ¬ OwnAt ((wipe σ [j]).set j (some x)) ((wipes ρ1 [j]).set j (some (.v, d))) b := fun z => by
        obtain ⟨_, o, z2⟩ := okw.ownAt z
        rw [h4] at z2
        cases z2
      have okd := ok5.dropFree f4 n0b no hb
      have smF : Same F1 F4 := (sm.trans ne.ff).trans ex5.ff
      have okb := ok1.backs hvn smF okd ew
      have eb : DL.backs ρ1 ((wipes ρ1 [j]).set j (some (.v, d))) [j] = ρ1 := by
        have hl : ρ1.length = ((wipes ρ1 [j]).set j (some (.v, d))).length := by rw [List.length_set, wipes_len]
        apply List.ext_getElem?
        intro l
        by_cases z : l = j
        · subst z
          exact backs_in hl List.mem_cons_self
        · have nz : l ∉ [j] := fun y => z (List.mem_singleton.mp y)
          rw [backs_get nz, List.getElem?_set_ne fun y => z y.symm, wipes_get nz]
      rw [eb] at okb
      have n6 : NOk X.K c F4 (shw (topN Dn rw_ N) H4) ((wipe σ [j]).set j (some x)) ((wipes ρ1 [j]).set j (some (.v, d))) Dn rw_ N := ⟨by rw [hide_shw hn]; exact ok5, flOk_shw n3.fl.nd, n3.n0, n3.rw⟩
      have ha : shw (topN Dn rw_ N) H4 Dn = some (.lst (rwRefs rw_)) := n6.fl.at_ _ List.mem_cons_self
      refine ⟨rwRefs rw_, ha, ?_, hlt, F4, N ++ [(b, ws)], rw_ ++ [(b, ds)], ?_, smF, ?_, by rw [List.length_append, hrl]; rfl⟩
      · unfold rwRefs
        rw [List.length_map, hrl]
        omega
      · refine n6.add0 (by rw [hide_shw hn]; exact okb) nb ?_ n0b (reps_sc e3 rs)
        rw [shw_out nb]
        exact hb
      · rw [List.map_append, hrw, List.take_succ, e1]
        rfl
    · have e : r = items.length := by omega
      subst e
      refine .inl ⟨dw.stops Hi (sm.trans sH), Dn, Fi, _, rw_, N, k, n.set i (.opq Dn), ?_, q.at (ex1.ff.trans sm)⟩
      rw [← hlen, List.take_length] at hrw
      have z := hk Dn (rw_.map (·.1)) (by rw [List.length_map, hrl, hlen])
      rw [← zip_rw hrw] at z
      exact z
end
end DL

set_option maxHeartbeats 4000000
/-! DL part O: the check that mini syntax and the text's syntax agree. -/
namespace DL
open PySem PySem.Spec PyProof.Rows L2

structure Glb where
  N : List Str
  fn : List (Str × Bool × Nat)
  gl : List Str
  bl : List Str
  nm : Str
  kf : List (Option (Str × Dk))
def okName (x : Str) : Bool := !(x == ("__debug__" : Str)) && !(x == ("__classdict__" : Str)) && !decide (x = "__name__")
def locN (G : Glb) (sc : Scope) (i : Nat) (x : Str) : Bool := decide (G.N[i]? = some x) && okName x && (match sc.names.lookup x with
  | some .local => true
  | some .cell => true
  | some .free => true
  | _ => false)
def stoN (G : Glb) (sc : Scope) (i : Nat) (x : Str) : Bool := decide (G.N[i]? = some x) && okName x && (match sc.names.lookup x with
  | some .local => true
  | some .cell => true
  | _ => false)
def gloN (sc : Scope) (x : Str) : Bool := okName x && (match sc.names.lookup x with
  | some .globalImplicit => true
  | _ => false)
def bltN (G : Glb) (sc : Scope) (x : Str) : Bool := gloN sc x && decide (x ∈ G.bl)
def bfName : Bf → Option Str
  | .len => some "len"
  | .int => some "int"
  | .abs => some "abs"
  | .max => some "max"
  | .min => some "min"
  | .list => some "list"
  | .rngO => some "range"
  | .dctO => some "dict"
  | .tuple => some "tuple"
  | .sorted => some "sorted"
  | .srtP => some "sorted"
  | .maxP => some "max"
  | .minP => some "min"
  | .sum => some "sum"
  | .all => some "all"
  | .any => some "any"
  | _ => none
def chkTgs (G : Glb) (sc : Scope) : List Nat → List Expr → Bool
  | [], [] => true
  | i :: is, .Name x _ :: es => stoN G sc i x && chkTgs G sc is es
  | _, _ => false
def chkT (G : Glb) (sc : Scope) : Tg → Expr → Bool
  | .nm i, .Name x _ => stoN G sc i x
  | .tp is, .Tuple es _ _ => chkTgs G sc is es
  | _, _ => false
def ownOf (G : Glb) (vs : List Nat) : List (Str × Nat) := vs.map fun i => (G.N.getD i Str.empty, i)
/-- the names of a comprehension's scope, against the scope around -/
def blkB (G : Glb) (sc scope : Scope) (own : List (Str × Nat)) : Bool := blkC G.N sc scope own
def noIte : Expr → Bool
  | .IfExp .. => false
  | _ => true
def noCall : Expr → Bool
  | .Call _ (_ :: _) _ _ => true
  | .Call .. => false
  | _ => true
abbrev CkE := Expr → Bool
abbrev CkEs := List Expr → Bool
abbrev CkO := Option Expr → Bool
def cName (p : Str → Bool) : CkE := fun e => match e with
  | .Name x _ => p x
  | _ => false
def cCon (p : Const → Bool) : CkE := fun e => match e with
  | .Constant k _ _ => p k
  | _ => false
def cUn (p : UnaryOp → Bool) (a : CkE) : CkE := fun e => match e with
  | .UnaryOp o e _ => p o && a e
  | _ => false
def cBin (o : Operator) (a b : CkE) : CkE := fun e => match e with
  | .BinOp e o' f _ => decide (o = o') && (a e && b f)
  | _ => false
def cCmp (o : CmpOp) (a b : CkE) : CkE := fun e => match e with
  | .Compare e [o'] [f] _ => decide (o = o') && (!behindInMarks o f && (a e && b f))
  | _ => false
def cChn (o1 o2 : CmpOp) (a b c : CkE) : CkE := fun e => match e with
  | .Compare e [o1', o2'] [f, g] _ => decide (o1 = o1') && (decide (o2 = o2') && (!lastMarks [o1, o2] [f, g] && (a e && (b f && c g))))
  | _ => false
def cBool (o : BoolOp) (a b : CkE) : CkE := fun e => match e with
  | .BoolOp o' (e :: f :: rest) p => decide (o = o') && ((noIte e && noIte f) && (a e && b (match rest with
    | [] => f
    | _ :: _ => .BoolOp o (f :: rest) p)))
  | _ => false
def cIte (t a b : CkE) : CkE := fun e => match e with
  | .IfExp e f g _ => noIte e && (t e && (a f && b g))
  | _ => false
def cTup (es : CkEs) : CkE := fun e => match e with
  | .Tuple fs _ _ => es fs
  | _ => false
def cLst (es : CkEs) : CkE := fun e => match e with
  | .List fs _ => es fs
  | _ => false
def cIdx (a i : CkE) : CkE := fun e => match e with
  | .Subscript e f _ => a e && i f
  | _ => false
def cSlc (a : CkE) (lo hi : CkO) : CkE := fun e => match e with
  | .Subscript e (.Slice l h none _) _ => a e && (lo l && hi h)
  | _ => false
def cCall (G : Glb) (sc : Scope) (f : Nat) (es : CkEs) : CkE := fun e => match e with
  | .Call (.Name x _) fs [] _ => gloN sc x && ((match G.fn[f]?, G.kf[f]? with
    | some (y, tp, _), some none => decide (x = y) && !tp
    | _, _ => false) && es fs)
  | _ => false
def cTape (G : Glb) (sc : Scope) (f i : Nat) (es : CkEs) : CkE := fun e => match e with
  | .Call (.Name x _) (.Name y _ :: fs) [] _ => gloN sc x && ((match G.fn[f]?, G.kf[f]? with
    | some (z, tp, _), some none => decide (x = z) && tp
    | _, _ => false) && (locN G sc i y && es fs))
  | _ => false
def cCallK (G : Glb) (sc : Scope) (f : Nat) (es : CkEs) (a : CkE) : CkE := fun e => match e with
  | .Call (.Name x _) (f0 :: fs) [⟨some k, g, _⟩] _ => gloN sc x && ((match G.fn[f]?, G.kf[f]? with
    | some (y, tp, _), some (some (k', _)) => decide (x = y) && (!tp && decide (k = k'))
    | _, _ => false) && (es (f0 :: fs) && a g))
  | _ => false
def cCallD (G : Glb) (sc : Scope) (f : Nat) (d : Dk) (es : CkEs) : CkE := fun e => match e with
  | .Call (.Name x _) (f0 :: fs) [] _ => gloN sc x && ((match G.fn[f]?, G.kf[f]? with
    | some (y, tp, _), some (some (_, d')) => decide (x = y) && (!tp && decide (d = d'))
    | _, _ => false) && es (f0 :: fs))
  | _ => false
def cIs (G : Glb) (sc : Scope) (t : String) (es : CkEs) : CkE := fun e => match e with
  | .Call (.Name x _) [f, .Name y _] [] _ => decide (x = "isinstance") && (decide (y = Str.ofString t) && (bltN G sc x && (bltN G sc y && es [f])))
  | _ => false
def cBf (G : Glb) (sc : Scope) (b : Bf) (es : CkEs) : CkE := fun e => match e with
  | .Call (.Name x _) (f :: fs) [] _ => decide (bfName b = some x) && (bltN G sc x && es (f :: fs))
  | _ => false
def bfDn : Bf → Option Str
  | .maxD => some "max"
  | .minD => some "min"
  | _ => none
def cBfD (G : Glb) (sc : Scope) (x : Str) (es : CkEs) : CkE := fun e => match e with
  | .Call (.Name y _) [f] [⟨some k, g, _⟩] _ => decide (y = x) && (decide (k = "default") && (bltN G sc x && es [f, g]))
  | _ => false
def cMth0 (m : Str) (r : CkE) : CkE := fun e => match e with
  | .Call (.Attribute e x p) [] [] q => decide (x = m) && (p.endLine == q.line && (noCall e && r e))
  | _ => false
def cMth1 (m : Str) (r a : CkE) : CkE := fun e => match e with
  | .Call (.Attribute e x p) [f] [] q => decide (x = m) && (p.endLine == q.line && (noCall e && (r e && a f)))
  | _ => false
def cMth2 (m : Str) (r a b : CkE) : CkE := fun e => match e with
  | .Call (.Attribute e x p) [f, g] [] q => decide (x = m) && (p.endLine == q.line && (noCall e && (r e && (a f && b g))))
  | _ => false
/-- forms of their own -/
def bfSp : Bf → Bool
  | .tupRev => true
  | .revL => true
  | .srtR => true
  | .tupRng => true
  | .srtK => true
  | .minK => true
  | _ => false
def cTupOf (G : Glb) (sc : Scope) (z : Str) (es : CkEs) : CkE := fun e => match e with
  | .Call (.Name x _) [.Call (.Name y _) [f] [] _] [] _ => decide (x = "tuple") && (decide (y = z) && (bltN G sc x && (bltN G sc y && es [f])))
  | _ => false
def cRevL (es : CkEs) : CkE := fun e => match e with
  | .Subscript f (.Slice none none (some (.UnaryOp .USub (.Constant (.int n) _ _) _)) _) _ => decide (n = 1) && es [f]
  | _ => false
def cSrtR (G : Glb) (sc : Scope) (es : CkEs) : CkE := fun e => match e with
  | .Call (.Name x _) [f] [⟨some k, .Constant (.bool b) _ _, _⟩] _ => decide (x = "sorted") && (decide (k = "reverse") && (b && (bltN G sc x && es [f])))
  | _ => false
def par1B (x : Str) : Arguments → Bool
  | ⟨[], [⟨y, _, _⟩], none, [], [], none, []⟩ => decide (y = x)
  | _ => false
def cSrtK (G : Glb) (sc : Scope) (es : CkEs) : CkE := fun e => match e with
  | .Call (.Name x _) [f] [⟨some k, .Lambda ps body sc2 _, _⟩] _ => decide (x = "sorted") && (decide (k = "key") && (decide (G.nm ∈ lamX) && (par1B "pair" ps && (keyBody "pair" body && (lamScB "pair" sc2 && (bltN G sc x && es [f]))))))
  | _ => false
def cMinK (G : Glb) (sc : Scope) (es : CkEs) : CkE := fun e => match e with
  | .Call (.Name x _) [f] [⟨some k, .Lambda ps body sc2 _, _⟩] _ => decide (x = "min") && (decide (k = "key") && (decide (G.nm ∈ lamX) && (par1B "row" ps && (keyBody2 "row" body && (lamScB "row" sc2 && (bltN G sc x && es [f]))))))
  | _ => false
def chkSp (G : Glb) (sc : Scope) (b : Bf) (es : CkEs) : CkE := match b with
  | .tupRev => cTupOf G sc "reversed" es
  | .tupRng => cTupOf G sc "range" es
  | .revL => cRevL es
  | .srtR => cSrtR G sc es
  | .srtK => cSrtK G sc es
  | .minK => cMinK G sc es
  | _ => fun _ => false
def cPop (G : Glb) (sc : Scope) (i : Nat) (a : CkE) : CkE := fun e => match e with
  | .Call (.Attribute (.Name x _) y p) [e] [] q => decide (y = "pop") && (p.endLine == q.line && (locN G sc i x && a e))
  | _ => false
def cComp (G : Glb) (sc : Scope) (vs : List Nat) (t : Tg) (it : CkE) (elt : Scope → CkE) (c : Scope → CkO) : CkE := fun e => match e with
  | .ListComp e [⟨tg, iter, ifs, 0⟩] scope _ => blkB G sc scope (ownOf G vs) && (tgIn t vs && (chkT G scope t tg && (it iter && (elt scope e && (match ifs with
    | [] => c scope none
    | [f] => noIte f && c scope (some f)
    | _ => false)))))
  | _ => false
def cComp2 (G : Glb) (sc : Scope) (vs vs1 : List Nat) (t t1 : Tg) (it : CkE) (it1 : Scope → CkE) (elt : Scope → CkE) (c : Scope → CkO) : CkE := fun e => match e with
  | .ListComp e [⟨tg, iter, [], 0⟩, ⟨tg1, iter1, ifs, 0⟩] scope _ => blkB G sc scope (ownOf G vs) && (tgIn t vs && (tgIn t1 vs1 && (vs1.all (vs.contains ·) && (chkT G scope t tg && (chkT G scope t1 tg1 && (it iter && (it1 scope iter1 && (elt scope e && (match ifs with
    | [] => c scope none
    | [f] => noIte f && c scope (some f)
    | _ => false)))))))))
  | _ => false
def cCons (a : CkE) (as : CkEs) : CkEs := fun es => match es with
  | e :: es => a e && as es
  | [] => false
def cYes (a : CkE) : CkO := fun e => match e with
  | some e => a e
  | none => false
def cRng (G : Glb) (sc : Scope) (a : CkE) : CkE := fun e => match e with
  | .Call (.Name x _) [f] [] _ => decide (x = "range") && (bltN G sc x && a f)
  | _ => false
def cRng2 (G : Glb) (sc : Scope) (a b : CkE) : CkE := fun e => match e with
  | .Call (.Name x _) [f, g] [] _ => decide (x = "range") && (bltN G sc x && (a f && b g))
  | _ => false
def isTp : Tg → Bool
  | .tp _ => true
  | _ => false
def cEnum (G : Glb) (sc : Scope) (a : CkE) : CkE := fun e => match e with
  | .Call (.Name x _) [f] [] _ => decide (x = "enumerate") && (bltN G sc x && a f)
  | _ => false
def cZip (G : Glb) (sc : Scope) (a b : CkE) : CkE := fun e => match e with
  | .Call (.Name x _) [f, g] [] _ => decide (x = "zip") && (bltN G sc x && (a f && b g))
  | _ => false
mutual
def chkE (G : Glb) (sc : Scope) : E → CkE
  | .var i => cName (locN G sc i)
  | .brw i => cName (locN G sc i)
  | .int n => cCon fun k => match k with
    | .int m => decide (n = m)
    | _ => false
  | .bl n => cCon fun k => match k with
    | .bool m => decide (n = m)
    | _ => false
  | .non => cCon fun k => match k with
    | .none => true
    | _ => false
  | .str n => cCon fun k => match k with
    | .str m => decide (n = m)
    | _ => false
  | .glob k => cName fun x => decide (G.gl[k]? = some x) && gloN sc x
  | .un o a => cUn (fun o' => decide (o = o') && !decide (o' = .Not)) (chkE G sc a)
  | .not a => cUn (fun o => decide (o = .Not)) fun e => noIte e && chkE G sc a e
  | .bin o a b => cBin o (chkE G sc a) (chkE G sc b)
  | .cmp o a b => cCmp o (chkE G sc a) (chkE G sc b)
  | .chn o1 o2 a b c => cChn o1 o2 (chkE G sc a) (chkE G sc b) (chkE G sc c)
  | .and a b => cBool .And (chkE G sc a) (chkE G sc b)
  | .or a b => cBool .Or (chkE G sc a) (chkE G sc b)
  | .ite t a b => cIte (chkE G sc t) (chkE G sc a) (chkE G sc b)
  | .tup es => cTup (chkEs G sc es)
  | .lst es => cLst (chkEs G sc es)
  | .idx a i => cIdx (chkE G sc a) (chkE G sc i)
  | .slc a lo hi => cSlc (chkE G sc a) (chkOe G sc lo) (chkOe G sc hi)
  | .call f none es => cCall G sc f (chkEs G sc es)
  | .call f (some i) es => cTape G sc f i (chkEs G sc es)
  | .bf b es => (match isTy b with
    | some t => cIs G sc t (chkEs G sc es)
    | none => (match bfDn b with
      | some x => cBfD G sc x (chkEs G sc es)
      | none => (if bfSp b = true then chkSp G sc b (chkEs G sc es) else cBf G sc b (chkEs G sc es))))
  | .mth .bitLength r .nil => cMth0 "bit_length" (chkE G sc r)
  | .mth .index r (.cons a .nil) => cMth1 "index" (chkE G sc r) (chkE G sc a)
  | .mth .count r (.cons a .nil) => cMth1 "count" (chkE G sc r) (chkE G sc a)
  | .mth .get r (.cons a (.cons b .nil)) => cMth2 "get" (chkE G sc r) (chkE G sc a) (chkE G sc b)
  | .mth _ _ _ => fun _ => false
  | .pop i a => cPop G sc i (chkE G sc a)
  | .comp elt t it c vs => cComp G sc vs t (chkIt G sc t it) (fun sc' => chkE G sc' elt) fun sc' => chkOe G sc' c
  | .callK f es e => cCallK G sc f (chkEs G sc es) (chkE G sc e)
  | .callD f d es => cCallD G sc f d (chkEs G sc es)
  | .comp2 elt t it t1 it1 c vs vs1 => cComp2 G sc vs vs1 t t1 (chkIt G sc t it) (fun sc' => chkIt G sc' t1 it1) (fun sc' => chkE G sc' elt) fun sc' => chkOe G sc' c
def chkEs (G : Glb) (sc : Scope) : Es → CkEs
  | .nil => List.isEmpty
  | .cons e es => cCons (chkE G sc e) (chkEs G sc es)
def chkOe (G : Glb) (sc : Scope) : Oe → CkO
  | .no => Option.isNone
  | .yes e => cYes (chkE G sc e)
def chkIt (G : Glb) (sc : Scope) (t : Tg) : It → CkE
  | .val e => chkE G sc e
  | .rng a => cRng G sc (chkE G sc a)
  | .rng2 a b => cRng2 G sc (chkE G sc a) (chkE G sc b)
  | .enum a => fun e => isTp t && cEnum G sc (chkE G sc a) e
  | .zip a b => fun e => isTp t && cZip G sc (chkE G sc a) (chkE G sc b) e
  | .rev _ => fun _ => false
end
def isComp : Expr → Bool
  | .ListComp .. => true
  | .SetComp .. => true
  | .DictComp .. => true
  | _ => false
abbrev CkS := Stmt → Bool
abbrev CkSs := List Stmt → Bool
def notTup : Expr → Bool
  | .Tuple .. => false
  | _ => true
def sAsg (p : Str → Bool) (e : CkE) : CkS := fun s => match s with
  | .Assign [.Name x _] f _ => p x && e f
  | _ => false
def sTup (p : List Expr → Bool) (e : CkE) : CkS := fun s => match s with
  | .Assign [.Tuple es _ _] f _ => p es && (!isComp f && (notTup f && e f))
  | _ => false
def sAug (o : Operator) (p : Str → Bool) (e : CkE) : CkS := fun s => match s with
  | .AugAssign (.Name x _) o' f _ => decide (o = o') && (p x && e f)
  | _ => false
def sMth (m : Str) (p : Str → Bool) (e : CkE) : CkS := fun s => match s with
  | .Expr (.Call (.Attribute (.Name x _) y a) [f] [] q) _ => decide (y = m) && (a.endLine == q.line && (p x && e f))
  | _ => false
def sPut (p : Str → Bool) (ix e : CkE) : CkS := fun s => match s with
  | .Assign [.Subscript (.Name x _) g _] f _ => p x && (ix g && (!isComp f && e f))
  | _ => false
def sExpr (e : CkE) : CkS := fun s => match s with
  | .Expr f _ => !isComp f && e f
  | _ => false
def sRet (e : CkO) : CkS := fun s => match s with
  | .Return f _ => e f
  | _ => false
def sIf (t : CkE) (a b : CkSs) : CkS := fun s => match s with
  | .If e f g _ => noIte e && (t e && (a f && b g))
  | _ => false
def sWhl (t : CkE) (b : CkSs) : CkS := fun s => match s with
  | .While e f [] _ => noIte e && (t e && b f)
  | _ => false
def sFor (t it : CkE) (b : CkSs) : CkS := fun s => match s with
  | .For tg iter f [] _ => t tg && (it iter && b f)
  | _ => false
def sBrk : CkS := fun s => match s with
  | .Break _ => true
  | _ => false
def sCnt : CkS := fun s => match s with
  | .Continue _ => true
  | _ => false
def sPas : CkS := fun s => match s with
  | .Pass _ => true
  | _ => false
def sCons (a : CkS) (as : CkSs) : CkSs := fun ss => match ss with
  | s :: ss => a s && as ss
  | [] => false
def sAls (p q : Str → Bool) (ix : CkE) : CkS := fun s => match s with
  | .Assign [.Name y _] (.Subscript (.Name x _) g _) _ => p y && (q x && ix g)
  | _ => false
def sAsgP (p : Str → Bool) (e : CkE) : CkS := fun s => match s with
  | .Assign [.Name x _] f _ => p x && (!isComp f && e f)
  | _ => false
def sNew (p : Str → Bool) : CkS := fun s => match s with
  | .Assign [.Name x _] (.List [] _) _ => p x
  | _ => false
def sAug2 (o : Operator) (q : Str → Bool) (re ce ve : CkE) : CkS := fun s => match s with
  | .AugAssign (.Subscript (.Subscript (.Name x _) f _) g _) o' h _ => decide (o = o') && (q x && (re f && (ce g && ve h)))
  | _ => false
/-- [list(r) for r in e] -/
def cpyE (j : Nat) (e : E) : E := .comp (.bf .list (.cons (.var j) .nil)) (.nm j) (.val e) .no [j]
mutual
def chkS (G : Glb) (sc : Scope) : S → CkS
  | .asg (.nm i) e => sAsg (stoN G sc i) (chkE G sc e)
  | .asg (.tp is) e => sTup (chkTgs G sc is) (chkE G sc e)
  | .own i e => sAsg (stoN G sc i) (chkE G sc e)
  | .aug i o e => sAug o (stoN G sc i) (chkE G sc e)
  | .app i e => sMth "append" (locN G sc i) (chkE G sc e)
  | .ext i e => sMth "extend" (locN G sc i) (chkE G sc e)
  | .put i ix e => sPut (locN G sc i) (chkE G sc ix) (chkE G sc e)
  | .frz _ => fun _ => false
  | .expr e => sExpr (chkE G sc e)
  | .ret e => sRet (cYes (chkE G sc e))
  | .retO i => sRet (cYes (cName (locN G sc i)))
  | .retN => sRet Option.isNone
  | .ifs t a b => sIf (chkE G sc t) (chkSs G sc a) (chkSs G sc b)
  | .whl t b => sWhl (chkE G sc t) (chkSs G sc b)
  | .fors t it b => sFor (chkT G sc t) (chkIt G sc t it) (chkSs G sc b)
  | .brk => sBrk
  | .cnt => sCnt
  | .pas => sPas
  | .nev => fun _ => true
  | .nest _ _ _ _ => fun _ => false
def chkSs (G : Glb) (sc : Scope) : Ss → CkSs
  | .nil => List.isEmpty
  | .cons (.frz _) ss => chkSs G sc ss
  | .cons (.nest i j e b) ss => sCons (match e with
      | none => sNew (stoN G sc i)
      | some e => sAsg (stoN G sc i) (chkE G sc (cpyE j e))) (chkNs G sc i b (chkSs G sc ss))
  | .cons s ss => sCons (chkS G sc s) (chkSs G sc ss)
def chkN (G : Glb) (sc : Scope) (i : Nat) : Nt → CkS
  | .st s => chkS G sc s
  | .appO j => sMth "append" (locN G sc i) (cName (locN G sc j))
  | .als j ie => sAls (stoN G sc j) (locN G sc i) (chkE G sc ie)
  | .putA j _ ie ve => sPut (locN G sc j) (chkE G sc ie) (chkE G sc ve)
  | .aug2 o re ce ve => sAug2 o (locN G sc i) (chkE G sc re) (chkE G sc ce) (chkE G sc ve)
  | .asgL j e => sAsgP (stoN G sc j) (chkE G sc e)
  | .ifs t a b => sIf (chkE G sc t) (chkNs G sc i a List.isEmpty) (chkNs G sc i b List.isEmpty)
  | .fors t it b => sFor (chkT G sc t) (chkIt G sc t it) (chkNs G sc i b List.isEmpty)
def chkNs (G : Glb) (sc : Scope) (i : Nat) : Ns → CkSs → CkSs
  | .nil, k => k
  | .cons n ns, k => sCons (chkN G sc i n) (chkNs G sc i ns k)
end
end DL

set_option maxHeartbeats 8000000
/-! DL part P: the mini syntax's meaning is the text's. Expressions. -/
namespace DL
open PySem PySem.Spec PyProof.Rows L2

structure Good (G : Glb) (C : List D) (Γ : Nat → FSpec) (sc : Scope) (X : Cx) : Prop where
  nN : X.N = G.N
  nd : G.N.Nodup
  calm : X.calm = true
  un : X.A.units + 70 < cLine
  kd : X.env.scope.kind = .function
  lo : ∀ x, sc.names.lookup x = some .local → X.env.scope.names.lookup x = some .local
  ce : ∀ x, sc.names.lookup x = some .cell → X.env.scope.names.lookup x = some .cell ∧ X.fn x = true
  fr : ∀ x, sc.names.lookup x = some .free → X.env.scope.names.lookup x = some .cell ∨ X.env.scope.names.lookup x = some .free
  gi : ∀ x, sc.names.lookup x = some .globalImplicit → X.env.scope.names.lookup x = some .globalImplicit
  fns : ∀ (k : Nat) (x : Str) (tp : Bool) (np : Nat), G.fn[k]? = some (x, tp, np) → G.kf[k]? = some none → FnAt X x (Γ k) tp np
  fnk : ∀ (k : Nat) (x : Str) (np : Nat) (kn : Str) (dk : Dk), G.fn[k]? = some (x, false, np) → G.kf[k]? = some (some (kn, dk)) → FnAtK X x (Γ k) np kn dk.d
  gls : ∀ (k : Nat) (x : Str) (d : D), G.gl[k]? = some x → C[k]? = some d → ∃ u v, X.mg x = some u ∧ RelV v u ∧ ∀ F, Rep X.K F v d
  bls : ∀ x ∈ G.bl, X.mg x = none
  lam : G.nm ∈ lamX → LamAt X G.nm
section
variable {G : Glb} {C : List D} {Γ : Nat → FSpec} {sc scope : Scope} {X : Cx} {x : Str} {i : Nat}
theorem and2 {a b : Bool} (h : (a && b) = true) : a = true ∧ b = true := Bool.and_eq_true_iff.mp h
theorem okName_of (h : okName x = true) : (x == ("__debug__" : Str)) = false ∧ (x == ("__classdict__" : Str)) = false ∧ x ≠ "__name__" := by
  unfold okName at h
  obtain ⟨h1, h3⟩ := and2 h
  obtain ⟨h1, h2⟩ := and2 h1
  refine ⟨by simpa using h1, by simpa using h2, by simpa using h3⟩
theorem Good.loc (g : Good G C Γ sc X) (h : locN G sc i x = true) : X.N[i]? = some x ∧ Vis X.env.scope x ∧ (x == ("__debug__" : Str)) = false ∧ (x == ("__classdict__" : Str)) = false := by
  unfold locN at h
  obtain ⟨h1, h3⟩ := and2 h
  obtain ⟨h1, h2⟩ := and2 h1
  obtain ⟨n1, n2, _⟩ := okName_of h2
  refine ⟨by rw [g.nN]; exact of_decide_eq_true h1, ?_, n1, n2⟩
  split at h3
  · next e => exact .inl (g.lo x e)
  · next e => exact .inr (.inl (g.ce x e).1)
  · next e =>
    rcases g.fr x e with z | z
    · exact .inr (.inl z)
    · exact .inr (.inr z)
  · cases h3
theorem Good.sto (g : Good G C Γ sc X) (h : stoN G sc i x = true) : X.N[i]? = some x ∧ Loc X.env.scope x ∧ (X.fn x = true ∨ X.env.scope.names.lookup x = some .local) ∧ (x == ("__debug__" : Str)) = false ∧ (x == ("__classdict__" : Str)) = false := by
  unfold stoN at h
  obtain ⟨h1, h3⟩ := and2 h
  obtain ⟨h1, h2⟩ := and2 h1
  obtain ⟨n1, n2, _⟩ := okName_of h2
  have hN : X.N[i]? = some x := by rw [g.nN]; exact of_decide_eq_true h1
  split at h3
  · next e => exact ⟨hN, .inl (g.lo x e), .inr (g.lo x e), n1, n2⟩
  · next e => exact ⟨hN, .inr (g.ce x e).1, .inl (g.ce x e).2, n1, n2⟩
  · cases h3
theorem Good.glo (g : Good G C Γ sc X) (h : gloN sc x = true) : Gl X x ∧ (x == ("__debug__" : Str)) = false ∧ x ≠ "__name__" := by
  unfold gloN at h
  obtain ⟨h1, h3⟩ := and2 h
  obtain ⟨n1, _, n3⟩ := okName_of h1
  split at h3
  · next e => exact ⟨g.gi x e, n1, n3⟩
  · cases h3
theorem Good.blt (g : Good G C Γ sc X) (h : bltN G sc x = true) : Gl X x ∧ X.mg x = none ∧ (x == ("__debug__" : Str)) = false ∧ x ≠ "__name__" := by
  unfold bltN at h
  obtain ⟨h1, h2⟩ := and2 h
  obtain ⟨z1, z2, z3⟩ := g.glo h1
  exact ⟨z1, g.bls x (of_decide_eq_true h2), z2, z3⟩
theorem Good.ndX (g : Good G C Γ sc X) : X.N.Nodup := by rw [g.nN]; exact g.nd
theorem Good.var (g : Good G C Γ sc X) (h : locN G sc i x = true) {p : Pos} : PE X (.Name x p) (tVar i) := by
  obtain ⟨h1, h2, h3, h4⟩ := g.loc h
  exact pe_var h1 h2 h3 h4
/-! a comprehension's scope -/
theorem lookup_free {sc : Scope} : ∀ {names : List (Str × NameKind)} {x : Str}, names.lookup x = some .free →
    (names.map fun (n, k) => if (k == NameKind.free && sc.kind == .function && sc.names.lookup n == some .cell) then (n, NameKind.cell) else (n, k)).lookup x = some .cell ∨
    (names.map fun (n, k) => if (k == NameKind.free && sc.kind == .function && sc.names.lookup n == some .cell) then (n, NameKind.cell) else (n, k)).lookup x = some .free
  | [], _, h => nomatch h
  | (n, k) :: r, x, h => by
    have ih := @lookup_free sc r x
    rw [List.map_cons]
    have hd : ∀ q : Str × NameKind, q.1 = n → (x == n) = true → List.lookup x (q :: (r.map fun (n, k) => if (k == NameKind.free && sc.kind == .function && sc.names.lookup n == some .cell) then (n, NameKind.cell) else (n, k))) = some q.2 := fun q e hx => by
      obtain ⟨a, b⟩ := q
      have e' : a = n := e
      subst e'
      rw [List.lookup_cons, hx]
    have tl : ∀ q : Str × NameKind, q.1 = n → (x == n) = false → List.lookup x (q :: (r.map fun (n, k) => if (k == NameKind.free && sc.kind == .function && sc.names.lookup n == some .cell) then (n, NameKind.cell) else (n, k))) = List.lookup x (r.map fun (n, k) => if (k == NameKind.free && sc.kind == .function && sc.names.lookup n == some .cell) then (n, NameKind.cell) else (n, k)) := fun q e hx => by
      obtain ⟨a, b⟩ := q
      have e' : a = n := e
      subst e'
      rw [List.lookup_cons, hx]
    by_cases hc : (k == NameKind.free && sc.kind == .function && sc.names.lookup n == some .cell) = true
    · rw [show (match ((n, k) : Str × NameKind) with | (n, k) => if (k == NameKind.free && sc.kind == .function && sc.names.lookup n == some .cell) = true then (n, NameKind.cell) else (n, k)) = (n, NameKind.cell) from if_pos hc]
      cases hx : x == n with
      | true => exact .inl (hd _ rfl hx)
      | false =>
        rw [List.lookup_cons, hx] at h
        rw [tl _ rfl hx]
        exact ih h
    · rw [show (match ((n, k) : Str × NameKind) with | (n, k) => if (k == NameKind.free && sc.kind == .function && sc.names.lookup n == some .cell) = true then (n, NameKind.cell) else (n, k)) = (n, k) from if_neg hc]
      cases hx : x == n with
      | true =>
        rw [List.lookup_cons, hx] at h
        cases h
        exact .inr (hd _ rfl hx)
      | false =>
        rw [List.lookup_cons, hx] at h
        rw [tl _ rfl hx]
        exact ih h
theorem Good.blk (g : Good G C Γ sc X) (hk : scope.kind = .function) (s : Shared) (H : Hp) (Cc : Addr) (cl : List (Str × Addr)) (fp : List Addr) : Good G C Γ scope (X.blk s H scope (compEnvC scope cl Cc X.env) fp) where
  nN := g.nN
  nd := g.nd
  calm := g.calm
  un := g.un
  kd := hk
  lo := fun x h => lookup_relS_keep (sc := X.env.scope) (fun z => nomatch z) h
  ce := fun x h => ⟨lookup_relS_keep (sc := X.env.scope) (fun z => nomatch z) h, by
    show (scope.names.lookup x == some .cell) = true
    rw [h]
    rfl⟩
  fr := fun x h => lookup_free (sc := X.env.scope) h
  gi := fun x h => lookup_relS_keep (sc := X.env.scope) (fun z => nomatch z) h
  fns := fun k x tp np h e => ⟨(g.fns k x tp np h e).ar, (g.fns k x tp np h e).at_⟩
  fnk := fun k x np kn dk h e => ⟨(g.fnk k x np kn dk h e).ar, (g.fnk k x np kn dk h e).at_⟩
  gls := g.gls
  bls := g.bls
  lam := fun h => ⟨(g.lam h).mem, (g.lam h).cd, (g.lam h).qual, (g.lam h).nd, (g.lam h).dp⟩
theorem Good.blkOk (g : Good G C Γ sc X) {own : List (Str × Nat)} (h : blkC G.N sc scope own = true) : BlkOk X.N X.env.scope scope own := by
  have z := blkOk_by h
  refine ⟨z.kind, z.uniq, fun p hp => by rw [g.nN]; exact z.ix p hp, fun y hy e => ?_, fun y hy e => by rw [g.nN]; exact z.own y hy e⟩
  rcases z.free y hy e with q | q
  · exact .inl (g.ce _ q).1
  · exact g.fr _ q
/-! targets -/
theorem tgs_ok (g : Good G C Γ sc X) : ∀ {is : List Nat} {es : List Expr}, chkTgs G sc is es = true → PGs X es (gNs is) ∧ (assignEach es X.env).length = is.length ∧ (assignEach es X.env).findIdx? (·.1) = none
  | [], [], _ => ⟨pgs_nil, rfl, rfl⟩
  | i :: is, .Name x p :: es, h => by
    obtain ⟨h1, h2⟩ := and2 (show (stoN G sc i x && chkTgs G sc is es) = true from h)
    obtain ⟨a, b, c, _, _⟩ := g.sto h1
    obtain ⟨r1, r2, r3⟩ := tgs_ok g h2
    refine ⟨pgs_cons (pg_name g.ndX a b c) r1 rfl, congrArg (· + 1) r2, ?_⟩
    show List.findIdx? _ ((false, assign (.Name x p) X.env) :: assignEach es X.env) = none
    rw [List.findIdx?_cons, r3]
    rfl
  | [], _ :: _, h => nomatch h
  | _ :: _, [], h => nomatch h
theorem tg_ok (g : Good G C Γ sc X) {t : Tg} {e : Expr} (h : chkT G sc t e = true) : PG X e (gB X.K t) := by
  cases t with
  | nm i =>
    cases e with
    | Name x p =>
      obtain ⟨a, b, c, _, _⟩ := g.sto h
      exact pg_name g.ndX a b c
    | _ => exact absurd h Bool.false_ne_true
  | tp is =>
    cases e with
    | Tuple es k p =>
      obtain ⟨r1, r2, r3⟩ := tgs_ok g h
      exact pg_tup g.calm r1 r2 r3
    | _ => exact absurd h Bool.false_ne_true
end
end DL

set_option maxHeartbeats 16000000
/-! DL part Q: the mini syntax's meaning is the text's: the master theorem for expressions. -/
namespace DL
open PySem PySem.Spec PyProof.Rows L2
section
variable {G : Glb} {C : List D} {Γ : Nat → FSpec}
abbrev wB (C : List D) (Γ : Nat → FSpec) (a : E) : WB := wpB C Γ noR a
/-- a form that no node takes -/
theorem chk_no {sc : Scope} {a : E} {e : Expr} (hn : (∀ p, cName p e = false) ∧ (∀ p, cCon p e = false) ∧ (∀ p a, cUn p a e = false) ∧ (∀ o a b, cBin o a b e = false) ∧ (∀ o a b, cCmp o a b e = false) ∧ (∀ o p a b d, cChn o p a b d e = false) ∧
    (∀ o a b, cBool o a b e = false) ∧ (∀ t a b, cIte t a b e = false) ∧ (∀ es, cTup es e = false) ∧ (∀ es, cLst es e = false) ∧ (∀ a b, cIdx a b e = false) ∧ (∀ a l h, cSlc a l h e = false) ∧ (∀ f es, cCall G sc f es e = false) ∧ (∀ f i es, cTape G sc f i es e = false) ∧
    (∀ t es, cIs G sc t es e = false) ∧ (∀ b es, cBf G sc b es e = false) ∧ (∀ m r, cMth0 m r e = false) ∧ (∀ i a, cPop G sc i a e = false) ∧ (∀ vs t i a b, cComp G sc vs t i a b e = false) ∧ (∀ x es, cBfD G sc x es e = false) ∧ (∀ b es, chkSp G sc b es e = false) ∧ (∀ m a b, cMth1 m a b e = false) ∧ (∀ m a b d, cMth2 m a b d e = false) ∧ (∀ f es a, cCallK G sc f es a e = false) ∧ (∀ f d es, cCallD G sc f d es e = false) ∧ (∀ vs vs1 t t1 i i1 a b, cComp2 G sc vs vs1 t t1 i i1 a b e = false)) (h : chkE G sc a e = true) : False := by
  obtain ⟨n1, n2, n3, n4, n5, n6, n7, n8, n9, n10, n11, n12, n13, n14, n15, n16, n17, n18, n19, n20, n21, n22, n23, n24, n25, n26⟩ := hn
  have k : ∀ {b : Bool}, b = false → b = true → False := fun e1 e2 => by
    rw [e1] at e2
    cases e2
  match a, h with
  | .var i, h => exact k (n1 _) h
  | .brw i, h => exact k (n1 _) h
  | .int n, h => exact k (n2 _) h
  | .bl n, h => exact k (n2 _) h
  | .non, h => exact k (n2 _) h
  | .str n, h => exact k (n2 _) h
  | .glob n, h => exact k (n1 _) h
  | .un o a, h => exact k (n3 _ _) h
  | .not a, h => exact k (n3 _ _) h
  | .bin o a b, h => exact k (n4 _ _ _) h
  | .cmp o a b, h => exact k (n5 _ _ _) h
  | .chn o1 o2 a b c, h => exact k (n6 _ _ _ _ _) h
  | .and a b, h => exact k (n7 _ _ _) h
  | .or a b, h => exact k (n7 _ _ _) h
  | .ite t a b, h => exact k (n8 _ _ _) h
  | .tup es, h => exact k (n9 _) h
  | .lst es, h => exact k (n10 _) h
  | .idx a b, h => exact k (n11 _ _) h
  | .slc a l hh, h => exact k (n12 _ _ _) h
  | .call f none es, h => exact k (n13 _ _) h
  | .call f (some i) es, h => exact k (n14 _ _ _) h
  | .bf b es, h =>
    have h : (match isTy b with | some t => cIs G sc t (chkEs G sc es) | none => (match bfDn b with | some x => cBfD G sc x (chkEs G sc es) | none => (if bfSp b = true then chkSp G sc b (chkEs G sc es) else cBf G sc b (chkEs G sc es)))) e = true := h
    cases et : isTy b with
    | some t =>
      rw [et] at h
      exact k (n15 _ _) h
    | none =>
      rw [et] at h
      cases ed : bfDn b with
      | some x =>
        simp only [ed] at h
        exact k (n20 _ _) h
      | none =>
        simp only [ed] at h
        split at h
        · exact k (n21 _ _) h
        · exact k (n16 _ _) h
  | .mth .bitLength r .nil, h => exact k (n17 _ _) h
  | .mth .bitLength r (.cons _ _), h => exact k rfl h
  | .mth .index r .nil, h => exact k rfl h
  | .mth .index r (.cons _ .nil), h => exact k (n22 _ _ _) h
  | .mth .index r (.cons _ (.cons _ _)), h => exact k rfl h
  | .mth .count r .nil, h => exact k rfl h
  | .mth .count r (.cons _ .nil), h => exact k (n22 _ _ _) h
  | .mth .count r (.cons _ (.cons _ _)), h => exact k rfl h
  | .mth .get r .nil, h => exact k rfl h
  | .mth .get r (.cons _ .nil), h => exact k rfl h
  | .mth .get r (.cons _ (.cons _ .nil)), h => exact k (n23 _ _ _ _) h
  | .mth .get r (.cons _ (.cons _ (.cons _ _))), h => exact k rfl h
  | .pop i a, h => exact k (n18 _ _) h
  | .comp elt t it c vs, h => exact k (n19 _ _ _ _ _) h
  | .callK f es e, h => exact k (n24 _ _ _) h
  | .callD f d es, h => exact k (n25 _ _ _) h
  | .comp2 elt t it t1 it1 c vs vs1, h => exact k (n26 _ _ _ _ _ _ _ _) h
theorem noStar {sc : Scope} {a : E} {e : Expr} {p : Pos} (h : chkE G sc a (.Starred e p) = true) : False :=
  chk_no ⟨fun _ => rfl, fun _ => rfl, fun _ _ => rfl, fun _ _ _ => rfl, fun _ _ _ => rfl, fun _ _ _ _ _ => rfl, fun _ _ _ => rfl, fun _ _ _ => rfl, fun _ => rfl, fun _ => rfl, fun _ _ => rfl, fun _ _ _ => rfl, fun _ _ => rfl, fun _ _ _ => rfl, fun _ _ => rfl, fun _ _ => rfl, fun _ _ => rfl, fun _ _ => rfl, fun _ _ _ _ _ => rfl, fun _ _ => rfl, fun b _ => by cases b <;> rfl, fun _ _ _ => rfl, fun _ _ _ _ => rfl, fun _ _ _ => rfl, fun _ _ _ => rfl, fun _ _ _ _ _ _ _ _ => rfl⟩ h
theorem noSlice {sc : Scope} {a : E} {l u st : Option Expr} {p : Pos} (h : chkE G sc a (.Slice l u st p) = true) : False :=
  chk_no ⟨fun _ => rfl, fun _ => rfl, fun _ _ => rfl, fun _ _ _ => rfl, fun _ _ _ => rfl, fun _ _ _ _ _ => rfl, fun _ _ _ => rfl, fun _ _ _ => rfl, fun _ => rfl, fun _ => rfl, fun _ _ => rfl, fun _ _ _ => rfl, fun _ _ => rfl, fun _ _ _ => rfl, fun _ _ => rfl, fun _ _ => rfl, fun _ _ => rfl, fun _ _ => rfl, fun _ _ _ _ _ => rfl, fun _ _ => rfl, fun b _ => by cases b <;> rfl, fun _ _ _ => rfl, fun _ _ _ _ => rfl, fun _ _ _ => rfl, fun _ _ _ => rfl, fun _ _ _ _ _ _ _ _ => rfl⟩ h
theorem noSetE {sc : Scope} {a : E} {es : List Expr} {k : Nat} {p : Pos} (h : chkE G sc a (.Set es k p) = true) : False :=
  chk_no ⟨fun _ => rfl, fun _ => rfl, fun _ _ => rfl, fun _ _ _ => rfl, fun _ _ _ => rfl, fun _ _ _ _ _ => rfl, fun _ _ _ => rfl, fun _ _ _ => rfl, fun _ => rfl, fun _ => rfl, fun _ _ => rfl, fun _ _ _ => rfl, fun _ _ => rfl, fun _ _ _ => rfl, fun _ _ => rfl, fun _ _ => rfl, fun _ _ => rfl, fun _ _ => rfl, fun _ _ _ _ _ => rfl, fun _ _ => rfl, fun b _ => by cases b <;> rfl, fun _ _ _ => rfl, fun _ _ _ _ => rfl, fun _ _ _ => rfl, fun _ _ _ => rfl, fun _ _ _ _ _ _ _ _ => rfl⟩ h
theorem star1 {sc : Scope} {a : E} {e : Expr} (h : chkE G sc a e = true) (es : List Expr) (env : Env) : starEach (e :: es) env = (false, eval e env) :: starEach es env := by
  cases e with
  | Starred e p => exact (noStar h).elim
  | _ => rfl
theorem stars {sc : Scope} : ∀ {as : Es} {es : List Expr} {env : Env}, chkEs G sc as es = true → (starEach es env).any (·.1) = false
  | .nil, [], _, _ => rfl
  | .cons a as, e :: es, env, h => by
    obtain ⟨h1, h2⟩ := and2 (show (chkE G sc a e && chkEs G sc as es) = true from h)
    rw [star1 h1, List.any_cons, stars h2]
    rfl
  | .nil, _ :: _, _, h => nomatch h
  | .cons _ _, [], _, h => nomatch h
theorem plainIx {sc : Scope} {a : E} {e : Expr} (h : chkE G sc a e = true) : PlainIx e := fun o i => by
  cases e with
  | Slice l u st p => exact (noSlice h).elim
  | _ => rfl
theorem noSet {sc : Scope} {t : Tg} {a : It} {e : Expr} (h : chkIt G sc t a e = true) (env : Env) (x : Value) : foldedSetIterable e env x = pure x := by
  cases e with
  | Set es k p =>
    cases a with
    | val b => exact (noSetE (show chkE G sc b (.Set es k p) = true from h)).elim
    | rng => exact absurd h Bool.false_ne_true
    | rng2 => exact absurd h Bool.false_ne_true
    | rev => exact absurd h Bool.false_ne_true
    | enum b =>
      have h : (isTp t && false) = true := h
      exact absurd (and2 h).2 Bool.false_ne_true
    | zip b c =>
      have h : (isTp t && false) = true := h
      exact absurd (and2 h).2 Bool.false_ne_true
  | _ => rfl
theorem base_of {e : Expr} (h : noCall e = true) (a : Str) (env : Env) (w : Sem Value) : attributeBase e a env w = w := by
  cases e with
  | Call f as ks p =>
    cases as with
    | nil => exact absurd h Bool.false_ne_true
    | cons a as =>
      unfold attributeBase
      first | rfl | (simp only [])
  | _ => rfl
section
variable {X : Cx} {c : Ent} {e : Expr}
/-- a test of a value that is no lent slot -/
theorem vt_of {a : E} (h : PT X e (tT X.K c (tst (oper a (wB C Γ a))))) : PT X e (tT X.K c (vT (wB C Γ a))) := by
  cases a with
  | brw i => exact PT.imp h fun σ H Q ⟨F, ρ, Qd, ok, g, q⟩ => g.elim
  | _ => exact h
theorem o_of {a : E} (hb : PE X e (tB X.K c (wB C Γ a))) (hv : ∀ i, a = .brw i → PE X e (tVar i)) : PE X e (tO X.K c (oper a (wB C Γ a))) := by
  cases a with
  | brw i => exact sn_brw (hv i rfl)
  | _ => exact pe_val (pe_frz hb)
theorem boolop_eq {w1 w2 : WB} : (fun (ρ : Store) (Q : Bool → Store → Prop) => frz w1 ρ fun x ρ1 => truS x fun k => if k = true then frz w2 ρ1 fun y ρ2 => truS y fun b => Q b ρ2 else truS x fun b => Q b ρ1) = andT (vT w1) (vT w2) := by
  funext ρ Q
  show (frz w1 ρ fun x ρ1 => truS x fun k => if k = true then (vT w2) ρ1 Q else truS x fun b => Q b ρ1) = frz w1 ρ fun x ρ1 => truS x fun k => if k = true then (vT w2) ρ1 Q else Q false ρ1
  congr 1
  funext x ρ1
  exact truS_if (A := fun _ => vT w2 ρ1 Q) (B := fun b => Q b ρ1)
theorem boolop_or {w1 w2 : WB} : (fun (ρ : Store) (Q : Bool → Store → Prop) => frz w1 ρ fun x ρ1 => truS x fun k => if k = true then truS x fun b => Q b ρ1 else frz w2 ρ1 fun y ρ2 => truS y fun b => Q b ρ2) = orT (vT w1) (vT w2) := by
  funext ρ Q
  show (frz w1 ρ fun x ρ1 => truS x fun k => if k = true then truS x fun b => Q b ρ1 else (vT w2) ρ1 Q) = frz w1 ρ fun x ρ1 => truS x fun k => if k = true then Q true ρ1 else (vT w2) ρ1 Q
  congr 1
  funext x ρ1
  exact truS_or (A := fun b => Q b ρ1) (B := fun _ => vT w2 ρ1 Q)
end
/-- isinstance: one argument -/
theorem is_one {b : Bf} {t : String} (hb : isTy b = some t) (R : Xn → Store → Prop) (a : E) : wpB C Γ R (.bf b (.cons a .nil)) = fun ρ Q => oper a (wpB C Γ R a) ρ fun x ρ1 => cont ρ1 x fun d => bfS b [d] fun r => Q r (isMut r) ρ1 := rfl
end
end DL

set_option maxHeartbeats 4000000
/-! DL part Q2: what each check says of the node. -/
namespace DL
open PySem PySem.Spec PyProof.Rows L2
section
variable {G : Glb} {sc : Scope} {e : Expr} {a b d : CkE} {es : CkEs} {s : Stmt}
theorem i_name {p : Str → Bool} (h : cName p e = true) : ∃ x q, e = .Name x q ∧ p x = true := by
  unfold cName at h
  split at h
  · exact ⟨_, _, rfl, h⟩
  · cases h
theorem i_con {p : Const → Bool} (h : cCon p e = true) : ∃ k j q, e = .Constant k j q ∧ p k = true := by
  unfold cCon at h
  split at h
  · exact ⟨_, _, _, rfl, h⟩
  · cases h
theorem i_un {p : UnaryOp → Bool} (h : cUn p a e = true) : ∃ o f q, e = .UnaryOp o f q ∧ p o = true ∧ a f = true := by
  unfold cUn at h
  split at h
  · exact ⟨_, _, _, rfl, and2 h⟩
  · cases h
theorem i_bin {o : Operator} (h : cBin o a b e = true) : ∃ f g q, e = .BinOp f o g q ∧ a f = true ∧ b g = true := by
  unfold cBin at h
  split at h
  · obtain ⟨h1, h2⟩ := and2 h
    have k := of_decide_eq_true h1
    subst k
    exact ⟨_, _, _, rfl, and2 h2⟩
  · cases h
theorem i_cmp {o : CmpOp} (h : cCmp o a b e = true) : ∃ f g q, e = .Compare f [o] [g] q ∧ behindInMarks o g = false ∧ a f = true ∧ b g = true := by
  unfold cCmp at h
  split at h
  · obtain ⟨h1, h2⟩ := and2 h
    obtain ⟨h2, h3⟩ := and2 h2
    have k := of_decide_eq_true h1
    subst k
    exact ⟨_, _, _, rfl, by simpa using h2, and2 h3⟩
  · cases h
theorem i_chn {o1 o2 : CmpOp} (h : cChn o1 o2 a b d e = true) : ∃ f g k q, e = .Compare f [o1, o2] [g, k] q ∧ lastMarks [o1, o2] [g, k] = false ∧ a f = true ∧ b g = true ∧ d k = true := by
  unfold cChn at h
  split at h
  · obtain ⟨h1, h2⟩ := and2 h
    obtain ⟨h2, h3⟩ := and2 h2
    obtain ⟨h3, h4⟩ := and2 h3
    obtain ⟨h4, h5⟩ := and2 h4
    have k := of_decide_eq_true h1
    subst k
    have k := of_decide_eq_true h2
    subst k
    exact ⟨_, _, _, _, rfl, by simpa using h3, h4, and2 h5⟩
  · cases h
theorem i_bool {o : BoolOp} (h : cBool o a b e = true) : ∃ f g rest q, e = .BoolOp o (f :: g :: rest) q ∧ noIte f = true ∧ noIte g = true ∧ a f = true ∧ b (match rest with
    | [] => g
    | _ :: _ => .BoolOp o (g :: rest) q) = true := by
  unfold cBool at h
  split at h
  · obtain ⟨h1, h2⟩ := and2 h
    obtain ⟨h2, h3⟩ := and2 h2
    obtain ⟨h4, h5⟩ := and2 h2
    obtain ⟨h6, h7⟩ := and2 h3
    have k := of_decide_eq_true h1
    subst k
    exact ⟨_, _, _, _, rfl, h4, h5, h6, h7⟩
  · cases h
theorem i_ite (h : cIte a b d e = true) : ∃ f g k q, e = .IfExp f g k q ∧ noIte f = true ∧ a f = true ∧ b g = true ∧ d k = true := by
  unfold cIte at h
  split at h
  · obtain ⟨h1, h2⟩ := and2 h
    obtain ⟨h2, h3⟩ := and2 h2
    exact ⟨_, _, _, _, rfl, h1, h2, and2 h3⟩
  · cases h
theorem i_tup (h : cTup es e = true) : ∃ fs k q, e = .Tuple fs k q ∧ es fs = true := by
  unfold cTup at h
  split at h
  · exact ⟨_, _, _, rfl, h⟩
  · cases h
theorem i_lst (h : cLst es e = true) : ∃ fs q, e = .List fs q ∧ es fs = true := by
  unfold cLst at h
  split at h
  · exact ⟨_, _, rfl, h⟩
  · cases h
theorem i_idx (h : cIdx a b e = true) : ∃ f g q, e = .Subscript f g q ∧ a f = true ∧ b g = true := by
  unfold cIdx at h
  split at h
  · exact ⟨_, _, _, rfl, and2 h⟩
  · cases h
theorem i_slc {lo hi : CkO} (h : cSlc a lo hi e = true) : ∃ f l u p q, e = .Subscript f (.Slice l u none p) q ∧ a f = true ∧ lo l = true ∧ hi u = true := by
  unfold cSlc at h
  split at h
  · obtain ⟨h1, h2⟩ := and2 h
    exact ⟨_, _, _, _, _, rfl, h1, and2 h2⟩
  · cases h
theorem i_call {f : Nat} (h : cCall G sc f es e = true) : ∃ x q fs p np, e = .Call (.Name x q) fs [] p ∧ gloN sc x = true ∧ (G.fn[f]? = some (x, false, np) ∧ G.kf[f]? = some none) ∧ es fs = true := by
  unfold cCall at h
  split at h
  · obtain ⟨h1, h2⟩ := and2 h
    obtain ⟨h2, h3⟩ := and2 h2
    split at h2
    · next y tp np eg ek =>
      obtain ⟨h4, h5⟩ := and2 h2
      have k := of_decide_eq_true h4
      subst k
      have k : tp = false := by simpa using h5
      subst k
      exact ⟨_, _, _, _, np, rfl, h1, ⟨eg, ek⟩, h3⟩
    · cases h2
  · cases h
theorem i_tape {f i : Nat} (h : cTape G sc f i es e = true) : ∃ x q y q2 fs p np, e = .Call (.Name x q) (.Name y q2 :: fs) [] p ∧ gloN sc x = true ∧ (G.fn[f]? = some (x, true, np) ∧ G.kf[f]? = some none) ∧ locN G sc i y = true ∧ es fs = true := by
  unfold cTape at h
  split at h
  · obtain ⟨h1, h2⟩ := and2 h
    obtain ⟨h2, h3⟩ := and2 h2
    split at h2
    · next y tp np eg ek =>
      obtain ⟨h4, h5⟩ := and2 h2
      have k := of_decide_eq_true h4
      subst k
      subst h5
      exact ⟨_, _, _, _, _, _, np, rfl, h1, ⟨eg, ek⟩, and2 h3⟩
    · cases h2
  · cases h
theorem i_callK {f : Nat} (h : cCallK G sc f es a e = true) : ∃ x q f0 fs k g kp p np dk, e = .Call (.Name x q) (f0 :: fs) [⟨some k, g, kp⟩] p ∧ gloN sc x = true ∧ G.fn[f]? = some (x, false, np) ∧ G.kf[f]? = some (some (k, dk)) ∧ es (f0 :: fs) = true ∧ a g = true := by
  unfold cCallK at h
  split at h
  · obtain ⟨h1, h2⟩ := and2 h
    obtain ⟨h2, h3⟩ := and2 h2
    split at h2
    · next y tp np k' dk eg ek =>
      obtain ⟨h4, h5⟩ := and2 h2
      obtain ⟨h5, h6⟩ := and2 h5
      have z := of_decide_eq_true h4
      subst z
      have z := of_decide_eq_true h6
      subst z
      have z : tp = false := by simpa using h5
      subst z
      exact ⟨_, _, _, _, _, _, _, _, np, dk, rfl, h1, eg, ek, and2 h3⟩
    · cases h2
  · cases h
theorem i_callD {f : Nat} {d : Dk} (h : cCallD G sc f d es e = true) : ∃ x q f0 fs k p np, e = .Call (.Name x q) (f0 :: fs) [] p ∧ gloN sc x = true ∧ G.fn[f]? = some (x, false, np) ∧ G.kf[f]? = some (some (k, d)) ∧ es (f0 :: fs) = true := by
  unfold cCallD at h
  split at h
  · obtain ⟨h1, h2⟩ := and2 h
    obtain ⟨h2, h3⟩ := and2 h2
    split at h2
    · next y tp np k' dk eg ek =>
      obtain ⟨h4, h5⟩ := and2 h2
      obtain ⟨h5, h6⟩ := and2 h5
      have z := of_decide_eq_true h4
      subst z
      have z := of_decide_eq_true h6
      subst z
      have z : tp = false := by simpa using h5
      subst z
      exact ⟨_, _, _, _, _, _, np, rfl, h1, eg, ek, h3⟩
    · cases h2
  · cases h
theorem i_comp2 {vs vs1 : List Nat} {t t1 : Tg} {a1 : Scope → CkE} {elt : Scope → CkE} {c : Scope → CkO} (h : cComp2 G sc vs vs1 t t1 a a1 elt c e = true) : ∃ f tg iter tg1 iter1 ifs scope p, e = .ListComp f [⟨tg, iter, [], 0⟩, ⟨tg1, iter1, ifs, 0⟩] scope p ∧ blkB G sc scope (ownOf G vs) = true ∧ tgIn t vs = true ∧ tgIn t1 vs1 = true ∧ (∀ i ∈ vs1, i ∈ vs) ∧
    chkT G scope t tg = true ∧ chkT G scope t1 tg1 = true ∧ a iter = true ∧ a1 scope iter1 = true ∧ elt scope f = true ∧ (match ifs with
    | [] => c scope none
    | [f] => noIte f && c scope (some f)
    | _ => false) = true := by
  unfold cComp2 at h
  split at h
  · obtain ⟨h1, h2⟩ := and2 h
    obtain ⟨h2, h3⟩ := and2 h2
    obtain ⟨h3, h4⟩ := and2 h3
    obtain ⟨h4, h5⟩ := and2 h4
    obtain ⟨h5, h6⟩ := and2 h5
    obtain ⟨h6, h7⟩ := and2 h6
    obtain ⟨h7, h8⟩ := and2 h7
    obtain ⟨h8, h9⟩ := and2 h8
    obtain ⟨h9, h10⟩ := and2 h9
    refine ⟨_, _, _, _, _, _, _, _, rfl, h1, h2, h3, fun i hi => ?_, h5, h6, h7, h8, h9, h10⟩
    have z := List.all_eq_true.mp h4 i hi
    simpa using z
  · cases h
theorem i_is {t : String} (h : cIs G sc t es e = true) : ∃ q f q2 p, e = .Call (.Name "isinstance" q) [f, .Name (Str.ofString t) q2] [] p ∧ bltN G sc "isinstance" = true ∧ bltN G sc (Str.ofString t) = true ∧ es [f] = true := by
  unfold cIs at h
  split at h
  · obtain ⟨m1, r1⟩ := and2 h
    obtain ⟨m2, r2⟩ := and2 r1
    obtain ⟨m3, r3⟩ := and2 r2
    have k := of_decide_eq_true m1
    have k2 := of_decide_eq_true m2
    subst k k2
    exact ⟨_, _, _, _, rfl, m3, and2 r3⟩
  · cases h
theorem i_bf {t : Bf} (h : cBf G sc t es e = true) : ∃ x q f fs p, e = .Call (.Name x q) (f :: fs) [] p ∧ bfName t = some x ∧ bltN G sc x = true ∧ es (f :: fs) = true := by
  unfold cBf at h
  split at h
  · obtain ⟨h1, h2⟩ := and2 h
    exact ⟨_, _, _, _, _, rfl, of_decide_eq_true h1, and2 h2⟩
  · cases h
theorem i_bfD {z : Str} (h : cBfD G sc z es e = true) : ∃ q f g kp p, e = .Call (.Name z q) [f] [⟨some "default", g, kp⟩] p ∧ bltN G sc z = true ∧ es [f, g] = true := by
  unfold cBfD at h
  split at h
  · obtain ⟨m1, r1⟩ := and2 h
    obtain ⟨m2, r2⟩ := and2 r1
    have k := of_decide_eq_true m1
    have k2 := of_decide_eq_true m2
    subst k k2
    exact ⟨_, _, _, _, _, rfl, and2 r2⟩
  · cases h
theorem i_mth0 {m : Str} (h : cMth0 m a e = true) : ∃ f p q, e = .Call (.Attribute f m p) [] [] q ∧ (p.endLine == q.line) = true ∧ noCall f = true ∧ a f = true := by
  unfold cMth0 at h
  split at h
  · obtain ⟨h1, h2⟩ := and2 h
    obtain ⟨h2, h3⟩ := and2 h2
    have k := of_decide_eq_true h1
    subst k
    exact ⟨_, _, _, rfl, h2, and2 h3⟩
  · cases h
theorem i_mth1 {m : Str} (h : cMth1 m a b e = true) : ∃ f p g q, e = .Call (.Attribute f m p) [g] [] q ∧ (p.endLine == q.line) = true ∧ noCall f = true ∧ a f = true ∧ b g = true := by
  unfold cMth1 at h
  split at h
  · obtain ⟨h1, h2⟩ := and2 h
    obtain ⟨h2, h3⟩ := and2 h2
    obtain ⟨h3, h4⟩ := and2 h3
    have k := of_decide_eq_true h1
    subst k
    exact ⟨_, _, _, _, rfl, h2, h3, and2 h4⟩
  · cases h
theorem i_mth2 {m : Str} {d : CkE} (h : cMth2 m a b d e = true) : ∃ f p g g2 q, e = .Call (.Attribute f m p) [g, g2] [] q ∧ (p.endLine == q.line) = true ∧ noCall f = true ∧ a f = true ∧ b g = true ∧ d g2 = true := by
  unfold cMth2 at h
  split at h
  · obtain ⟨h1, h2⟩ := and2 h
    obtain ⟨h2, h3⟩ := and2 h2
    obtain ⟨h3, h4⟩ := and2 h3
    obtain ⟨h4, h5⟩ := and2 h4
    have k := of_decide_eq_true h1
    subst k
    exact ⟨_, _, _, _, _, rfl, h2, h3, h4, and2 h5⟩
  · cases h
theorem i_tupOf {z : Str} (h : cTupOf G sc z es e = true) : ∃ q q2 f p p2, e = .Call (.Name "tuple" q) [.Call (.Name z q2) [f] [] p2] [] p ∧ bltN G sc "tuple" = true ∧ bltN G sc z = true ∧ es [f] = true := by
  unfold cTupOf at h
  split at h
  · obtain ⟨m1, r1⟩ := and2 h
    obtain ⟨m2, r2⟩ := and2 r1
    obtain ⟨m3, r3⟩ := and2 r2
    have k := of_decide_eq_true m1
    have k2 := of_decide_eq_true m2
    subst k k2
    exact ⟨_, _, _, _, _, rfl, m3, and2 r3⟩
  · cases h
theorem i_revL (h : cRevL es e = true) : ∃ f k q1 q2 q3 p, e = .Subscript f (.Slice none none (some (.UnaryOp .USub (.Constant (.int 1) k q1) q2)) q3) p ∧ es [f] = true := by
  unfold cRevL at h
  split at h
  · obtain ⟨m1, r1⟩ := and2 h
    have k := of_decide_eq_true m1
    subst k
    exact ⟨_, _, _, _, _, _, rfl, r1⟩
  · cases h
theorem i_srtR (h : cSrtR G sc es e = true) : ∃ q f j q2 kp p, e = .Call (.Name "sorted" q) [f] [⟨some "reverse", .Constant (.bool true) j q2, kp⟩] p ∧ bltN G sc "sorted" = true ∧ es [f] = true := by
  unfold cSrtR at h
  split at h
  · obtain ⟨m1, r1⟩ := and2 h
    obtain ⟨m2, r2⟩ := and2 r1
    obtain ⟨m3, r3⟩ := and2 r2
    have k := of_decide_eq_true m1
    have k2 := of_decide_eq_true m2
    subst k k2
    cases m3
    exact ⟨_, _, _, _, _, _, rfl, and2 r3⟩
  · cases h
theorem par1B_of {x : Str} {ps : Arguments} (h : par1B x ps = true) : ∃ an pp, ps = par1 x an pp := by
  unfold par1B at h
  split at h
  · have k := of_decide_eq_true h
    subst k
    exact ⟨_, _, rfl⟩
  · cases h
theorem i_srtK (h : cSrtK G sc es e = true) : ∃ q f an pp body sc2 lp kp p, e = .Call (.Name "sorted" q) [f] [⟨some "key", .Lambda (par1 "pair" an pp) body sc2 lp, kp⟩] p ∧ G.nm ∈ lamX ∧ keyBody "pair" body = true ∧ lamScB "pair" sc2 = true ∧ bltN G sc "sorted" = true ∧ es [f] = true := by
  unfold cSrtK at h
  split at h
  · obtain ⟨m1, r1⟩ := and2 h
    obtain ⟨m2, r2⟩ := and2 r1
    obtain ⟨m3, r3⟩ := and2 r2
    obtain ⟨m4, r4⟩ := and2 r3
    obtain ⟨m5, r5⟩ := and2 r4
    obtain ⟨m6, r6⟩ := and2 r5
    have k := of_decide_eq_true m1
    have k2 := of_decide_eq_true m2
    subst k k2
    obtain ⟨an, pp, rfl⟩ := par1B_of m4
    exact ⟨_, _, _, _, _, _, _, _, _, rfl, of_decide_eq_true m3, m5, m6, and2 r6⟩
  · cases h
theorem i_minK (h : cMinK G sc es e = true) : ∃ q f an pp body sc2 lp kp p, e = .Call (.Name "min" q) [f] [⟨some "key", .Lambda (par1 "row" an pp) body sc2 lp, kp⟩] p ∧ G.nm ∈ lamX ∧ keyBody2 "row" body = true ∧ lamScB "row" sc2 = true ∧ bltN G sc "min" = true ∧ es [f] = true := by
  unfold cMinK at h
  split at h
  · obtain ⟨m1, r1⟩ := and2 h
    obtain ⟨m2, r2⟩ := and2 r1
    obtain ⟨m3, r3⟩ := and2 r2
    obtain ⟨m4, r4⟩ := and2 r3
    obtain ⟨m5, r5⟩ := and2 r4
    obtain ⟨m6, r6⟩ := and2 r5
    have k := of_decide_eq_true m1
    have k2 := of_decide_eq_true m2
    subst k k2
    obtain ⟨an, pp, rfl⟩ := par1B_of m4
    exact ⟨_, _, _, _, _, _, _, _, _, rfl, of_decide_eq_true m3, m5, m6, and2 r6⟩
  · cases h
theorem i_pop {i : Nat} (h : cPop G sc i a e = true) : ∃ x q2 p f q, e = .Call (.Attribute (.Name x q2) "pop" p) [f] [] q ∧ (p.endLine == q.line) = true ∧ locN G sc i x = true ∧ a f = true := by
  unfold cPop at h
  split at h
  · obtain ⟨h1, h2⟩ := and2 h
    obtain ⟨h2, h3⟩ := and2 h2
    have k := of_decide_eq_true h1
    subst k
    exact ⟨_, _, _, _, _, rfl, h2, and2 h3⟩
  · cases h
theorem i_comp {vs : List Nat} {t : Tg} {elt : Scope → CkE} {c : Scope → CkO} (h : cComp G sc vs t a elt c e = true) : ∃ f tg iter ifs scope p, e = .ListComp f [⟨tg, iter, ifs, 0⟩] scope p ∧ blkB G sc scope (ownOf G vs) = true ∧ tgIn t vs = true ∧
    chkT G scope t tg = true ∧ a iter = true ∧ elt scope f = true ∧ (match ifs with
    | [] => c scope none
    | [f] => noIte f && c scope (some f)
    | _ => false) = true := by
  unfold cComp at h
  split at h
  · obtain ⟨h1, h2⟩ := and2 h
    obtain ⟨h2, h3⟩ := and2 h2
    obtain ⟨h3, h4⟩ := and2 h3
    obtain ⟨h4, h5⟩ := and2 h4
    obtain ⟨h5, h6⟩ := and2 h5
    exact ⟨_, _, _, _, _, _, rfl, h1, h2, h3, h4, h5, h6⟩
  · cases h
theorem i_cons {fs : List Expr} (h : cCons a es fs = true) : ∃ f gs, fs = f :: gs ∧ a f = true ∧ es gs = true := by
  unfold cCons at h
  split at h
  · exact ⟨_, _, rfl, and2 h⟩
  · cases h
theorem i_enum (h : cEnum G sc a e = true) : ∃ q f p, e = .Call (.Name "enumerate" q) [f] [] p ∧ bltN G sc "enumerate" = true ∧ a f = true := by
  unfold cEnum at h
  split at h
  · obtain ⟨h1, h2⟩ := and2 h
    have k := of_decide_eq_true h1
    subst k
    exact ⟨_, _, _, rfl, and2 h2⟩
  · cases h
theorem i_zip (h : cZip G sc a b e = true) : ∃ q f g p, e = .Call (.Name "zip" q) [f, g] [] p ∧ bltN G sc "zip" = true ∧ a f = true ∧ b g = true := by
  unfold cZip at h
  split at h
  · obtain ⟨h1, h2⟩ := and2 h
    obtain ⟨h2, h3⟩ := and2 h2
    have k := of_decide_eq_true h1
    subst k
    exact ⟨_, _, _, _, rfl, h2, and2 h3⟩
  · cases h
theorem i_rng (h : cRng G sc a e = true) : ∃ q f p, e = .Call (.Name "range" q) [f] [] p ∧ bltN G sc "range" = true ∧ a f = true := by
  unfold cRng at h
  split at h
  · obtain ⟨h1, h2⟩ := and2 h
    have k := of_decide_eq_true h1
    subst k
    exact ⟨_, _, _, rfl, and2 h2⟩
  · cases h
theorem i_rng2 (h : cRng2 G sc a b e = true) : ∃ q f g p, e = .Call (.Name "range" q) [f, g] [] p ∧ bltN G sc "range" = true ∧ a f = true ∧ b g = true := by
  unfold cRng2 at h
  split at h
  · obtain ⟨h1, h2⟩ := and2 h
    obtain ⟨h2, h3⟩ := and2 h2
    have k := of_decide_eq_true h1
    subst k
    exact ⟨_, _, _, _, rfl, h2, and2 h3⟩
  · cases h
end
end DL

set_option maxHeartbeats 16000000
/-! DL part R: the mini syntax's meaning is the text's: the master theorem for expressions. -/
namespace DL
open PySem PySem.Spec PyProof.Rows L2
section
variable {G : Glb} {C : List D} {Γ : Nat → FSpec}
theorem brw_var {sc : Scope} {X : Cx} {i : Nat} {e : Expr} (h : chkE G sc (.brw i) e = true) (g : Good G C Γ sc X) : PE X e (tVar i) := by
  obtain ⟨x, q, rfl, h⟩ := i_name (show cName (locN G sc i) e = true from h)
  exact g.var h
theorem sO {sc : Scope} {X : Cx} {c : Ent} {a : E} {e : Expr} (z : PE X e (tB X.K c (wB C Γ a))) (h : chkE G sc a e = true) (g : Good G C Γ sc X) : PE X e (tO X.K c (oper a (wB C Γ a))) :=
  o_of z fun i e' => brw_var (by rw [← e']; exact h) g
section
variable {sc : Scope} {X : Cx} {c : Ent} {b : Bf} {a : E} {as : Es} {x : Str} {q p : Pos} {fs : List Expr} {f : Expr}
theorem boot_is {b : Bf} {t : String} (et : isTy b = some t) : bootBuiltins (Str.ofString t) = some (.type t) := by
  cases b <;> cases et <;> decide +kernel
theorem boot_bf {b : Bf} {x : Str} (h : bfName b = some x) : ∃ v, bfV b = some v ∧ bootBuiltins x = some v := by
  cases b <;> cases h <;> exact ⟨_, rfl, by decide +kernel⟩
theorem bfV_form {b : Bf} {v : Value} (h : bfV b = some v) : (∃ id, v = .builtin id) ∨ ∃ T, v = .type T := by
  cases b <;> cases h <;> first
    | exact .inl ⟨_, rfl⟩
    | exact .inr ⟨_, rfl⟩
theorem sn_bf (g : Good G C Γ sc X) (h1 : bfName b = some x) (h2 : bltN G sc x = true) {es : List Expr} (hs : PA X (f :: es) (tOs X.K c (wpOs C Γ noR (.cons a as)))) (k1 : chkE G sc a f = true) (k2 : chkEs G sc as es = true) :
    PE X (.Call (.Name x q) (f :: es) [] p) (tB X.K c (wB C Γ (.bf b (.cons a as)))) := by
  obtain ⟨z1, z2, z3, z4⟩ := g.blt h2
  obtain ⟨v, e1, e2⟩ := boot_bf h1
  rcases bfV_form e1 with ⟨id, rfl⟩ | ⟨T, rfl⟩
  · exact sn_bfB (callBf g.calm g.un e1) z1 z2 e2 z4 z3 hs (star1 k1 _ _) (stars k2)
  · exact sn_bfT (callBf g.calm g.un e1) z1 z2 e2 z4 z3 hs (star1 k1 _ _) (stars k2)
theorem sn_isb {t : String} {q2 : Pos} (g : Good G C Γ sc X) (et : isTy b = some t) (h2 : bltN G sc "isinstance" = true) (h3 : bltN G sc (Str.ofString t) = true) (ho : PE X f (tO X.K c (oper a (wB C Γ a)))) (k1 : chkE G sc a f = true) :
    PE X (.Call (.Name "isinstance" q) [f, .Name (Str.ofString t) q2] [] p) (tB X.K c (wB C Γ (.bf b (.cons a .nil)))) := by
  obtain ⟨z1, z2, _, _⟩ := g.blt h2
  obtain ⟨y1, y2, y3, y4⟩ := g.blt h3
  rw [show wB C Γ (.bf b (.cons a .nil)) = _ from is_one et noR a]
  exact sn_is et z1 z2 (pe_bltn y1 y2 (boot_is et) rfl y4 y3) ho (star1 k1 _ _)
end
theorem mxD_of {b : Bf} {z : Str} (h : bfDn b = some z) : (b = .maxD ∧ z = "max") ∨ (b = .minD ∧ z = "min") := by
  cases b <;> cases h <;> first
    | exact .inl ⟨rfl, rfl⟩
    | exact .inr ⟨rfl, rfl⟩
theorem own_vs (vs : List Nat) : (ownOf G vs).map (·.2) = vs := by
  unfold ownOf
  rw [List.map_map]
  exact List.map_id vs
/-- a node whose test is its value's truth -/
def plainT : Expr → Bool
  | .UnaryOp .Not _ _ => false
  | .BoolOp .. => false
  | .IfExp .. => false
  | .Compare .. => false
  | _ => true
theorem plain_is {e : Expr} (h : plainT e = true) (env : Env) (whole : Sem Value) : isTrue e env whole = (do let v ← whole; standAt e.pos; holding [v] (truthy v)) := by
  cases e with
  | UnaryOp o f p =>
    cases o with
    | Not => exact absurd h Bool.false_ne_true
    | _ => rfl
  | BoolOp o f p => exact absurd h Bool.false_ne_true
  | IfExp a b c d => exact absurd h Bool.false_ne_true
  | Compare a b c d => exact absurd h Bool.false_ne_true
  | _ => rfl
/-- what the master theorem says of one expression -/
structure SE (G : Glb) (C : List D) (Γ : Nat → FSpec) (c : Ent) (X : Cx) (a : E) (e : Expr) : Prop where
  b : PE X e (tB X.K c (wB C Γ a))
  t : noIte e = true → PT X e (tT X.K c (tst (oper a (wB C Γ a))))
theorem SE.plain {c : Ent} {sc : Scope} {X : Cx} {a : E} {e : Expr} (z : PE X e (tB X.K c (wB C Γ a))) (h : chkE G sc a e = true) (g : Good G C Γ sc X) (p : plainT e = true) : SE G C Γ c X a e :=
  ⟨z, fun _ => st_val (sO z h g) (plain_is p X.env)⟩
theorem pw_bool {X : Cx} {o : BoolOp} {es : List Expr} {p : Pos} {t : TT} (h : PT X (.BoolOp o es p) t) : PW X (.BoolOp o es p) t := ⟨fun _ pins s σ H Q I q => h.run pins s σ H Q I q⟩
theorem cast_and {c : Ent} {X : Cx} {a b : E} {e : Expr} (h : PT X e (tT X.K c (andT (vT (wB C Γ a)) (vT (wB C Γ b))))) : PT X e (tT X.K c (tst (oper (.and a b) (wB C Γ (.and a b))))) := by
  rw [← boolop_eq] at h
  exact h
theorem cast_or {c : Ent} {X : Cx} {a b : E} {e : Expr} (h : PT X e (tT X.K c (orT (vT (wB C Γ a)) (vT (wB C Γ b))))) : PT X e (tT X.K c (tst (oper (.or a b) (wB C Γ (.or a b))))) := by
  rw [← boolop_or] at h
  exact h
abbrev I1 (G : Glb) (C : List D) (Γ : Nat → FSpec) (c : Ent) (a : E) : Prop := ∀ (e : Expr) (sc : Scope) (X : Cx), chkE G sc a e = true → Good G C Γ sc X → SE G C Γ c X a e
abbrev I2 (G : Glb) (C : List D) (Γ : Nat → FSpec) (c : Ent) (as : Es) : Prop := ∀ (es : List Expr) (sc : Scope) (X : Cx), chkEs G sc as es = true → Good G C Γ sc X → PA X es (tEs X.K c (wpEs C Γ noR as)) ∧ PA X es (tOs X.K c (wpOs C Γ noR as))
abbrev I3 (G : Glb) (C : List D) (Γ : Nat → FSpec) (c : Ent) (a : Oe) : Prop := (∀ (e : Option Expr) (sc : Scope) (X : Cx), chkOe G sc a e = true → Good G C Γ sc X → PO X e (tPart' X.K c (wpOe C Γ noR a))) ∧
  ∀ (ifs : List Expr) (sc : Scope) (X : Cx), (match ifs with
      | [] => chkOe G sc a none
      | [f] => noIte f && chkOe G sc a (some f)
      | _ => false) = true → Good G C Γ sc X → PTs X ifs (tT X.K c (wpC C Γ noR a))
abbrev I4 (G : Glb) (C : List D) (Γ : Nat → FSpec) (c : Ent) (a : It) : Prop := ∀ (t : Tg) (e tg : Expr) (sc sc2 : Scope) (X : Cx), chkIt G sc t a e = true → chkT G sc2 t tg = true → Good G C Γ sc X → PI X tg e (tI X.K c (wpIt C Γ noR a))
variable {c : Ent}
theorem k_var {i : Nat} : I1 G C Γ c (.var i) := fun e sc X h g => by
  obtain ⟨x, q, rfl, k⟩ := i_name (show cName (locN G sc i) e = true from h)
  exact .plain (sn_var (g.var k)) h g rfl
theorem k_brw {i : Nat} : I1 G C Γ c (.brw i) := fun e sc X h g => by
  obtain ⟨x, q, rfl, k⟩ := i_name (show cName (locN G sc i) e = true from h)
  exact .plain (PE.imp (g.var k) fun σ H Q ⟨F, ρ, Qd, ok, g, q⟩ => g.elim) h g rfl
theorem k_int {n : Int} : I1 G C Γ c (.int n) := fun e sc X h g => by
  obtain ⟨k, j, q, rfl, hk⟩ := i_con (show cCon _ e = true from h)
  refine .plain ?_ h g rfl
  cases k with
  | int m =>
    have ex := of_decide_eq_true hk
    subst ex
    exact sn_c pe_int fun _ => .int _
  | _ => exact absurd hk Bool.false_ne_true
theorem k_bl {n : Bool} : I1 G C Γ c (.bl n) := fun e sc X h g => by
  obtain ⟨k, j, q, rfl, hk⟩ := i_con (show cCon _ e = true from h)
  refine .plain ?_ h g rfl
  cases k with
  | bool m =>
    have ex := of_decide_eq_true hk
    subst ex
    exact sn_c pe_bl fun _ => .bl _
  | _ => exact absurd hk Bool.false_ne_true
theorem k_non : I1 G C Γ c (.non) := fun e sc X h g => by
  obtain ⟨k, j, q, rfl, hk⟩ := i_con (show cCon _ e = true from h)
  refine .plain ?_ h g rfl
  cases k with
  | none => exact sn_c pe_non fun _ => .non
  | _ => exact absurd hk Bool.false_ne_true
theorem k_str {n : Str} : I1 G C Γ c (.str n) := fun e sc X h g => by
  obtain ⟨k, j, q, rfl, hk⟩ := i_con (show cCon _ e = true from h)
  refine .plain ?_ h g rfl
  cases k with
  | str m =>
    have ex := of_decide_eq_true hk
    subst ex
    exact sn_c pe_str fun _ => .str _
  | _ => exact absurd hk Bool.false_ne_true
theorem k_glob {k : Nat} : I1 G C Γ c (.glob k) := fun e sc X h g => by
  obtain ⟨x, q, rfl, hk⟩ := i_name (show cName _ e = true from h)
  refine .plain ?_ h g rfl
  obtain ⟨h1, h2⟩ := and2 hk
  obtain ⟨z1, z2, _⟩ := g.glo h2
  refine ⟨fun pins s σ H Q I ⟨F, ρ, Qd, ok, ⟨d, ed, hq⟩, q⟩ => ?_⟩
  obtain ⟨u, v, hm, r, rp⟩ := g.gls k x d (of_decide_eq_true h1) ed
  exact (pe_glob z1 hm r z2).run pins s σ H Q I (q d false ρ v F H hq ok .refl (.fz (rp F)))
theorem k_un {o : UnaryOp} {a : E} (i_h_a : I1 G C Γ c a) : I1 G C Γ c (.un o a) := fun e sc X h g => by
  obtain ⟨o', f, q, rfl, h0, h2⟩ := i_un (show cUn (fun o' => decide (o = o') && !decide (o' = .Not)) (chkE G sc a) e = true from h)
  obtain ⟨h1, h3⟩ := and2 h0
  have ex := of_decide_eq_true h1
  subst ex
  refine .plain (sn_un (pos := q) (unR o) (sO (i_h_a f sc X h2 g).b h2 g)) h g ?_
  cases o with
  | Not => exact absurd h3 Bool.false_ne_true
  | _ => rfl
theorem k_not {a : E} (i_h_a : I1 G C Γ c a) : I1 G C Γ c (.not a) := fun e sc X h g => by
  obtain ⟨o', f, q, rfl, h1, h0⟩ := i_un (show cUn (fun o => decide (o = .Not)) (fun e => noIte e && chkE G sc a e) e = true from h)
  obtain ⟨h2, h3⟩ := and2 h0
  have ex := of_decide_eq_true h1
  subst ex
  have z := i_h_a f sc X h3 g
  exact ⟨sn_not (sO z.b h3 g), fun _ => st_not (z.t h2)⟩
theorem k_bin {o : Operator} {a : E} {b : E} (i_h_a : I1 G C Γ c a) (i_h_b : I1 G C Γ c b) : I1 G C Γ c (.bin o a b) := fun e sc X h g => by
  obtain ⟨f, f2, q, rfl, h2, h3⟩ := i_bin (show cBin o (chkE G sc a) (chkE G sc b) e = true from h)
  exact .plain (sn_bin (opR_bin o) (sO (i_h_a f sc X h2 g).b h2 g) (sO (i_h_b f2 sc X h3 g).b h3 g)) h g rfl
theorem k_cmp {o : CmpOp} {a : E} {b : E} (i_h_a : I1 G C Γ c a) (i_h_b : I1 G C Γ c b) : I1 G C Γ c (.cmp o a b) := fun e sc X h g => by
  obtain ⟨f, f2, q, rfl, h1, h2, h3⟩ := i_cmp (show cCmp o (chkE G sc a) (chkE G sc b) e = true from h)
  have hu := g.un
  have za := sO (i_h_a f sc X h2 g).b h2 g
  have zb := sO (i_h_b f2 sc X h3 g).b h3 g
  exact ⟨sn_cmp (opR_cmp (by omega) o) h1 za zb, fun _ => st_cmp (opR_cmp (by omega) o) h1 za zb⟩
theorem k_chn {o1 : CmpOp} {o2 : CmpOp} {a : E} {b : E} {d : E} (i_h_a : I1 G C Γ c a) (i_h_b : I1 G C Γ c b) (i_h_d : I1 G C Γ c d) : I1 G C Γ c (.chn o1 o2 a b d) := fun e sc X h g => by
  obtain ⟨f, f2, f3, q, rfl, h1, h2, h3, h4⟩ := i_chn (show cChn o1 o2 (chkE G sc a) (chkE G sc b) (chkE G sc d) e = true from h)
  have hu := g.un
  have za := sO (i_h_a f sc X h2 g).b h2 g
  have zb := sO (i_h_b f2 sc X h3 g).b h3 g
  have zd := sO (i_h_d f3 sc X h4 g).b h4 g
  exact ⟨sn_chn (opR_cmp (by omega) o1) (opR_cmp (by omega) o2) za zb zd h1, fun _ => st_chn (opR_cmp (by omega) o1) (opR_cmp (by omega) o2) za zb zd h1⟩
theorem k_and {a : E} {b : E} (i_h_a : I1 G C Γ c a) (i_h_b : I1 G C Γ c b) : I1 G C Γ c (.and a b) := fun e sc X h g => by
  obtain ⟨f, f2, rest, q, rfl, h1, h2, h3, h4⟩ := i_bool (show cBool .And (chkE G sc a) (chkE G sc b) e = true from h)
  have za := i_h_a f sc X h3 g
  have zb := i_h_b _ sc X h4 g
  cases rest with
  | nil => exact ⟨sn_and (pe_frz za.b) (pe_one (pe_frz zb.b)), fun _ => cast_and (PW.pt (st_and (vt_of (za.t h1)) (pw_and1 (vt_of (zb.t h2)))))⟩
  | cons f3 rest => exact ⟨sn_and (pe_frz za.b) (pe_frz zb.b), fun _ => cast_and (PW.pt (st_and (vt_of (za.t h1)) (pw_bool (vt_of (zb.t rfl)))))⟩
theorem k_or {a : E} {b : E} (i_h_a : I1 G C Γ c a) (i_h_b : I1 G C Γ c b) : I1 G C Γ c (.or a b) := fun e sc X h g => by
  obtain ⟨f, f2, rest, q, rfl, h1, h2, h3, h4⟩ := i_bool (show cBool .Or (chkE G sc a) (chkE G sc b) e = true from h)
  have za := i_h_a f sc X h3 g
  have zb := i_h_b _ sc X h4 g
  cases rest with
  | nil => exact ⟨sn_or (pe_frz za.b) (pe_one (pe_frz zb.b)), fun _ => cast_or (PW.pt (st_or (vt_of (za.t h1)) (pw_or1 (vt_of (zb.t h2)))))⟩
  | cons f3 rest => exact ⟨sn_or (pe_frz za.b) (pe_frz zb.b), fun _ => cast_or (PW.pt (st_or (vt_of (za.t h1)) (pw_bool (vt_of (zb.t rfl)))))⟩
theorem k_ite {t : E} {a : E} {b : E} (i_h_t : I1 G C Γ c t) (i_h_a : I1 G C Γ c a) (i_h_b : I1 G C Γ c b) : I1 G C Γ c (.ite t a b) := fun e sc X h g => by
  obtain ⟨f, f2, f3, q, rfl, h1, h2, h3, h4⟩ := i_ite (show cIte (chkE G sc t) (chkE G sc a) (chkE G sc b) e = true from h)
  exact ⟨sn_ite ((i_h_t f sc X h2 g).t h1) (i_h_a f2 sc X h3 g).b (i_h_b f3 sc X h4 g).b, fun n => absurd n Bool.false_ne_true⟩
theorem k_tup {es : Es} (i_h_es : I2 G C Γ c es) : I1 G C Γ c (.tup es) := fun e sc X h g => by
  obtain ⟨fs, k, q, rfl, h1⟩ := i_tup (show cTup (chkEs G sc es) e = true from h)
  exact .plain (sn_tup (i_h_es fs sc X h1 g).1) h g rfl
theorem k_lst {es : Es} (i_h_es : I2 G C Γ c es) : I1 G C Γ c (.lst es) := fun e sc X h g => by
  obtain ⟨fs, q, rfl, h1⟩ := i_lst (show cLst (chkEs G sc es) e = true from h)
  exact .plain (sn_lst (i_h_es fs sc X h1 g).1) h g rfl
theorem k_idx {a : E} {i : E} (i_h_a : I1 G C Γ c a) (i_h_i : I1 G C Γ c i) : I1 G C Γ c (.idx a i) := fun e sc X h g => by
  obtain ⟨f, f2, q, rfl, h1, h2⟩ := i_idx (show cIdx (chkE G sc a) (chkE G sc i) e = true from h)
  exact .plain (sn_idx (sO (i_h_a f sc X h1 g).b h1 g) (sO (i_h_i f2 sc X h2 g).b h2 g) (plainIx h2)) h g rfl
theorem k_slc {a : E} {lo : Oe} {hi : Oe} (i_h_a : I1 G C Γ c a) (i_h_lo : I3 G C Γ c lo) (i_h_hi : I3 G C Γ c hi) : I1 G C Γ c (.slc a lo hi) := fun e sc X h g => by
  obtain ⟨f, l, u, p, q, rfl, h1, h2, h3⟩ := i_slc (show cSlc (chkE G sc a) (chkOe G sc lo) (chkOe G sc hi) e = true from h)
  exact .plain (sn_slc (sO (i_h_a f sc X h1 g).b h1 g) (i_h_lo.1 l sc X h2 g) (i_h_hi.1 u sc X h3 g)) h g rfl
theorem k_pop {i : Nat} {a : E} (i_h_a : I1 G C Γ c a) : I1 G C Γ c (.pop i a) := fun e sc X h g => by
  obtain ⟨x, q2, p, f, q, rfl, k2, k3, k4⟩ := i_pop (show cPop G sc i (chkE G sc a) e = true from h)
  exact .plain (pe_pop (g.var k3) (sO (i_h_a f sc X k4 g).b k4 g) k2 (star1 k4 _ _)) h g rfl
theorem k_comp {elt : E} {t : Tg} {it : It} {cn : Oe} {vs : List Nat} (i_h_elt : I1 G C Γ c elt) (i_h_it : I4 G C Γ c it) (i_h_cn : I3 G C Γ c cn) : I1 G C Γ c (.comp elt t it cn vs) := fun e sc X h g => by
  obtain ⟨f, tg, iter, ifs, scope, p, rfl, h1, h2, h3, h4, h5, h6⟩ := i_comp (show cComp G sc vs t (chkIt G sc t it) (fun sc' => chkE G sc' elt) (fun sc' => chkOe G sc' cn) e = true from h)
  have hk : scope.kind = .function := (blkOk_by (N := G.N) (sc := sc) (own := ownOf G vs) h1).kind
  have z := sn_comp (pos := p) (own := ownOf G vs) g.calm g.ndX (i_h_it t iter tg sc scope X h4 h3 g) (g.blkOk h1) (by rw [own_vs]; exact h2) (fun s H C cl fp => tg_ok (g.blk hk s H C cl fp) h3)
    (fun s H C cl fp => i_h_cn.2 ifs scope _ h6 (g.blk hk s H C cl fp)) (fun s H C cl fp => pe_frz (i_h_elt f scope _ h5 (g.blk hk s H C cl fp)).b) (noSet h4 _)
  rw [own_vs] at z
  exact .plain z h g rfl
theorem k_call0 {f : Nat} : I1 G C Γ c (.call f none .nil) := fun e sc X h g => by
  obtain ⟨x, q, fs, p, np, rfl, h1, eg, h3⟩ := i_call (show cCall G sc f (chkEs G sc .nil) e = true from h)
  obtain ⟨z1, z2, _⟩ := g.glo h1
  have e0 : fs = [] := List.isEmpty_iff.mp h3
  subst e0
  exact .plain (PE.imp (sn_call0 (g.fns f x false np eg.1 eg.2) z1 z2) fun σ H Q ⟨F, ρ, Qd, ok, ⟨_, gw⟩, q⟩ => ⟨F, ρ, Qd, ok, gw, q⟩) h g rfl
theorem k_call1 {f : Nat} {a : E} {as : Es} (i_h : I2 G C Γ c (.cons a as)) : I1 G C Γ c (.call f none (.cons a as)) := fun e sc X h g => by
  obtain ⟨x, q, fs, p, np, rfl, h1, eg, h3⟩ := i_call (show cCall G sc f (chkEs G sc (.cons a as)) e = true from h)
  obtain ⟨z1, z2, _⟩ := g.glo h1
  obtain ⟨f1, fs, rfl, h6, h7⟩ := i_cons (show cCons (chkE G sc a) (chkEs G sc as) fs = true from h3)
  have za := (i_h (f1 :: fs) sc X h3 g).2
  exact .plain (PE.imp (sn_call (g.fns f x false np eg.1 eg.2) z1 z2 za (star1 h6 _ _) (stars h7)) fun σ H Q ⟨F, ρ, Qd, ok, ⟨_, gw⟩, q⟩ => ⟨F, ρ, Qd, ok, gw, q⟩) h g rfl
theorem k_tape {f i : Nat} {es : Es} (i_h : I2 G C Γ c es) : I1 G C Γ c (.call f (some i) es) := fun e sc X h g => by
  obtain ⟨x, q, y, q2, fs, p, np, rfl, h1, eg, h6, h7⟩ := i_tape (show cTape G sc f i (chkEs G sc es) e = true from h)
  obtain ⟨z1, z2, _⟩ := g.glo h1
  exact .plain (sn_tape (g.fns f x true np eg.1 eg.2) z1 z2 (g.var h6) (i_h fs sc X h7 g).2 rfl (stars h7)) h g rfl
theorem k_call {f : Nat} {t : Option Nat} {es : Es} (i_h : I2 G C Γ c es) : I1 G C Γ c (.call f t es) := by
  cases t with
  | some i => exact k_tape i_h
  | none =>
    cases es with
    | nil => exact k_call0
    | cons a as => exact k_call1 i_h
theorem k_callK {f : Nat} {es : Es} {a : E} (i_h : I2 G C Γ c es) (i_h_a : I1 G C Γ c a) : I1 G C Γ c (.callK f es a) := fun e sc X h g => by
  obtain ⟨x, q, f0, fs, kn, gx, kp, p, np, dk, rfl, h1, eg, ek, h3, h4⟩ := i_callK (show cCallK G sc f (chkEs G sc es) (chkE G sc a) e = true from h)
  obtain ⟨z1, z2, _⟩ := g.glo h1
  cases es with
  | nil => exact absurd h3 Bool.false_ne_true
  | cons b bs =>
    obtain ⟨f1, fs', e1, h6, h7⟩ := i_cons (show cCons (chkE G sc b) (chkEs G sc bs) (f0 :: fs) = true from h3)
    cases e1
    exact .plain (sn_callK (g.fnk f x np kn dk eg ek) z1 z2 (i_h (f0 :: fs) sc X h3 g).2 (sO (i_h_a gx sc X h4 g).b h4 g) (star1 h6 _ _) (stars h7)) h g rfl
theorem k_callD {f : Nat} {es : Es} {d : Dk} (i_h : I2 G C Γ c es) : I1 G C Γ c (.callD f d es) := fun e sc X h g => by
  obtain ⟨x, q, f0, fs, kn, p, np, rfl, h1, eg, ek, h3⟩ := i_callD (show cCallD G sc f d (chkEs G sc es) e = true from h)
  obtain ⟨z1, z2, _⟩ := g.glo h1
  cases es with
  | nil => exact absurd h3 Bool.false_ne_true
  | cons b bs =>
    obtain ⟨f1, fs', e1, h6, h7⟩ := i_cons (show cCons (chkE G sc b) (chkEs G sc bs) (f0 :: fs) = true from h3)
    cases e1
    exact .plain (sn_callD (g.fnk f x np kn d eg ek) z1 z2 (i_h (f0 :: fs) sc X h3 g).2 (star1 h6 _ _) (stars h7)) h g rfl
/-- the first argument, as an operand -/
def J2 (G : Glb) (C : List D) (Γ : Nat → FSpec) (c : Ent) : Es → Prop
  | .nil => True
  | .cons a as => I1 G C Γ c a ∧ J2 G C Γ c as
theorem sp_arg {b : Bf} {es : CkEs} {e : Expr} {sc : Scope} (hs : bfSp b = true) (hh : chkSp G sc b es e = true) : ∃ f, es [f] = true := by
  cases b with
  | tupRev =>
    obtain ⟨q, q2, f, p, p2, rfl, h1, h2, h3⟩ := i_tupOf hh
    exact ⟨f, h3⟩
  | tupRng =>
    obtain ⟨q, q2, f, p, p2, rfl, h1, h2, h3⟩ := i_tupOf hh
    exact ⟨f, h3⟩
  | revL =>
    obtain ⟨f, k, q1, q2, q3, p, rfl, h3⟩ := i_revL hh
    exact ⟨f, h3⟩
  | srtR =>
    obtain ⟨q, f, j, q2, kp, p, rfl, h1, h3⟩ := i_srtR hh
    exact ⟨f, h3⟩
  | srtK =>
    obtain ⟨q, f, an, pp, body, sc2, lp, kp, p, rfl, _, _, _, _, h3⟩ := i_srtK hh
    exact ⟨f, h3⟩
  | minK =>
    obtain ⟨q, f, an, pp, body, sc2, lp, kp, p, rfl, _, _, _, _, h3⟩ := i_minK hh
    exact ⟨f, h3⟩
  | _ => cases hs
theorem k_sp {b : Bf} {es : Es} {e : Expr} {sc : Scope} {X : Cx} (hs : bfSp b = true) (i_h : I2 G C Γ c es ∧ J2 G C Γ c es) (hh : chkSp G sc b (chkEs G sc es) e = true) (h : chkE G sc (.bf b es) e = true) (g : Good G C Γ sc X) : SE G C Γ c X (.bf b es) e := by
  match es, i_h, hh, h with
  | .cons a .nil, i_h, hh, h =>
    cases b with
    | tupRev =>
      obtain ⟨q, q2, f, p, p2, rfl, h1, h2, h3⟩ := i_tupOf hh
      obtain ⟨k1, _⟩ := and2 (show (chkE G sc a f && true) = true from h3)
      obtain ⟨z1, z2, _, _⟩ := g.blt h1
      obtain ⟨y1, y2, _, _⟩ := g.blt h2
      exact .plain (sn_tupRev g.calm z1 z2 y1 y2 (sO (i_h.2.1 f sc X k1 g).b k1 g) (star1 k1 _ _)) h g rfl
    | tupRng =>
      obtain ⟨q, q2, f, p, p2, rfl, h1, h2, h3⟩ := i_tupOf hh
      obtain ⟨k1, _⟩ := and2 (show (chkE G sc a f && true) = true from h3)
      obtain ⟨z1, z2, _, _⟩ := g.blt h1
      obtain ⟨y1, y2, _, _⟩ := g.blt h2
      exact .plain (sn_tupRng g.calm z1 z2 y1 y2 (sO (i_h.2.1 f sc X k1 g).b k1 g) (star1 k1 _ _) rfl) h g rfl
    | revL =>
      obtain ⟨f, k, q1, q2, q3, p, rfl, h3⟩ := i_revL hh
      obtain ⟨k1, _⟩ := and2 (show (chkE G sc a f && true) = true from h3)
      exact .plain (sn_revL (sO (i_h.2.1 f sc X k1 g).b k1 g)) h g rfl
    | srtR =>
      obtain ⟨q, f, j, q2, kp, p, rfl, h1, h3⟩ := i_srtR hh
      obtain ⟨k1, _⟩ := and2 (show (chkE G sc a f && true) = true from h3)
      obtain ⟨z1, z2, _, _⟩ := g.blt h1
      exact .plain (sn_srtR (kc := 0) z1 z2 (sO (i_h.2.1 f sc X k1 g).b k1 g) (star1 k1 _ _) pe_bl) h g rfl
    | srtK =>
      obtain ⟨q, f, an, pp, body, sc2, lp, kp, p, rfl, h1, h2, h4, h5, h3⟩ := i_srtK hh
      obtain ⟨k1, _⟩ := and2 (show (chkE G sc a f && true) = true from h3)
      obtain ⟨z1, z2, _, _⟩ := g.blt h5
      exact .plain (sn_srtK (g.lam h1) g.un z1 z2 (sO (i_h.2.1 f sc X k1 g).b k1 g) (star1 k1 _ _) h2 h4) h g rfl
    | minK =>
      obtain ⟨q, f, an, pp, body, sc2, lp, kp, p, rfl, h1, h2, h4, h5, h3⟩ := i_minK hh
      obtain ⟨k1, _⟩ := and2 (show (chkE G sc a f && true) = true from h3)
      obtain ⟨z1, z2, _, _⟩ := g.blt h5
      exact .plain (sn_minK (g.lam h1) g.calm (g.lam h1).dp z1 z2 (sO (i_h.2.1 f sc X k1 g).b k1 g) (star1 k1 _ _) h2 h4) h g rfl
    | _ => cases hs
  | .nil, i_h, hh, h =>
    obtain ⟨f, h3⟩ := sp_arg hs hh
    exact absurd (show false = true from h3) Bool.false_ne_true
  | .cons a (.cons a2 as), i_h, hh, h =>
    obtain ⟨f, h3⟩ := sp_arg hs hh
    exact absurd (and2 (show (chkE G sc a f && false) = true from h3)).2 Bool.false_ne_true
theorem k_bf {b : Bf} {es : Es} (i_h : I2 G C Γ c es ∧ J2 G C Γ c es) : I1 G C Γ c (.bf b es) := fun e sc X h g => by
  have hh : (match isTy b with | some t => cIs G sc t (chkEs G sc es) | none => (match bfDn b with | some x => cBfD G sc x (chkEs G sc es) | none => (if bfSp b = true then chkSp G sc b (chkEs G sc es) else cBf G sc b (chkEs G sc es)))) e = true := h
  cases et : isTy b with
  | some t =>
    rw [et] at hh
    obtain ⟨q, f, q2, p, rfl, h1, h2, h3⟩ := i_is hh
    cases es with
    | nil => exact absurd h3 Bool.false_ne_true
    | cons a as =>
      obtain ⟨k1, k2⟩ := and2 (show (chkE G sc a f && chkEs G sc as []) = true from h3)
      cases as with
      | nil => exact .plain (sn_isb g et h1 h2 (sO (i_h.2.1 f sc X k1 g).b k1 g) k1) h g rfl
      | cons a2 as => exact absurd k2 Bool.false_ne_true
  | none =>
    rw [et] at hh
    cases ed : bfDn b with
    | some z =>
      simp only [ed] at hh
      obtain ⟨q, f, f2, kp, p, rfl, h2, h3⟩ := i_bfD hh
      match es, i_h, h3 with
      | .cons a (.cons a2 .nil), i_h, h3 =>
        obtain ⟨k1, k2⟩ := and2 (show (chkE G sc a f && (chkE G sc a2 f2 && true)) = true from h3)
        obtain ⟨k2, _⟩ := and2 k2
        obtain ⟨z1, z2, z3, z4⟩ := g.blt h2
        have za := sO (i_h.2.1 f sc X k1 g).b k1 g
        have zb := sO (i_h.2.2.1 f2 sc X k2 g).b k2 g
        rcases mxD_of ed with ⟨rfl, rfl⟩ | ⟨rfl, rfl⟩
        · exact .plain (sn_mxD (.inl ⟨rfl, rfl⟩) (cr_maxD g.calm g.un) z1 z2 (by decide +kernel) z4 z3 za zb (star1 k1 _ _)) h g rfl
        · exact .plain (sn_mxD (.inr ⟨rfl, rfl⟩) (cr_minD g.calm g.un) z1 z2 (by decide +kernel) z4 z3 za zb (star1 k1 _ _)) h g rfl
      | .nil, _, h3 => exact absurd (show false = true from h3) Bool.false_ne_true
      | .cons a .nil, _, h3 => exact absurd (and2 (show (chkE G sc a f && false) = true from h3)).2 Bool.false_ne_true
      | .cons a (.cons a2 (.cons a3 as)), _, h3 => exact absurd (and2 (and2 (show (chkE G sc a f && (chkE G sc a2 f2 && false)) = true from h3)).2).2 Bool.false_ne_true
    | none =>
      simp only [ed] at hh
      by_cases hs : bfSp b = true
      · rw [if_pos hs] at hh
        exact k_sp hs i_h hh h g
      · rw [if_neg hs] at hh
        obtain ⟨x, q, f, fs, p, rfl, h1, h2, h3⟩ := i_bf hh
        cases es with
        | nil => exact absurd h3 Bool.false_ne_true
        | cons a as =>
          obtain ⟨k1, k2⟩ := and2 (show (chkE G sc a f && chkEs G sc as fs) = true from h3)
          exact .plain (sn_bf g h1 h2 (i_h.1 (f :: fs) sc X h3 g).2 k1 k2) h g rfl
theorem k_mth {m : Mt} {r : E} {es : Es} (i_h_r : I1 G C Γ c r) (i_h : J2 G C Γ c es) : I1 G C Γ c (.mth m r es) := fun e sc X h g => by
  cases m with
  | index =>
    match es, i_h, h with
    | .cons a .nil, i_h, h =>
      obtain ⟨f, p, f2, q, rfl, k2, k4, k5, k6⟩ := i_mth1 (show cMth1 "index" (chkE G sc r) (chkE G sc a) e = true from h)
      exact .plain (sn_index (sO (i_h_r f sc X k5 g).b k5 g) (sO (i_h.1 f2 sc X k6 g).b k6 g) (base_of k4 _ _ _) k2 (star1 k6 _ _)) h g rfl
    | .nil, _, h => exact absurd (show false = true from h) Bool.false_ne_true
    | .cons _ (.cons _ _), _, h => exact absurd (show false = true from h) Bool.false_ne_true
  | count =>
    match es, i_h, h with
    | .cons a .nil, i_h, h =>
      obtain ⟨f, p, f2, q, rfl, k2, k4, k5, k6⟩ := i_mth1 (show cMth1 "count" (chkE G sc r) (chkE G sc a) e = true from h)
      exact .plain (sn_count (sO (i_h_r f sc X k5 g).b k5 g) (sO (i_h.1 f2 sc X k6 g).b k6 g) (base_of k4 _ _ _) k2 (star1 k6 _ _)) h g rfl
    | .nil, _, h => exact absurd (show false = true from h) Bool.false_ne_true
    | .cons _ (.cons _ _), _, h => exact absurd (show false = true from h) Bool.false_ne_true
  | get =>
    match es, i_h, h with
    | .cons a (.cons b .nil), i_h, h =>
      obtain ⟨f, p, f2, f3, q, rfl, k2, k4, k5, k6, k7⟩ := i_mth2 (show cMth2 "get" (chkE G sc r) (chkE G sc a) (chkE G sc b) e = true from h)
      have hs : starEach [f2, f3] X.env = [(false, eval f2 X.env), (false, eval f3 X.env)] := (star1 k6 _ _).trans (congrArg _ (star1 k7 _ _))
      exact .plain (sn_get (by have := g.un; omega) (sO (i_h_r f sc X k5 g).b k5 g) (sO (i_h.1 f2 sc X k6 g).b k6 g) (sO (i_h.2.1 f3 sc X k7 g).b k7 g) ⟨base_of k4 _ _ _, by rw [hs]; rfl, k2, by rw [hs]; rfl⟩) h g rfl
    | .nil, _, h => exact absurd (show false = true from h) Bool.false_ne_true
    | .cons _ .nil, _, h => exact absurd (show false = true from h) Bool.false_ne_true
    | .cons _ (.cons _ (.cons _ _)), _, h => exact absurd (show false = true from h) Bool.false_ne_true
  | bitLength =>
    cases es with
    | nil =>
      obtain ⟨f, p, q, rfl, k2, k4, k5⟩ := i_mth0 (show cMth0 "bit_length" (chkE G sc r) e = true from h)
      exact .plain (sn_bits (sO (i_h_r f sc X k5 g).b k5 g) (base_of k4 _ _ _) k2) h g rfl
    | cons a as => exact absurd (show false = true from h) Bool.false_ne_true
theorem k_nil : I2 G C Γ c .nil := fun es sc X h g => by
  have e0 : es = [] := List.isEmpty_iff.mp h
  subst e0
  exact ⟨sn_nil, so_nil⟩
theorem k_cons {a : E} {as : Es} (i_h_a : I1 G C Γ c a) (i_h_as : I2 G C Γ c as) : I2 G C Γ c (.cons a as) := fun es sc X h g => by
  obtain ⟨e, es, rfl, h1, h2⟩ := i_cons (show cCons (chkE G sc a) (chkEs G sc as) es = true from h)
  exact ⟨sn_cons (pe_frz (i_h_a e sc X h1 g).b) (i_h_as es sc X h2 g).1 (star1 h1 _ _), so_cons (sO (i_h_a e sc X h1 g).b h1 g) (i_h_as es sc X h2 g).2 (star1 h1 _ _)⟩
theorem k_no : I3 G C Γ c .no := by
  refine ⟨fun e sc X h g => ?_, fun ifs sc X h g => ?_⟩
  · cases e with
    | none => exact so_none
    | some e => exact absurd (show false = true from h) Bool.false_ne_true
  · match ifs, h with
    | [], h => exact ⟨fun pins s σ H Q I ⟨F, ρ, Qd, ok, g, q⟩ => pts_nil.run pins s σ H Q I (q true ρ F H g ok .refl)⟩
    | [f], h => exact absurd (show false = true from (and2 h).2) Bool.false_ne_true
theorem k_yes {a : E} (i_h_a : I1 G C Γ c a) : I3 G C Γ c (.yes a) := by
  refine ⟨fun e sc X h g => ?_, fun ifs sc X h g => ?_⟩
  · cases e with
    | none => exact absurd (show false = true from h) Bool.false_ne_true
    | some e => exact so_some (pe_frz (i_h_a e sc X h g).b)
  · match ifs, h with
    | [], h => exact absurd (show false = true from h) Bool.false_ne_true
    | [f], h => exact pts_one ((i_h_a f sc X (and2 h).2 g).t (and2 h).1)
theorem k_val {a : E} (i_h_a : I1 G C Γ c a) : I4 G C Γ c (.val a) := fun t e tg sc sc2 X h _ g => si_val (pe_frz (i_h_a e sc X h g).b)
theorem k_rng {a : E} (i_h_a : I1 G C Γ c a) : I4 G C Γ c (.rng a) := fun t e tg sc sc2 X h _ g => by
  obtain ⟨q, f, p, rfl, h2, h3⟩ := i_rng (show cRng G sc (chkE G sc a) e = true from h)
  obtain ⟨z1, z2, _⟩ := g.blt h2
  exact si_rng z1 z2 (pe_frz (i_h_a f sc X h3 g).b) (star1 h3 _ _)
theorem k_rng2 {a b : E} (i_h_a : I1 G C Γ c a) (i_h_b : I1 G C Γ c b) : I4 G C Γ c (.rng2 a b) := fun t e tg sc sc2 X h _ g => by
  obtain ⟨q, f, f2, p, rfl, h2, h3, h4⟩ := i_rng2 (show cRng2 G sc (chkE G sc a) (chkE G sc b) e = true from h)
  obtain ⟨z1, z2, _⟩ := g.blt h2
  exact si_rng2 z1 z2 (pe_frz (i_h_a f sc X h3 g).b) (pe_frz (i_h_b f2 sc X h4 g).b) (star1 h3 _ _) (star1 h4 _ _)
theorem tp_tup {sc : Scope} {t : Tg} {tg : Expr} (ht : isTp t = true) (h : chkT G sc t tg = true) : ∃ es k p, tg = .Tuple es k p := by
  cases t with
  | nm i => cases ht
  | tp is =>
    cases tg with
    | Tuple es k p => exact ⟨_, _, _, rfl⟩
    | _ => exact absurd h Bool.false_ne_true
theorem k_enum {a : E} (i_h_a : I1 G C Γ c a) : I4 G C Γ c (.enum a) := fun t e tg sc sc2 X h ht g => by
  obtain ⟨h0, h⟩ := and2 (show (isTp t && cEnum G sc (chkE G sc a) e) = true from h)
  obtain ⟨es, k, tp, rfl⟩ := tp_tup h0 ht
  obtain ⟨q, f, p, rfl, h2, h3⟩ := i_enum h
  obtain ⟨z1, z2, _⟩ := g.blt h2
  exact si_enum z1 z2 (pe_frz (i_h_a f sc X h3 g).b) (star1 h3 _ _)
theorem k_zip {a b : E} (i_h_a : I1 G C Γ c a) (i_h_b : I1 G C Γ c b) : I4 G C Γ c (.zip a b) := fun t e tg sc sc2 X h ht g => by
  obtain ⟨h0, h⟩ := and2 (show (isTp t && cZip G sc (chkE G sc a) (chkE G sc b) e) = true from h)
  obtain ⟨es, k, tp, rfl⟩ := tp_tup h0 ht
  obtain ⟨q, f, f2, p, rfl, h2, h3, h4⟩ := i_zip h
  obtain ⟨z1, z2, _⟩ := g.blt h2
  exact si_zip z1 z2 (pe_frz (i_h_a f sc X h3 g).b) (pe_frz (i_h_b f2 sc X h4 g).b) (star1 h3 _ _) (star1 h4 _ _)
theorem k_comp2 {elt : E} {t t1 : Tg} {it it1 : It} {cn : Oe} {vs vs1 : List Nat} (i_h_elt : I1 G C Γ c elt) (i_h_it : I4 G C Γ c it) (i_h_it1 : I4 G C Γ c it1) (i_h_cn : I3 G C Γ c cn) : I1 G C Γ c (.comp2 elt t it t1 it1 cn vs vs1) := fun e sc X h g => by
  obtain ⟨f, tg, iter, tg1, iter1, ifs, scope, p, rfl, h1, h2, h2b, hv, h3, h3b, h4, h4b, h5, h6⟩ := i_comp2 (show cComp2 G sc vs vs1 t t1 (chkIt G sc t it) (fun sc' => chkIt G sc' t1 it1) (fun sc' => chkE G sc' elt) (fun sc' => chkOe G sc' cn) e = true from h)
  have hk : scope.kind = .function := (blkOk_by (N := G.N) (sc := sc) (own := ownOf G vs) h1).kind
  have z := sn_comp2 (pos := p) (own := ownOf G vs) (vs1 := vs1) (ifs := []) g.calm g.ndX (i_h_it t iter tg sc scope X h4 h3 g) (g.blkOk h1) (by rw [own_vs]; exact hv) (by rw [own_vs]; exact h2) h2b (fun s H C cl fp => tg_ok (g.blk hk s H C cl fp) h3)
    (fun s H Cc cl fp => (k_no (G := G) (C := C) (Γ := Γ) (c := c)).2 [] scope _ rfl (g.blk hk s H Cc cl fp))
    (fun s H C cl fp => i_h_it1 t1 iter1 tg1 scope scope _ h4b h3b (g.blk hk s H C cl fp)) (fun s H C cl fp => tg_ok (g.blk hk s H C cl fp) h3b)
    (fun s H C cl fp => i_h_cn.2 ifs scope _ h6 (g.blk hk s H C cl fp)) (fun s H C cl fp => pe_frz (i_h_elt f scope _ h5 (g.blk hk s H C cl fp)).b) (noSet h4 _) (fun env => noSet h4b env)
  rw [own_vs] at z
  exact .plain z h g rfl
mutual
theorem snd (c : Ent) : ∀ a : E, I1 G C Γ c a
  | .var _ => k_var
  | .brw _ => k_brw
  | .int _ => k_int
  | .bl _ => k_bl
  | .non => k_non
  | .str _ => k_str
  | .glob _ => k_glob
  | .un _ a => k_un (snd c a)
  | .not a => k_not (snd c a)
  | .bin _ a b => k_bin (snd c a) (snd c b)
  | .cmp _ a b => k_cmp (snd c a) (snd c b)
  | .chn _ _ a b d => k_chn (snd c a) (snd c b) (snd c d)
  | .and a b => k_and (snd c a) (snd c b)
  | .or a b => k_or (snd c a) (snd c b)
  | .ite t a b => k_ite (snd c t) (snd c a) (snd c b)
  | .tup es => k_tup (sndEs c es).1
  | .lst es => k_lst (sndEs c es).1
  | .idx a i => k_idx (snd c a) (snd c i)
  | .slc a lo hi => k_slc (snd c a) (sndOe c lo) (sndOe c hi)
  | .call _ _ es => k_call (sndEs c es).1
  | .bf _ es => k_bf (sndEs c es)
  | .mth _ r es => k_mth (snd c r) (sndEs c es).2
  | .pop _ a => k_pop (snd c a)
  | .comp elt _ it cn _ => k_comp (snd c elt) (sndIt c it) (sndOe c cn)
  | .callK _ es a => k_callK (sndEs c es).1 (snd c a)
  | .callD _ _ es => k_callD (sndEs c es).1
  | .comp2 elt _ it _ it1 cn _ _ => k_comp2 (snd c elt) (sndIt c it) (sndIt c it1) (sndOe c cn)
theorem sndEs (c : Ent) : ∀ as : Es, I2 G C Γ c as ∧ J2 G C Γ c as
  | .nil => ⟨k_nil, trivial⟩
  | .cons a as => ⟨k_cons (snd c a) (sndEs c as).1, snd c a, (sndEs c as).2⟩
theorem sndOe (c : Ent) : ∀ a : Oe, I3 G C Γ c a
  | .no => k_no
  | .yes a => k_yes (snd c a)
theorem sndIt (c : Ent) : ∀ a : It, I4 G C Γ c a
  | .val a => k_val (snd c a)
  | .rng a => k_rng (snd c a)
  | .rng2 a b => k_rng2 (snd c a) (snd c b)
  | .enum a => k_enum (snd c a)
  | .zip a b => k_zip (snd c a) (snd c b)
  | .rev a => fun t e tg sc sc2 X h _ g => absurd (show false = true from h) Bool.false_ne_true
end
end
end DL

set_option maxHeartbeats 8000000
/-! DL part S: the mini syntax's meaning is the text's. Statements. -/
namespace DL
open PySem PySem.Spec PyProof.Rows L2
section
variable {G : Glb} {C : List D} {Γ : Nat → FSpec} {c : Ent} {sc : Scope} {X : Cx} {a : E} {e e2 : Expr} {i : Nat} {y : Str} {py pos p p' : Pos}
theorem comp_of {f : Expr} {gs : List Comprehension} {scope : Scope} (h : chkE G sc a (.ListComp f gs scope p) = true) : (∃ elt t it cn vs, a = .comp elt t it cn vs) ∨ ∃ elt t it t1 it1 cn vs vs1, a = .comp2 elt t it t1 it1 cn vs vs1 := by
  match a, h with
  | .comp elt t it cn vs, h => exact .inl ⟨_, _, _, _, _, rfl⟩
  | .comp2 elt t it t1 it1 cn vs vs1, h => exact .inr ⟨_, _, _, _, _, _, _, _, rfl⟩
  | .callK f es a, h => exact absurd (show false = true from h) Bool.false_ne_true
  | .callD f d es, h => exact absurd (show false = true from h) Bool.false_ne_true
  | .var i, h => exact absurd (show false = true from h) Bool.false_ne_true
  | .brw i, h => exact absurd (show false = true from h) Bool.false_ne_true
  | .int n, h => exact absurd (show false = true from h) Bool.false_ne_true
  | .bl n, h => exact absurd (show false = true from h) Bool.false_ne_true
  | .non, h => exact absurd (show false = true from h) Bool.false_ne_true
  | .str n, h => exact absurd (show false = true from h) Bool.false_ne_true
  | .glob n, h => exact absurd (show false = true from h) Bool.false_ne_true
  | .un o a, h => exact absurd (show false = true from h) Bool.false_ne_true
  | .not a, h => exact absurd (show false = true from h) Bool.false_ne_true
  | .bin o a b, h => exact absurd (show false = true from h) Bool.false_ne_true
  | .cmp o a b, h => exact absurd (show false = true from h) Bool.false_ne_true
  | .chn o1 o2 a b c, h => exact absurd (show false = true from h) Bool.false_ne_true
  | .and a b, h => exact absurd (show false = true from h) Bool.false_ne_true
  | .or a b, h => exact absurd (show false = true from h) Bool.false_ne_true
  | .ite t a b, h => exact absurd (show false = true from h) Bool.false_ne_true
  | .tup es, h => exact absurd (show false = true from h) Bool.false_ne_true
  | .lst es, h => exact absurd (show false = true from h) Bool.false_ne_true
  | .idx a b, h => exact absurd (show false = true from h) Bool.false_ne_true
  | .slc a l hh, h => exact absurd (show false = true from h) Bool.false_ne_true
  | .call f none es, h => exact absurd (show false = true from h) Bool.false_ne_true
  | .call f (some i) es, h => exact absurd (show false = true from h) Bool.false_ne_true
  | .bf b es, h =>
    have h : (match isTy b with | some t => cIs G sc t (chkEs G sc es) | none => (match bfDn b with | some x => cBfD G sc x (chkEs G sc es) | none => (if bfSp b = true then chkSp G sc b (chkEs G sc es) else cBf G sc b (chkEs G sc es)))) (.ListComp f gs scope p) = true := h
    cases et : isTy b with
    | some t =>
      rw [et] at h
      exact absurd (show false = true from h) Bool.false_ne_true
    | none =>
      rw [et] at h
      cases ed : bfDn b with
      | some x =>
        simp only [ed] at h
        exact absurd (show false = true from h) Bool.false_ne_true
      | none =>
        simp only [ed] at h
        split at h
        · cases b <;> exact absurd (show false = true from h) Bool.false_ne_true
        · exact absurd (show false = true from h) Bool.false_ne_true
  | .mth .index r .nil, h => exact absurd (show false = true from h) Bool.false_ne_true
  | .mth .index r (.cons _ .nil), h => exact absurd (show false = true from h) Bool.false_ne_true
  | .mth .index r (.cons _ (.cons _ _)), h => exact absurd (show false = true from h) Bool.false_ne_true
  | .mth .count r .nil, h => exact absurd (show false = true from h) Bool.false_ne_true
  | .mth .count r (.cons _ .nil), h => exact absurd (show false = true from h) Bool.false_ne_true
  | .mth .count r (.cons _ (.cons _ _)), h => exact absurd (show false = true from h) Bool.false_ne_true
  | .mth .get r .nil, h => exact absurd (show false = true from h) Bool.false_ne_true
  | .mth .get r (.cons _ .nil), h => exact absurd (show false = true from h) Bool.false_ne_true
  | .mth .get r (.cons _ (.cons _ .nil)), h => exact absurd (show false = true from h) Bool.false_ne_true
  | .mth .get r (.cons _ (.cons _ (.cons _ _))), h => exact absurd (show false = true from h) Bool.false_ne_true
  | .mth .bitLength r .nil, h => exact absurd (show false = true from h) Bool.false_ne_true
  | .mth .bitLength r (.cons _ _), h => exact absurd (show false = true from h) Bool.false_ne_true
  | .pop i a, h => exact absurd (show false = true from h) Bool.false_ne_true
theorem sw_no (h : isComp e = false) (t : Option Expr) (l : Nat) (env : Env) : swapsWith e t l env = pure false := by
  cases e with
  | ListComp => cases h
  | SetComp => cases h
  | DictComp => cases h
  | _ => rfl
theorem noSC {Q : Prop} {f : Expr} {gs : List Comprehension} {s : Scope} (h : chkE G sc a (.SetComp f gs s p) = true) : Q := False.elim <|
  chk_no ⟨fun _ => rfl, fun _ => rfl, fun _ _ => rfl, fun _ _ _ => rfl, fun _ _ _ => rfl, fun _ _ _ _ _ => rfl, fun _ _ _ => rfl, fun _ _ _ => rfl, fun _ => rfl, fun _ => rfl, fun _ _ => rfl, fun _ _ _ => rfl, fun _ _ => rfl, fun _ _ _ => rfl, fun _ _ => rfl, fun _ _ => rfl, fun _ _ => rfl, fun _ _ => rfl, fun _ _ _ _ _ => rfl, fun _ _ => rfl, fun b _ => by cases b <;> rfl, fun _ _ _ => rfl, fun _ _ _ _ => rfl, fun _ _ _ => rfl, fun _ _ _ => rfl, fun _ _ _ _ _ _ _ _ => rfl⟩ h
theorem noDC {Q : Prop} {f k : Expr} {gs : List Comprehension} {s : Scope} (h : chkE G sc a (.DictComp f k gs s p) = true) : Q := False.elim <|
  chk_no ⟨fun _ => rfl, fun _ => rfl, fun _ _ => rfl, fun _ _ _ => rfl, fun _ _ _ => rfl, fun _ _ _ _ _ => rfl, fun _ _ _ => rfl, fun _ _ _ => rfl, fun _ => rfl, fun _ => rfl, fun _ _ => rfl, fun _ _ _ => rfl, fun _ _ => rfl, fun _ _ _ => rfl, fun _ _ => rfl, fun _ _ => rfl, fun _ _ => rfl, fun _ _ => rfl, fun _ _ _ _ _ => rfl, fun _ _ => rfl, fun b _ => by cases b <;> rfl, fun _ _ _ => rfl, fun _ _ _ _ => rfl, fun _ _ _ => rfl, fun _ _ _ => rfl, fun _ _ _ _ _ _ _ _ => rfl⟩ h
/-- a name assigned -/
theorem set_any (hs : stoN G sc i y = true) (h : chkE G sc a e = true) (g : Good G C Γ sc X) : PS X (.Assign [.Name y py] e pos) (tAsg (tB X.K c (wB C Γ a)) (gName i)) := by
  obtain ⟨z1, z2, z3, _⟩ := g.sto hs
  by_cases hc : isComp e = false
  · exact ps_set g.ndX z1 z2 (snd c a e sc X h g).b (sw_no hc _ _ _) z3
  · cases e with
    | ListComp f gs scope p =>
      cases hb : (X.env.blockKind == .function && X.env.kindOf y == some .local && py.line == p.line && !(scope.names.any fun (n, k) => n == y && (k == .local || k == .cell))) with
      | false =>
        refine ps_set g.ndX z1 z2 (snd c a _ sc X h g).b ?_ z3
        rw [← hb]
        rfl
      | true =>
        obtain ⟨hb1, _⟩ := and2 hb
        obtain ⟨hb1, _⟩ := and2 hb1
        obtain ⟨_, hb2⟩ := and2 hb1
        have hyl : X.env.scope.names.lookup y = some .local := by
          have z : (X.env.scope.names.lookup y == some .local) = true := hb2
          simpa using z
        rcases comp_of h with ⟨elt, t, it, cn, vs, rfl⟩ | ⟨elt, t, it, t1, it1, cn, vs, vs1, rfl⟩
        · obtain ⟨f', tg, iter, ifs, scope', p', ee, h1, h2, h3, h4, h5, h6⟩ := i_comp (show cComp G sc vs t (chkIt G sc t it) (fun sc' => chkE G sc' elt) (fun sc' => chkOe G sc' cn) (.ListComp f gs scope p) = true from h)
          cases ee
          have hk : scope.kind = .function := (blkOk_by (N := G.N) (sc := sc) (own := ownOf G vs) h1).kind
          have z := ps_setLc (g := gB X.K t) (te := tFz X.K c (frz (wB C Γ elt))) (tt := tT X.K c (wpC C Γ noR cn)) (elt := f) (py := py) (spos := pos) (pos := p) (own := ownOf G vs) g.calm g.ndX z1 hyl (by rw [← hb]; rfl) (sndIt c it t iter tg sc scope X h4 h3 g) (g.blkOk h1) (fun s H C cl fp => tg_ok (g.blk hk s H C cl fp) h3)
            (fun s H C cl fp => (sndOe c cn).2 ifs scope _ h6 (g.blk hk s H C cl fp)) (fun s H C cl fp => pe_frz (snd c elt f scope _ h5 (g.blk hk s H C cl fp)).b) (noSet h4 _)
          refine PS.imp z fun D σ H q => ?_
          refine comp_run (wi := tI X.K c (wpIt C Γ noR it)) (by rw [own_vs]; exact h2) ?_
          rw [own_vs]
          exact q
        · obtain ⟨f', tg, iter, tg1, iter1, ifs, scope', p', ee, h1, h2, h2b, hv, h3, h3b, h4, h4b, h5, h6⟩ := i_comp2 (show cComp2 G sc vs vs1 t t1 (chkIt G sc t it) (fun sc' => chkIt G sc' t1 it1) (fun sc' => chkE G sc' elt) (fun sc' => chkOe G sc' cn) (.ListComp f gs scope p) = true from h)
          cases ee
          have hk : scope.kind = .function := (blkOk_by (N := G.N) (sc := sc) (own := ownOf G vs) h1).kind
          have z := ps_setLc2 (wi1 := tI X.K c (wpIt C Γ noR it1)) (g := gB X.K t) (g1 := gB X.K t1) (vs1 := vs1) (te := tFz X.K c (frz (wB C Γ elt))) (tt := tT X.K c fun ρ Q => Q true ρ) (tt1 := tT X.K c (wpC C Γ noR cn)) (elt := f) (py := py) (spos := pos) (pos := p) (own := ownOf G vs) g.calm g.ndX z1 hyl (by rw [← hb]; rfl) (sndIt c it t iter tg sc scope X h4 h3 g) (g.blkOk h1) (by rw [own_vs]; exact hv) (fun s H C cl fp => tg_ok (g.blk hk s H C cl fp) h3)
            (fun s H Cc cl fp => (sndOe (G := G) (C := C) (Γ := Γ) c .no).2 [] scope _ rfl (g.blk hk s H Cc cl fp)) (fun s H C cl fp => sndIt c it1 t1 iter1 tg1 scope scope _ h4b h3b (g.blk hk s H C cl fp)) (fun s H C cl fp => tg_ok (g.blk hk s H C cl fp) h3b)
            (fun s H C cl fp => (sndOe c cn).2 ifs scope _ h6 (g.blk hk s H C cl fp)) (fun s H C cl fp => pe_frz (snd c elt f scope _ h5 (g.blk hk s H C cl fp)).b) (noSet h4 _) (fun env => noSet h4b env)
          refine PS.imp z fun D σ H q => ?_
          refine comp_run2 (wIt := wpIt C Γ noR it) (wIt1 := wpIt C Γ noR it1) (by rw [own_vs]; exact h2) h2b ?_
          rw [own_vs]
          exact q
    | SetComp => exact noSC h
    | DictComp => exact noDC h
    | _ => exact absurd rfl hc

/-! the checks of statements -/
theorem j_asg {q : Str → Bool} {b : CkE} {st : Stmt} (h : sAsg q b st = true) : ∃ x px f pp, st = .Assign [.Name x px] f pp ∧ q x = true ∧ b f = true := by
  unfold sAsg at h
  split at h
  · exact ⟨_, _, _, _, rfl, and2 h⟩
  · cases h
theorem j_tup {q : List Expr → Bool} {b : CkE} {st : Stmt} (h : sTup q b st = true) : ∃ es k px f pp, st = .Assign [.Tuple es k px] f pp ∧ q es = true ∧ isComp f = false ∧ notTup f = true ∧ b f = true := by
  unfold sTup at h
  split at h
  · obtain ⟨h1, h2⟩ := and2 h
    obtain ⟨h3, h4⟩ := and2 h2
    exact ⟨_, _, _, _, _, rfl, h1, by simpa using h3, and2 h4⟩
  · cases h
theorem j_aug {o : Operator} {q : Str → Bool} {b : CkE} {st : Stmt} (h : sAug o q b st = true) : ∃ x px f pp, st = .AugAssign (.Name x px) o f pp ∧ q x = true ∧ b f = true := by
  unfold sAug at h
  split at h
  · obtain ⟨h1, h2⟩ := and2 h
    have k := of_decide_eq_true h1
    subst k
    exact ⟨_, _, _, _, rfl, and2 h2⟩
  · cases h
theorem j_mth {m : Str} {q : Str → Bool} {b : CkE} {st : Stmt} (h : sMth m q b st = true) : ∃ x px ap f cp pp, st = .Expr (.Call (.Attribute (.Name x px) m ap) [f] [] cp) pp ∧ (ap.endLine == cp.line) = true ∧ q x = true ∧ b f = true := by
  unfold sMth at h
  split at h
  · obtain ⟨h1, h2⟩ := and2 h
    obtain ⟨h3, h4⟩ := and2 h2
    have k := of_decide_eq_true h1
    subst k
    exact ⟨_, _, _, _, _, _, rfl, h3, and2 h4⟩
  · cases h
theorem j_put {q : Str → Bool} {ix b : CkE} {st : Stmt} (h : sPut q ix b st = true) : ∃ x px g sp f pp, st = .Assign [.Subscript (.Name x px) g sp] f pp ∧ q x = true ∧ ix g = true ∧ isComp f = false ∧ b f = true := by
  unfold sPut at h
  split at h
  · obtain ⟨h1, h2⟩ := and2 h
    obtain ⟨h3, h4⟩ := and2 h2
    obtain ⟨h5, h6⟩ := and2 h4
    exact ⟨_, _, _, _, _, _, rfl, h1, h3, by simpa using h5, h6⟩
  · cases h
theorem j_expr {b : CkE} {st : Stmt} (h : sExpr b st = true) : ∃ f pp, st = .Expr f pp ∧ isComp f = false ∧ b f = true := by
  unfold sExpr at h
  split at h
  · obtain ⟨h1, h2⟩ := and2 h
    exact ⟨_, _, rfl, by simpa using h1, h2⟩
  · cases h
theorem j_ret {b : CkO} {st : Stmt} (h : sRet b st = true) : ∃ f pp, st = .Return f pp ∧ b f = true := by
  unfold sRet at h
  split at h
  · exact ⟨_, _, rfl, h⟩
  · cases h
theorem j_if {t : CkE} {b d : CkSs} {st : Stmt} (h : sIf t b d st = true) : ∃ e f g pp, st = .If e f g pp ∧ noIte e = true ∧ t e = true ∧ b f = true ∧ d g = true := by
  unfold sIf at h
  split at h
  · obtain ⟨h1, h2⟩ := and2 h
    obtain ⟨h3, h4⟩ := and2 h2
    exact ⟨_, _, _, _, rfl, h1, h3, and2 h4⟩
  · cases h
theorem j_whl {t : CkE} {b : CkSs} {st : Stmt} (h : sWhl t b st = true) : ∃ e f pp, st = .While e f [] pp ∧ noIte e = true ∧ t e = true ∧ b f = true := by
  unfold sWhl at h
  split at h
  · obtain ⟨h1, h2⟩ := and2 h
    exact ⟨_, _, _, rfl, h1, and2 h2⟩
  · cases h
theorem j_for {t it : CkE} {b : CkSs} {st : Stmt} (h : sFor t it b st = true) : ∃ e f g pp, st = .For e f g [] pp ∧ t e = true ∧ it f = true ∧ b g = true := by
  unfold sFor at h
  split at h
  · obtain ⟨h1, h2⟩ := and2 h
    exact ⟨_, _, _, _, rfl, h1, and2 h2⟩
  · cases h
theorem j_brk {st : Stmt} (h : sBrk st = true) : ∃ pp, st = .Break pp := by
  unfold sBrk at h
  split at h
  · exact ⟨_, rfl⟩
  · cases h
theorem j_cnt {st : Stmt} (h : sCnt st = true) : ∃ pp, st = .Continue pp := by
  unfold sCnt at h
  split at h
  · exact ⟨_, rfl⟩
  · cases h
theorem j_pas {st : Stmt} (h : sPas st = true) : ∃ pp, st = .Pass pp := by
  unfold sPas at h
  split at h
  · exact ⟨_, rfl⟩
  · cases h
theorem j_cons {b : CkS} {bs : CkSs} {sts : List Stmt} (h : sCons b bs sts = true) : ∃ st r, sts = st :: r ∧ b st = true ∧ bs r = true := by
  unfold sCons at h
  split at h
  · exact ⟨_, _, rfl, and2 h⟩
  · cases h
abbrev I5 (G : Glb) (C : List D) (Γ : Nat → FSpec) (c : Ent) (s : S) : Prop := ∀ (st : Stmt) (sc : Scope) (X : Cx), chkS G sc s st = true → Good G C Γ sc X → PassesOwn (model X.prog X.w) X.A X.env X.xe → PS X st (tS X.K c (wpS C Γ s))
abbrev I6 (G : Glb) (C : List D) (Γ : Nat → FSpec) (c : Ent) (ss : Ss) : Prop := ∀ (sts : List Stmt) (sc : Scope) (X : Cx), chkSs G sc ss sts = true → Good G C Γ sc X → PassesOwn (model X.prog X.w) X.A X.env X.xe → PSs X sts (tS X.K c (wpSs C Γ ss))
abbrev I7 (G : Glb) (C : List D) (Γ : Nat → FSpec) (c : Ent) (n : Nt) : Prop := ∀ (i a : Nat) (st : Stmt) (sc : Scope) (X : Cx), chkN G sc i n st = true → Good G C Γ sc X → PassesOwn (model X.prog X.w) X.A X.env X.xe → PS X st (tN X.K c a (wpN C Γ i a n))
abbrev I8 (G : Glb) (C : List D) (Γ : Nat → FSpec) (c : Ent) (ns : Ns) : Prop := (∀ (i a : Nat) (sts : List Stmt) (sc : Scope) (X : Cx), chkNs G sc i ns List.isEmpty sts = true → Good G C Γ sc X → PassesOwn (model X.prog X.w) X.A X.env X.xe → PSs X sts (tN X.K c a (wpNs C Γ i a ns))) ∧
  ∀ (i a : Nat) (k : CkSs) (u : WS) (sts : List Stmt) (sc : Scope) (X : Cx), (∀ sts', k sts' = true → PSs X sts' (tS X.K c u)) → chkNs G sc i ns k sts = true → Good G C Γ sc X → PassesOwn (model X.prog X.w) X.A X.env X.xe → PSs X sts (tNS X.K c a fun ρ rw kd => wpNs C Γ i a ns ρ rw (kEnd i a u kd))
abbrev wR (C : List D) (Γ : Nat → FSpec) (a : E) : (Xn → Store → Prop) → WB := fun R => wpB C Γ R a
theorem q_asgN {i : Nat} {a : E} : I5 G C Γ c (.asg (.nm i) a) := fun st sc X h g hp => by
  obtain ⟨x, px, f, pp, rfl, h1, h2⟩ := j_asg (show sAsg (stoN G sc i) (chkE G sc a) st = true from h)
  have z := set_any (c := c) (py := px) (pos := pp) h1 h2 g
  exact PS.imp z fun D σ H ⟨F, ρ, k, ok, h, q⟩ => by
    have h : frz (wpB C Γ k.ex a) ρ fun d ρ1 => bindT (.nm i) d ρ1 k.nx := h
    rw [q.ex] at h
    refine ⟨F, ρ, _, ok, h, fun d fr ρ1 v F1 H1 hb ok1 ex1 r1 => ?_⟩
    obtain ⟨F2, ok2, ex2, r2⟩ := r1.freeze ok ok1 ex1
    exact bind_ok (t := .nm i) ok2 r2 hb fun σ' ρ' hk ok' => q.nx ρ' σ' F2 H1 hk ok' ex2.ff
theorem q_asgT {is : List Nat} {a : E} : I5 G C Γ c (.asg (.tp is) a) := fun st sc X h g hp => by
  obtain ⟨es, k, px, f, pp, rfl, h1, h2, h3, h4⟩ := j_tup (show sTup (chkTgs G sc is) (chkE G sc a) st = true from h)
  refine ps_asgT (w := wR C Γ a) (pe_frz (snd c a f sc X h4 g).b) fun te he => ps_asg he (tg_ok (t := .tp is) (e := .Tuple es k px) g h1) (by unfold swapsWithSole; exact sw_no h2 _ _ _) ?_ rfl
  cases f with
  | Tuple => cases h3
  | _ => rfl
theorem q_own {i : Nat} {a : E} : I5 G C Γ c (.own i a) := fun st sc X h g hp => by
  obtain ⟨x, px, f, pp, rfl, h1, h2⟩ := j_asg (show sAsg (stoN G sc i) (chkE G sc a) st = true from h)
  have z := set_any (c := c) (py := px) (pos := pp) h1 h2 g
  exact ps_ownZ (w := wR C Γ a) z
theorem q_aug {i : Nat} {o : Operator} {a : E} : I5 G C Γ c (.aug i o a) := fun st sc X h g hp => by
  obtain ⟨x, px, f, pp, rfl, h1, h2⟩ := j_aug (show sAug o (stoN G sc i) (chkE G sc a) st = true from h)
  obtain ⟨z1, z2, z3, z4, z5⟩ := g.sto h1
  exact ps_augT (w := wR C Γ a) (pe_var z1 (z2.elim .inl fun z => .inr (.inl z)) z4 z5) (pe_frz (snd c a f sc X h2 g).b) g.ndX z1 z2 z3
theorem q_app {i : Nat} {a : E} : I5 G C Γ c (.app i a) := fun st sc X h g hp => by
  obtain ⟨x, px, ap, f, cp, pp, rfl, h1, h2, h3⟩ := j_mth (show sMth "append" (locN G sc i) (chkE G sc a) st = true from h)
  exact pe_app (w := wR C Γ a) (g.var h2) (pe_frz (snd c a f sc X h3 g).b) h1 (star1 h3 _ _)
theorem q_ext {i : Nat} {a : E} : I5 G C Γ c (.ext i a) := fun st sc X h g hp => by
  obtain ⟨x, px, ap, f, cp, pp, rfl, h1, h2, h3⟩ := j_mth (show sMth "extend" (locN G sc i) (chkE G sc a) st = true from h)
  exact pe_ext (w := wR C Γ a) (g.var h2) (pe_frz (snd c a f sc X h3 g).b) h1 (star1 h3 _ _)
theorem q_put {i : Nat} {ix a : E} : I5 G C Γ c (.put i ix a) := fun st sc X h g hp => by
  obtain ⟨x, px, k, sp, f, pp, rfl, h1, h2, h3, h4⟩ := j_put (show sPut (locN G sc i) (chkE G sc ix) (chkE G sc a) st = true from h)
  refine pe_put (w := wR C Γ a) (wi := wR C Γ ix) (g.var h1) (pe_frz (snd c a f sc X h4 g).b) (pe_frz (snd c ix k sc X h2 g).b) (by unfold swapsWithSole; exact sw_no h3 _ _ _) rfl fun v => ?_
  cases k with
  | Slice => exact (noSlice h2).elim
  | _ => rfl
theorem q_expr {a : E} : I5 G C Γ c (.expr a) := fun st sc X h g hp => by
  obtain ⟨f, pp, rfl, h1, h2⟩ := j_expr (show sExpr (chkE G sc a) st = true from h)
  exact ps_exprT (w := wR C Γ a) (pe_frz (snd c a f sc X h2 g).b) fun te he => ps_expr he (sw_no h1 _ _ _)
theorem i_yes {b : CkE} {f : Option Expr} (h : cYes b f = true) : ∃ e, f = some e ∧ b e = true := by
  cases f with
  | none => cases h
  | some e => exact ⟨e, rfl, h⟩
theorem q_ret {a : E} : I5 G C Γ c (.ret a) := fun st sc X h g hp => by
  obtain ⟨f, pp, rfl, h1⟩ := j_ret (show sRet (cYes (chkE G sc a)) st = true from h)
  obtain ⟨e, rfl, h2⟩ := i_yes h1
  exact ps_retT (w := wR C Γ a) (snd c a e sc X h2 g).b
theorem q_retO {i : Nat} : I5 G C Γ c (.retO i) := fun st sc X h g hp => by
  obtain ⟨f, pp, rfl, h1⟩ := j_ret (show sRet (cYes (cName (locN G sc i))) st = true from h)
  obtain ⟨e, rfl, h2⟩ := i_yes h1
  obtain ⟨x, q, rfl, h3⟩ := i_name h2
  exact ps_retOT (g.var h3)
theorem q_retN : I5 G C Γ c .retN := fun st sc X h g hp => by
  obtain ⟨f, pp, rfl, h1⟩ := j_ret (show sRet Option.isNone st = true from h)
  cases f with
  | none => exact ps_retNT
  | some e => cases h1
theorem q_ifs {t : E} {a b : Ss} (ia : I6 G C Γ c a) (ib : I6 G C Γ c b) : I5 G C Γ c (.ifs t a b) := fun st sc X h g hp => by
  obtain ⟨e, f, k, pp, rfl, h1, h2, h3, h4⟩ := j_if (show sIf (chkE G sc t) (chkSs G sc a) (chkSs G sc b) st = true from h)
  exact ps_ifT (tt := fun R => tst (oper t (wpB C Γ R t))) ((snd c t e sc X h2 g).t h1) (ia f sc X h3 g hp) (ib k sc X h4 g hp)
theorem q_whl {t : E} {b : Ss} (ib : I6 G C Γ c b) : I5 G C Γ c (.whl t b) := fun st sc X h g hp => by
  obtain ⟨e, f, pp, rfl, h1, h2, h3⟩ := j_whl (show sWhl (chkE G sc t) (chkSs G sc b) st = true from h)
  exact ps_whlT (tt := fun R => tst (oper t (wpB C Γ R t))) hp ((snd c t e sc X h2 g).t h1) (ib f sc X h3 g hp)
theorem q_fors {t : Tg} {it : It} {b : Ss} (ib : I6 G C Γ c b) : I5 G C Γ c (.fors t it b) := fun st sc X h g hp => by
  obtain ⟨e, f, k, pp, rfl, h1, h2, h3⟩ := j_for (show sFor (chkT G sc t) (chkIt G sc t it) (chkSs G sc b) st = true from h)
  exact ps_forT (ti := fun R => wpIt C Γ R it) hp g.calm (sndIt c it t f e sc sc X h2 h1 g) (tg_ok g h1) (ib k sc X h3 g hp) (noSet h2 _)
theorem q_brk : I5 G C Γ c .brk := fun st sc X h g hp => by
  obtain ⟨pp, rfl⟩ := j_brk (show sBrk st = true from h)
  exact ps_brkT
theorem q_cnt : I5 G C Γ c .cnt := fun st sc X h g hp => by
  obtain ⟨pp, rfl⟩ := j_cnt (show sCnt st = true from h)
  exact ps_cntT
theorem q_pas : I5 G C Γ c .pas := fun st sc X h g hp => by
  obtain ⟨pp, rfl⟩ := j_pas (show sPas st = true from h)
  exact ps_pasT
theorem q_nev : I5 G C Γ c .nev := fun st sc X h g hp => ps_nevT
theorem q_nil : I6 G C Γ c .nil := fun sts sc X h g hp => by
  have e0 : sts = [] := List.isEmpty_iff.mp h
  subst e0
  exact ss_nil
theorem j_als {q r : Str → Bool} {ix : CkE} {st : Stmt} (h : sAls q r ix st = true) : ∃ y py x px g sp pp, st = .Assign [.Name y py] (.Subscript (.Name x px) g sp) pp ∧ q y = true ∧ r x = true ∧ ix g = true := by
  unfold sAls at h
  split at h
  · obtain ⟨h1, h2⟩ := and2 h
    exact ⟨_, _, _, _, _, _, _, rfl, h1, and2 h2⟩
  · cases h
theorem j_asgP {q : Str → Bool} {b : CkE} {st : Stmt} (h : sAsgP q b st = true) : ∃ x px f pp, st = .Assign [.Name x px] f pp ∧ q x = true ∧ isComp f = false ∧ b f = true := by
  unfold sAsgP at h
  split at h
  · obtain ⟨h1, h2⟩ := and2 h
    obtain ⟨h3, h4⟩ := and2 h2
    exact ⟨_, _, _, _, rfl, h1, by simpa using h3, h4⟩
  · cases h
theorem j_new {q : Str → Bool} {st : Stmt} (h : sNew q st = true) : ∃ x px sp pp, st = .Assign [.Name x px] (.List [] sp) pp ∧ q x = true := by
  unfold sNew at h
  split at h
  · exact ⟨_, _, _, _, rfl, h⟩
  · cases h
theorem asg_nm {j : Nat} (g : Good G C Γ sc X) (h : stoN G sc j y = true) (hc : isComp e = false) : ∀ te, PE X e te → PS X (.Assign [.Name y py] e pos) (tAsg te (gName j)) := fun te he => by
  obtain ⟨z1, z2, z3, _⟩ := g.sto h
  exact ps_set g.ndX z1 z2 he (sw_no hc _ _ _) z3
theorem r_st {s : S} (ih : I5 G C Γ c s) : I7 G C Γ c (.st s) := fun i a st sc X h g hp => n_st (ih st sc X h g hp)
theorem r_app {j : Nat} : I7 G C Γ c (.appO j) := fun i a st sc X h g hp => by
  obtain ⟨x, px, ap, f, cp, pp, rfl, h1, h2, h3⟩ := j_mth (show sMth "append" (locN G sc i) (cName (locN G sc j)) st = true from h)
  obtain ⟨y, q, rfl, h4⟩ := i_name h3
  exact n_app (g.var h2) (g.var h4) h1 (star1 (sc := sc) (a := .var j) h3 _ _)
theorem j_aug2 {o : Operator} {q : Str → Bool} {re ce ve : CkE} {st : Stmt} (h : sAug2 o q re ce ve st = true) : ∃ x px f p1 g p2 v pp, st = .AugAssign (.Subscript (.Subscript (.Name x px) f p1) g p2) o v pp ∧ q x = true ∧ re f = true ∧ ce g = true ∧ ve v = true := by
  unfold sAug2 at h
  split at h
  · obtain ⟨h1, h2⟩ := and2 h
    obtain ⟨h2, h3⟩ := and2 h2
    obtain ⟨h3, h4⟩ := and2 h3
    have z := of_decide_eq_true h1
    subst z
    exact ⟨_, _, _, _, _, _, _, _, rfl, h2, h3, and2 h4⟩
  · cases h
theorem r_aug2 {o : Operator} {re ce ve : E} : I7 G C Γ c (.aug2 o re ce ve) := fun i a st sc X h g hp => by
  obtain ⟨x, px, f, p1, k, p2, v, pp, rfl, h1, h2, h3, h4⟩ := j_aug2 (show sAug2 o (locN G sc i) (chkE G sc re) (chkE G sc ce) (chkE G sc ve) st = true from h)
  refine PS.imp (n_aug2 (a := a) (wr := wR C Γ re) (wc := wR C Γ ce) (wv := wR C Γ ve) (g.var h1) (pe_frz (snd c re f sc X h2 g).b) (plainIx h2) (pe_frz (snd c ce k sc X h3 g).b) (pe_frz (snd c ve v sc X h4 g).b) (fun ov iv new => ?_)) fun D σ H q => q
  cases k with
  | Slice => exact (noSlice h3).elim
  | _ => rfl
theorem r_als {j : Nat} {ie : E} : I7 G C Γ c (.als j ie) := fun i a st sc X h g hp => by
  obtain ⟨y, py, x, px, k, sp, pp, rfl, h1, h2, h3⟩ := j_als (show sAls (stoN G sc j) (locN G sc i) (chkE G sc ie) st = true from h)
  exact n_als (wi := wR C Γ ie) (asg_nm g h1 rfl) (g.var h2) (pe_frz (snd c ie k sc X h3 g).b) (plainIx h3)
theorem r_put {j : Nat} {l : Bool} {ie ve : E} : I7 G C Γ c (.putA j l ie ve) := fun i a st sc X h g hp => by
  obtain ⟨x, px, k, sp, f, pp, rfl, h1, h2, h3, h4⟩ := j_put (show sPut (locN G sc j) (chkE G sc ie) (chkE G sc ve) st = true from h)
  have hx : ∀ te tO ti, PE X f te → PE X (.Name x px) tO → PE X k ti → PS X (.Assign [.Subscript (.Name x px) k sp] f pp) (tAsg te (gSub tO ti rSetL)) := fun te tO ti z1 z2 z3 => by
    refine ps_asg z1 (pg_sub z2 z3 set_list ?_) (by unfold swapsWithSole; exact sw_no h3 _ _ _) rfl
    intro v
    cases k with
    | Slice => exact (noSlice h2).elim
    | _ => rfl
  cases l with
  | true =>
    refine PS.imp (n_putL (a := a) (wv := wR C Γ ve) (wi := wR C Γ ie) hx (g.var h1) (pe_frz (snd c ve f sc X h4 g).b) (pe_frz (snd c ie k sc X h2 g).b)) fun D σ H q => ?_
    exact q
  | false =>
    refine PS.imp (n_put (a := a) (wv := wR C Γ ve) (wi := wR C Γ ie) hx (g.var h1) (pe_frz (snd c ve f sc X h4 g).b) (pe_frz (snd c ie k sc X h2 g).b)) fun D σ H q => ?_
    exact q
theorem r_asgL {j : Nat} {e : E} : I7 G C Γ c (.asgL j e) := fun i a st sc X h g hp => by
  obtain ⟨x, px, f, pp, rfl, h1, h2, h3⟩ := j_asgP (show sAsgP (stoN G sc j) (chkE G sc e) st = true from h)
  exact n_asgL (wv := wR C Γ e) (asg_nm g h1 h2) (snd c e f sc X h3 g).b
theorem r_ifs {t : E} {a b : Ns} (ia : I8 G C Γ c a) (ib : I8 G C Γ c b) : I7 G C Γ c (.ifs t a b) := fun i ad st sc X h g hp => by
  obtain ⟨e, f, k, pp, rfl, h1, h2, h3, h4⟩ := j_if (show sIf (chkE G sc t) (chkNs G sc i a List.isEmpty) (chkNs G sc i b List.isEmpty) st = true from h)
  exact n_if (tt := fun R => tst (oper t (wpB C Γ R t))) ((snd c t e sc X h2 g).t h1) (ia.1 i ad f sc X h3 g hp) (ib.1 i ad k sc X h4 g hp)
theorem r_fors {t : Tg} {it : It} {b : Ns} (ib : I8 G C Γ c b) : I7 G C Γ c (.fors t it b) := fun i ad st sc X h g hp => by
  obtain ⟨e, f, k, pp, rfl, h1, h2, h3⟩ := j_for (show sFor (chkT G sc t) (chkIt G sc t it) (chkNs G sc i b List.isEmpty) st = true from h)
  exact n_for (ti := fun R => wpIt C Γ R it) hp g.calm (sndIt c it t f e sc sc X h2 h1 g) (tg_ok g h1) (ib.1 i ad k sc X h3 g hp) (noSet h2 _)
theorem r_nil : I8 G C Γ c .nil := ⟨fun i a sts sc X h g hp => by
  have e0 : sts = [] := List.isEmpty_iff.mp h
  subst e0
  exact ns_nil, fun i a k u sts sc X hk h g hp => ne_nil (hk sts h)⟩
theorem r_cons {n : Nt} {ns : Ns} (ia : I7 G C Γ c n) (ib : I8 G C Γ c ns) : I8 G C Γ c (.cons n ns) := ⟨fun i a sts sc X h g hp => by
  obtain ⟨st, r, rfl, h1, h2⟩ := j_cons (show sCons (chkN G sc i n) (chkNs G sc i ns List.isEmpty) sts = true from h)
  have z := ns_cons (ia i a st sc X h1 g hp) (ib.1 i a r sc X h2 g hp)
  exact z, fun i a k u sts sc X hk h g hp => by
  obtain ⟨st, r, rfl, h1, h2⟩ := j_cons (show sCons (chkN G sc i n) (chkNs G sc i ns k) sts = true from h)
  have z := ne_cons (ia i a st sc X h1 g hp) (ib.2 i a k u r sc X hk h2 g hp)
  exact z⟩
theorem wq_list {ρ : Store} {j : Nat} {d : D} {ds : List D} {Q : D → Bool → Store → Prop} (h1 : getV ρ j = some d) (h2 : seqOf d = some ds) (h : Q (.list ds) true ρ) : wB C Γ (.bf .list (.cons (.var j) .nil)) ρ Q := by
  show ∃ x, getV ρ j = some x ∧ bfS .list [x] fun d => Q d (isMut d) ρ
  refine ⟨d, h1, ?_⟩
  unfold seqOf at h2
  split at h2
  · cases h2
    exact h
  · cases h2
    exact h
  · cases h2
    exact h
  · cases h2
theorem q_new {i j : Nat} {b : Ns} {ss : Ss} (ib : I8 G C Γ c b) (is : I6 G C Γ c ss) : I6 G C Γ c (.cons (.nest i j none b) ss) := fun sts sc X h g hp => by
  obtain ⟨st, r, rfl, h1, h2⟩ := j_cons (show sCons (sNew (stoN G sc i)) (chkNs G sc i b (chkSs G sc ss)) sts = true from h)
  obtain ⟨x, px, sp, pp, rfl, h3⟩ := j_new h1
  refine PSs.imp (n_new (w := fun a ρ rw kd => wpNs C Γ i a b ρ rw (kEnd i a (wpSs C Γ ss) kd)) (asg_nm g h3 rfl) fun a => ib.2 i a (chkSs G sc ss) (wpSs C Γ ss) r sc X (fun sts' hs => is sts' sc X hs g hp) h2 g hp) fun D σ H ⟨F, ρ, k, ok, h, q⟩ => ⟨F, ρ, k, ok, ?_, q⟩
  obtain ⟨h5, h6⟩ := h
  exact ⟨h5, fun a => h6 a [] rfl⟩
theorem q_cpy {i j : Nat} {e : E} {b : Ns} {ss : Ss} (ib : I8 G C Γ c b) (is : I6 G C Γ c ss) : I6 G C Γ c (.cons (.nest i j (some e) b) ss) := fun sts sc X h g hp => by
  obtain ⟨st, r, rfl, h1, h2⟩ := j_cons (show sCons (sAsg (stoN G sc i) (chkE G sc (cpyE j e))) (chkNs G sc i b (chkSs G sc ss)) sts = true from h)
  obtain ⟨y, py, f, pp, rfl, h3, h4⟩ := j_asg h1
  obtain ⟨z1, z2, z3, _⟩ := g.sto h3
  obtain ⟨f1, tg, iter, ifs, scope, p', rfl, b1, b2, b3, b4, b5, b6⟩ := i_comp (show cComp G sc [j] (.nm j) (chkIt G sc (.nm j) (.val e)) (fun sc' => chkE G sc' (.bf .list (.cons (.var j) .nil))) (fun sc' => chkOe G sc' .no) f = true from h4)
  have e0 : ifs = [] := by
    match ifs, b6 with
    | [], _ => rfl
    | [f], h => exact absurd (show false = true from (and2 h).2) Bool.false_ne_true
  subst e0
  have hk : scope.kind = .function := (blkOk_by (N := G.N) (sc := sc) (own := ownOf G [j]) b1).kind
  have hg := fun (s : Shared) (H : Hp) (C' : Addr) (cl : List (Str × Addr)) (fp : List Addr) => tg_ok (g.blk hk s H C' cl fp) b3
  have he := fun (s : Shared) (H : Hp) (C' : Addr) (cl : List (Str × Addr)) (fp : List Addr) => PE.fr (snd c (.bf .list (.cons (.var j) .nil)) f1 scope _ b5 (g.blk hk s H C' cl fp)).b
  have hi := sndIt c (.val e) (.nm j) iter tg sc scope X b4 b3 g
  have hx : PS X (.Assign [.Name y py] (.ListComp f1 [⟨tg, iter, [], 0⟩] scope p') pp) (tAsg (tLc (tI X.K c (wpIt C Γ noR (.val e))) (gB X.K (.nm j)) tYes (frT (tB X.K c (wB C Γ (.bf .list (.cons (.var j) .nil))))) ((ownOf G [j]).map (·.2))) (gName i)) := by
    cases hb : (X.env.blockKind == .function && X.env.kindOf y == some .local && py.line == p'.line && !(scope.names.any fun (n, k) => n == y && (k == .local || k == .cell))) with
    | false =>
      refine ps_set g.ndX z1 z2 (pe_lc g.calm g.ndX hi (g.blkOk b1) hg (fun _ _ _ _ _ => pts_nil) he (noSet b4 _)) ?_ z3
      rw [← hb]
      rfl
    | true =>
      obtain ⟨hb1, _⟩ := and2 hb
      obtain ⟨hb1, _⟩ := and2 hb1
      obtain ⟨_, hb2⟩ := and2 hb1
      have hyl : X.env.scope.names.lookup y = some .local := by
        have z : (X.env.scope.names.lookup y == some .local) = true := hb2
        simpa using z
      exact ps_setLc g.calm g.ndX z1 hyl (by rw [← hb]; rfl) hi (g.blkOk b1) hg (fun _ _ _ _ _ => pts_nil) he (noSet b4 _)
  refine PSs.imp (n_cpy (w := fun a ρ rw kd => wpNs C Γ i a b ρ rw (kEnd i a (wpSs C Γ ss) kd)) (ti := fun R => wpIt C Γ R (.val e)) (own_vs [j]) hx (fun ρ d ds Q e1 e2 e3 => wq_list e1 e2 e3) fun a => ib.2 i a (chkSs G sc ss) (wpSs C Γ ss) r sc X (fun sts' hs => is sts' sc X hs g hp) h2 g hp) fun D σ H ⟨F, ρ, k, ok, h, q⟩ => ⟨F, ρ, k, ok, h, q⟩
theorem q_cons {s : S} {ss : Ss} (ia : I5 G C Γ c s) (ib : I6 G C Γ c ss) (hn : ∀ i j e b, s ≠ .nest i j e b) : I6 G C Γ c (.cons s ss) := fun sts sc X h g hp => by
  have k : (∃ i, s = .frz i ∧ chkSs G sc ss sts = true) ∨ sCons (chkS G sc s) (chkSs G sc ss) sts = true := by
    cases s with
    | frz i => exact .inl ⟨i, rfl, h⟩
    | nest i j e b => exact absurd rfl (hn i j e b)
    | _ => exact .inr h
  rcases k with ⟨i, rfl, h⟩ | h
  · exact ss_frz (ib sts sc X h g hp)
  · obtain ⟨st, r, rfl, h1, h2⟩ := j_cons h
    have z := ss_cons (ia st sc X h1 g hp) (ib r sc X h2 g hp)
    exact z
mutual
theorem sndS (c : Ent) : ∀ s : S, I5 G C Γ c s
  | .asg (.nm _) _ => q_asgN
  | .asg (.tp _) _ => q_asgT
  | .own _ _ => q_own
  | .aug _ _ _ => q_aug
  | .app _ _ => q_app
  | .ext _ _ => q_ext
  | .put _ _ _ => q_put
  | .frz _ => fun st sc X h => absurd (show false = true from h) Bool.false_ne_true
  | .expr _ => q_expr
  | .ret _ => q_ret
  | .retO _ => q_retO
  | .retN => q_retN
  | .ifs _ a b => q_ifs (sndSs c a) (sndSs c b)
  | .whl _ b => q_whl (sndSs c b)
  | .fors _ _ b => q_fors (sndSs c b)
  | .brk => q_brk
  | .cnt => q_cnt
  | .pas => q_pas
  | .nev => q_nev
  | .nest _ _ _ _ => fun st sc X h => absurd (show false = true from h) Bool.false_ne_true
theorem sndSs (c : Ent) : ∀ ss : Ss, I6 G C Γ c ss
  | .nil => q_nil
  | .cons (.nest i j none b) ss => q_new (sndNs c b) (sndSs c ss)
  | .cons (.nest i j (some e) b) ss => q_cpy (sndNs c b) (sndSs c ss)
  | .cons (.asg t e) ss => q_cons (sndS c (.asg t e)) (sndSs c ss) (fun _ _ _ _ => nofun)
  | .cons (.own i e) ss => q_cons (sndS c (.own i e)) (sndSs c ss) (fun _ _ _ _ => nofun)
  | .cons (.aug i o e) ss => q_cons (sndS c (.aug i o e)) (sndSs c ss) (fun _ _ _ _ => nofun)
  | .cons (.app i e) ss => q_cons (sndS c (.app i e)) (sndSs c ss) (fun _ _ _ _ => nofun)
  | .cons (.ext i e) ss => q_cons (sndS c (.ext i e)) (sndSs c ss) (fun _ _ _ _ => nofun)
  | .cons (.put i x e) ss => q_cons (sndS c (.put i x e)) (sndSs c ss) (fun _ _ _ _ => nofun)
  | .cons (.frz i) ss => q_cons (sndS c (.frz i)) (sndSs c ss) (fun _ _ _ _ => nofun)
  | .cons (.expr e) ss => q_cons (sndS c (.expr e)) (sndSs c ss) (fun _ _ _ _ => nofun)
  | .cons (.ret e) ss => q_cons (sndS c (.ret e)) (sndSs c ss) (fun _ _ _ _ => nofun)
  | .cons (.retO i) ss => q_cons (sndS c (.retO i)) (sndSs c ss) (fun _ _ _ _ => nofun)
  | .cons .retN ss => q_cons (sndS c .retN) (sndSs c ss) (fun _ _ _ _ => nofun)
  | .cons (.ifs t a b) ss => q_cons (sndS c (.ifs t a b)) (sndSs c ss) (fun _ _ _ _ => nofun)
  | .cons (.whl t b) ss => q_cons (sndS c (.whl t b)) (sndSs c ss) (fun _ _ _ _ => nofun)
  | .cons (.fors t it b) ss => q_cons (sndS c (.fors t it b)) (sndSs c ss) (fun _ _ _ _ => nofun)
  | .cons .brk ss => q_cons (sndS c .brk) (sndSs c ss) (fun _ _ _ _ => nofun)
  | .cons .cnt ss => q_cons (sndS c .cnt) (sndSs c ss) (fun _ _ _ _ => nofun)
  | .cons .pas ss => q_cons (sndS c .pas) (sndSs c ss) (fun _ _ _ _ => nofun)
  | .cons .nev ss => q_cons (sndS c .nev) (sndSs c ss) (fun _ _ _ _ => nofun)
theorem sndN (c : Ent) : ∀ n : Nt, I7 G C Γ c n
  | .st s => r_st (sndS c s)
  | .appO _ => r_app
  | .als _ _ => r_als
  | .putA _ _ _ _ => r_put
  | .aug2 _ _ _ _ => r_aug2
  | .asgL _ _ => r_asgL
  | .ifs _ a b => r_ifs (sndNs c a) (sndNs c b)
  | .fors _ _ b => r_fors (sndNs c b)
theorem sndNs (c : Ent) : ∀ ns : Ns, I8 G C Γ c ns
  | .nil => r_nil
  | .cons n ns => r_cons (sndN c n) (sndNs c ns)
end
end
end DL

set_option maxHeartbeats 4000000
/-! DL part Y: dicts with int keys: items, sorted items. -/
namespace L2
open PySem PySem.Spec PyProof.Rows L2
section
variable {X : Cx}
/-- objects already laid are tracked -/
theorem takeO {pins : List (Addr × Obj)} {σ : St} {H0 : Hp} {s : Shared} {h' : Heap} {tk : Nat} {P : Addr → HO → Prop} (I0 : Inv X pins σ H0 s) : ∀ (L : List Addr) (H1 : Hp), Inv X pins σ H1 { s with heap := h', toks := tk } → L.Nodup →
    (∀ a ∈ L, s.heap.objs.size ≤ a ∧ H1 a = none ∧ ∃ u, P a u ∧ ∀ H2, ObjOk X.prog X.w H2 h' a u) →
    ∃ H2, Inv X pins σ H2 { s with heap := h', toks := tk } ∧ (∀ b o, H1 b = some o → H2 b = some o) ∧ ∀ a ∈ L, ∃ u, P a u ∧ H2 a = some u
  | [], H1, I1, _, _ => ⟨H1, I1, fun _ _ e => e, fun _ h => nomatch h⟩
  | a :: L, H1, I1, hn, h => by
    obtain ⟨hb, hnone, u, hP, ok⟩ := h a (List.mem_cons_self ..)
    have I2 : Inv X pins σ (upd H1 a u) { s with heap := h', toks := tk } := I1.take (h' := h') (t' := tk) (fun b ob _ e => e) (I0.fpOk hb hnone) (ok _)
    rw [List.nodup_cons] at hn
    obtain ⟨H2, I3, g, q⟩ := takeO I0 L (upd H1 a u) I2 hn.2 fun c hc => by
      obtain ⟨c1, c2, c3⟩ := h c (List.mem_cons_of_mem _ hc)
      exact ⟨c1, by rw [upd_ne (fun z => hn.1 (by rw [← z]; exact hc))]; exact c2, c3⟩
    refine ⟨H2, I3, fun b o e => g b o (by rw [upd_ne (ne_of_none e hnone)]; exact e), fun c hc => ?_⟩
    rcases List.mem_cons.mp hc with rfl | hc
    · exact ⟨u, hP, g _ _ upd_same⟩
    · exact q c hc
abbrev entI (e : Int × Int) : Key × V := (Sum.inl e.1, V.int e.2)
def rItemsK : V → List V → Hp → VK → Prop := fun x xs H Q => ∃ (a : Addr) (kvs : List (Key × V)), x = .ref a ∧ xs = [] ∧ H a = some (.dK kvs) ∧ ∀ p, H p = none → Q (.ref p) (upd H p (DX.itemsO p a))
theorem mt_itemsK : MtR X "dict.items" rItemsK := by
  intro pins s σ H x xs v us Q I rx rxs h
  obtain ⟨a, kvs, rfl, rfl, ha, q⟩ := h
  cases rx
  cases rxs
  obtain ⟨z, hd, vs, rel, o, es, ep, ho, hx, hdat, _⟩ := dk_of I.hok ha
  refine DT.callItems (es := es) (ep := ep) hd ⟨o, ho, hx, hdat⟩ ?_
  have hf : H s.heap.objs.size = none := I.hok.fresh (Nat.le_refl _)
  exact ⟨.ref s.heap.objs.size, upd H s.heap.objs.size (DX.itemsO s.heap.objs.size a), I.laid (t' := s.toks) (fun b u e => Heap.get?_push_of_some _ e) (Nat.le_refl _) (DX.itemsO_ok (Heap.get?_push_size _ rfl)), rfl, q _ hf⟩
/-- keys and values ints -/
def rSortIN : List V → Hp → VK → Prop := fun vs H Q => ∃ (p a : Addr) (ks : List (Int × Int)), vs = [.ref p] ∧ H p = some (DX.itemsO p a) ∧ H a = some (.dK (ks.map entI)) ∧
  ∀ (H' : Hp) (l : Addr) (zs : List (Addr × Int × Int)), (∀ b o, H b = some o → H' b = some o) → (zs.map (·.2)).Perm ks → (zs.map (·.2)).Pairwise (fun e f => SrtO.lexB f e = false) → H l = none → H' l = some (.lst (zs.map fun z => V.ref z.1)) →
    (∀ z ∈ zs, H z.1 = none ∧ ∃ o, PlO o ∧ H' z.1 = some (HO.pt o [.int z.2.1, .int z.2.2])) → Q (.ref l) H'
open Classical in
theorem cr_sortedItemsI (hc : X.calm = true) : CallR X (.builtin "sorted") rSortIN := by
  intro pins s σ H xs us Q I r h
  obtain ⟨p, a, ks, rfl, hp, ha, q⟩ := h
  obtain rfl := Vals.ref1 r
  have view : s.heap.IsItemsView p a := (show ObjOk X.prog X.w H s.heap p (DX.itemsO p a) from I.hok p _ hp).1
  obtain ⟨z, hd, vs, rel, o, es, ep, ho, hx, hdat, _, hps, _⟩ := dk_of I.hok ha
  have l1 : (ks.map entI).length = vs.length := rel.length
  rw [List.length_map] at l1 z
  have l2 : es.size = vs.length := by rw [← Array.length_toList]; exact hps.length
  have hh : X.A.handled = none := I.ok.hd hc
  refine DT.sortedI (es := es) (ep := ep) hh view ⟨o, ho, hx, hdat⟩ (by omega) fun h' tk as hk hlt hl hG => ?_
  have lak : as.length = ks.length := by omega
  have nd : as.Nodup := List.Pairwise.imp (fun h => Nat.ne_of_lt h) hG.rise
  have pr : ∀ (j : Nat) (b : Addr), as[j]? = some b → ∃ (e : Int × Int) (t u : Tok), ks[j]? = some e ∧ h'.get? b = some { cls := .type "tuple", data := .seq #[Value.int e.1 t, Value.int e.2 u] } := by
    intro j b hj
    obtain ⟨en, he, hg⟩ := hG.pairs j b hj
    have hjl : j < ks.length := by
      rw [← lak]
      exact (List.getElem?_eq_some_iff.mp hj).1
    have hkj : ks[j]? = some ks[j] := List.getElem?_eq_getElem hjl
    obtain ⟨u, hu, ru⟩ := kv_get rel (i := j) (k := Sum.inl ks[j].1) (v := V.int ks[j].2) (by rw [List.getElem?_map, hkj]; rfl)
    obtain ⟨k1, k2⟩ := hps.get? (i := j) (e := en) (by rw [Array.getElem?_toList]; exact he) hu
    obtain ⟨t2, rfl⟩ := ru
    rcases keyIs_shape (show keyIs (Sum.inl ks[j].1) en.key = true from k1) with ⟨i, t, ek, ev⟩ | ⟨z, t, ek, ev⟩
    · cases ek
      refine ⟨_, t, t2, hkj, ?_⟩
      rw [hg, ev, k2]
    · cases ek
  have hob : (h'.push { cls := .type "list", data := .seq (as.map Value.ref).toArray }).get? h'.objs.size = some (seqObj "list" (as.map Value.ref).toArray 0) := Heap.get?_push_size _ rfl
  have kb : ∀ b o, s.heap.get? b = some o → (h'.push { cls := .type "list", data := .seq (as.map Value.ref).toArray }).get? b = some o := fun b o e => Heap.get?_push_of_some _ (hk b o e)
  have ne0 : ∀ b o, h'.get? b = some o → b ≠ h'.objs.size := fun b o e => Nat.ne_of_lt (Heap.lt_size e)
  generalize hh2 : h'.push { cls := .type "list", data := .seq (as.map Value.ref).toArray } = h2 at hob kb ⊢
  have ka : ∀ b o, h'.get? b = some o → h2.get? b = some o := fun b o e => by rw [← hh2]; exact Heap.get?_push_of_some _ e
  have hex : ∀ v, ∃ e : Int × Int, ∀ (j : Nat) (b : Addr), v = Value.ref b → as[j]? = some b → ks[j]? = some e := fun v => by
    by_cases hv : ∃ (j : Nat) (b : Addr), v = Value.ref b ∧ as[j]? = some b
    · obtain ⟨j, b, rfl, hj⟩ := hv
      obtain ⟨e, _, _, he, _⟩ := pr j b hj
      refine ⟨e, fun i c ec hi => ?_⟩
      cases ec
      have eij : i = j := (List.getElem?_inj (List.getElem?_eq_some_iff.mp hi).1 nd).mp (hi.trans hj.symm)
      rw [eij]
      exact he
    · exact ⟨(0, 0), fun j b e1 e2 => absurd ⟨j, b, e1, e2⟩ hv⟩
  obtain ⟨kf, hkf⟩ := Classical.axiomOfChoice hex
  have hip : ∀ v ∈ as.map Value.ref, Srt.IsPair h2 v (kf v).1 (kf v).2 := fun v hv => by
    obtain ⟨b, hb, rfl⟩ := List.mem_map.mp hv
    obtain ⟨j, hj⟩ := List.mem_iff_getElem?.mp hb
    obtain ⟨e, t, u, he, hg⟩ := pr j b hj
    have ee : kf (.ref b) = e := Option.some.inj ((hkf _ j b rfl hj).symm.trans he)
    rw [ee]
    exact ⟨b, _, t, u, _, rfl, ka _ _ hg, rfl, rfl⟩
  refine wpAny_call_entry PyProof.Rows.slot_list_sort ⟨_, hob, rfl⟩ PyProof.Rows.entry_list_sort
    (SrtO.list_sort_ord (s := { s with heap := h2, toks := tk }) (SrtO.swo_lex kf) hob (by rw [List.length_map]; omega) (fun h2' => SrtO.pairs_sortableO (by omega) hip fun o e => ?_) fun out h1 hb => ⟨.none, rfl, ?_⟩) (PyProof.Rows.args_list_sort _)
  · have e' : some o = some (seqObj "list" (as.map Value.ref).toArray 0) := e.symm.trans hob
    cases e'
    intro c
    exact absurd (Value.type.inj c) (by decide)
  · show EP X pins σ Q (.ref h'.objs.size) { s with heap := sortedHeap h2 h'.objs.size (as.map Value.ref) out.toArray, toks := tk }
    have hzip : (as.zip ks).map (fun z : Addr × Int × Int => Value.ref z.1) = as.map Value.ref := by
      have e : (as.zip ks).map (·.1) = as := List.map_fst_zip (by rw [lak]; exact Nat.le_refl _)
      rw [← e, List.map_map, e]
      rfl
    obtain ⟨zs, pz, ez⟩ := perm_lift (fun z : Addr × Int × Int => Value.ref z.1) hb.perm (as.zip ks) hzip
    have idx : ∀ z ∈ zs, ∃ j : Nat, as[j]? = some z.1 ∧ ks[j]? = some z.2 := by
      intro z' hz'
      obtain ⟨j, hj⟩ := List.mem_iff_getElem?.mp (pz.mem_iff.mp hz')
      exact ⟨j, List.getElem?_zip_eq_some.mp hj⟩
    have hkz : ∀ z ∈ zs, kf (.ref z.1) = z.2 := fun z hz => by
      obtain ⟨j, j1, j2⟩ := idx z hz
      exact Option.some.inj ((hkf _ j z.1 rfl j1).symm.trans j2)
    have hperm : (zs.map (·.2)).Perm ks := by
      have e := pz.map (·.2)
      have m2 : (as.zip ks).map (·.2) = ks := List.map_snd_zip (by rw [lak]; exact Nat.le_refl _)
      rw [m2] at e
      exact e
    have hsort : (zs.map (·.2)).Pairwise (fun e f => SrtO.lexB f e = false) := by
      rw [← ez, SrtO.Srtd, List.pairwise_map] at h1
      rw [List.pairwise_map]
      refine List.Pairwise.imp_of_mem (fun {x y} hx hy h => ?_) h1
      have h' : SrtO.lexB (kf (.ref y.1)) (kf (.ref x.1)) = false := h
      rw [hkz x hx, hkz y hy] at h'
      exact h'
    have kF : ∀ b o, b ≠ h'.objs.size → h2.get? b = some o → (sortedHeap h2 h'.objs.size (as.map Value.ref) out.toArray).get? b = some o := fun b o hb e => (PyProof.Rows.sortedHeap_old hb (Heap.lt_size e)).trans e
    have kS : ∀ b o, s.heap.get? b = some o → (sortedHeap h2 h'.objs.size (as.map Value.ref) out.toArray).get? b = some o := fun b o e => kF b o (ne0 _ _ (hk b o e)) (kb b o e)
    obtain ⟨eF, heF⟩ := PyProof.Rows.sortedHeap_at (vs := as.map Value.ref) (out := out.toArray) hob
    have I1 : Inv X pins σ H { s with heap := sortedHeap h2 h'.objs.size (as.map Value.ref) out.toArray, toks := tk } := I.kept (t' := tk) kS
    have hn0 : H h'.objs.size = none := I.hok.fresh (Nat.le_of_lt hlt)
    have hlen : (zs.map fun z => V.ref z.1).length ≤ sizeLine := by
      have e := hperm.length_eq
      rw [List.length_map] at e
      rw [List.length_map]
      omega
    have rv : Vals (zs.map fun z => V.ref z.1) out := by
      rw [← ez]
      exact vals_maps (fun z : Addr × Int × Int => V.ref z.1) (fun z => Value.ref z.1) zs fun _ _ => rfl
    have I2 : Inv X pins σ (upd H h'.objs.size (.lst (zs.map fun z => V.ref z.1))) { s with heap := sortedHeap h2 h'.objs.size (as.map Value.ref) out.toArray, toks := tk } :=
      I1.take (h' := sortedHeap h2 h'.objs.size (as.map Value.ref) out.toArray) (t' := tk) (fun b ob _ e => e) (I.fpOk (Nat.le_of_lt hlt) hn0) ⟨hlen, out, eF, rv, heF⟩
    obtain ⟨H2, I3, g, qt⟩ := takeO (P := fun b u => ∃ (j : Nat) (e : Int × Int), as[j]? = some b ∧ ks[j]? = some e ∧ ∃ o, PlO o ∧ u = HO.pt o [.int e.1, .int e.2]) I as _ I2 nd fun b hb => by
      obtain ⟨j, hj⟩ := List.mem_iff_getElem?.mp hb
      obtain ⟨e, t, u, he, hg⟩ := pr j b hj
      have hbl : s.heap.objs.size ≤ b := Nat.le_of_lt (hG.above b hb)
      refine ⟨hbl, ?_, _, ⟨j, e, hj, he, _, plo_new, rfl⟩, fun H3 => ⟨kF _ _ (ne0 _ _ hg) (ka _ _ hg), (by rw [sizeLine_eq]; show 2 ≤ 16777216; omega), [Value.int e.1 t, Value.int e.2 u], .cons ⟨t, rfl⟩ (.cons ⟨u, rfl⟩ .nil), ⟨_, kF _ _ (ne0 _ _ hg) (ka _ _ hg), rfl, 0, rfl⟩⟩⟩
      rw [upd_ne (ne0 _ _ hg)]
      exact I.hok.fresh hbl
    have gr : ∀ b o, H b = some o → H2 b = some o := fun b o e => g b o (by rw [upd_ne (ne_of_none e hn0)]; exact e)
    refine ⟨.ref h'.objs.size, H2, I3, rfl, q H2 h'.objs.size zs gr hperm hsort hn0 (g _ _ upd_same) fun z' hz' => ?_⟩
    obtain ⟨i, i1, i2⟩ := idx z' hz'
    obtain ⟨vs, ⟨j, e, j1, j2, ob, hob2, ev⟩, hH⟩ := qt z'.1 (List.mem_of_getElem? i1)
    have eij : i = j := (List.getElem?_inj (List.getElem?_eq_some_iff.mp i1).1 nd).mp (i1.trans j1.symm)
    subst eij
    have ee : e = z'.2 := Option.some.inj (j2.symm.trans i2)
    rw [ev, ee] at hH
    exact ⟨I.hok.fresh (Nat.le_of_lt (hG.above _ (List.mem_of_getElem? i1))), ob, hob2, hH⟩
end
end L2

set_option maxHeartbeats 4000000
/-! DL part Y2: the def frequencies. -/
namespace L2
open PySem PySem.Spec PyProof.Rows L2
def freqBody (p : Nat → Pos) (j1 j2 : Nat) : List Stmt := [
  .Assign [.Name "counts" (p 0)] (.Dict [] [] (p 1)) (p 2),
  .For (.Name "value" (p 3)) (.Name "values" (p 4)) [
    .Assign [.Subscript (.Name "counts" (p 5)) (.Name "value" (p 6)) (p 7)] (.BinOp (.Call (.Attribute (.Name "counts" (p 8)) "get" (p 9)) [.Name "value" (p 10), .Constant (.int 0) j1 (p 11)] [] (p 12)) .Add (.Constant (.int 1) j2 (p 13)) (p 14)) (p 15)] [] (p 16),
  .Return (some (.Call (.Name "tuple" (p 17)) [.Call (.Name "sorted" (p 18)) [.Call (.Attribute (.Name "counts" (p 19)) "items" (p 20)) [] [] (p 21)] [] (p 22)] [] (p 23))) (p 24)]
theorem valV_I {ks : List (Int × Int)} {k : Int} : valV (ks.map entI) (Sum.inl k) = (Ma.getI ks k).map V.int := by
  unfold valV Ma.getI
  induction ks with
  | nil => rfl
  | cons p ks ih =>
    rw [List.map_cons, List.find?_cons, List.find?_cons]
    by_cases e : p.1 = k
    · have e2 : decide ((entI p).1 = Sum.inl k) = true := decide_eq_true (by rw [← e])
      rw [e2, decide_eq_true e]
      rfl
    · have e2 : decide ((entI p).1 = Sum.inl k) = false := decide_eq_false fun z => e (Sum.inl.inj z)
      rw [e2, decide_eq_false e]
      exact ih
theorem putK_I {ks : List (Int × Int)} {k v : Int} : putK (ks.map entI) (Sum.inl k) (V.int v) = (Ma.putI ks k v).map entI := by
  have e : ∀ p : Int × Int, decide ((entI p).1 = Sum.inl k) = decide (p.1 = k) := fun p => decide_eq_decide.mpr ⟨fun z => Sum.inl.inj z, fun z => by rw [← z]⟩
  have ea : ((ks.map entI).any fun kv => decide (kv.1 = Sum.inl k)) = ks.any fun p => decide (p.1 = k) := by
    rw [List.any_map]
    congr 1
    funext p
    exact e p
  unfold putK Ma.putI
  rw [ea]
  split
  · rw [List.map_map, List.map_map]
    refine List.map_congr_left fun p _ => ?_
    show (if (entI p).1 = Sum.inl k then _ else _) = entI (if p.1 = k then _ else _)
    by_cases z : p.1 = k
    · rw [if_pos z, if_pos (by show Sum.inl p.1 = Sum.inl k; rw [z])]
    · rw [if_neg z, if_neg fun q => z (Sum.inl.inj q)]
  · rw [List.map_append]
    rfl
/-- what a def's text with one parameter tells -/
theorem freq_run {X : Cx} {p : Nat → Pos} {j1 j2 : Nat} {a : Addr} {ns : List Int} {H : Hp} {D : Ends} (hl1 : ((p 9).endLine == (p 12).line) = true) (hl2 : ((p 20).endLine == (p 21).line) = true) (hc : X.calm = true) (hp : PassesOwn (model X.prog X.w) X.A X.env X.xe) (hN : X.N = [("values" : Str), "counts", "value"])
    (v0 : Vis X.env.scope "values") (l1 : Loc X.env.scope "counts") (l2 : Loc X.env.scope "value") (hf : ∀ x, X.fn x = true) (gT : Gl X "tuple") (mT : X.mg "tuple" = none) (gS : Gl X "sorted") (mS : X.mg "sorted" = none) (hu : X.A.units + 64 < cLine)
    (h : SqT X.K H a (ns.map V.int)) (hn : ns.length ≤ 1000)
    (q : ∀ (H' : Hp) (t : Addr) (zs : List (Addr × Int × Int)), (∀ b o, H b = some o → H' b = some o) → H t = none → (∃ o, PlO o ∧ H' t = some (HO.pt o (zs.map fun z => V.ref z.1))) → (∀ z ∈ zs, H z.1 = none ∧ ∃ o, PlO o ∧ H' z.1 = some (HO.pt o [.int z.2.1, .int z.2.2])) → zs.map (·.2) = Ma.freq ns → D.rt (.ref t) H') :
    ∃ t, PSs X (freqBody p j1 j2) t ∧ t D [some (.ref a), none, none] H := by
  have nd : X.N.Nodup := by rw [hN]; decide
  have v1 : Vis X.env.scope "counts" := l1.elim .inl fun z => .inr (.inl z)
  have v2 : Vis X.env.scope "value" := l2.elim .inl fun z => .inr (.inl z)
  have h0 : X.N[0]? = some ("values" : Str) := by rw [hN]; rfl
  have h1 : X.N[1]? = some ("counts" : Str) := by rw [hN]; rfl
  have h2 : X.N[2]? = some ("value" : Str) := by rw [hN]; rfl
  have hu1 : X.A.units + 1 < cLine := by omega
  refine ⟨_, pss_cons (ps_asg pe_dnewK (pg_name (i := 1) nd h1 l1 (.inl (hf _)))) (pss_cons (ps_for hp hc (pi_tup (pe_var h0 v0)) (pg_name (i := 2) nd h2 l2 (.inl (hf _))) (pss_one (ps_dput hu1 (pe_var h1 v1) (pe_var h2 v2) (pe_op op_add (pe_dget2 hu1 (pe_var h1 v1) (pe_var h2 v2) pe_int ⟨rfl, rfl, hl1, rfl⟩) pe_int) rfl)))
    (pss_one (ps_ret (pe_callTy call_tupleP gT mT boot_tuple (pa_cons (pe_callB (cr_sortedItemsI hc) gS mS boot_sorted (pa_cons (pe_bm0 PySem.F.plainAttrs_dict PySem.F.slot_dict_items PySem.F.type_dict_items mt_itemsK (pe_var h1 v1) rfl hl2) pa_nil)) pa_nil))))), ?_⟩
  intro d hd
  have up : ∀ (o : HO) (b : Addr) (u : HO), H b = some u → upd H d o b = some u := fun o b u e => by rw [upd_ne (ne_of_none e hd)]; exact e
  refine ⟨.ref a, rfl, a, rfl, ⟨ns.map V.int, DL.sqt_mono (up _) h⟩, for_tup (xs := ns.map V.int) (fun i σ H' => ∃ ks u, Ma.Tl (ns.take i) ks ∧ σ = [some (.ref a), some (.ref d), u] ∧ H' = upd H d (.dK (ks.map entI))) ⟨[], none, Ma.tl_nil, rfl, rfl⟩ (fun i σ H' _ ⟨ks, u, _, _, e⟩ => ?_) (fun i x σ H' hx ⟨ks, u, T, e1, e2⟩ => ?_) (fun σ H' ⟨ks, u, T, e1, e2⟩ => ?_)⟩
  · rw [e]
    exact DL.sqt_mono (up _) h
  · subst e1 e2
    rw [List.getElem?_map] at hx
    cases en : ns[i]? with
    | none =>
      rw [en] at hx
      cases hx
    | some v =>
      rw [en] at hx
      cases hx
      have hd2 : upd H d (.dK (ks.map entI)) d = some (.dK (ks.map entI)) := upd_same
      have hlt := T.len
      have etk : ns.take (i + 1) = ns.take i ++ [v] := by rw [List.take_add_one, en]; rfl
      have hle : (ns.take i).length ≤ 1000 := by rw [List.length_take]; omega
      refine ⟨.ref d, rfl, d, rfl, .inl ⟨_, .inl hd2⟩, .int v, rfl, (Ma.getI ks v).map V.int, ?_, ?_⟩
      · rw [← valV_I]
        exact DGet.k (k := Sum.inl v) hd2
      · refine ⟨(Ma.getI ks v).getD 0, 1, by cases Ma.getI ks v <;> rfl, rfl, .ref d, rfl, .int v, rfl, d, _, rfl, DPut.k (k := Sum.inl v) hd2 (by rw [List.length_map, sizeLine_eq]; omega), Ma.putI ks v ((Ma.getI ks v).getD 0 + 1), some (.int v), ?_, rfl, ?_⟩
        · rw [etk]
          exact T.step v
        · rw [putK_I]
          funext b
          by_cases z : b = d
          · rw [z, upd_same, upd_same]
          · rw [upd_ne z, upd_ne z, upd_ne z]
  · subst e1 e2
    rw [List.length_map, List.take_length] at T
    have hd2 : upd H d (.dK (ks.map entI)) d = some (.dK (ks.map entI)) := upd_same
    refine ⟨.ref d, rfl, ?_, d, _, rfl, rfl, hd2, fun p hp => ?_⟩
    · exact .inr (.inr (.inl ⟨rfl, .inl ⟨_, hd2⟩⟩))
    · have hpd : d ≠ p := ne_of_none hd2 hp
      refine ⟨p, d, ks, rfl, upd_same, by rw [upd_ne hpd]; exact hd2, fun H' l zs gr hperm hsort hl hl' hz => ?_⟩
      have g1 : ∀ (b : Addr) (o : HO), H b = some o → H' b = some o := fun b o e => gr b o (by
        have e2 := up (.dK (ks.map entI)) b o e
        rw [upd_ne (ne_of_none e2 hp)]
        exact e2)
      have gn : ∀ (b : Addr), H' b = none → H b = none := fun b e => by
        cases z : H b with
        | none => rfl
        | some o =>
          rw [g1 b o z] at e
          cases e
      have gm : ∀ (b : Addr), upd (upd H d (.dK (ks.map entI))) p (DX.itemsO p d) b = none → H b = none := fun b e => by
        cases z : H b with
        | none => rfl
        | some o =>
          have e2 := up (.dK (ks.map entI)) b o z
          rw [upd_ne (ne_of_none e2 hp), e2] at e
          cases e
      refine ⟨l, _, rfl, .inl ⟨SqL.of hl', fun t ob po ht => ?_⟩⟩
      have gt : ∀ (b : Addr) (o : HO), H' b = some o → upd H' t (HO.pt ob (zs.map fun z => V.ref z.1)) b = some o := fun b o e => by
        rw [upd_ne (ne_of_none e ht)]
        exact e
      exact q _ t zs (fun b o e => gt b o (g1 b o e)) (gn t ht) ⟨ob, po, upd_same⟩ (fun z hz' => ⟨gm _ (hz z hz').1, let ⟨o1, p1, e1⟩ := (hz z hz').2; ⟨o1, p1, gt _ _ e1⟩⟩) (T.freq hperm (hsort.imp fun h => SrtO.lexB_no.mp h))
end L2

set_option maxHeartbeats 4000000
/-! DL part Y3: the def groups_of. -/
namespace L2
open PySem PySem.Spec PyProof.Rows L2
def grpBody (p : Nat → Pos) (k1 k2 k3 : Nat) (sc : Scope) : List Stmt := [
  .If (.Compare (.Name "kind" (p 0)) [.NotEq] [.Constant (.str "lookup") k1 (p 1)] (p 2)) [
    .Return (some (.Tuple [.Call (.Name "tuple" (p 3)) [.Call (.Name "range" (p 4)) [.Name "many" (p 5)] [] (p 6)] [] (p 7)] k2 (p 8))) (p 9)] [] (p 10),
  .Assign [.Name "rows" (p 11)] (.Dict [] [] (p 12)) (p 13),
  .For (.Tuple [.Name "row" (p 14), .Name "value" (p 15)] k3 (p 16)) (.Call (.Name "enumerate" (p 17)) [.Name "reference" (p 18)] [] (p 19)) [
    .Expr (.Call (.Attribute (.Call (.Attribute (.Name "rows" (p 20)) "setdefault" (p 21)) [.Name "value" (p 22), .List [] (p 23)] [] (p 24)) "append" (p 25)) [.Name "row" (p 26)] [] (p 27)) (p 28)] [] (p 29),
  .Return (some (.Call (.Name "tuple" (p 30)) [.ListComp (.Call (.Name "tuple" (p 31)) [.Subscript (.Name "rows" (p 32)) (.Name "value" (p 33)) (p 34)] [] (p 35)) [⟨.Name "value" (p 36), .Call (.Name "sorted" (p 37)) [.Name "rows" (p 38)] [] (p 39), [], 0⟩] sc (p 40)] [] (p 41))) (p 42)]
abbrev entA (e : Int × Addr) : Key × V := (Sum.inl e.1, V.ref e.2)
def natsV (l : List Nat) : List V := l.map fun k => V.int (k : Nat)
structure GI (H H' : Hp) (d : Addr) (pre : List Int) (ks : List (Int × Addr)) : Prop where
  kd : (ks.map (·.1)).Nodup
  ad : (ks.map (·.2)).Nodup
  km : ∀ x, x ∈ ks.map (·.1) ↔ x ∈ pre
  hd : H' d = some (.dK (ks.map entA))
  nd : H d = none
  rw : ∀ e ∈ ks, H e.2 = none ∧ H' e.2 = some (.lst (natsV (Ma.rowsOf pre e.1)))
  gr : ∀ b o, H b = some o → H' b = some o
  ln : ks.length ≤ pre.length
theorem GI.ne {H H' : Hp} {d : Addr} {pre : List Int} {ks : List (Int × Addr)} (g : GI H H' d pre ks) {e : Int × Addr} (h : e ∈ ks) : e.2 ≠ d := fun z => by
  have h1 := (g.rw e h).2
  rw [z, g.hd] at h1
  cases h1
theorem GI.fresh {H H' : Hp} {d T : Addr} {o : HO} {pre : List Int} {ks : List (Int × Addr)} (g : GI H H' d pre ks) (hT : H' T = none) : GI H (upd H' T o) d pre ks :=
  ⟨g.kd, g.ad, g.km, by rw [upd_ne (ne_of_none g.hd hT)]; exact g.hd, g.nd, fun e h => ⟨(g.rw e h).1, by rw [upd_ne (ne_of_none (g.rw e h).2 hT)]; exact (g.rw e h).2⟩, fun b u e => by rw [upd_ne (ne_of_none (g.gr b u e) hT)]; exact g.gr b u e, g.ln⟩
theorem GI.nfr {H H' : Hp} {d T : Addr} {pre : List Int} {ks : List (Int × Addr)} (g : GI H H' d pre ks) (hT : H' T = none) : H T = none := by
  cases e : H T with
  | none => rfl
  | some o =>
    rw [g.gr T o e] at hT
    cases hT
theorem GI.find {H H' : Hp} {d : Addr} {pre : List Int} {ks : List (Int × Addr)} (g : GI H H' d pre ks) {x : Int} {la : Addr} (h : (x, la) ∈ ks) : valV (ks.map entA) (Sum.inl x) = some (.ref la) := by
  have hn := g.kd
  clear g
  induction ks with
  | nil => cases h
  | cons p ks ih =>
    rw [List.map_cons, List.nodup_cons] at hn
    unfold valV
    rw [List.map_cons, List.find?_cons]
    rcases List.mem_cons.mp h with e | e
    · subst e
      have e2 : decide ((entA (x, la)).1 = Sum.inl x) = true := decide_eq_true rfl
      rw [e2]
      rfl
    · have ne : p.1 ≠ x := fun z => hn.1 (by rw [z]; exact List.mem_map.mpr ⟨_, e, rfl⟩)
      have e2 : decide ((entA p).1 = Sum.inl x) = false := decide_eq_false fun z => ne (Sum.inl.inj z)
      rw [e2]
      exact ih e hn.2
theorem GI.miss {H H' : Hp} {d : Addr} {pre : List Int} {ks : List (Int × Addr)} (g : GI H H' d pre ks) {x : Int} (h : x ∉ pre) : valV (ks.map entA) (Sum.inl x) = none ∧ ∀ v, putK (ks.map entA) (Sum.inl x) v = ks.map entA ++ [(Sum.inl x, v)] := by
  have hx : ∀ p ∈ ks, p.1 ≠ x := fun p hp z => h ((g.km x).mp (by rw [← z]; exact List.mem_map.mpr ⟨p, hp, rfl⟩))
  constructor
  · unfold valV
    rw [Option.map_eq_none_iff, List.find?_eq_none]
    intro q hq e
    obtain ⟨p, hp, rfl⟩ := List.mem_map.mp hq
    exact hx p hp (Sum.inl.inj (of_decide_eq_true e))
  · intro v
    unfold putK
    rw [if_neg]
    intro e
    obtain ⟨q, hq, e⟩ := List.any_eq_true.mp e
    obtain ⟨p, hp, rfl⟩ := List.mem_map.mp hq
    exact hx p hp (Sum.inl.inj (of_decide_eq_true e))
theorem GI.old {H H' : Hp} {d la : Addr} {pre : List Int} {ks : List (Int × Addr)} (g : GI H H' d pre ks) {x : Int} (h : (x, la) ∈ ks) : GI H (upd H' la (.lst (natsV (Ma.rowsOf pre x) ++ [.int (pre.length : Nat)]))) d (pre ++ [x]) ks := by
  have hx : x ∈ pre := (g.km x).mp (List.mem_map.mpr ⟨_, h, rfl⟩)
  refine ⟨g.kd, g.ad, fun y => ?_, ?_, g.nd, fun e he => ⟨(g.rw e he).1, ?_⟩, fun b o e => ?_, by rw [List.length_append]; have := g.ln; omega⟩
  · rw [g.km, List.mem_append, List.mem_singleton]
    exact ⟨.inl, fun z => z.elim id fun z => by rw [z]; exact hx⟩
  · rw [upd_ne (g.ne h).symm]
    exact g.hd
  · rw [Ma.rowsOf_snoc]
    by_cases z : e.2 = la
    · have ee : e = (x, la) := by
        obtain ⟨i, hi, e1⟩ := List.getElem_of_mem he
        obtain ⟨j, hj, e2⟩ := List.getElem_of_mem h
        have := List.nodup_iff_pairwise_ne.mp g.ad
        have key := List.pairwise_iff_getElem.mp this
        have eij : i = j := by
          rcases Nat.lt_trichotomy i j with w | w | w
          · have := key i j (by simpa using hi) (by simpa using hj) w
            rw [List.getElem_map, List.getElem_map, e1, e2] at this
            exact absurd z this
          · exact w
          · have := key j i (by simpa using hj) (by simpa using hi) w
            rw [List.getElem_map, List.getElem_map, e1, e2] at this
            exact absurd z.symm this
        subst eij
        rw [← e1, e2]
      subst ee
      rw [upd_same, if_pos rfl]
      unfold natsV
      rw [List.map_append]
      rfl
    · rw [upd_ne z, if_neg, List.append_nil]
      · exact (g.rw e he).2
      · intro q
        subst q
        have e1 := g.find he
        have e2 := g.find h
        rw [e1] at e2
        exact z (V.ref.inj (Option.some.inj e2))
  · have ne : b ≠ la := fun z => by
      rw [z, (g.rw _ h).1] at e
      cases e
    rw [upd_ne ne]
    exact g.gr b o e
theorem GI.new {H H' : Hp} {d l : Addr} {pre : List Int} {ks : List (Int × Addr)} (g : GI H H' d pre ks) {x : Int} (h : x ∉ pre) (hl : H' l = none) :
    GI H (upd (upd (upd H' l (.lst [])) d (.dK (putK (ks.map entA) (Sum.inl x) (.ref l)))) l (.lst ([] ++ [.int (pre.length : Nat)]))) d (pre ++ [x]) (ks ++ [(x, l)]) := by
  have hdl : d ≠ l := ne_of_none g.hd hl
  refine ⟨?_, ?_, fun y => ?_, ?_, g.nd, fun e he => ?_, fun b o e => ?_, by rw [List.length_append, List.length_append]; have := g.ln; simp; omega⟩
  · rw [List.map_append]
    refine List.nodup_append.mpr ⟨g.kd, by simp, fun a ha b hb e => ?_⟩
    have hb : b = x := by simpa using hb
    subst hb
    rw [e] at ha
    exact h ((g.km b).mp ha)
  · rw [List.map_append]
    refine List.nodup_append.mpr ⟨g.ad, by simp, fun a ha b hb e => ?_⟩
    have hb : b = l := by simpa using hb
    subst hb
    obtain ⟨q, hq, rfl⟩ := List.mem_map.mp ha
    have := (g.rw q hq).2
    rw [e, hl] at this
    cases this
  · rw [List.map_append, List.mem_append, g.km, List.mem_append]
    simp
  · rw [upd_ne hdl, upd_same, (g.miss h).2, List.map_append]
    rfl
  · rcases List.mem_append.mp he with z | z
    · have h1 := (g.rw e z).2
      have n1 : e.2 ≠ l := ne_of_none h1 hl
      refine ⟨(g.rw e z).1, ?_⟩
      rw [upd_ne n1, upd_ne (g.ne z), upd_ne n1, Ma.rowsOf_snoc, if_neg, List.append_nil]
      · exact h1
      · intro q
        exact h (by rw [q]; exact (g.km _).mp (List.mem_map.mpr ⟨e, z, rfl⟩))
    · have ee : e = (x, l) := by simpa using z
      subst ee
      refine ⟨g.nfr hl, ?_⟩
      rw [upd_same, Ma.rowsOf_snoc, if_pos rfl, Ma.rowsOf_nil_of h]
      rfl
  · have h1 := g.gr b o e
    have n1 : b ≠ l := ne_of_none h1 hl
    have n2 : b ≠ d := ne_of_none e g.nd
    rw [upd_ne n1, upd_ne n2, upd_ne n1]
    exact h1
end L2

set_option maxHeartbeats 4000000
/-! DL part Y4: the def groups_of, its run. -/
namespace L2
open PySem PySem.Spec PyProof.Rows L2
structure GrpX (X : Cx) (p : Nat → Pos) (sc : Scope) : Prop where
  l1 : ((p 21).endLine == (p 24).line) = true
  l2 : ((p 25).endLine == (p 27).line) = true
  calm : X.calm = true
  pas : PassesOwn (model X.prog X.w) X.A X.env X.xe
  N : X.N = [("kind" : Str), "many", "reference", "rows", "row", "value"]
  v0 : X.env.scope.names.lookup ("kind" : Str) = some .local
  v1 : X.env.scope.names.lookup ("many" : Str) = some .local
  v2 : X.env.scope.names.lookup ("reference" : Str) = some .local
  v3 : X.env.scope.names.lookup ("rows" : Str) = some .cell
  v4 : X.env.scope.names.lookup ("row" : Str) = some .local
  v5 : X.env.scope.names.lookup ("value" : Str) = some .local
  fn : ∀ x, X.fn x = true
  gT : Gl X "tuple"
  gR : Gl X "range"
  gE : Gl X "enumerate"
  gS : Gl X "sorted"
  mT : X.mg "tuple" = none
  mR : X.mg "range" = none
  mE : X.mg "enumerate" = none
  mS : X.mg "sorted" = none
  un : X.A.units + 64 < cLine
  blk : BlkOk X.N X.env.scope sc [(("value" : Str), 5)]
  s3 : sc.names.lookup ("rows" : Str) = some .free
  s5 : sc.names.lookup ("value" : Str) = some .local
  sT : sc.names.lookup ("tuple" : Str) = some .globalImplicit
/-- what is told of the groups -/
def GrpOut (H : Hp) (gs : List (List Nat)) (Q : V → Hp → Prop) : Prop := ∀ (H' : Hp) (t : Addr) (zs : List (Addr × List Nat)), (∀ b o, H b = some o → H' b = some o) → H t = none → (∃ o, PlO o ∧ H' t = some (HO.pt o (zs.map fun z => V.ref z.1))) →
  (∀ z ∈ zs, H z.1 = none ∧ ∃ o, PlO o ∧ H' z.1 = some (HO.pt o (natsV z.2))) → zs.map (·.2) = gs → Q (.ref t) H'
theorem grp_run {X : Cx} {p : Nat → Pos} {k1 k2 k3 : Nat} {sc : Scope} {kd : Str} {m : Int} {v : V} {H : Hp} {D : Ends} (g : GrpX X p sc)
    (h : (kd ≠ "lookup" ∧ ∃ n : Nat, m = n ∧ n ≤ 1000 ∧ GrpOut H [List.range n] D.rt) ∨ (kd = "lookup" ∧ ∃ (a : Addr) (ns : List Int), v = .ref a ∧ SqT X.K H a (ns.map V.int) ∧ ns.length < 64 ∧ GrpOut H (Ma.groups ns) D.rt)) :
    ∃ t, PSs X (grpBody p k1 k2 k3 sc) t ∧ t D [some (.str kd), some (.int m), some v, none, none, none] H := by
  have nd : X.N.Nodup := by rw [g.N]; decide
  have h0 : X.N[0]? = some ("kind" : Str) := by rw [g.N]; rfl
  have h1 : X.N[1]? = some ("many" : Str) := by rw [g.N]; rfl
  have h2 : X.N[2]? = some ("reference" : Str) := by rw [g.N]; rfl
  have h3 : X.N[3]? = some ("rows" : Str) := by rw [g.N]; rfl
  have h4 : X.N[4]? = some ("row" : Str) := by rw [g.N]; rfl
  have h5 : X.N[5]? = some ("value" : Str) := by rw [g.N]; rfl
  have hu1 : X.A.units + 1 < cLine := by have := g.un; omega
  have s5 : ∀ (s : Shared) (H : Hp) (C : Addr) (cl : List (Str × Addr)) (fp : List Addr), (X.blk s H sc (compEnvC sc cl C X.env) fp).env.scope.names.lookup ("value" : Str) = some .local := fun _ _ _ _ _ => lookup_relS_keep (sc := X.env.scope) (fun z => nomatch z) g.s5
  have sT : ∀ (s : Shared) (H : Hp) (C : Addr) (cl : List (Str × Addr)) (fp : List Addr), Gl (X.blk s H sc (compEnvC sc cl C X.env) fp) "tuple" := fun _ _ _ _ _ => lookup_relS_keep (sc := X.env.scope) (fun z => nomatch z) g.sT
  have s3 : ∀ (s : Shared) (H : Hp) (C : Addr) (cl : List (Str × Addr)) (fp : List Addr), Vis (X.blk s H sc (compEnvC sc cl C X.env) fp).env.scope "rows" := fun _ _ _ _ _ => .inr (DL.lookup_free (sc := X.env.scope) g.s3)
  refine ⟨_, pss_cons (ps_if (pt_cmpR op_ne (pe_var h0 (.inl g.v0)) pe_str (nomark _)) (pss_one (ps_ret (pe_tupP (pa_cons (pe_tupRgP g.calm g.gT g.mT (prg_1 g.gR g.mR (pe_var h1 (.inl g.v1)) rfl) rfl) pa_nil)))) pss_nil)
    (pss_cons (ps_asg pe_dnewK (pg_name (i := 3) nd h3 (.inr g.v3) (.inl (g.fn _))))
    (pss_cons (ps_for g.pas g.calm (DL.pi_en g.gE g.mE (pa_cons (pe_var h2 (.inl g.v2)) pa_nil) rfl) (pg_tup g.calm (pgs_cons (pg_name (i := 4) nd h4 (.inl g.v4) (.inl (g.fn _))) (pgs_cons (pg_name (i := 5) nd h5 (.inl g.v5) (.inl (g.fn _))) pgs_nil)))
      (pss_one (ps_expr (pe_bm PySem.F.plainAttrs_list PySem.F.slot_list_append PySem.F.type_list_append mt_append (pe_dsetd (pe_var h3 (.inr (.inl g.v3))) (pe_var h5 (.inl g.v5)) (pe_lst pa_nil) ⟨rfl, rfl, g.l1, rfl⟩) (pa_cons (pe_var h4 (.inl g.v4)) pa_nil) rfl rfl g.l2))))
    (pss_one (ps_ret (pe_callTy call_tupleP g.gT g.mT boot_tuple (pa_cons (pe_lc (own := [("value", 5)]) (g := gName 5) (tt := tYes) (te := tCB (rTupP X.K) (tCons (tDGet (tVar 3) (tVar 5)) tNil)) g.calm nd (pi_list (pe_callB (call_sortedDI g.calm) g.gS g.mS boot_sorted (pa_cons (pe_var h3 (.inr (.inl g.v3))) pa_nil))) g.blk
      (fun s H C cl fp => pg_name (i := 5) nd h5 (.inl (s5 s H C cl fp)) (.inr (s5 s H C cl fp))) (fun _ _ _ _ _ => pts_nil) (fun s H C cl fp => pe_callTy call_tupleP (sT s H C cl fp) g.mT boot_tuple (pa_cons (pe_dget hu1 (pe_var h3 (s3 s H C cl fp)) (pe_var h5 (.inl (s5 s H C cl fp))) (fun _ _ => rfl)) pa_nil))) pa_nil)))))), ?_⟩
  refine ⟨.str kd, rfl, rfl, _, rfl, ?_⟩
  by_cases hk : kd = "lookup"
  · rcases h with ⟨h, _⟩ | ⟨_, a, ns, rfl, hsq, hn, ho⟩
    · exact absurd hk h
    subst hk
    rw [if_neg (by simp)]
    intro d hd
    have up : ∀ (o : HO) (b : Addr) (u : HO), H b = some u → upd H d o b = some u := fun o b u e => by rw [upd_ne (ne_of_none e hd)]; exact e
    have gi0 : GI H (upd H d (.dK [])) d [] [] := ⟨List.nodup_nil, List.nodup_nil, fun x => Iff.rfl, upd_same, hd, fun e h => (nomatch h), up _, Nat.le_refl _⟩
    refine ⟨_, rfl, true, a, ns.map V.int, rfl, DL.sqt_mono (up _) hsq, fun i m2 σ H' => m2 = ns.length - i ∧ i ≤ ns.length ∧ ∃ ks u1 u2, GI H H' d (ns.take i) ks ∧ σ = [some (.str "lookup"), some (.int m), some (.ref a), some (.ref d), u1, u2], ⟨ns.length, rfl, Nat.zero_le _, [], none, none, gi0, rfl⟩, ?_⟩
    rintro i m2 σ H' ⟨rfl, hi, ks, u1, u2, gi, rfl⟩
    by_cases hlt : i < ns.length
    · right
      have hsq' : SqT X.K H' a (ns.map V.int) := DL.sqt_mono gi.gr hsq
      refine ⟨⟨hsq', by rw [List.length_map]; exact hlt⟩, fun σ' H'' => i + 1 ≤ ns.length ∧ ∃ ks u1 u2, GI H H'' d (ns.take (i + 1)) ks ∧ σ' = [some (.str "lookup"), some (.int m), some (.ref a), some (.ref d), u1, u2], fun σ' H'' ⟨z1, z2⟩ => ⟨ns.length - (i + 1), by omega, rfl, z1, z2⟩, ?_⟩
      rintro x H1 ⟨T, x, ob, pob, rfl, hT, rfl, hx⟩
      rw [List.getElem?_map, List.getElem?_eq_getElem hlt] at hx
      cases hx
      have etk : ns.take (i + 1) = ns.take i ++ [ns[i]] := by rw [List.take_add_one, List.getElem?_eq_getElem hlt]; rfl
      have elen : (ns.take i).length = i := by rw [List.length_take]; omega
      have gi1 := gi.fresh (o := HO.pt ob [.int (i : Nat), .int ns[i]]) hT
      refine ⟨T, _, rfl, (PlT.upd pob).sqt, rfl, .int (i : Nat), _, rfl, .int ns[i], _, rfl, rfl, ?_⟩
      refine ⟨.ref d, rfl, d, rfl, .inl ⟨_, .inl gi1.hd⟩, .int ns[i], rfl, by decide, fun l hl => ?_⟩
      have gi2 := gi1.fresh (o := .lst []) hl
      have hrl : ∀ x, (natsV (Ma.rowsOf (ns.take i) x)).length < sizeLine := fun x => by
        have := List.length_filter_le (fun k => decide ((ns.take i).getD k 0 = x)) (List.range (ns.take i).length)
        unfold natsV Ma.rowsOf
        rw [List.length_map, sizeLine_eq]
        rw [List.length_range] at this
        omega
      refine ⟨ks.map entA, Sum.inl ns[i], gi2.hd, rfl, by have := gi.ln; rw [List.length_map, sizeLine_eq]; omega, fun w hw => ?_, fun hw => ?_⟩
      · by_cases hp : ns[i] ∈ ns.take i
        · obtain ⟨⟨y, la⟩, hmem, ey⟩ := List.mem_map.mp ((gi.km _).mpr hp)
          have ey : y = ns[i] := ey
          subst ey
          rw [gi.find hmem] at hw
          cases hw
          refine ⟨.inl ⟨rfl, _, SqL.of (gi2.rw _ hmem).2⟩, .int (i : Nat), rfl, la, _, .int (i : Nat), rfl, rfl, (gi2.rw _ hmem).2, hrl _, by omega, ks, _, _, ?_, rfl⟩
          have z := gi2.old hmem
          rw [elen] at z
          rw [etk]
          exact z
        · rw [(gi.miss hp).1] at hw
          cases hw
      · by_cases hp : ns[i] ∈ ns.take i
        · obtain ⟨⟨y, la⟩, hmem, ey⟩ := List.mem_map.mp ((gi.km _).mpr hp)
          have ey : y = ns[i] := ey
          subst ey
          rw [gi.find hmem] at hw
          cases hw
        · have hdl : d ≠ l := ne_of_none gi1.hd hl
          have hll : upd (upd (upd H' T (HO.pt ob [.int (i : Nat), .int ns[i]])) l (.lst [])) d (.dK (putK (ks.map entA) (Sum.inl ns[i]) (.ref l))) l = some (.lst []) := by rw [upd_ne hdl.symm, upd_same]
          refine ⟨.inl ⟨rfl, _, SqL.of hll⟩, .int (i : Nat), rfl, l, [], .int (i : Nat), rfl, rfl, hll, by decide, by omega, ks ++ [(ns[i], l)], some (.int (i : Nat)), some (.int ns[i]), ?_, rfl⟩
          have z := gi1.new hp hl
          rw [elen] at z
          rw [etk]
          exact z
    · left
      have e : i = ns.length := by omega
      subst e
      refine ⟨⟨DL.sqt_mono gi.gr hsq, by rw [List.length_map]⟩, ?_⟩
      rw [List.take_length] at gi
      refine ⟨.ref d, rfl, d, ks.map entA, ks.map (·.1), rfl, .inl gi.hd, by rw [List.map_map, List.map_map]; rfl, by have := gi.ln; rw [List.length_map]; omega, fun ys pl hperm hsorted hpl => ?_⟩
      have hys : ys = Ma.dst ns := Ma.dst_uniq (by
        have h1 : ys.Nodup := hperm.nodup_iff.mpr gi.kd
        exact (List.Pairwise.and hsorted (List.nodup_iff_pairwise_ne.mp h1)).imp fun h => by omega) fun x => (hperm.mem_iff).trans (gi.km x)
      have gi1 := gi.fresh (o := .lst (ys.map V.int)) hpl
      refine ⟨pl, rfl, ⟨ys.map V.int, SqL.of upd_same⟩, fun Dl hDl => ?_⟩
      generalize hH1 : upd H' pl (.lst (ys.map V.int)) = H1 at gi1 hDl
      have hpl1 : H1 pl = some (.lst (ys.map V.int)) := by rw [← hH1, upd_same]
      refine ⟨fun i m2 H'' => m2 = ys.length - i ∧ i ≤ ys.length ∧ ∃ zs : List (Addr × List Nat), zs.map (·.2) = (ys.take i).map (Ma.rowsOf ns) ∧ H'' Dl = some (.lst (zs.map fun z => V.ref z.1)) ∧ (∀ b o, H1 b = some o → H'' b = some o) ∧ ∀ z ∈ zs, H1 z.1 = none ∧ ∃ o, PlO o ∧ H'' z.1 = some (HO.pt o (natsV z.2)), ⟨ys.length, rfl, Nat.zero_le _, [], rfl, upd_same, fun b o e => by rw [upd_ne (ne_of_none e hDl)]; exact e, fun z h => (nomatch h)⟩, ?_⟩
      rintro i m2 H'' ⟨rfl, hi2, zs, hz1, hz2, gr1, hz3⟩
      have hzl : zs.length = i := by
        have := congrArg List.length hz1
        rw [List.length_map, List.length_map, List.length_take] at this
        omega
      have hyl : ys.length < 64 := by
        rw [hys]
        exact Nat.lt_of_le_of_lt (Ma.dst_len ns) hn
      by_cases hlt : i < ys.length
      · right
        refine ⟨⟨_, _, SqL.of (gr1 _ _ hpl1), by rw [List.getElem?_map, List.getElem?_eq_getElem hlt]; rfl⟩, fun H3 => i + 1 ≤ ys.length ∧ ∃ zs : List (Addr × List Nat), zs.map (·.2) = (ys.take (i + 1)).map (Ma.rowsOf ns) ∧ H3 Dl = some (.lst (zs.map fun z => V.ref z.1)) ∧ (∀ b o, H1 b = some o → H3 b = some o) ∧ ∀ z ∈ zs, H1 z.1 = none ∧ ∃ o, PlO o ∧ H3 z.1 = some (HO.pt o (natsV z.2)), fun H3 ⟨z1, z2⟩ => ⟨ys.length - (i + 1), by omega, rfl, z1, z2⟩, ?_⟩
        rintro x H3 ⟨rfl, hx⟩
        have hx := hx _ (SqL.of (gr1 _ _ hpl1))
        rw [List.getElem?_map, List.getElem?_eq_getElem hlt] at hx
        cases hx
        have hy : ys[i] ∈ ns := (gi.km _).mp (hperm.mem_iff.mp (List.getElem_mem hlt))
        obtain ⟨⟨y, la⟩, hmem, ey⟩ := List.mem_map.mp ((gi.km _).mpr hy)
        have ey : y = ys[i] := ey
        have hla := gr1 _ _ (gi1.rw _ hmem).2
        have hgd : DGet H3 d (V.int ys[i]) (some (V.ref la)) := by
          have z := DGet.k (k := Sum.inl ys[i]) (gr1 _ _ gi1.hd)
          rw [← ey, gi.find hmem] at z
          rw [← ey]
          exact z
        refine ⟨rfl, ?_⟩
        unfold tYes
        refine iteT ?_
        refine ⟨.ref d, rfl, .int ys[i], rfl, d, .ref la, rfl, hgd, la, _, rfl, .inl ⟨SqL.of hla, fun t ot pot ht => ?_⟩⟩
        have htD : Dl ≠ t := ne_of_none hz2 ht
        have ntH1 : H1 t = none := by
          cases e : H1 t with
          | none => rfl
          | some o =>
            rw [gr1 t o e] at ht
            cases ht
        refine ⟨zs.map fun z => V.ref z.1, by rw [upd_ne htD]; exact hz2, by rw [List.length_map, sizeLine_eq]; omega, by omega, zs ++ [(t, Ma.rowsOf ns y)], ?_, ?_, fun b o e => ?_, fun z hz => ?_⟩
        · rw [List.map_append, hz1, List.take_add_one, List.getElem?_eq_getElem hlt, List.map_append, ey]
          rfl
        · rw [upd_same, List.map_append]
          rfl
        · have e2 := gr1 b o e
          have n1 : b ≠ t := ne_of_none e2 ht
          have n2 : b ≠ Dl := ne_of_none e hDl
          rw [upd_ne n2, upd_ne n1]
          exact e2
        · rcases List.mem_append.mp hz with q | q
          · obtain ⟨q1, oz, poz, q2⟩ := hz3 z q
            have n1 : z.1 ≠ t := ne_of_none q2 ht
            have n2 : z.1 ≠ Dl := fun e => by
              rw [e, hz2] at q2
              cases q2
            exact ⟨q1, oz, poz, by rw [upd_ne n2, upd_ne n1]; exact q2⟩
          · have q : z = (t, Ma.rowsOf ns y) := by simpa using q
            subst q
            exact ⟨ntH1, ot, pot, by rw [upd_ne htD.symm, upd_same]⟩
      · left
        refine ⟨⟨_, SqL.of (gr1 _ _ hpl1), by rw [List.length_map]; omega⟩, Dl, _, rfl, .inl ⟨SqL.of hz2, fun t ot pot ht => ?_⟩⟩
        have gt : ∀ (b : Addr) (o : HO), H'' b = some o → upd H'' t (HO.pt ot (zs.map fun z => V.ref z.1)) b = some o := fun b o e => by
          rw [upd_ne (ne_of_none e ht)]
          exact e
        have hnt : H t = none := by
          cases e : H t with
          | none => rfl
          | some o =>
            rw [gr1 t o (gi1.gr t o e)] at ht
            cases ht
        refine ho _ t zs (fun b o e => gt b o (gr1 b o (gi1.gr b o e))) hnt ⟨ot, pot, upd_same⟩ (fun z hz => ⟨gi1.nfr (hz3 z hz).1, let ⟨o1, p1, e1⟩ := (hz3 z hz).2; ⟨o1, p1, gt _ _ e1⟩⟩) ?_
        rw [hz1, List.take_of_length_le (by omega), hys]
        rfl
  · rcases h with ⟨_, n, rfl, hn, ho⟩ | ⟨h, _⟩
    · rw [if_pos (by simpa using hk)]
      refine ⟨.int (n : Int), rfl, (n : Int), rfl, RgOk.of_le (by omega) (by omega) (by decide) (by omega), fun q oq poq hq => ?_⟩
      refine ⟨by show 1 ≤ sizeLine; decide, fun t ot pot ht => ?_⟩
      have er : rgV 0 (n : Int) = natsV (List.range n) := by
        unfold rgV natsV
        have e1 : ((n : Int) - 0).toNat = n := by omega
        rw [e1]
        refine List.map_congr_left fun k _ => ?_
        rw [Int.zero_add]
      have hqt : q ≠ t := ne_of_none (show upd H q (HO.pt oq (rgV 0 (n : Int))) q = some _ from upd_same) ht
      have g1 : ∀ (b : Addr) (o : HO), H b = some o → upd H q (HO.pt oq (rgV 0 (n : Int))) b = some o := fun b o e => by rw [upd_ne (ne_of_none e hq)]; exact e
      have hnt : H t = none := by rw [upd_ne hqt.symm] at ht; exact ht
      refine ho _ t [(q, List.range n)] (fun b o e => by rw [upd_ne (ne_of_none e hnt)]; exact g1 b o e) hnt ⟨ot, pot, upd_same⟩ (fun z hz => ?_) rfl
      have hz : z = (q, List.range n) := by simpa using hz
      subst hz
      exact ⟨hq, oq, poq, by rw [upd_ne hqt, upd_same, er]⟩
    · exact absurd h hk
end L2

set_option maxHeartbeats 4000000
/-! DL part Y5: a chain that may raise, caught. -/
namespace L2
open PySem PySem.Spec PyProof.Rows L2
def chainBody (p : Nat → Pos) (m : Str) : List Stmt := [
  .Assign [.Tuple [.Name "path" (p 0), .Name "following" (p 1)] 0 (p 2)] (.Call (.Name "followed" (p 3)) [.Name "choice" (p 4), .Name "column" (p 5)] [] (p 6)) (p 7),
  .If (.Compare (.Name "following" (p 8)) [.IsNot] [.Constant .none 0 (p 9)] (p 10)) [.Raise (some (.Call (.Name "CircularReferences" (p 11)) [.Constant (.str m) 0 (p 12)] [] (p 13))) none (p 14)] [] (p 15),
  .Return (some (.Name "path" (p 16))) (p 17)]
def endsBody (p : Nat → Pos) : List Stmt := [
  .Try [.Expr (.Call (.Name "chain_of" (p 0)) [.Name "choice" (p 1), .Name "c" (p 2)] [] (p 3)) (p 4)] [.ExceptHandler (some (.Name "CircularReferences" (p 5))) none [.Return (some (.Constant (.bool false) 0 (p 6))) (p 7)] (p 8)] [] [] (p 9),
  .Return (some (.Constant (.bool true) 0 (p 10))) (p 11)]
/-- what is known of the class -/
structure CrX (K : PySem.W.Frag) (mg : Str → Option Value) (C : Addr) : Prop where
  g : mg "CircularReferences" = some (.ref C)
  x : PySem.W.excIn K C He.veBase "ValueError.__new__" = true
  k : PySem.W.keepIn K (.ref C) = true
  b : PySem.W.subIn K (.ref C) (.type "BaseException") = some true
  t : PySem.W.typeIn K (.ref C) = some (.type "type")
  e : PySem.W.exmOne K (.ref C) (.ref C) = some true
/-- chain_of by what followed promises -/
def spCh (K : PySem.W.Frag) (C : Addr) (sp : Sp) : Sp := fun vs H Q E => vs.length = 2 ∧ sp vs H (fun v H' => ∃ a p o, v = .ref a ∧ SqT K H' a [p, o] ∧ (o = .non → Q p H') ∧ (o ≠ .non → (∃ k, o = .int k) ∧ E (.ref C) none H')) fun _ _ _ => False
section
variable {P : Program} {w : World} {K : PySem.W.Frag} {mg : Str → Option Value} {base : Heap} {C f f1 f2 : Addr} {fd fd1 fd2 : FuncData} {sp : Sp} {k : Nat}
def Mono (sp : Sp) : Prop := ∀ (vs : List V) (H : Hp) (Q Q' : VK) (E E' : XK), (∀ v H', Q v H' → Q' v H') → sp vs H Q E → sp vs H Q' E'
theorem chain_ok (mo : Mono sp) {params : Arguments} {scope : Scope} {p : Nat → Pos} {m : Str} (F : FunD K "chain_of" "chain_of" params (chainBody p m) scope [] [] f fd) (S : FnScope [("choice" : Str), "column", "path", "following"] [("choice" : Str), "column"] scope)
    (v0 : scope.names.lookup ("choice" : Str) = some .local) (v1 : scope.names.lookup ("column" : Str) = some .local) (v2 : scope.names.lookup ("path" : Str) = some .local) (v3 : scope.names.lookup ("following" : Str) = some .local)
    (gF : scope.names.lookup ("followed" : Str) = some .globalImplicit) (gC : scope.names.lookup ("CircularReferences" : Str) = some .globalImplicit)
    (X : CrX K mg C) (F1 : FnOk P w K mg base CX0 k f1 fd1 [("choice" : Str), "column"] sp) (m1 : mg "followed" = some (.ref f1)) (k1 : PySem.W.keepIn K (.ref f1) = true) (b1 : Binds K fd1 [("choice" : Str), "column"] []) :
    FnOk P w K mg base (L2.CX P w) (k + 1) f fd [("choice" : Str), "column"] (spCh K C sp) := by
  refine F.ok S (fun vs H Q E h => h.1) fun cdv A outer s H vs Q E hr ⟨hl, h⟩ => ?_
  obtain ⟨a, b, rfl⟩ : ∃ a b, vs = [a, b] := match vs, hl with | [a, b], _ => ⟨a, b, rfl⟩
  have nd := S.nd
  refine ⟨_, pss_cons (ps_asg (pe_call (E := fun _ _ _ => False) F1 hr gF m1 k1 b1 .nil pass0 (pa_cons (pe_var (i := 0) rfl (.inl v0)) (pa_cons (pe_var (i := 1) rfl (.inl v1)) pa_nil))) (pg_tup rfl (pgs_cons (pg_name (i := 2) nd rfl (.inl v2)) (pgs_cons (pg_name (i := 3) nd rfl (.inl v3)) pgs_nil))))
    (pss_cons (ps_if (pt_cmpR op_notN (pe_var (i := 3) rfl (.inl v3)) pe_non (nomark _)) (pss_one (ps_raise rfl (takes_of rfl rfl rfl rfl) (pmk_own PySem.F.excBase_ValueError X.x X.g X.k (raises_own X.b X.t) gC))) pss_nil)
    (pss_one (ps_ret (pe_var (i := 2) rfl (.inl v2))))), ?_⟩
  refine ⟨a, rfl, b, rfl, ?_⟩
  refine mo _ _ _ _ _ _ (fun v H' ⟨a2, p2, o, e, hs, hn, hi⟩ => ?_) h
  refine ⟨a2, [p2, o], e, hs, rfl, p2, [o], rfl, o, [], rfl, rfl, o, rfl, rfl, _, rfl, ?_⟩
  by_cases z : o = .non
  · subst z
    exact ⟨_, rfl, hn rfl⟩
  · have e1 : (!decide (o = V.non)) = true := by rw [decide_eq_false z]; rfl
    rw [e1]
    exact (hi z).2
def spEn (K : PySem.W.Frag) (sp : Sp) : Sp := fun vs H Q _ => vs.length = 2 ∧ sp vs H (fun v H' => ∃ a p o, v = .ref a ∧ SqT K H' a [p, o] ∧ (o = .non → Q (.bl true) H') ∧ (o ≠ .non → (∃ k, o = .int k) ∧ Q (.bl false) H')) fun _ _ _ => False
theorem ends_ok (mo : Mono sp) {params : Arguments} {scope : Scope} {p : Nat → Pos} (F : FunD K "_law_ends" "_law_ends" params (endsBody p) scope [] [] f fd) (S : FnScope [("choice" : Str), "c"] [("choice" : Str), "c"] scope)
    (v0 : scope.names.lookup ("choice" : Str) = some .local) (v1 : scope.names.lookup ("c" : Str) = some .local) (gF : scope.names.lookup ("chain_of" : Str) = some .globalImplicit) (gC : scope.names.lookup ("CircularReferences" : Str) = some .globalImplicit)
    (Y : CrX K mg C) (F2 : FnOk P w K mg base (L2.CX P w) k f2 fd2 [("choice" : Str), "column"] (spCh K C sp)) (m2 : mg "chain_of" = some (.ref f2)) (k2 : PySem.W.keepIn K (.ref f2) = true) (b2 : Binds K fd2 [("choice" : Str), "column"] []) :
    FnOk P w K mg base CX0 (k + 1) f fd [("choice" : Str), "c"] (spEn K sp) := by
  refine F.ok S (fun vs H Q E h => h.1) fun cdv A outer s H vs Q E hr ⟨hl, h⟩ => ?_
  obtain ⟨a, b, rfl⟩ : ∃ a b, vs = [a, b] := match vs, hl with | [a, b], _ => ⟨a, b, rfl⟩
  have nd := S.nd
  refine ⟨_, PSs.nox (pss_cons (ps_try_only (X := (cxOf CX0 P w K mg base [("choice" : Str), "c"] "_law_ends" scope f cdv A outer s H E).nox) (c := .ref C)
      (tb := fun W => tDrop (tCallS (spCh K C sp) (WE W) (tCons (tVar 0) (tCons (tVar 1) tNil)))) (ts := fun _ _ _ => tRet (tC (.bl false))) (Wout := fun _ _ _ _ => False) rfl rfl ⟨gC, by decide, .inl Y.g⟩ takes0
      (fun W pn xe tk _ => pss_one (ps_expr (pe_callS F2 hr gF m2 k2 b2 (fun σ => passAt tk σ) (pa_cons (pe_var (i := 0) rfl (.inl v0)) (pa_cons (pe_var (i := 1) rfl (.inl v1)) pa_nil))))) (fun a oe cls d pn _ _ => pss_one (ps_ret pe_bl))) (pss_one (ps_ret pe_bl))), ?_⟩
  refine ⟨a, rfl, b, rfl, rfl, ?_⟩
  refine mo _ _ _ _ _ _ (fun v H' ⟨a2, p2, o, e, hs, hn, hi⟩ => ?_) h
  exact ⟨a2, p2, o, e, hs, fun z => hn z, fun z => ⟨(hi z).1, true, Y.e, fun _ a _ => (hi z).2, fun z => nomatch z⟩⟩
end
end L2

set_option maxHeartbeats 4000000
/-! DL part T: defs. -/
namespace DL
open PySem PySem.Spec PyProof.Rows L2

/-- a def of the text and its mini form -/
structure Df where
  x : Str
  params : Arguments
  body : List Stmt
  scope : Scope
  N : List Str
  ps : List Str
  fn : Fn
  kw : Option (Str × Dk)
def glbOf (T : List Df) (gl bl : List Str) (d : Df) : Glb := ⟨d.N, T.map fun d => (d.x, d.fn.tp, d.fn.np), gl, bl, d.x, T.map (·.kw)⟩
def fscB (N P : List Str) (sc : Scope) : Bool := (sc.kind == .function && !sc.isCoroutine && !sc.isGenerator) && (decide N.Nodup && (decide (N.take P.length = P) && ((P.all fun x => sc.names.lookup x == some .local || sc.names.lookup x == some .cell) && sc.names.all fun y => !(y.2 == .free))))
theorem fscB_ok {N P : List Str} {sc : Scope} (h : fscB N P sc = true) : FnScope N P sc := by
  unfold fscB at h
  obtain ⟨h1, h2⟩ := and2 h
  obtain ⟨h1, h3⟩ := and2 h1
  obtain ⟨h1, h4⟩ := and2 h1
  obtain ⟨h2, h5⟩ := and2 h2
  obtain ⟨h5, h6⟩ := and2 h5
  obtain ⟨h6, h7⟩ := and2 h6
  refine ⟨by simpa using h1, by simpa using h4, by simpa using h3, of_decide_eq_true h2, of_decide_eq_true h5, fun x hx => ?_, fun y hy => ?_⟩
  · have z := List.all_eq_true.mp h6 x hx
    rcases Bool.or_eq_true_iff.mp z with q | q
    · exact .inl (by simpa using q)
    · exact .inr (by simpa using q)
  · have z := List.all_eq_true.mp h7 y hy
    simpa using z
def freqPos : List Stmt → Nat → Pos
  | [.Assign [.Name _ p0] (.Dict _ _ p1) p2, .For (.Name _ p3) (.Name _ p4) [.Assign [.Subscript (.Name _ p5) (.Name _ p6) p7] (.BinOp (.Call (.Attribute (.Name _ p8) _ p9) [.Name _ p10, .Constant _ _ p11] _ p12) _ (.Constant _ _ p13) p14) p15] _ p16,
     .Return (some (.Call (.Name _ p17) [.Call (.Name _ p18) [.Call (.Attribute (.Name _ p19) _ p20) _ _ p21] _ p22] _ p23)) p24], n => [p0, p1, p2, p3, p4, p5, p6, p7, p8, p9, p10, p11, p12, p13, p14, p15, p16, p17, p18, p19, p20, p21, p22, p23, p24].getD n ⟨0, 0, 0, 0⟩
  | _, _ => ⟨0, 0, 0, 0⟩
structure FreqOk (bl : List Str) (d : Df) : Prop where
  body : d.body = freqBody (freqPos d.body) 0 0
  h1 : ((freqPos d.body 9).endLine == (freqPos d.body 12).line) = true
  h2 : ((freqPos d.body 20).endLine == (freqPos d.body 21).line) = true
  N : d.N = [("values" : Str), "counts", "value"]
  ps : d.ps = [("values" : Str)]
  tp : d.fn.tp = false
  v0 : d.scope.names.lookup ("values" : Str) = some .local
  v1 : d.scope.names.lookup ("counts" : Str) = some .local
  v2 : d.scope.names.lookup ("value" : Str) = some .local
  gT : d.scope.names.lookup ("tuple" : Str) = some .globalImplicit
  gS : d.scope.names.lookup ("sorted" : Str) = some .globalImplicit
  bT : ("tuple" : Str) ∈ bl
  bS : ("sorted" : Str) ∈ bl
def grpPos : List Stmt → Nat → Pos
  | [.If (.Compare (.Name _ p0) _ [.Constant _ _ p1] p2) [.Return (some (.Tuple [.Call (.Name _ p3) [.Call (.Name _ p4) [.Name _ p5] _ p6] _ p7] _ p8)) p9] _ p10,
     .Assign [.Name _ p11] (.Dict _ _ p12) p13,
     .For (.Tuple [.Name _ p14, .Name _ p15] _ p16) (.Call (.Name _ p17) [.Name _ p18] _ p19) [.Expr (.Call (.Attribute (.Call (.Attribute (.Name _ p20) _ p21) [.Name _ p22, .List _ p23] _ p24) _ p25) [.Name _ p26] _ p27) p28] _ p29,
     .Return (some (.Call (.Name _ p30) [.ListComp (.Call (.Name _ p31) [.Subscript (.Name _ p32) (.Name _ p33) p34] _ p35) [⟨.Name _ p36, .Call (.Name _ p37) [.Name _ p38] _ p39, _, _⟩] _ p40] _ p41)) p42], n =>
    [p0, p1, p2, p3, p4, p5, p6, p7, p8, p9, p10, p11, p12, p13, p14, p15, p16, p17, p18, p19, p20, p21, p22, p23, p24, p25, p26, p27, p28, p29, p30, p31, p32, p33, p34, p35, p36, p37, p38, p39, p40, p41, p42].getD n ⟨0, 0, 0, 0⟩
  | _, _ => ⟨0, 0, 0, 0⟩
def grpSc : List Stmt → Scope → Scope
  | [_, _, _, .Return (some (.Call _ [.ListComp _ _ sc _] _ _)) _], _ => sc
  | _, s => s
structure GrpOk (bl : List Str) (d : Df) : Prop where
  body : d.body = grpBody (grpPos d.body) 0 0 0 (grpSc d.body d.scope)
  l1 : ((grpPos d.body 21).endLine == (grpPos d.body 24).line) = true
  l2 : ((grpPos d.body 25).endLine == (grpPos d.body 27).line) = true
  N : d.N = [("kind" : Str), "many", "reference", "rows", "row", "value"]
  ps : d.ps = [("kind" : Str), "many", "reference"]
  tp : d.fn.tp = false
  v0 : d.scope.names.lookup ("kind" : Str) = some .local
  v1 : d.scope.names.lookup ("many" : Str) = some .local
  v2 : d.scope.names.lookup ("reference" : Str) = some .local
  v3 : d.scope.names.lookup ("rows" : Str) = some .cell
  v4 : d.scope.names.lookup ("row" : Str) = some .local
  v5 : d.scope.names.lookup ("value" : Str) = some .local
  gT : d.scope.names.lookup ("tuple" : Str) = some .globalImplicit
  gR : d.scope.names.lookup ("range" : Str) = some .globalImplicit
  gE : d.scope.names.lookup ("enumerate" : Str) = some .globalImplicit
  gS : d.scope.names.lookup ("sorted" : Str) = some .globalImplicit
  bT : ("tuple" : Str) ∈ bl
  bR : ("range" : Str) ∈ bl
  bE : ("enumerate" : Str) ∈ bl
  bS : ("sorted" : Str) ∈ bl
  blk : blkC d.N d.scope (grpSc d.body d.scope) [(("value" : Str), 5)] = true
  s3 : (grpSc d.body d.scope).names.lookup ("rows" : Str) = some .free
  s5 : (grpSc d.body d.scope).names.lookup ("value" : Str) = some .local
  sT : (grpSc d.body d.scope).names.lookup ("tuple" : Str) = some .globalImplicit
def chainPos : List Stmt → Nat → Pos
  | [.Assign [.Tuple [.Name _ p0, .Name _ p1] _ p2] (.Call (.Name _ p3) [.Name _ p4, .Name _ p5] _ p6) p7,
     .If (.Compare (.Name _ p8) _ [.Constant _ _ p9] p10) [.Raise (some (.Call (.Name _ p11) [.Constant _ _ p12] _ p13)) _ p14] _ p15,
     .Return (some (.Name _ p16)) p17], n => [p0, p1, p2, p3, p4, p5, p6, p7, p8, p9, p10, p11, p12, p13, p14, p15, p16, p17].getD n ⟨0, 0, 0, 0⟩
  | _, _ => ⟨0, 0, 0, 0⟩
def chainMsg : List Stmt → Str
  | [_, .If _ [.Raise (some (.Call _ [.Constant (.str m) _ _] _ _)) _ _] _ _, _] => m
  | _ => ""
def endsPos : List Stmt → Nat → Pos
  | [.Try [.Expr (.Call (.Name _ p0) [.Name _ p1, .Name _ p2] _ p3) p4] [.ExceptHandler (some (.Name _ p5)) _ [.Return (some (.Constant _ _ p6)) p7] p8] _ _ p9, .Return (some (.Constant _ _ p10)) p11], n =>
    [p0, p1, p2, p3, p4, p5, p6, p7, p8, p9, p10, p11].getD n ⟨0, 0, 0, 0⟩
  | _, _ => ⟨0, 0, 0, 0⟩
structure ChainOk (d : Df) : Prop where
  kw : d.kw = none
  body : d.body = chainBody (chainPos d.body) (chainMsg d.body)
  x : d.x = "chain_of"
  sc : fscB d.N d.ps d.scope = true
  N : d.N = [("choice" : Str), "column", "path", "following"]
  ps : d.ps = [("choice" : Str), "column"]
  v0 : d.scope.names.lookup ("choice" : Str) = some .local
  v1 : d.scope.names.lookup ("column" : Str) = some .local
  v2 : d.scope.names.lookup ("path" : Str) = some .local
  v3 : d.scope.names.lookup ("following" : Str) = some .local
  gF : d.scope.names.lookup ("followed" : Str) = some .globalImplicit
  gC : d.scope.names.lookup ("CircularReferences" : Str) = some .globalImplicit
structure EndsOk (T : List Df) (i : Nat) (d : Df) : Prop where
  body : d.body = endsBody (endsPos d.body)
  x : d.x = "_law_ends"
  N : d.N = [("choice" : Str), "c"]
  ps : d.ps = [("choice" : Str), "c"]
  tp : d.fn.tp = false
  v0 : d.scope.names.lookup ("choice" : Str) = some .local
  v1 : d.scope.names.lookup ("c" : Str) = some .local
  gF : d.scope.names.lookup ("chain_of" : Str) = some .globalImplicit
  gC : d.scope.names.lookup ("CircularReferences" : Str) = some .globalImplicit
  ch : ∃ (j : Nat) (e : Df), T[j]? = some e ∧ ChainOk e
  fo : ∃ e : Df, T[i]? = some e ∧ e.x = "followed" ∧ e.ps = [("choice" : Str), "column"] ∧ e.fn.tp = false ∧ e.fn.np = 2 ∧ e.kw = none
def isEnds : Pr → Bool
  | .ends _ => true
  | _ => false
def PrOk (T : List Df) (gl bl : List Str) (d : Df) : Prop := match d.fn.pr with
  | .freq => FreqOk bl d
  | .groups => GrpOk bl d
  | .ends i => EndsOk T i d
  | .off => True
  | .no => False
/-- what is to be checked of a def: with no text around -/
structure Df.Ok (T : List Df) (gl bl : List Str) (d : Df) : Prop where
  sc : fscB d.N d.ps d.scope = true
  bind : d.kw = none → ∀ (kV doc pm : Value) (an : Option Addr) (cdv ct : Value) (us : List Value), us.length = d.ps.length → bindArgs (PySem.W.fnOf d.x d.x d.params d.body d.scope .none kV doc pm an cdv ct) ⟨us, []⟩ = pure (d.ps.zip us)
  bindK : ∀ kn dk, d.kw = some (kn, dk) → d.fn.tp = false ∧ (∀ (kV doc pm : Value) (an : Option Addr) (cdv ct : Value) (us ws : List Value), us.length = d.ps.length - 1 → ws.length = 1 → bindArgs (PySem.W.fnOf d.x d.x d.params d.body d.scope .none kV doc pm an cdv ct) ⟨us, [kn].zip ws⟩ = pure (d.ps.zip (us ++ ws))) ∧
    ∀ (D : Addr) (doc pm : Value) (an : Option Addr) (cdv ct : Value) (us ks : List Value), us.length = d.ps.length - 1 → ks.length = 1 → KwChain D ([kn].zip ks) (bindArgs (PySem.W.fnOf d.x d.x d.params d.body d.scope .none (.ref D) doc pm an cdv ct) ⟨us, []⟩) (d.ps.zip (us ++ ks))
  pos : ∀ kn dk, d.kw = some (kn, dk) → 0 < d.ps.length
  chk : d.fn.pr = .no → chkSs (glbOf T gl bl d) d.scope d.fn.body d.body = true
  np : d.fn.np = d.ps.length
  nl : d.fn.nl = d.N.length
  prm : d.fn.pr ≠ .no → PrOk T gl bl d
section
variable {P : Program} {w : World} {K : PySem.W.Frag} {mg : Str → Option Value} {base : Heap} {T : List Df} {gl bl : List Str} {C : List D}
abbrev FnD (K : PySem.W.Frag) (d : Df) (f : Addr) (fd : FuncData) : Prop := FunD K d.x d.x d.params d.body d.scope [] [] f fd
theorem den_ar {n i : Nat} {prog : List Fn} {f : Fn} {t : Option D} {ds : List D} {Q : D → Bool → Option D → Prop} {R : Xn → Option D → Prop} (hf : prog[i]? = some f) (h : den C prog n i t ds Q R) : t.isSome = f.tp ∧ (if f.tp then ds.length + 1 else ds.length) = f.np := by
  cases n with
  | zero => exact h.elim
  | succ n =>
    rw [den_succ hf] at h
    cases e : f.pr with
    | no =>
      rw [stepD_no e] at h
      exact h.1
    | freq =>
      rw [stepD_pr e nofun] at h
      exact h.1
    | groups =>
      rw [stepD_pr e nofun] at h
      exact h.1
    | ends i =>
      rw [stepD_pr e nofun] at h
      exact h.1
    | off =>
      rw [stepD_pr e nofun] at h
      exact h.1
/-- new flat data beside the old -/
theorem fext_new {F H H' : Hp} {S : Addr → Prop} [DecidablePred S] (fh : Same F H) (gr : ∀ b o, H b = some o → H' b = some o) (hS : ∀ b, S b → H b = none) (hS2 : ∀ b, S b → ∀ ps, H' b ≠ some (.tbl ps)) : FExt K none F H (fun b => if S b then H' b else F b) H' where
  ff := fun b o e => by
    have hn : ¬ S b := fun z => by
      have := fh _ _ e
      rw [hS b z] at this
      cases this
    show (if S b then H' b else F b) = some o
    rw [if_neg hn]
    exact e
  fh := fun b o e => by
    have e : (if S b then H' b else F b) = some o := e
    by_cases z : S b
    · rw [if_pos z] at e
      exact e
    · rw [if_neg z] at e
      exact gr b o (fh b o e)
  hh := fun a o e _ _ => gr a o e
  tb := .of gr
  nt := fun z a ps e => by
    have e : (if S a then H' a else F a) = some (.tbl ps) := e
    by_cases q : S a
    · rw [if_pos q] at e
      exact hS2 a q ps e
    · rw [if_neg q] at e
      exact z a ps e
  hn := fun a h => by
    cases e : H a with
    | none => exact absurd e h
    | some o =>
      rw [gr a o e]
      exact nofun
  nf := fun a h => if_neg fun z => h (hS a z)
theorem reps_intsV {F : Hp} : ∀ {ns : List Int} {vs : List V}, Reps K F vs (ns.map PyData.int) → vs = ns.map V.int
  | [], _, .nil => rfl
  | n :: ns, _, .cons r rs => by
    have e := reps_intsV rs
    cases r
    rw [e]
    rfl
/-- the def frequencies -/
theorem freq_fn {n : Nat} {d : Df} {f : Addr} {fd : FuncData} {Γ : Nat → FSpec} (ok : FreqOk bl d) (S : FnScope d.N d.ps d.scope) (hnp : d.fn.np = d.ps.length) (hB : ∀ x ∈ bl, mg x = none) (Fd : FnD K d f fd) :
    FnOk P w K mg base CX0 (n + 1) f fd d.ps (spOf K (runP d.fn .freq Γ) d.fn.tp d.fn.np) := by
  refine Fd.ok S (fun vs H Q E h => h.1.trans hnp) fun cdv A outer s H vs Q E hr ⟨hl, htb, F, Fb, t, ds, ma, Qd, ht, ha, hg, hq⟩ => ?_
  obtain ⟨rfl, ns, rfl, hn, hQ⟩ := hg.2
  obtain ⟨rfl, rs⟩ := ha.rep
  cases rs with
  | cons r rs0 =>
    cases rs0
    cases r with
    | tup hsq rs =>
      have e := reps_intsV rs
      subst e
      have hstart : ∀ a : Addr, start d.N [V.ref a] = [some (.ref a), none, none] := fun a => by rw [ok.N]; rfl
      rw [hstart]
      obtain ⟨tt, hps, hread⟩ := freq_run (X := (cxOf CX0 P w K mg base d.N d.x d.scope f cdv A outer s H E).nox) (p := freqPos d.body) (j1 := 0) (j2 := 0) (H := H) (D := { nx := fun _ H' => Q .non H', rt := Q }) ok.h1 ok.h2 rfl PassesOwn.never ok.N (.inl ok.v0) (.inl ok.v1) (.inl ok.v2) (fun _ => rfl)
        ok.gT (hB _ ok.bT) ok.gS (hB _ ok.bS) (by
          have := hr.un
          show (A.deeper (envOfC d.x d.scope s.heap.objs.size f cdv)).units + 64 < cLine
          omega) (sqt_mono ha.fh hsq.sqt) hn
        (fun H' t zs gr hnt ht' hz hf => by
          obtain ⟨ot, pot, ht'⟩ := ht'
          classical
          have hS : ∀ b, (b = t ∨ ∃ z ∈ zs, z.1 = b) → H b = none := fun b hb => by
            rcases hb with rfl | ⟨z, hz', rfl⟩
            · exact hnt
            · exact (hz z hz').1
          have hS2 : ∀ b, (b = t ∨ ∃ z ∈ zs, z.1 = b) → ∀ ps, H' b ≠ some (.tbl ps) := fun b hb ps e => by
            rcases hb with rfl | ⟨z, hz', rfl⟩
            · rw [ht'] at e
              cases e
            · obtain ⟨oz, _, ez⟩ := (hz z hz').2
              rw [ez] at e
              cases e
          refine hq _ false none _ _ H' hQ (fext_new (S := fun b => b = t ∨ ∃ z ∈ zs, z.1 = b) ha.fh gr hS hS2) trivial (.fz (.tup (xs := zs.map fun z => V.ref z.1) (.inl ⟨ot, pot, ?_⟩) ?_))
          · show (if (t = t ∨ _) then H' t else F t) = _
            rw [if_pos (.inl rfl)]
            exact ht'
          · rw [← hf]
            have key : ∀ ws : List (Addr × Int × Int), (∀ z ∈ ws, z ∈ zs) → Reps K (fun b => if (b = t ∨ ∃ z ∈ zs, z.1 = b) then H' b else F b) (ws.map fun z => V.ref z.1) ((ws.map (·.2)).map fun e => PyData.tuple [.int e.1, .int e.2]) := fun ws => by
              induction ws with
              | nil => exact fun _ => .nil
              | cons z ws ih =>
                intro hw
                obtain ⟨oz, poz, ez⟩ := (hz z (hw z List.mem_cons_self)).2
                refine .cons (.tup (xs := [.int z.2.1, .int z.2.2]) (.inl ⟨oz, poz, ?_⟩) (.cons (.int _) (.cons (.int _) .nil))) (ih fun y hy => hw y (List.mem_cons_of_mem _ hy))
                show (if (z.1 = t ∨ ∃ y ∈ zs, y.1 = z.1) then H' z.1 else F z.1) = _
                rw [if_pos (.inr ⟨z, hw z List.mem_cons_self, rfl⟩)]
                exact ez
            exact key zs fun _ h => h)
      rw [ok.body]
      exact ⟨tt, PSs.nox hps, hread⟩
/-- the def groups_of -/
theorem nats_reps {F : Hp} : ∀ g : List Nat, Reps K F (natsV g) (g.map fun k => PyData.int (k : Nat))
  | [] => .nil
  | k :: g => .cons (.int _) (nats_reps g)
theorem grp_out {F Fb H : Hp} {gs : List (List Nat)} {Qd : D → Bool → Option D → Prop} {Q : V → Hp → Prop} (fh : Same F H) (hQ : Qd (.tuple (gs.map natsT)) false none)
    (hq : ∀ d fr t' v F' H', Qd d fr t' → FExt K none F H F' H' → tapeIs K Fb F' H' none t' → ResRep K H F' H' v d fr → Q v H') : GrpOut H gs Q := by
  intro H' t zs gr hnt ht' hz hf
  obtain ⟨ot, pot, ht'⟩ := ht'
  classical
  have hS : ∀ b, (b = t ∨ ∃ z ∈ zs, z.1 = b) → H b = none := fun b hb => by
    rcases hb with rfl | ⟨z, hz', rfl⟩
    · exact hnt
    · exact (hz z hz').1
  have hS2 : ∀ b, (b = t ∨ ∃ z ∈ zs, z.1 = b) → ∀ ps, H' b ≠ some (.tbl ps) := fun b hb ps e => by
    rcases hb with rfl | ⟨z, hz', rfl⟩
    · rw [ht'] at e
      cases e
    · obtain ⟨oz, _, ez⟩ := (hz z hz').2
      rw [ez] at e
      cases e
  refine hq _ false none _ _ H' hQ (fext_new (S := fun b => b = t ∨ ∃ z ∈ zs, z.1 = b) fh gr hS hS2) trivial (.fz (.tup (xs := zs.map fun z => V.ref z.1) (.inl ⟨ot, pot, ?_⟩) ?_))
  · show (if (t = t ∨ _) then H' t else F t) = _
    rw [if_pos (.inl rfl)]
    exact ht'
  · rw [← hf]
    have key : ∀ ws : List (Addr × List Nat), (∀ z ∈ ws, z ∈ zs) → Reps K (fun b => if (b = t ∨ ∃ z ∈ zs, z.1 = b) then H' b else F b) (ws.map fun z => V.ref z.1) ((ws.map (·.2)).map natsT) := fun ws => by
      induction ws with
      | nil => exact fun _ => .nil
      | cons z ws ih =>
        intro hw
        obtain ⟨oz, poz, ez⟩ := (hz z (hw z List.mem_cons_self)).2
        refine .cons (.tup (xs := natsV z.2) (.inl ⟨oz, poz, ?_⟩) (nats_reps z.2)) (ih fun y hy => hw y (List.mem_cons_of_mem _ hy))
        show (if (z.1 = t ∨ ∃ y ∈ zs, y.1 = z.1) then H' z.1 else F z.1) = _
        rw [if_pos (.inr ⟨z, hw z List.mem_cons_self, rfl⟩)]
        exact ez
    exact key zs fun _ h => h
theorem grp_fn {n : Nat} {d : Df} {f : Addr} {fd : FuncData} {Γ : Nat → FSpec} (ok : GrpOk bl d) (S : FnScope d.N d.ps d.scope) (hnp : d.fn.np = d.ps.length) (hB : ∀ x ∈ bl, mg x = none) (Fd : FnD K d f fd) :
    FnOk P w K mg base CX0 (n + 1) f fd d.ps (spOf K (runP d.fn .groups Γ) d.fn.tp d.fn.np) := by
  refine Fd.ok S (fun vs H Q E h => h.1.trans hnp) fun cdv A outer s H vs Q E hr ⟨hl, htb, F, Fb, t, ds, ma, Qd, ht, ha, hg, hq⟩ => ?_
  obtain ⟨et, hg2⟩ := hg.2
  subst et
  have X0 : GrpX (cxOf CX0 P w K mg base d.N d.x d.scope f cdv A outer s H E).nox (grpPos d.body) (grpSc d.body d.scope) :=
    ⟨ok.l1, ok.l2, rfl, PassesOwn.never, ok.N, ok.v0, ok.v1, ok.v2, ok.v3, ok.v4, ok.v5, fun _ => rfl, ok.gT, ok.gR, ok.gE, ok.gS, hB _ ok.bT, hB _ ok.bR, hB _ ok.bE, hB _ ok.bS, (by
          have := hr.un
          show (A.deeper (envOfC d.x d.scope s.heap.objs.size f cdv)).units + 64 < cLine
          omega), blkOk_by ok.blk, ok.s3, ok.s5, ok.sT⟩
  have hstart : ∀ a b c : V, start d.N [a, b, c] = [some a, some b, some c, none, none, none] := fun a b c => by rw [ok.N]; rfl
  rcases hg2 with ⟨x, m, dd, rfl, hx, hm, hQ⟩ | ⟨m, ns, rfl, hn, hQ⟩
  · obtain ⟨rfl, rs⟩ := ha.rep
    cases rs with
    | cons r1 rs =>
      cases r1
      cases rs with
      | cons r2 rs =>
        cases r2
        cases rs with
        | cons r3 rs =>
          cases rs
          rw [hstart]
          obtain ⟨tt, hps, hread⟩ := grp_run (k1 := 0) (k2 := 0) (k3 := 0) (H := H) (D := { nx := fun _ H' => Q .non H', rt := Q }) X0 (.inl ⟨hx, m, rfl, hm, grp_out ha.fh hQ hq⟩)
          rw [ok.body]
          exact ⟨tt, PSs.nox hps, hread⟩
  · obtain ⟨rfl, rs⟩ := ha.rep
    cases rs with
    | cons r1 rs =>
      cases r1
      cases rs with
      | cons r2 rs =>
        cases r2
        cases rs with
        | cons r3 rs =>
          cases rs
          cases r3 with
          | tup hsq rs =>
            have e := reps_intsV rs
            subst e
            rw [hstart]
            obtain ⟨tt, hps, hread⟩ := grp_run (k1 := 0) (k2 := 0) (k3 := 0) (H := H) (D := { nx := fun _ H' => Q .non H', rt := Q }) X0 (.inr ⟨rfl, _, ns, rfl, sqt_mono ha.fh hsq.sqt, hn, grp_out ha.fh hQ hq⟩)
            rw [ok.body]
            exact ⟨tt, PSs.nox hps, hread⟩
/-- the caught chain -/
theorem spOf_mono {g : FSpec} {tp : Bool} {np : Nat} : Mono (spOf K g tp np) := fun vs H Q Q' E E' h ⟨hl, htb, F, Fb, t, ds, ma, Qd, ht, ha, hg, hq⟩ =>
  ⟨hl, htb, F, Fb, t, ds, ma, Qd, ht, ha, hg, fun d fr t' v F' H' z fe tp rr => h v H' (hq d fr t' v F' H' z fe tp rr)⟩
theorem ends_fn {m i : Nat} {g : Nat → FSpec} {d e : Df} {f f1 f2 : Addr} {fd fd1 fd2 : FuncData} {Cc : Addr} (ok : EndsOk T i d) (S : FnScope d.N d.ps d.scope) (hnp : d.fn.np = d.ps.length) (Y : CrX K mg Cc) (Fd : FnD K d f fd)
    (hc : ChainOk e) (F2 : FnD K e f2 fd2) (m2 : mg e.x = some (.ref f2)) (b2 : Binds K fd2 e.ps [])
    (F1 : FnOk P w K mg base CX0 m f1 fd1 [("choice" : Str), "column"] (spOf K (g i) false 2)) (m1 : mg "followed" = some (.ref f1)) (k1 : PySem.W.keepIn K (.ref f1) = true) (b1 : Binds K fd1 [("choice" : Str), "column"] []) :
    FnOk P w K mg base CX0 (m + 1 + 1) f fd d.ps (spOf K (runP d.fn (.ends i) g) d.fn.tp d.fn.np) := by
  have F2' : FunD K "chain_of" "chain_of" e.params (chainBody (chainPos e.body) (chainMsg e.body)) e.scope [] [] f2 fd2 := by
    have z := F2
    unfold FnD at z
    rw [hc.x, hc.body] at z
    exact z
  have S2 := fscB_ok hc.sc
  rw [hc.N, hc.ps] at S2
  rw [hc.ps] at b2
  rw [hc.x] at m2
  have G2 := chain_ok (P := P) (w := w) (base := base) (mg := mg) spOf_mono F2' S2 hc.v0 hc.v1 hc.v2 hc.v3 hc.gF hc.gC Y F1 m1 k1 b1
  have Fd' : FunD K "_law_ends" "_law_ends" d.params (endsBody (endsPos d.body)) d.scope [] [] f fd := by
    have z := Fd
    unfold FnD at z
    rw [ok.x, ok.body] at z
    exact z
  have S3 := S
  rw [ok.N, ok.ps] at S3
  have G3 := ends_ok (P := P) (w := w) (base := base) spOf_mono Fd' S3 ok.v0 ok.v1 ok.gF ok.gC Y G2 m2 F2.kp b2
  rw [ok.ps]
  refine G3.imp fun vs H Q E ⟨hl, htb, F, Fb, t, ds, ma, Qd, ht, ha, hg, hq⟩ => ?_
  have hl2 : vs.length = 2 := by rw [hl, hnp, ok.ps]; rfl
  obtain ⟨et, hg2⟩ := hg.2
  subst et
  obtain ⟨em, rs⟩ := ha.rep
  subst em
  refine ⟨hl2, hl2, htb, F, Fb, none, ds, none, _, rfl, ha, hg2, fun r fr t' v F' H' ⟨p, o, er, ho, hQ⟩ fe _ rr => ?_⟩
  subst er
  have rr : Rep K F' v (.tuple [p, o]) := by
    cases fr with
    | true => exact rr.own.1.elim
    | false => exact rr.unfz
  cases rr with
  | tup hsq rs2 =>
    cases rs2 with
    | cons r1 rs3 =>
      cases rs3 with
      | cons r2 rs4 =>
        cases rs4
        refine ⟨_, _, _, rfl, sqt_mono fe.fh hsq.sqt, fun e => ?_, fun e => ?_⟩
        · subst e
          rcases ho with rfl | ⟨k, rfl⟩
          · exact hq _ false none _ _ _ hQ fe trivial (.fz (.bl true))
          · cases r2
        · rcases ho with rfl | ⟨k, rfl⟩
          · cases r2
            exact absurd rfl e
          · cases r2
            exact ⟨⟨_, rfl⟩, hq _ false none _ _ _ hQ fe trivial (.fz (.bl false))⟩
theorem start_ok {F H Fb : Hp} {t : Option D} {ds : List D} {vs : List V} {ma : Option Addr} {N : List Str} {f : Fn} (a : Args K F H Fb t ds vs ma) (hl : vs.length = f.np) (hn : f.nl = N.length) (h0 : f.np ≤ f.nl) (htb : TbsOf K H) : Ok K ⟨F, H, ma, Fb⟩ F H (start N vs) (init f t ds) := by
  obtain ⟨fh, fb, nt, rep⟩ := a
  cases t with
  | none =>
    obtain ⟨rfl, rs⟩ := rep
    have hle := rs.len
    have key : ∀ (i : Nat) (m : Md) (d : D), (init f none ds)[i]? = some (some (m, d)) → m = .v ∧ ds[i]? = some d := fun i m d h => by
      have h : ([] ++ (ds.map fun d => some (Md.v, d)) ++ List.replicate (f.nl - f.np) none)[i]? = some (some (m, d)) := h
      rw [List.nil_append] at h
      by_cases hi : i < ds.length
      · rw [List.getElem?_append_left (by rw [List.length_map]; exact hi), List.getElem?_map] at h
        cases e : ds[i]? with
        | none =>
          rw [e] at h
          cases h
        | some d' =>
          rw [e] at h
          cases h
          exact ⟨rfl, rfl⟩
      · rw [List.getElem?_append_right (by rw [List.length_map]; omega)] at h
        have := List.mem_of_getElem? h
        rw [List.mem_replicate] at this
        cases this.2
    refine ⟨fh, ?_, fun a h => h, fun a o h _ _ => h, fun _ _ => rfl, Same.refl _, fb, fun i m d h => ?_, fun i j b p q hp hq np nq _ _ => ?_, .refl _, htb, nt⟩
    · show (vs.map some ++ List.replicate (N.length - vs.length) none).length = ([] ++ (ds.map fun d => some (Md.v, d)) ++ List.replicate (f.nl - f.np) (none : Option (Md × D))).length
      simp only [List.length_append, List.length_map, List.length_replicate, List.nil_append]
      omega
    · obtain ⟨rfl, e⟩ := key i m d h
      obtain ⟨v, ev, r⟩ := rs.get e
      refine ⟨v, ?_, r⟩
      have hi : i < vs.length := (List.getElem?_eq_some_iff.mp ev).1
      show (vs.map some ++ List.replicate (N.length - vs.length) none)[i]? = some (some v)
      rw [List.getElem?_append_left (by rw [List.length_map]; exact hi), List.getElem?_map, ev]
      rfl
    · obtain ⟨m, d⟩ := p
      exact absurd (key i m d hp).1 np
  | some t =>
    obtain ⟨a, vs', rfl, rfl, ct, nF, rs⟩ := rep
    have hle := rs.len
    have key : ∀ (i : Nat) (m : Md) (d : D), (init f (some t) ds)[i]? = some (some (m, d)) → (i = 0 ∧ m = .m ∧ d = t) ∨ ∃ j, i = j + 1 ∧ m = .v ∧ ds[j]? = some d := fun i m d h => by
      have h : (some (Md.m, t) :: ((ds.map fun d => some (Md.v, d)) ++ List.replicate (f.nl - f.np) none))[i]? = some (some (m, d)) := h
      cases i with
      | zero =>
        cases h
        exact .inl ⟨rfl, rfl, rfl⟩
      | succ i =>
        rw [List.getElem?_cons_succ] at h
        refine .inr ⟨i, rfl, ?_⟩
        by_cases hi : i < ds.length
        · rw [List.getElem?_append_left (by rw [List.length_map]; exact hi), List.getElem?_map] at h
          cases e : ds[i]? with
          | none =>
            rw [e] at h
            cases h
          | some d' =>
            rw [e] at h
            cases h
            exact ⟨rfl, rfl⟩
        · rw [List.getElem?_append_right (by rw [List.length_map]; omega)] at h
          have := List.mem_of_getElem? h
          rw [List.mem_replicate] at this
          cases this.2
    have hl' : vs'.length + 1 = f.np := hl
    refine ⟨fh, ?_, fun a h => h, fun a o h _ _ => h, fun _ _ => rfl, Same.refl _, fb, fun i m d h => ?_, fun i j b p q hp hq np nq _ _ => ?_, .refl _, htb, nt⟩
    · show ((V.ref a :: vs').map some ++ List.replicate (N.length - (V.ref a :: vs').length) none).length = ([some (Md.m, t)] ++ (ds.map fun d => some (Md.v, d)) ++ List.replicate (f.nl - f.np) (none : Option (Md × D))).length
      simp only [List.length_append, List.length_map, List.length_replicate, List.length_cons, List.length_nil]
      omega
    · rcases key i m d h with ⟨rfl, rfl, rfl⟩ | ⟨j, rfl, rfl, e⟩
      · exact ⟨.ref a, rfl, ct, fun b e => by cases e; exact ⟨nF, rfl⟩⟩
      · obtain ⟨v, ev, r⟩ := rs.get e
        refine ⟨v, ?_, r⟩
        have hi : j < vs'.length := (List.getElem?_eq_some_iff.mp ev).1
        show (some (V.ref a) :: (vs'.map some ++ List.replicate (N.length - (V.ref a :: vs').length) none))[j + 1]? = some (some v)
        rw [List.getElem?_cons_succ, List.getElem?_append_left (by rw [List.length_map]; exact hi), List.getElem?_map, ev]
        rfl
    · obtain ⟨m, d⟩ := p
      obtain ⟨m2, d2⟩ := q
      rcases key i m d hp with ⟨rfl, _, _⟩ | ⟨_, _, e, _⟩
      · rcases key j m2 d2 hq with ⟨rfl, _, _⟩ | ⟨_, _, e, _⟩
        · rfl
        · exact absurd e nq
      · exact absurd e np
theorem tape_of {F H Fb F' H' : Hp} {ma : Option Addr} {ρ : Store} {σ : L2.St} {b : Bool} (ok : Ok K ⟨F, H, ma, Fb⟩ F' H' σ ρ) (hb : (tapeOf b ρ).isSome = b) (hm : b = false → ma = none) : tapeIs K Fb F' H' ma (tapeOf b ρ) := by
  cases b with
  | false =>
    rw [hm rfl]
    trivial
  | true =>
    cases ma with
    | none => trivial
    | some a =>
      have e : tapeOf true ρ = (match ρ[0]? with
        | some (some (Md.m, d)) => some d
        | _ => none) := rfl
      rw [e] at hb ⊢
      split at hb
      · next d h =>
        obtain ⟨v, _, ct, hv⟩ := ok.sl 0 .m d h
        obtain ⟨a', o, rfl, _, _⟩ := ct.at
        obtain ⟨nF, ea⟩ := hv a' rfl
        cases ea
        exact ⟨d, rfl, ct, nF⟩
      · cases hb
theorem fn_ok2 {CX : CXT} {P : Program} {w : World} {K : PySem.W.Frag} {mg : Str → Option Value} {base : Heap} {N ps : List Str} {k : Nat} {sp : Sp} {x qual : Str} {params : Arguments} {body : List Stmt} {scope : Scope} {dvs : List V} {kws : List (Str × V)} {f : Addr} {fd : FuncData} (F : FunD K x qual params body scope dvs kws f fd) (S : FnScope N ps scope) (len : ∀ vs H Q E, sp vs H Q E → vs.length = ps.length)
    (hbody : ∀ (A : Around) (outer : List Env) (s : Shared) (H : Hp) (vs : List V) (Q : VK) (E : XK), Room k (A.deeper (envOfC qual scope s.heap.objs.size f fd.code)) → sp vs H Q E →
      ∃ t, PSs (cxOf CX P w K mg base N qual scope f fd.code A outer s H E) body t ∧ t { nx := fun _ H' => Q .non H', rt := Q } (start N vs) H) : FnOk P w K mg base CX (k + 1) f fd ps sp := by
  obtain ⟨oc, od, dV, kV, doc, pm, an, cdv, ct, osl, rfl, lk, hcd, _, _⟩ := F.ex
  exact fn_of lk hcd S len fun A outer s H vs Q E hr hsp => hbody A outer s H vs Q E hr hsp
/-- a def with its code object, where a table tells it -/
structure FnL (K : PySem.W.Frag) (d : Df) (f : Addr) (fd : FuncData) : Prop where
  fn : FnD K d f fd
  cd : ∀ c P, PySem.W.tabIn K d.x = some (c, P) → fd.code = .ref c
  kd : ∀ kn dk, d.kw = some (kn, dk) → ∃ v, FunD K d.x d.x d.params d.body d.scope [] [(kn, v)] f fd ∧ ∀ F, Rep K F v dk.d
theorem den_ok (hT : ∀ d ∈ T, d.Ok T gl bl) (hC : ∀ (k : Nat) (x : Str) (d : D), gl[k]? = some x → C[k]? = some d → ∃ u v, mg x = some u ∧ RelV v u ∧ ∀ F, Rep K F v d) (hB : ∀ x ∈ bl, mg x = none)
    (hF : ∀ (i : Nat) (d : Df), T[i]? = some d → ∃ f fd, mg d.x = some (.ref f) ∧ FnL K d f fd) (hL : ∀ d ∈ T, d.x ∈ lamX → ∃ c P, PySem.W.tabIn K d.x = some (c, P) ∧ LamX.TabB base mg c P) (hN : ∀ x ∈ lamX, ∀ y ∈ lamX, ∀ c P c', PySem.W.tabIn K x = some (c, P) → PySem.W.tabIn K y = some (c', P) → y = x) (hX : (∃ d ∈ T, isEnds d.fn.pr = true) → ∃ Cc, CrX K mg Cc) :
    ∀ (n i : Nat) (d : Df) (f : Addr) (fd : FuncData), T[i]? = some d → FnL K d f fd → FnOk P w K mg base CX0 n f fd d.ps (spOf K (den C (T.map (·.fn)) n i) d.fn.tp d.fn.np)
  | 0, i, d, f, fd, hi, Fd => ⟨fun vs H Q E ⟨h, _, F, Fb, t, ds, ma, Qd, _, _, g, _⟩ => g.elim, fun A outer s H args us vs Q E _ _ _ _ ⟨h, _, F, Fb, t, ds, ma, Qd, _, _, g, _⟩ => g.elim⟩
  | n + 1, i, d, f, fd, hi, FdL => by
    have Fd := FdL.fn
    have ok := hT d (List.mem_of_getElem? hi)
    have S := fscB_ok ok.sc
    have hpl : d.fn.np ≤ d.fn.nl := by
      rw [ok.np, ok.nl]
      have := congrArg List.length S.pre
      rw [List.length_take] at this
      omega
    have hp : ∀ (k : Nat) (e : Df), T[k]? = some e → (T.map (·.fn))[k]? = some e.fn := fun k e he => by rw [List.getElem?_map, he]; rfl
    rw [den_succ (hp i d hi)]
    cases epr : d.fn.pr with
    | freq =>
      have po := ok.prm (by rw [epr]; exact nofun)
      unfold PrOk at po
      rw [epr] at po
      rw [stepD_pr epr nofun]
      exact freq_fn po S ok.np hB Fd
    | groups =>
      have po := ok.prm (by rw [epr]; exact nofun)
      unfold PrOk at po
      rw [epr] at po
      rw [stepD_pr epr nofun]
      exact grp_fn po S ok.np hB Fd
    | off => exact ⟨fun vs H Q E ⟨h, _, F, Fb, t, ds, ma, Qd, _, _, g, _⟩ => (by rw [stepD_pr epr nofun] at g; exact g.2.2.elim), fun A outer s H args us vs Q E _ _ _ _ ⟨h, _, F, Fb, t, ds, ma, Qd, _, _, g, _⟩ => (by rw [stepD_pr epr nofun] at g; exact g.2.2.elim)⟩
    | ends j =>
      have po := ok.prm (by rw [epr]; exact nofun)
      unfold PrOk at po
      rw [epr] at po
      rw [stepD_pr epr nofun]
      obtain ⟨Cc, Y⟩ := hX ⟨d, List.mem_of_getElem? hi, by rw [epr]; rfl⟩
      match n with
      | 0 => exact ⟨fun vs H Q E ⟨h, _, F, Fb, t, ds, ma, Qd, _, _, g, _⟩ => g.2.2.elim, fun A outer s H args us vs Q E _ _ _ _ ⟨h, _, F, Fb, t, ds, ma, Qd, _, _, g, _⟩ => g.2.2.elim⟩
      | m + 1 =>
        obtain ⟨jc, e, he, hc⟩ := po.ch
        obtain ⟨e1, he1, x1, ps1, tp1, np1, kw1⟩ := po.fo
        obtain ⟨f2, fd2, m2, F2L⟩ := hF jc e he
        have F2 := F2L.fn
        obtain ⟨f1, fd1, m1, F1L⟩ := hF j e1 he1
        have F1 := F1L.fn
        have G1 := den_ok hT hC hB hF hL hN hX m j e1 f1 fd1 he1 F1L
        rw [ps1, tp1, np1] at G1
        have bb := F1.bindsN ((hT e1 (List.mem_of_getElem? he1)).bind kw1)
        rw [ps1] at bb
        rw [x1] at m1
        exact ends_fn po S ok.np Y Fd hc F2 m2 (F2.bindsN ((hT e (List.mem_of_getElem? he)).bind hc.kw)) G1 m1 F1.kp bb
    | no =>
    rw [stepD_no epr]
    refine fn_ok2 Fd S (fun vs H Q E h => h.1.trans ok.np) fun A outer s H vs Q E hr ⟨hl, htb, F, Fb, t, ds, ma, Qd, ht, ha, hg, hq⟩ => ?_
    refine ⟨tS K ⟨F, H, ma, Fb⟩ (wpSs C (den C (T.map (·.fn)) n) d.fn.body), PSs.nox ?_, F, init d.fn t ds, _, start_ok ha hl ok.nl hpl htb, hg.2, ?_⟩
    · refine sndSs (G := glbOf T gl bl d) ⟨F, H, ma, Fb⟩ d.fn.body d.body d.scope _ (ok.chk epr) ?_ PassesOwn.never
      refine ⟨rfl, S.nd, rfl, ?_, S.kind, fun x h => h, fun x h => ⟨h, rfl⟩, fun x h => absurd rfl (S.nofree _ (PySem.mem_of_lookup h)), fun x h => h, fun k x tp np h hkw => ?_, fun k x np kn dk h hkw => ?_, hC, hB, fun hx => ?_⟩
      · have := hr.un
        show (A.deeper (envOfC d.x d.scope s.heap.objs.size f fd.code)).units + 70 < cLine
        omega
      · have h : (T.map fun d => (d.x, d.fn.tp, d.fn.np))[k]? = some (x, tp, np) := h
        rw [List.getElem?_map] at h
        cases e : T[k]? with
        | none =>
          rw [e] at h
          cases h
        | some d' =>
          rw [e] at h
          cases h
          obtain ⟨f', fd', hm, FL'⟩ := hF k d' e
          have F' := FL'.fn
          have kw' : d'.kw = none := by
            have z : (T.map (·.kw))[k]? = some none := hkw
            rw [List.getElem?_map, e] at z
            exact Option.some.inj z
          refine ⟨fun t ds Q R h => den_ar (hp k d' e) h, f', fd', d'.ps, n, hm, den_ok hT hC hB hF hL hN hX n k d' f' fd' e FL', hr, F'.kp, F'.bindsN ((hT d' (List.mem_of_getElem? e)).bind kw')⟩
      · have h : (T.map fun d => (d.x, d.fn.tp, d.fn.np))[k]? = some (x, false, np) := h
        rw [List.getElem?_map] at h
        cases e : T[k]? with
        | none =>
          rw [e] at h
          cases h
        | some d' =>
          rw [e] at h
          have h := Option.some.inj h
          simp only [Prod.mk.injEq] at h
          obtain ⟨hx1, htp, hnp⟩ := h
          subst hx1 hnp
          obtain ⟨f', fd', hm, FL'⟩ := hF k d' e
          have kw' : d'.kw = some (kn, dk) := by
            have z : (T.map (·.kw))[k]? = some (some (kn, dk)) := hkw
            rw [List.getElem?_map, e] at z
            exact Option.some.inj z
          have ok' := hT d' (List.mem_of_getElem? e)
          obtain ⟨_, bk, bd⟩ := ok'.bindK kn dk kw'
          have hps := ok'.pos kn dk kw'
          obtain ⟨v, Fk, hrep⟩ := FL'.kd kn dk kw'
          have G' := den_ok hT hC hB hF hL hN hX n k d' f' fd' e FL'
          rw [htp] at G'
          obtain ⟨us, hv, hb⟩ := Fk.binds0 (d'.ps.length - 1) (List.cons_ne_nil _ _) (by show d'.ps.length - 1 + 1 = _; omega) bd
          obtain ⟨u, eu⟩ : ∃ u, us = [u] := by
            cases hv with
            | cons _ r =>
              cases r
              exact ⟨_, rfl⟩
          subst eu
          refine ⟨fun t ds Q R h => ?_, f', fd', d'.ps, n, hm, G', hr, FL'.fn.kp, ⟨fun s us ws _ l1 l2 => ?_, fun r1 r2 => r1.append r2⟩, v, u, hb, hv, hrep⟩
          · have z := den_ar (hp k d' e) h
            rw [htp] at z
            exact z
          · rw [ok'.np] at l1
            obtain ⟨oc, od, dV, kV, doc, pm, an, cdv, ct, osl, rfl, lk, hcd, hD, hK⟩ := Fk.ex
            rcases hD with ⟨_, rfl⟩ | ⟨z, _⟩
            · exact .of_eq (bk kV doc pm an cdv ct us ws l1 l2)
            · exact absurd rfl z
      · have hx : d.x ∈ lamX := hx
        obtain ⟨c, P, e1, TB⟩ := hL d (List.mem_of_getElem? hi) hx
        exact ⟨hx, ⟨c, P, e1, FdL.cd c P e1, TB⟩, rfl, fun y hy c P c' z1 z2 => hN d.x hx y hy c P c' z1 z2, hr.depth⟩
    · have mk : ∀ {d' : D} {fr : Bool} {ρ : Store} {σ : L2.St} {v : V} {F' H' : Hp}, tpEnd d.fn.tp ρ (Qd d' fr) → Ok K ⟨F, H, ma, Fb⟩ F' H' σ ρ → ResRep K H F' H' v d' fr → Q v H' := fun {d' fr ρ σ v F' H'} hk ok' r => by
        refine hq d' fr _ v F' H' hk.2 ⟨ok'.e3, ok'.fh, ok'.e1, ok'.e0, ok'.e2, ok'.tb, fun _ => ok'.nt⟩ (tape_of ok' hk.1 fun hb => ?_) r
        rw [hb] at ht
        cases t with
        | none => exact ha.rep.1
        | some t => cases ht
      refine ⟨fun ρ σ F' H' hk ok' _ => mk hk ok' (.fz .non), fun ρ σ F' H' hk _ _ => hk.elim, fun ρ σ F' H' hk _ _ => hk.elim, fun d' fr ρ σ v F' H' hk ok' r => mk hk ok' r, ?_⟩
      funext x ρ
      exact propext ⟨fun z => z.2, False.elim⟩
end
end DL

set_option maxHeartbeats 4000000
/-! DL part U: a law over its row. -/
namespace DL
open PySem PySem.Spec PyProof.Rows L2
def mkD (d : Df) : He.DefD := ⟨(d.x, none), d.x, d.x, d.params, d.body, d.scope, [], []⟩
def cFa : Str × D → List He.Fa
  | (x, .int i) => [.int x i]
  | (x, .str z) => [.str x z]
  | (x, .tuple _) => [.glo x]
  | _ => []
def okC : Str × D → Bool
  | (_, .int _) => true
  | (_, .str _) => true
  | (_, .tuple ds) => (strsD ds).isSome
  | _ => false
/-- a constant that is a tuple of texts -/
def tcB (K : PySem.W.Frag) (p : Str × D) : Bool := match p.2 with
  | .tuple ds => (match strsD ds, K.lookup (He.ga K p.1) with
    | some zs, some ⟨.type c, none, .seq its _, _⟩ => decide (c = "tuple") && (decide (its.size ≤ sizeLine) && He.relAll (zs.map V.str) its.toList)
    | _, _ => false)
  | _ => true
theorem strs_reps {K : PySem.W.Frag} {F : Hp} : ∀ {ds : List D} {zs : List Str}, strsD ds = some zs → Reps K F (zs.map V.str) ds
  | [], _, h => by
    cases h
    exact .nil
  | d :: ds, zs, h => by
    cases d with
    | str z =>
      cases e : strsD ds with
      | none =>
        rw [show strsD (.str z :: ds) = (strsD ds).map (z :: ·) from rfl, e] at h
        cases h
      | some ys =>
        rw [show strsD (.str z :: ds) = (strsD ds).map (z :: ·) from rfl, e] at h
        cases h
        exact .cons (.str z) (strs_reps e)
    | _ => cases h
theorem tcB_ok {K : PySem.W.Frag} {x : Str} {ds : List D} (h : tcB K (x, .tuple ds) = true) (F : Hp) : Rep K F (.ref (He.ga K x)) (.tuple ds) := by
  unfold tcB at h
  simp only at h
  cases e : strsD ds with
  | none =>
    rw [e] at h
    cases h
  | some zs =>
    rw [e] at h
    cases q : K.lookup (He.ga K x) with
    | none =>
      rw [q] at h
      cases h
    | some o =>
      obtain ⟨oc, od, dt, osl⟩ := o
      rw [q] at h
      cases oc with
      | type c =>
        cases od with
        | none =>
          cases dt with
          | seq its n =>
            obtain ⟨h1, h2⟩ := He.ba (show (decide (c = "tuple") && (decide (its.size ≤ sizeLine) && He.relAll (zs.map V.str) its.toList)) = true from h)
            obtain ⟨h3, h4⟩ := He.ba h2
            exact .tup (.inr ⟨_, its, n, q, congrArg Value.type (of_decide_eq_true h1), rfl, rfl, of_decide_eq_true h3, He.relAll_ok h4⟩) (strs_reps e)
          | _ => cases h
        | some a => cases dt <;> cases h
      | _ => cases od <;> cases dt <;> cases h
/-- a default of a keyword-only parameter, as the heap holds it -/
def dkB (K : PySem.W.Frag) (u : Value) : Dk → Bool
  | .tup0 => (match u with
    | .ref t => (match K.lookup t with
      | some ⟨.type c, none, .seq its _, _⟩ => decide (c = "tuple") && decide (its.size = 0)
      | _ => false)
    | _ => false)
  | .non => He.relB .non u
  | .int n => He.relB (.int n) u
theorem dkB_ok {K : PySem.W.Frag} {u : Value} {dk : Dk} (h : dkB K u dk = true) : ∃ v, RelV v u ∧ ∀ F, Rep K F v dk.d := by
  cases dk with
  | non => exact ⟨.non, He.relB_ok h, fun F => .non⟩
  | int n => exact ⟨.int n, He.relB_ok h, fun F => .int n⟩
  | tup0 =>
    cases u with
    | ref t =>
      have h : (match K.lookup t with
        | some ⟨.type c, none, .seq its _, _⟩ => decide (c = "tuple") && decide (its.size = 0)
        | _ => false) = true := h
      refine ⟨.ref t, rfl, fun F => ?_⟩
      cases q : K.lookup t with
      | none =>
        rw [q] at h
        cases h
      | some o =>
        obtain ⟨oc, od, dt, osl⟩ := o
        rw [q] at h
        cases oc with
        | type c =>
          cases od with
          | none =>
            cases dt with
            | seq its n =>
              obtain ⟨h1, h2⟩ := He.ba (show (decide (c = "tuple") && decide (its.size = 0)) = true from h)
              have e0 : its.size = 0 := of_decide_eq_true h2
              exact .tup (xs := []) (.inr ⟨_, its, n, q, congrArg Value.type (of_decide_eq_true h1), rfl, rfl, by rw [e0]; exact Nat.zero_le _, by rw [Array.eq_empty_of_size_eq_zero e0]; exact .nil⟩) .nil
            | _ => cases h
          | some a => cases dt <;> cases h
        | _ => cases od <;> cases dt <;> cases h
    | _ => cases h
/-- a def and its keyword-only default -/
abbrev KdT := Str × Option (Str × Dk)
def kdB (K : PySem.W.Frag) (p : KdT) : Bool := match p.2 with
  | none => true
  | some (kn, dk) => (match K.lookup (He.fAd K (p.1, none)) with
    | some ⟨_, _, .func fd, _⟩ => (match fd.kwdefaults with
      | .ref D => (match PySem.W.nsIn K D kn with
        | some (some u) => dkB K u dk
        | _ => false)
      | _ => false)
    | _ => false)
theorem kdB_ok {K : PySem.W.Frag} {d : Df} {fd : FuncData} (h : kdB K (d.x, d.kw) = true) (F : FnD K d (He.fAd K (d.x, none)) fd) (kn : Str) (dk : Dk) (e : d.kw = some (kn, dk)) : ∃ v, FunD K d.x d.x d.params d.body d.scope [] [(kn, v)] (He.fAd K (d.x, none)) fd ∧ ∀ F, Rep K F v dk.d := by
  obtain ⟨oc, od, dV, kV, doc, pm, an, cdv, ct, osl, ef, lk, hcd, hD, hK⟩ := F.ex
  unfold kdB at h
  simp only [e, lk] at h
  split at h
  · next D hkd =>
    split at h
    · next u hu =>
      obtain ⟨v, rv, hr⟩ := dkB_ok h
      refine ⟨v, ⟨⟨oc, od, dV, kV, doc, pm, an, cdv, ct, osl, ef, lk, hcd, hD, .inr ⟨D, ?_, fun q hq => ?_⟩⟩, F.kp⟩, hr⟩
      · rw [ef] at hkd
        exact hkd
      · rw [List.mem_singleton] at hq
        subst hq
        exact ⟨u, hu, rv⟩
    · cases h
  · cases h
def exFa (T : List Df) : List He.Fa := if T.any (fun d => isEnds d.fn.pr) then [.glo "CircularReferences", .exc "CircularReferences", .exm "CircularReferences" "CircularReferences" true] else []
def faOf (T : List Df) (bl : List Str) (cs : List (Str × D)) : List He.Fa := T.map (fun d => .glo d.x) ++ (bl.map .free ++ (cs.flatMap cFa ++ exFa T))
section
variable {P : Program} {w : World} {K : PySem.W.Frag} {h : Heap} {mg : Str → Option Value} {T : List Df} {bl : List Str} {cs : List (Str × D)}
theorem cs_at {k : Nat} {x : Str} {d : D} (h1 : (cs.map (·.1))[k]? = some x) (h2 : (cs.map (·.2))[k]? = some d) : (x, d) ∈ cs := by
  rw [List.getElem?_map] at h1 h2
  cases e : cs[k]? with
  | none =>
    rw [e] at h1
    cases h1
  | some p =>
    rw [e] at h1 h2
    cases h1
    cases h2
    exact List.mem_of_getElem? e
theorem law_defs (X : K.In h) (G : h.Ns mainGlobals mg) (c : He.SaysD (faOf T bl cs) (T.map mkD) K) (hkd : ∀ d ∈ T, kdB K (d.x, d.kw) = true) (i : Nat) (d : Df) (hi : T[i]? = some d) : ∃ f fd, mg d.x = some (.ref f) ∧ FnL K d f fd := by
  have hm := List.mem_of_getElem? hi
  obtain ⟨fd, F⟩ := c.defs (d := mkD d) (List.mem_map_of_mem hm)
  have hg := He.glo_ok X G (c.facts (f := .glo d.x) (List.mem_append_left _ (List.mem_map_of_mem (f := fun d : Df => He.Fa.glo d.x) hm)))
  refine ⟨_, fd, hg, F, fun cc P e => ?_, kdB_ok (hkd d hm) F⟩
  obtain ⟨oc, od, dV, kV, doc, pm, an, cdv, ct, osl, e1, lk, _⟩ := F.ex
  exact PySem.W.law_code X G e hg (X _ _ lk) rfl
theorem law_free (X : K.In h) (G : h.Ns mainGlobals mg) (c : He.SaysD (faOf T bl cs) (T.map mkD) K) (x : Str) (hx : x ∈ bl) : mg x = none :=
  He.free_ok X G (c.facts (f := .free x) (List.mem_append_right _ (List.mem_append_left _ (List.mem_map_of_mem hx))))
theorem law_con (X : K.In h) (G : h.Ns mainGlobals mg) (c : He.SaysD (faOf T bl cs) (T.map mkD) K) (hc : ∀ p ∈ cs, okC p = true) (htc : ∀ p ∈ cs, tcB K p = true) (k : Nat) (x : Str) (d : D) (h1 : (cs.map (·.1))[k]? = some x) (h2 : (cs.map (·.2))[k]? = some d) :
    ∃ u v, mg x = some u ∧ RelV v u ∧ ∀ F, Rep K F v d := by
  have hm := cs_at h1 h2
  have hf : ∀ f ∈ cFa (x, d), f.ok K = true := fun f hf => c.facts (List.mem_append_right _ (List.mem_append_right _ (List.mem_append_left _ (List.mem_flatMap.mpr ⟨_, hm, hf⟩))))
  have ho := hc _ hm
  cases d with
  | int i =>
    obtain ⟨t, e⟩ := He.int_ok X G (hf (.int x i) (List.mem_singleton.mpr rfl))
    exact ⟨_, .int i, e, ⟨_, rfl⟩, fun F => .int i⟩
  | str z =>
    obtain ⟨t, e⟩ := He.str_ok X G (hf (.str x z) (List.mem_singleton.mpr rfl))
    exact ⟨_, .str z, e, ⟨_, rfl⟩, fun F => .str z⟩
  | tuple ds => exact ⟨_, .ref (He.ga K x), He.glo_ok X G (hf (.glo x) (List.mem_singleton.mpr rfl)), rfl, fun F => tcB_ok (htc _ hm) F⟩
  | _ => cases ho
theorem law_exc (X : K.In h) (G : h.Ns mainGlobals mg) (c : He.SaysD (faOf T bl cs) (T.map mkD) K) (hx : ∃ d ∈ T, isEnds d.fn.pr = true) : ∃ Cc, CrX K mg Cc := by
  have e : exFa T = [.glo "CircularReferences", .exc "CircularReferences", .exm "CircularReferences" "CircularReferences" true] := if_pos (List.any_eq_true.mpr hx)
  have mem : ∀ f ∈ exFa T, f.ok K = true := fun f hf => c.facts (List.mem_append_right _ (List.mem_append_right _ (List.mem_append_right _ hf)))
  rw [e] at mem
  have h1 := He.glo_ok X G (mem (.glo "CircularReferences") (by simp))
  obtain ⟨h2, h3, h4, h5⟩ := He.exc_ok (mem (.exc "CircularReferences") (by simp))
  have h6 := He.exm_ok (mem (.exm "CircularReferences" "CircularReferences" true) (by simp))
  exact ⟨_, h1, h2, h3, h4, h5, h6⟩
/-- what a law is to show, in plain data -/
def Law (cs : List (Str × D)) (T : List Df) (n i : Nat) : Prop := ∀ ns : List Int, ns.length ≤ 63 → den (cs.map (·.2)) (T.map (·.fn)) n i none [scrD ns] (fun d _ _ => d = .bool true) (fun _ _ => False)
/-! the head, with the tables of the defs that have a lambda -/
def tabsOf (K : PySem.W.Frag) : List Addr := lamX.filterMap fun x => (PySem.W.tabIn K x).map (·.2)
def fragT (K : PySem.W.Frag) : PySem.W.Frag := K.filter fun p => !(tabsOf K).contains p.1
theorem lookup_filter {α : Type} (f : Addr → Bool) (a : Addr) (o : α) : ∀ l : List (Addr × α), (l.filter fun p => f p.1).lookup a = some o → l.lookup a = some o
  | [], h => h
  | (b, u) :: l, h => by
    by_cases hf : f b = true
    · rw [show ((b, u) :: l).filter (fun p => f p.1) = (b, u) :: l.filter fun p => f p.1 from List.filter_cons_of_pos (p := fun p : Addr × α => f p.1) hf] at h
      rw [List.lookup_cons] at h ⊢
      cases e : a == b with
      | true =>
        rw [e] at h
        exact h
      | false =>
        rw [e] at h
        exact lookup_filter f a o l h
    · rw [show ((b, u) :: l).filter (fun p => f p.1) = l.filter fun p => f p.1 from List.filter_cons_of_neg (p := fun p : Addr × α => f p.1) hf] at h
      rw [List.lookup_cons]
      cases e : a == b with
      | true =>
        have eb : a = b := by simpa using e
        have no : ∀ l : List (Addr × α), (l.filter fun p => f p.1).lookup a = none := fun l => by
          induction l with
          | nil => rfl
          | cons p l ih =>
            by_cases hp : f p.1 = true
            · rw [show (p :: l).filter (fun p => f p.1) = p :: l.filter fun p => f p.1 from List.filter_cons_of_pos (p := fun p : Addr × α => f p.1) hp]
              have ne : (a == p.1) = false := by
                cases z : a == p.1 with
                | false => rfl
                | true =>
                  have : a = p.1 := by simpa using z
                  rw [← this, eb] at hp
                  exact absurd hp hf
              show List.lookup a ((p.1, p.2) :: _) = none
              rw [List.lookup_cons, ne]
              exact ih
            · rw [show (p :: l).filter (fun p => f p.1) = l.filter fun p => f p.1 from List.filter_cons_of_neg (p := fun p : Addr × α => f p.1) hp]
              exact ih
        rw [no] at h
        cases h
      | false => exact lookup_filter f a o l h
abbrev AlT : Type := (He.AlD × List (Option (Bool × Bool × Option Obj))) × Bool × Bool
/-- no two tables are one -/
def apartT (K : PySem.W.Frag) : Bool := lamX.all fun x => lamX.all fun y => match PySem.W.tabIn K x, PySem.W.tabIn K y with
  | some p, some q => p.2 != q.2 || y == x
  | _, _ => true
theorem apartT_of {K : PySem.W.Frag} (h : apartT K = true) : ∀ x ∈ lamX, ∀ y ∈ lamX, ∀ c P c', PySem.W.tabIn K x = some (c, P) → PySem.W.tabIn K y = some (c', P) → y = x := fun x hx y hy c P c' e1 e2 => by
  have z := List.all_eq_true.mp (List.all_eq_true.mp h x hx) y hy
  rw [e1, e2] at z
  simpa using z
def obsT (n : Nat) (fa : List He.Fa) (fn : List He.DefD) (tc : List (Str × D)) (kd : List KdT) (g : Addr → Option Obj) : AlT := ((He.obsD fa fn (fragT (He.frG g (He.asD g n))), lamX.map fun x => (PySem.W.tabIn (fragT (He.frG g (He.asD g n))) x).map fun q => (PySem.W.codeHdIn (fragT (He.frG g (He.asD g n))) q.1 q.2, ((fragT (He.frG g (He.asD g n))).lookup q.2).isNone, g q.2)), apartT (fragT (He.frG g (He.asD g n))), tc.all (tcB (fragT (He.frG g (He.asD g n)))) && kd.all (kdB (fragT (He.frG g (He.asD g n)))))
def valT (fn : List He.DefD) (lams : List Str) : AlT := ((He.valD fn, lamX.map fun x => if lams.contains x then some (true, true, some (PySem.W.tabObj #[])) else none), true, true)
structure SaysT (lams : List Str) (tc : List (Str × D)) (kd : List KdT) (K : PySem.W.Frag) (h : Heap) : Prop where
  kd : ∀ p ∈ kd, kdB K p = true
  tc : ∀ p ∈ tc, tcB K p = true
  at_ : ∀ x ∈ lamX, ∀ c P, PySem.W.tabIn K x = some (c, P) → PySem.W.CodeHd h c P ∧ K.lookup P = none ∧ h.get? P = some (PySem.W.tabObj #[])
  is : ∀ x ∈ lamX, lams.contains x = true → ∃ c P, PySem.W.tabIn K x = some (c, P)
  ap : ∀ x ∈ lamX, ∀ y ∈ lamX, ∀ c P c', PySem.W.tabIn K x = some (c, P) → PySem.W.tabIn K y = some (c', P) → y = x
theorem saysT_of {n : Nat} {fa : List He.Fa} {fn : List He.DefD} {lams : List Str} {tc : List (Str × D)} {kd : List KdT} {h : Heap} (e : obsT n fa fn tc kd h.get? = valT fn lams) : ∃ K : PySem.W.Frag, K.In h ∧ He.SaysD fa fn K ∧ SaysT lams tc kd K h := by
  have X : (fragT (He.frG h.get? (He.asD h.get? n))).In h := fun a o ha => He.frG_in a o (lookup_filter (fun b => !(tabsOf (He.frG h.get? (He.asD h.get? n))).contains b) a o _ ha)
  have eA : apartT (fragT (He.frG h.get? (He.asD h.get? n))) = true := congrArg (fun z : AlT => z.2.1) e
  obtain ⟨eT, eK⟩ := He.ba (show (tc.all (tcB (fragT (He.frG h.get? (He.asD h.get? n)))) && kd.all (kdB (fragT (He.frG h.get? (He.asD h.get? n))))) = true from congrArg (fun z : AlT => z.2.2) e)
  have e2 : (lamX.map fun x => (PySem.W.tabIn (fragT (He.frG h.get? (He.asD h.get? n))) x).map fun q => (PySem.W.codeHdIn (fragT (He.frG h.get? (He.asD h.get? n))) q.1 q.2, ((fragT (He.frG h.get? (He.asD h.get? n))).lookup q.2).isNone, h.get? q.2)) = lamX.map fun x => if lams.contains x then some (true, true, some (PySem.W.tabObj #[])) else none := congrArg (fun z : AlT => z.1.2) e
  refine ⟨_, X, congrArg (fun z : AlT => z.1.1) e, fun p hp => List.all_eq_true.mp eK p hp, fun p hp => List.all_eq_true.mp eT p hp, fun x hx c P ht => ?_, fun x hx hl => ?_, apartT_of eA⟩
  · have e3 := List.map_inj_left.mp e2 x hx
    rw [ht] at e3
    split at e3
    · have e4 := Option.some.inj e3
      simp only [Prod.mk.injEq] at e4
      obtain ⟨a1, a2, a3⟩ := e4
      exact ⟨PySem.W.codeHd_of_K X a1, by simpa using a2, a3⟩
    · cases e3
  · have e3 := List.map_inj_left.mp e2 x hx
    rw [if_pos hl] at e3
    cases q : PySem.W.tabIn (fragT (He.frG h.get? (He.asD h.get? n))) x with
    | some p => exact ⟨p.1, p.2, rfl⟩
    | none =>
      rw [q] at e3
      cases e3
def hookT (n : Nat) (fa : List He.Fa) (fn : List He.DefD) (lams : List Str) (tc : List (Str × D)) (kd : List KdT) : PySem.W.Hook where
  α := AlT
  obs := fun s => obsT n fa fn tc kd s.heap.get?
  val := fun _ => valT fn lams
  says := fun _ h => ∃ K : PySem.W.Frag, K.In h ∧ He.SaysD fa fn K ∧ SaysT lams tc kd K h
  of := fun _ _ e => saysT_of e
  keeps := fun _ _ _ ⟨K, hK, c, t⟩ k => ⟨K, PySem.W.Frag.In.keeps hK k, c, ⟨t.kd, t.tc, fun x hx c P e => let ⟨a1, a2, a3⟩ := t.at_ x hx c P e; ⟨a1.keeps k, a2, k _ _ a3⟩, t.is, t.ap⟩⟩
theorem obsT_eq {n : Nat} {fa : List He.Fa} {fn : List He.DefD} {lams : List Str} {tc : List (Str × D)} {kd : List KdT} {g : Addr → Option Obj} {s : Shared} (h : ∀ a, g a = s.heap.get? a) : obsT n fa fn tc kd g = (hookT n fa fn lams tc kd).obs s := by
  have e : g = s.heap.get? := funext h
  rw [e] <;> rfl
/-- a heap without its tables -/
def noT (H : Hp) : Hp := fun a => match H a with
  | some (.tbl _) => none
  | o => o
theorem noT_same {H : Hp} : Same (noT H) H := fun a o e => by
  unfold noT at e
  split at e
  · cases e
  · exact e
theorem noT_nt {H : Hp} : NoTbl (noT H) := fun a ps e => by
  unfold noT at e
  split at e
  · cases e
  · rename_i h
    exact h ps e
theorem noT_at {H : Hp} {a : Addr} {o : HO} (e : H a = some o) (n : ∀ ps, o ≠ .tbl ps) : noT H a = some o := by
  unfold noT
  split
  · rename_i ps h
    rw [e] at h
    exact absurd (Option.some.inj h) (n ps)
  · exact e
theorem noT_sql {K : PySem.W.Frag} {H : Hp} {a : Addr} {xs : List V} (h : SqL K H a xs) : SqL K (noT H) a xs := by
  rcases h with (h | ⟨o, h⟩) | h
  · exact .inl (.inl (noT_at h fun _ z => nomatch z))
  · exact .inl (.inr ⟨o, noT_at h fun _ z => nomatch z⟩)
  · exact .inr h
theorem law_F {l : PySem.W.OpenLaw} {n i : Nat} {d : Df} {lams : List Str} (hT : ∀ d ∈ T, d.Ok T (cs.map (·.1)) bl) (hc : ∀ p ∈ cs, okC p = true) (hi : T[i]? = some d) (hs : d.ps = [("script" : Str)] ∧ d.fn.tp = false ∧ d.kw = none) (hl : Law cs T n i) (hla : ∀ d ∈ T, d.x ∈ lamX → lams.contains d.x = true) (w : World) (mg : Str → Option Value) (fa : Addr) (h : Heap)
    (Y : (hookT 4 (faOf T bl cs) (T.map mkD) lams cs (T.map fun d => (d.x, d.kw))).says w h) (G : h.Ns mainGlobals mg) (hm : mg d.x = some (.ref fa)) :
    ∃ K : PySem.W.Frag, K.In h ∧ LamX.LawAtS l w K CX0 n 63 "script" mg fa h := by
  obtain ⟨K, X, c, tb⟩ := Y
  have hkd : ∀ d ∈ T, kdB K (d.x, d.kw) = true := fun d hd => tb.kd _ (List.mem_map_of_mem (f := fun d : Df => (d.x, d.kw)) hd)
  obtain ⟨f, fd, e, F⟩ := law_defs X G c hkd i d hi
  rw [hm] at e
  cases e
  have ok := hT d (List.mem_of_getElem? hi)
  obtain ⟨e1, e2, e3⟩ := hs
  have mem : ∀ p ∈ lamX.filterMap fun x => PySem.W.tabIn K x, ∃ x ∈ lamX, PySem.W.tabIn K x = some p := fun p hp => by
    obtain ⟨x, hx, e⟩ := List.mem_filterMap.mp hp
    exact ⟨x, hx, e⟩
  refine ⟨K, X, fd, lamX.filterMap fun x => PySem.W.tabIn K x, spOf K (den (cs.map (·.2)) (T.map (·.fn)) n i) d.fn.tp d.fn.np, fun p hp => ?_, fun p hp => ?_, fun p hp => ?_, fun s u => ?_, fun H a ns hn _ hH hS => ?_, fun base _ _ hB => ?_⟩
  · obtain ⟨x, hx, e⟩ := mem p hp
    exact (tb.at_ x hx p.1 p.2 e).2.2
  · obtain ⟨x, hx, e⟩ := mem p hp
    exact (tb.at_ x hx p.1 p.2 e).2.1
  · obtain ⟨x, hx, e⟩ := mem p hp
    exact (tb.at_ x hx p.1 p.2 e).1
  · have z := F.fn.bindsA (ok.bind e3) s [u] (by rw [e1]; rfl)
    rw [e1] at z
    exact z
  · rw [e2, ok.np, e1]
    refine ⟨rfl, fun x hx cc P e => ⟨#[], hH (cc, P) (List.mem_filterMap.mpr ⟨x, hx, e⟩), ?_, fun pos cv hcv => nomatch hcv⟩, noT H, noT H, none, [scrD ns], none, fun d _ _ => d = .bool true, rfl, ⟨noT_same, Same.refl _, noT_nt, rfl, .cons (.scr ns (noT_sql hS)) .nil⟩, hl ns hn, fun d fr t' v F' H' hd _ _ r => ?_⟩
    · exact trivial
    subst hd
    cases fr with
    | true => exact r.own.1.elim
    | false =>
      have r := r.unfz
      cases r
      rfl
  · have z := den_ok (P := l.prog) (w := w) (base := base) hT (law_con X G c hc tb.tc) (law_free X G c) (law_defs X G c hkd) (fun d hd hx => by
      obtain ⟨cc, P, e⟩ := tb.is d.x hx (hla d hd hx)
      exact ⟨cc, P, e, hB (cc, P) (List.mem_filterMap.mpr ⟨d.x, hx, e⟩)⟩) tb.ap (law_exc X G c) n i d fa fd hi F
    rw [e1] at z
    exact z
end
end DL

set_option maxHeartbeats 4000000
/-! DL part V: plain reasoning about the mini syntax. -/
namespace DL
open PySem PySem.Spec PyProof.Rows L2
section
variable {C : List D} {Γ : Nat → FSpec} {R : Xn → Store → Prop} {ρ : Store} {k : Kd}
/-! stores -/
theorem gv0 {d : D} : getV (some (.v, d) :: ρ) 0 = some d := rfl
theorem gvS {x : Option (Md × D)} {i : Nat} : getV (x :: ρ) (i + 1) = getV ρ i := rfl
theorem gom {d : D} : getO (some (.m, d) :: ρ) 0 = some (.m, d) := rfl
theorem goo {d : D} : getO (some (.o, d) :: ρ) 0 = some (.o, d) := rfl
theorem goS {x : Option (Md × D)} {i : Nat} : getO (x :: ρ) (i + 1) = getO ρ i := rfl
theorem tpF {Q : Option D → Prop} : tpEnd false ρ Q = Q none := by
  show ((none : Option D).isSome = false ∧ Q none) = _
  simp
theorem tpT {d : D} {Q : Option D → Prop} : tpEnd true (some (.m, d) :: ρ) Q = Q (some d) := by
  show ((some d).isSome = true ∧ Q (some d)) = _
  simp
theorem cont_d {d : D} {q : D → Prop} : cont ρ (.d d) q = q d := rfl
theorem cont_s {i : Nat} {p : Md × D} {q : D → Prop} (h : getO ρ i = some p) : cont ρ (.s i) q = q p.2 := by
  show (match getO ρ i with
    | some p => q p.2
    | none => False) = q p.2
  rw [h]
theorem atI_lit {α : Type} {xs : List α} {n : Nat} : atI xs (no_index (OfNat.ofNat n) : Int) = xs[n]? := by
  have e : (OfNat.ofNat n : Int) = (n : Int) := rfl
  rw [e]
  unfold atI ixN
  rw [if_pos (by omega)]
  by_cases h : (n : Int) < (xs.length : Int)
  · rw [if_pos h]
    rfl
  · rw [if_neg h]
    have h2 : xs.length ≤ n := by omega
    rw [List.getElem?_eq_none h2]
    rfl
theorem atI_nat {α : Type} {xs : List α} {n : Nat} : atI xs (n : Int) = xs[n]? := @atI_lit α xs n
theorem ixN_lit {m n : Nat} : ixN m (no_index (OfNat.ofNat n) : Int) = if n < m then some n else none := by
  have e : (OfNat.ofNat n : Int) = (n : Int) := rfl
  rw [e]
  unfold ixN
  rw [if_pos (by omega)]
  by_cases h : n < m
  · rw [if_pos h, if_pos (by omega)]
    rfl
  · rw [if_neg h, if_neg (by omega)]
theorem ixN_nat {m n : Nat} : ixN m (n : Int) = if n < m then some n else none := @ixN_lit m n
theorem atI_of {α : Type} {xs : List α} {i : Int} (h0 : 0 ≤ i) (h : i < xs.length) : ∃ x, atI xs i = some x ∧ x ∈ xs := by
  obtain ⟨n, rfl⟩ := Int.eq_ofNat_of_zero_le h0
  have hn : n < xs.length := by omega
  exact ⟨xs[n], by rw [atI_nat, List.getElem?_eq_getElem hn], List.getElem_mem hn⟩
section
variable {i j : Int} {x y : Str} {xs ys : List D} {u v : D} {a b : Bool} {ns : List Int} {l h : Option Int} {Q : D → Prop} {P : Bool → Prop}
theorem ev0 : binS .Add (.int i) (.int j) Q = Q (.int (i + j)) := rfl
theorem ev1 : binS .Add (.str x) (.str y) Q = (x.length + y.length ≤ sizeLine ∧ Q (.str (x ++ y))) := rfl
theorem ev2 : binS .Add (.tuple xs) (.tuple ys) Q = (xs.length + ys.length ≤ sizeLine ∧ Q (.tuple (xs ++ ys))) := rfl
theorem ev3 : binS .Add (.list xs) (.list ys) Q = (xs.length + ys.length ≤ sizeLine ∧ Q (.list (xs ++ ys))) := rfl
theorem ev4 : binS .Sub (.int i) (.int j) Q = Q (.int (i - j)) := rfl
theorem ev5 : binS .Mult (.int i) (.int j) Q = (mulOk i j ∧ Q (.int (i * j))) := rfl
theorem ev6 : binS .Mult (.list xs) (.int j) Q = ((-(2 ^ 63) ≤ j ∧ j < 2 ^ 63 ∧ xs.length * j.toNat ≤ sizeLine) ∧ Q (.list (List.replicate j.toNat xs).flatten)) := rfl
theorem ev7 : binS .FloorDiv (.int i) (.int j) Q = (CDivW i j ∧ Q (.int (i / j))) := rfl
theorem ev8 : binS .Mod (.int i) (.int j) Q = (0 < j ∧ Q (.int (i % j))) := rfl
theorem ev9 : binS .Pow (.int i) (.int j) Q = (CPow i j ∧ Q (.int (i ^ j.toNat))) := rfl
theorem ev10 : binS .LShift (.int i) (.int j) Q = (CShl i j ∧ Q (.int (i * 2 ^ j.toNat))) := rfl
theorem ev11 : binS .RShift (.int i) (.int j) Q = (0 ≤ j ∧ Q (.int (i / 2 ^ j.toNat))) := rfl
theorem ev12 : binS .BitAnd (.int i) (.int j) Q = Q (.int (Builtin.bitAnd i j)) := rfl
theorem ev13 : cmpS .Eq u v P = eqS u v P := rfl
theorem ev14 : cmpS .NotEq u v P = eqS u v fun b => P (!b) := rfl
theorem ev15 : cmpS .Lt (.int i) (.int j) P = P (decide (i < j)) := rfl
theorem ev16 : cmpS .LtE (.int i) (.int j) P = P (decide (i ≤ j)) := rfl
theorem ev17 : cmpS .Gt (.int i) (.int j) P = P (decide (j < i)) := rfl
theorem ev18 : cmpS .GtE (.int i) (.int j) P = P (decide (j ≤ i)) := rfl
theorem ev19 : cmpS .In u v P = inS u v P := rfl
theorem ev20 : cmpS .NotIn u v P = inS u v fun b => P (!b) := rfl
theorem ev21 : cmpS .Is .none .none P = P true := rfl
theorem ev22 : cmpS .Is (.int i) .none P = P false := rfl
theorem ev23 : cmpS .Is (.str x) .none P = P false := rfl
theorem ev24 : cmpS .Is (.bool b) .none P = P false := rfl
theorem ev25 : cmpS .Is (.tuple xs) .none P = P false := rfl
theorem ev26 : cmpS .Is (.list xs) .none P = P false := rfl
theorem ev27 : cmpS .IsNot .none .none P = P false := rfl
theorem ev28 : cmpS .IsNot (.int i) .none P = P true := rfl
theorem ev29 : cmpS .IsNot (.str x) .none P = P true := rfl
theorem ev30 : cmpS .IsNot (.bool b) .none P = P true := rfl
theorem ev31 : cmpS .IsNot (.tuple xs) .none P = P true := rfl
theorem ev32 : cmpS .IsNot (.list xs) .none P = P true := rfl
theorem ev33 : eqS (.int i) (.int j) P = P (decide (i = j)) := rfl
theorem ev34 : eqS (.str x) (.str y) P = P (decide (x = y)) := rfl
theorem ev35 : eqS (.bool a) (.bool b) P = P (decide (a = b)) := rfl
theorem ev36 : eqS .none .none P = P true := rfl
theorem ev37 : inS u (.list ys) P = (((scalD u = true ∧ ys.all scalD = true) ∨ (SeqAt.shaped u = true ∧ SeqAt.shaped (.list ys) = true)) ∧ P (ys.any fun z => PyData.eqv z u)) := rfl
theorem ev38 : inS u (.tuple ys) P = ((scalD u = true ∧ ys.all scalD = true) ∧ P (ys.any fun z => PyData.eqv z u)) := rfl
theorem ev39 : truS .none P = P false := rfl
theorem ev40 : truS (.bool b) P = P b := rfl
theorem ev41 : truS (.int i) P = P (i != 0) := rfl
theorem ev42 : truS (.list xs) P = P (!xs.isEmpty) := rfl
theorem ev43 : truS (.tuple xs) P = P (!xs.isEmpty) := rfl
theorem ev44 : unS .USub (.int i) Q = Q (.int (-i)) := rfl
theorem ev45 : idxS (.list xs) (.int i) Q = ∃ d, atI xs i = some d ∧ Q d := rfl
theorem ev46 : idxS (.tuple xs) (.int i) Q = ∃ d, atI xs i = some d ∧ Q d := rfl
theorem ev47 : slcS (.list xs) l h Q = Q (.list (cutL xs l h)) := rfl
theorem ev48 : slcS (.tuple xs) l h Q = Q (.tuple (cutL xs l h)) := rfl
theorem ev49 : bfS .len [u] Q = lenS u Q := rfl
theorem ev50 : bfS .int [.int i] Q = Q (.int i) := rfl
theorem ev51 : bfS .abs [.int i] Q = Q (.int (if i < 0 then -i else i)) := rfl
theorem ev52 : bfS .max [.int i, .int j] Q = Q (.int (if j > i then j else i)) := rfl
theorem ev53 : bfS .min [.int i, .int j] Q = Q (.int (if j < i then j else i)) := rfl
theorem ev54 : bfS .list [.list xs] Q = Q (.list xs) := rfl
theorem ev55 : bfS .list [.tuple xs] Q = Q (.list xs) := rfl
theorem ev56 : bfS .list [scrD ns] Q = Q (.list (ns.map PyData.int)) := rfl
theorem ev57 : bfS .tuple [.list xs] Q = Q (.tuple xs) := rfl
theorem ev58 : bfS .tuple [.tuple xs] Q = Q (.tuple xs) := rfl
theorem ev59 : bfS .isI [.int i] Q = Q (.bool true) := rfl
theorem ev60 : bfS .isI [.bool b] Q = Q (.bool true) := rfl
theorem ev61 : bfS .isI [.none] Q = Q (.bool false) := rfl
theorem ev62 : bfS .isI [.str x] Q = Q (.bool false) := rfl
theorem ev63 : bfS .isI [.tuple xs] Q = Q (.bool false) := rfl
theorem ev64 : bfS .isI [.list xs] Q = Q (.bool false) := rfl
theorem ev65 : bfS .isB [.int i] Q = Q (.bool false) := rfl
theorem ev66 : bfS .isB [.bool b] Q = Q (.bool true) := rfl
theorem ev67 : bfS .isB [.none] Q = Q (.bool false) := rfl
theorem ev68 : bfS .isB [.str x] Q = Q (.bool false) := rfl
theorem ev69 : bfS .isB [.tuple xs] Q = Q (.bool false) := rfl
theorem ev70 : bfS .isB [.list xs] Q = Q (.bool false) := rfl
theorem ev71 : bfS .isS [.int i] Q = Q (.bool false) := rfl
theorem ev72 : bfS .isS [.bool b] Q = Q (.bool false) := rfl
theorem ev73 : bfS .isS [.none] Q = Q (.bool false) := rfl
theorem ev74 : bfS .isS [.str x] Q = Q (.bool true) := rfl
theorem ev75 : bfS .isS [.tuple xs] Q = Q (.bool false) := rfl
theorem ev76 : bfS .isS [.list xs] Q = Q (.bool false) := rfl
theorem ev77 : bfS .isT [.int i] Q = Q (.bool false) := rfl
theorem ev78 : bfS .isT [.bool b] Q = Q (.bool false) := rfl
theorem ev79 : bfS .isT [.none] Q = Q (.bool false) := rfl
theorem ev80 : bfS .isT [.str x] Q = Q (.bool false) := rfl
theorem ev81 : bfS .isT [.tuple xs] Q = Q (.bool true) := rfl
theorem ev82 : bfS .isT [.list xs] Q = Q (.bool false) := rfl
theorem ev83 : lenS (.list xs) Q = Q (.int xs.length) := rfl
theorem ev84 : lenS (.tuple xs) Q = Q (.int xs.length) := rfl
theorem ev85 : lenS (.str x) Q = (x.length ≤ sizeLine ∧ Q (.int x.length)) := rfl
theorem ev86 : mtS .bitLength (.int i) [] Q = Q (.int (Builtin.Int.intBits i : Nat)) := rfl
theorem ev87 : augS .Add (.int i) (.int j) Q = Q (.int (i + j)) := rfl
theorem ev88 : augS .Sub (.int i) (.int j) Q = Q (.int (i - j)) := rfl
theorem ev89 : putS (.list xs) (.int j) v Q = ∃ k, ixN xs.length j = some k ∧ Q (.list (xs.set k v)) := rfl
theorem ev90 : seqOf (.list xs) = some xs := rfl
theorem ev91 : seqOf (.tuple xs) = some xs := rfl
theorem ev98 {n : Int} {Q : D → Prop} : bfS .rngO [.int n] Q = Q (rgoD 0 n) := rfl
theorem ev99 {lo hi : Int} {Q : D → Prop} : bfS .list [rgoD lo hi] Q = ((0 ≤ lo ∧ lo ≤ 16777216 ∧ 0 ≤ hi ∧ hi ≤ 16777216) ∧ Q (.list (rangeD lo hi))) := rfl
theorem it_rgo {n : Nat} (h : n < 4611686018427387904) : itOf (rgoD 0 (n : Int)) = some (rangeD 0 (n : Int)) := by
  have e : ((-(2 ^ 62) ≤ (0 : Int) ∧ (0 : Int) < 2 ^ 62) ∧ -(2 ^ 62) ≤ (n : Int) ∧ (n : Int) < 2 ^ 62) := ⟨⟨by decide, by decide⟩, by omega, by omega⟩
  unfold itOf rgoD
  simp only [if_pos e]
  rfl
theorem ev93 : itOf (.list xs) = some xs := rfl
theorem ev94 : itOf (.tuple xs) = some xs := rfl
theorem ev95 : itOf (scrD ns) = some (ns.map PyData.int) := rfl
theorem ev96 {z : Str} : itOf (.str z) = some (signsD z) := rfl
theorem ev97 {z : Str} {Q : D → Prop} : slcS (.str z) l h Q = (z.length ≤ sizeLine ∧ Q (.str (cutS z l h))) := rfl
theorem ev92 : seqOf (scrD ns) = some (ns.map PyData.int) := rfl
end
theorem ev_intb {b : Bool} {Q : D → Prop} : bfS .int [.bool b] Q = Q (.int (if b = true then 1 else 0)) := rfl
theorem ev_max1 {u : D} {Q : D → Prop} : bfS .max [u] Q = ∃ xs ns, seqOf u = some xs ∧ intsD xs = some ns ∧ 0 < ns.length ∧ ∀ m, isMx true ns m → Q (.int m) := by
  cases u <;> rfl
theorem ev_min1 {u : D} {Q : D → Prop} : bfS .min [u] Q = ∃ xs ns, seqOf u = some xs ∧ intsD xs = some ns ∧ 0 < ns.length ∧ ∀ m, isMx false ns m → Q (.int m) := by
  cases u <;> rfl
theorem ev_maxD {u : D} {z : Int} {Q : D → Prop} : bfS .maxD [u, .int z] Q = ∃ xs ns, seqOf u = some xs ∧ intsD xs = some ns ∧ (ns = [] → Q (.int z)) ∧ ∀ m, isMx true ns m → Q (.int m) := by
  cases u <;> rfl
theorem ev_minD {u : D} {z : Int} {Q : D → Prop} : bfS .minD [u, .int z] Q = ∃ xs ns, seqOf u = some xs ∧ intsD xs = some ns ∧ (ns = [] → Q (.int z)) ∧ ∀ m, isMx false ns m → Q (.int m) := by
  cases u <;> rfl
theorem ev_sorted {u : D} {Q : D → Prop} : bfS .sorted [u] Q = ∃ xs ns, seqOf u = some xs ∧ intsD xs = some ns ∧ ∀ ms : List Int, ms.Perm ns → ms.Pairwise (· ≤ ·) → Q (.list (ms.map PyData.int)) := by
  cases u <;> rfl
theorem intsD_map : ∀ ns : List Int, intsD (ns.map PyData.int) = some ns
  | [] => rfl
  | n :: ns => by
    show (intsD (ns.map PyData.int)).map (n :: ·) = _
    rw [intsD_map ns]
    rfl
/-! tests -/
theorem tst_and {a b : E} {Q : Bool → Store → Prop} : tst (oper (.and a b) (wpB C Γ R (.and a b))) ρ Q = frz (wpB C Γ R a) ρ fun x ρ1 => truS x fun k => if k = true then (frz (wpB C Γ R b) ρ1 fun y ρ2 => truS y fun b => Q b ρ2) else Q false ρ1 := by
  have e := congrFun (congrFun (boolop_eq (w1 := wpB C Γ R a) (w2 := wpB C Γ R b)) ρ) Q
  exact e
theorem tst_or {a b : E} {Q : Bool → Store → Prop} : tst (oper (.or a b) (wpB C Γ R (.or a b))) ρ Q = frz (wpB C Γ R a) ρ fun x ρ1 => truS x fun k => if k = true then Q true ρ1 else (frz (wpB C Γ R b) ρ1 fun y ρ2 => truS y fun b => Q b ρ2) := by
  have e := congrFun (congrFun (boolop_or (w1 := wpB C Γ R a) (w2 := wpB C Γ R b)) ρ) Q
  exact e
theorem tst_not {a : E} {Q : Bool → Store → Prop} : tst (oper (.not a) (wpB C Γ R (.not a))) ρ Q = tst (oper a (wpB C Γ R a)) ρ fun b ρ1 => Q (!b) ρ1 := rfl
theorem vt_and {a b : E} {Q : Bool → Store → Prop} : (frz (wpB C Γ R (.and a b)) ρ fun y ρ2 => truS y fun b => Q b ρ2) = frz (wpB C Γ R a) ρ fun x ρ1 => truS x fun k => if k = true then (frz (wpB C Γ R b) ρ1 fun y ρ2 => truS y fun b => Q b ρ2) else Q false ρ1 := tst_and
theorem vt_or {a b : E} {Q : Bool → Store → Prop} : (frz (wpB C Γ R (.or a b)) ρ fun y ρ2 => truS y fun b => Q b ρ2) = frz (wpB C Γ R a) ρ fun x ρ1 => truS x fun k => if k = true then Q true ρ1 else (frz (wpB C Γ R b) ρ1 fun y ρ2 => truS y fun b => Q b ρ2) := tst_or
theorem ite_and2 {a b : Prop} [Decidable a] [Decidable b] {x y : Prop} : (if a then (if b then x else y) else y) = if a ∧ b then x else y := by
  by_cases ha : a <;> by_cases hb : b <;> simp [ha, hb]
theorem ite_or2 {a b : Prop} [Decidable a] [Decidable b] {x y : Prop} : (if a then x else (if b then x else y)) = if a ∨ b then x else y := by
  by_cases ha : a <;> by_cases hb : b <;> simp [ha, hb]
/-! calls -/
theorem call0 {g : FSpec} {xs : List Od} {ds : List D} {Rx : Xn → Store → Prop} {Q : D → Bool → Store → Prop} : callS g none xs ds ρ Rx Q = g none ds (fun d fr _ => resOk xs ds d fr ∧ Q d fr ρ) (fun x _ => Rx x ρ) := rfl
theorem callT {g : FSpec} {i : Nat} {xs : List Od} {ds : List D} {Rx : Xn → Store → Prop} {Q : D → Bool → Store → Prop} {p : Md × D} (h : getO ρ i = some p) (hn : noSl i xs = true) :
    callS g (some i) xs ds ρ Rx Q = g (some p.2) ds (fun d fr t => ∃ d', t = some d' ∧ resOk xs ds d fr ∧ Q d fr (ρ.set i (some (p.1, d')))) (fun x t => ∃ d', t = some d' ∧ Rx x (ρ.set i (some (p.1, d')))) := by
  show (∃ q, getO ρ i = some q ∧ _) = _
  apply propext
  constructor
  · rintro ⟨q, e, _, z⟩
    rw [h] at e
    cases e
    exact z
  · exact fun z => ⟨p, h, hn, z⟩
theorem den_at {prog : List Fn} {n i : Nat} {f : Fn} {t : Option D} {ds : List D} {Q : D → Bool → Option D → Prop} {Rx : Xn → Option D → Prop} (hf : prog[i]? = some f) (h : runF C (den C prog n) f t ds Q Rx) (hp : f.pr = .no := by rfl) : den C prog (n + 1) i t ds Q Rx := by
  rw [den_succ hf, stepD_no hp]
  exact h
/-! sizes -/
theorem mOk_int {m : Md} {i : Int} : mOk m (.int i) = True := eq_true fun _ => rfl
theorem mOk_str {m : Md} {i : Str} : mOk m (.str i) = True := eq_true fun _ => rfl
theorem mOk_bl {m : Md} {i : Bool} : mOk m (.bool i) = True := eq_true fun _ => rfl
theorem mOk_non {m : Md} : mOk m .none = True := eq_true fun _ => rfl
theorem mOk_o {d : D} : mOk .o d = True := eq_true fun h => nomatch h
theorem mulOk_lit {i : Int} {n : Nat} (h : n < 18446744073709551616) : mulOk i (no_index (OfNat.ofNat n) : Int) = True := eq_true (.inr (.inl ⟨by show -(2 ^ 64) < (n : Int); omega, by show (n : Int) < 2 ^ 64; omega⟩))
theorem mulOk_lit' {i : Int} {n : Nat} (h : n < 18446744073709551616) : mulOk (no_index (OfNat.ofNat n) : Int) i = True := eq_true (.inl ⟨by show -(2 ^ 64) < (n : Int); omega, by show (n : Int) < 2 ^ 64; omega⟩)
theorem CPow_lit {m n : Nat} (h : m < 18446744073709551616) (h2 : n ≤ 1000000) : CPow (no_index (OfNat.ofNat m) : Int) (no_index (OfNat.ofNat n) : Int) = True := eq_true ⟨by show 0 ≤ (n : Int); omega, by show (n : Int) ≤ 1000000; omega, by show m < 2 ^ 64; omega⟩
theorem rngOk_lit {m n : Nat} (h : m < 4611686018427387904) (h2 : n < 4611686018427387904) : rngOk (no_index (OfNat.ofNat m) : Int) (no_index (OfNat.ofNat n) : Int) = True := eq_true ⟨by show -(2 ^ 62) ≤ (m : Int); omega, by show (m : Int) < 2 ^ 62; omega, by show -(2 ^ 62) ≤ (n : Int); omega, by show (n : Int) < 2 ^ 62; omega⟩
theorem shl_of {i j : Int} (h : -(2 ^ 64) < i ∧ i < 2 ^ 64) (h0 : 0 ≤ j) (h1 : j < 2 ^ 20) : CShl i j := ⟨h0, by
  have := intBits_le_64 h.1 h.2
  omega⟩
theorem resOk_nil {ds : List D} {d : D} {fr : Bool} : resOk [] ds d fr = True := eq_true (.inl rfl)
theorem resOk_d {x e : D} {xs : List Od} {ds : List D} {d : D} {fr : Bool} : resOk (.d x :: xs) (e :: ds) d fr = resOk xs ds d fr := rfl
theorem noOwn_nil : noOwn [] = true := rfl
theorem noOwn_d {d : D} {xs : List Od} : noOwn (.d d :: xs) = noOwn xs := rfl
theorem noOwn_s {i : Nat} {xs : List Od} : noOwn (.s i :: xs) = false := rfl
theorem noSl_nil {i : Nat} : noSl i [] = true := rfl
theorem noSl_d {i : Nat} {d : D} {xs : List Od} : noSl i (.d d :: xs) = noSl i xs := rfl
theorem noSl_s {i j : Nat} {xs : List Od} : noSl i (.s j :: xs) = (decide (i ≠ j) && noSl i xs) := rfl
/-! loops: what follows the present turn is a name -/
theorem forL_ind {t : Tg} {w : WS} (P : List D → Store → Prop) (hnil : ∀ ρ, P [] ρ → k.nx ρ)
    (hcons : ∀ x xs ρ (F : Store → Prop), (∀ ρ', P xs ρ' → F ρ') → P (x :: xs) ρ → bindT t x ρ fun ρ1 => w ρ1 { k with nx := F, ct := F, bk := k.nx }) :
    ∀ (items : List D) (ρ : Store), P items ρ → forL t w items ρ k
  | [], ρ, h => hnil ρ h
  | x :: xs, ρ, h => hcons x xs ρ (fun ρ2 => forL t w xs ρ2 k) (fun ρ' h' => forL_ind P hnil hcons xs ρ' h') h
theorem compL_ind {t : Tg} {vs : List Nat} {ρ₀ : Store} {wc : Store → (Bool → Store → Prop) → Prop} {we : Store → (D → Store → Prop) → Prop} {q : List D → Store → Prop} (P : List D → List D → Store → Prop) (hnil : ∀ acc ρ, P [] acc ρ → q acc ρ)
    (hcons : ∀ x xs acc ρ (F : List D → Store → Prop), (∀ acc' ρ', P xs acc' ρ' → F acc' ρ') → P (x :: xs) acc ρ → bindT t x (wipes ρ vs) fun ρ1 => wc ρ1 fun b ρ2 =>
      if b then we ρ2 fun d ρ3 => F (acc ++ [d]) (backs ρ₀ ρ3 vs) else F acc (backs ρ₀ ρ2 vs)) :
    ∀ (items acc : List D) (ρ : Store), P items acc ρ → compL t vs ρ₀ wc we items acc ρ q
  | [], acc, ρ, h => hnil acc ρ h
  | x :: xs, acc, ρ, h => hcons x xs acc ρ (fun acc' ρ' => compL t vs ρ₀ wc we xs acc' ρ' q) (fun acc' ρ' h' => compL_ind P hnil hcons xs acc' ρ' h') h
theorem whl_ind {wt : Store → (Bool → Store → Prop) → Prop} {w : WS} (P : Nat → Store → Prop)
    (h : ∀ m ρ (F : Store → Prop), (∀ ρ', P m ρ' → F ρ') → P (m + 1) ρ → wt ρ fun b ρ1 => if b then w ρ1 { k with nx := F, ct := F, bk := k.nx } else k.nx ρ1) (h0 : ∀ ρ, ¬ P 0 ρ) :
    ∀ (m : Nat) (ρ : Store), P m ρ → whlN wt w m ρ k
  | 0, ρ, q => (h0 ρ q).elim
  | m + 1, ρ, q => h m ρ (fun ρ2 => whlN wt w m ρ2 k) (fun ρ' q' => whl_ind P h h0 m ρ' q') q
end
end DL

set_option maxHeartbeats 4000000
/-! DL part W: evaluation on lists of ints; loops over typed items. -/
namespace DL
open PySem PySem.Spec PyProof.Rows L2
section
variable {ns ms : List Int} {i z : Int} {Q : D → Prop} {P : Bool → Prop}
theorem ints_len : (ns.map PyData.int).length = ns.length := List.length_map _
theorem sorted_fun {xs : List D} {u : D} (h : seqOf u = some xs) (h2 : intsD xs = some ns) : bfS .sorted [u] Q = Q (.list ((Ma.srt ns).map PyData.int)) := by
  rw [ev_sorted]
  apply propext
  constructor
  · rintro ⟨ys, ms, e1, e2, q⟩
    rw [h] at e1
    cases e1
    rw [h2] at e2
    cases e2
    exact q _ (Ma.srt_perm _) (Ma.srt_sorted _)
  · exact fun q => ⟨xs, ns, h, h2, fun ms p s => by rw [Ma.srt_uniq p s]; exact q⟩
theorem sorted_L : bfS .sorted [.list (ns.map PyData.int)] Q = Q (.list ((Ma.srt ns).map PyData.int)) := sorted_fun rfl (intsD_map ns)
theorem sorted_T : bfS .sorted [.tuple (ns.map PyData.int)] Q = Q (.list ((Ma.srt ns).map PyData.int)) := sorted_fun rfl (intsD_map ns)
theorem isMx_max {ns : List Int} {m d : Int} (h : isMx true ns m) : m = Ma.maxD d ns := Ma.maxD_uniq h.1 fun y hy => by
  have := h.2 y hy
  rw [if_pos rfl] at this
  exact this
theorem isMx_min {ns : List Int} {m d : Int} (h : isMx false ns m) : m = Ma.minD d ns := Ma.minD_uniq h.1 fun y hy => by
  have := h.2 y hy
  rw [if_neg Bool.false_ne_true] at this
  exact this
theorem mx_isMx {ns : List Int} {d : Int} (h : ns ≠ []) : isMx true ns (Ma.maxD d ns) := ⟨Ma.maxD_mem h, fun y hy => by rw [if_pos rfl]; exact Ma.maxD_le hy⟩
theorem mn_isMx {ns : List Int} {d : Int} (h : ns ≠ []) : isMx false ns (Ma.minD d ns) := ⟨Ma.minD_mem h, fun y hy => by rw [if_neg Bool.false_ne_true]; exact Ma.minD_le hy⟩
theorem max_fun {xs : List D} {u : D} (h : seqOf u = some xs) (h2 : intsD xs = some ns) : bfS .max [u] Q = (ns ≠ [] ∧ Q (.int (Ma.maxD 0 ns))) := by
  rw [ev_max1]
  apply propext
  constructor
  · rintro ⟨ys, ms, e1, e2, l, q⟩
    rw [h] at e1
    cases e1
    rw [h2] at e2
    cases e2
    have hn : ns ≠ [] := List.length_pos_iff.mp l
    exact ⟨hn, q _ (mx_isMx hn)⟩
  · exact fun ⟨hn, q⟩ => ⟨xs, ns, h, h2, List.length_pos_iff.mpr hn, fun m hm => by rw [isMx_max (d := 0) hm]; exact q⟩
theorem min_fun {xs : List D} {u : D} (h : seqOf u = some xs) (h2 : intsD xs = some ns) : bfS .min [u] Q = (ns ≠ [] ∧ Q (.int (Ma.minD 0 ns))) := by
  rw [ev_min1]
  apply propext
  constructor
  · rintro ⟨ys, ms, e1, e2, l, q⟩
    rw [h] at e1
    cases e1
    rw [h2] at e2
    cases e2
    have hn : ns ≠ [] := List.length_pos_iff.mp l
    exact ⟨hn, q _ (mn_isMx hn)⟩
  · exact fun ⟨hn, q⟩ => ⟨xs, ns, h, h2, List.length_pos_iff.mpr hn, fun m hm => by rw [isMx_min (d := 0) hm]; exact q⟩
theorem maxD_fun {xs : List D} {u : D} (h : seqOf u = some xs) (h2 : intsD xs = some ns) : bfS .maxD [u, .int z] Q = Q (.int (Ma.maxD z ns)) := by
  rw [ev_maxD]
  apply propext
  constructor
  · rintro ⟨ys, ms, e1, e2, q0, q⟩
    rw [h] at e1
    cases e1
    rw [h2] at e2
    cases e2
    by_cases hn : ns = []
    · subst hn
      exact q0 rfl
    · exact q _ (mx_isMx hn)
  · exact fun q => ⟨xs, ns, h, h2, fun e => by subst e; exact q, fun m hm => by rw [isMx_max (d := z) hm]; exact q⟩
theorem minD_fun {xs : List D} {u : D} (h : seqOf u = some xs) (h2 : intsD xs = some ns) : bfS .minD [u, .int z] Q = Q (.int (Ma.minD z ns)) := by
  rw [ev_minD]
  apply propext
  constructor
  · rintro ⟨ys, ms, e1, e2, q0, q⟩
    rw [h] at e1
    cases e1
    rw [h2] at e2
    cases e2
    by_cases hn : ns = []
    · subst hn
      exact q0 rfl
    · exact q _ (mn_isMx hn)
  · exact fun q => ⟨xs, ns, h, h2, fun e => by subst e; exact q, fun m hm => by rw [isMx_min (d := z) hm]; exact q⟩
theorem max_L : bfS .max [.list (ns.map PyData.int)] Q = (ns ≠ [] ∧ Q (.int (Ma.maxD 0 ns))) := max_fun rfl (intsD_map ns)
theorem max_T : bfS .max [.tuple (ns.map PyData.int)] Q = (ns ≠ [] ∧ Q (.int (Ma.maxD 0 ns))) := max_fun rfl (intsD_map ns)
theorem min_L : bfS .min [.list (ns.map PyData.int)] Q = (ns ≠ [] ∧ Q (.int (Ma.minD 0 ns))) := min_fun rfl (intsD_map ns)
theorem min_T : bfS .min [.tuple (ns.map PyData.int)] Q = (ns ≠ [] ∧ Q (.int (Ma.minD 0 ns))) := min_fun rfl (intsD_map ns)
theorem maxD_L : bfS .maxD [.list (ns.map PyData.int), .int z] Q = Q (.int (Ma.maxD z ns)) := maxD_fun rfl (intsD_map ns)
theorem minD_L : bfS .minD [.list (ns.map PyData.int), .int z] Q = Q (.int (Ma.minD z ns)) := minD_fun rfl (intsD_map ns)
theorem atI_ints : atI (ns.map PyData.int) i = (atI ns i).map PyData.int := by
  unfold atI
  rw [List.length_map]
  cases ixN ns.length i with
  | none => rfl
  | some j => exact List.getElem?_map ..
theorem atI_getD {α : Type} {xs : List α} {i : Int} {d : α} (h0 : 0 ≤ i) (h : i < xs.length) : atI xs i = some (xs.getD i.toNat d) := by
  obtain ⟨n, rfl⟩ := Int.eq_ofNat_of_zero_le h0
  have hn : n < xs.length := by omega
  rw [atI_nat, List.getElem?_eq_getElem hn, Int.toNat_natCast, List.getD_eq_getElem?_getD, List.getElem?_eq_getElem hn]
  rfl
theorem cut_ints {l h : Option Int} : cutL (ns.map PyData.int) l h = (cutL ns l h).map PyData.int := cutL_map _ _ _ _
theorem emp_ints : (ns.map PyData.int).isEmpty = ns.isEmpty := by cases ns <;> rfl
end
/-! slices -/
theorem sIx_lo {n : Nat} {k d : Nat} : HT.sIx n d (some (k : Int)) = min k n := by
  show (if (k : Int) < 0 then ((k : Int) + (n : Int)).toNat else min (k : Int).toNat n) = min k n
  rw [if_neg (by omega)]
  rfl
theorem cut_to {α : Type} {xs : List α} {k : Nat} : cutL xs none (some (k : Int)) = xs.take k := by
  unfold cutL
  rw [sIx_lo]
  show (xs.drop 0).take (min k xs.length - 0) = xs.take k
  rw [List.drop_zero, Nat.sub_zero]
  rw [List.take_eq_take_iff]
  omega
theorem cut_from {α : Type} {xs : List α} {k : Nat} : cutL xs (some (k : Int)) none = xs.drop k := by
  unfold cutL
  rw [sIx_lo]
  show (xs.drop (min k xs.length)).take (xs.length - min k xs.length) = xs.drop k
  rcases Nat.le_total k xs.length with h | h
  · rw [Nat.min_eq_left h, ← List.length_drop, List.take_length]
  · rw [Nat.min_eq_right h, Nat.sub_self, List.take_zero, List.drop_eq_nil_of_le h]
theorem cut_lit {α : Type} {xs : List α} {k : Nat} : cutL xs none (some (no_index (OfNat.ofNat k) : Int)) = xs.take k := @cut_to α xs k
theorem cut_litF {α : Type} {xs : List α} {k : Nat} : cutL xs (some (no_index (OfNat.ofNat k) : Int)) none = xs.drop k := @cut_from α xs k
theorem cut_sub {α : Type} {xs : List α} {l h : Option Int} {x : α} (hx : x ∈ cutL xs l h) : x ∈ xs := List.mem_of_mem_drop (List.mem_of_mem_take hx)
theorem cut_len {α : Type} {xs : List α} {l h : Option Int} : (cutL xs l h).length ≤ xs.length := by
  unfold cutL
  rw [List.length_take, List.length_drop]
  omega
/-! in, == -/
theorem any_ints {ns : List Int} {i : Int} : ((ns.map PyData.int).any fun z => PyData.eqv z (.int i)) = decide (i ∈ ns) := by
  induction ns with
  | nil => rfl
  | cons n ns ih =>
    rw [List.map_cons, List.any_cons, ih]
    have e : PyData.eqv (.int n) (.int i) = decide (i = n) := by
      simp only [PyData.eqv]
      by_cases h : n = i
      · simp [h]
      · have h' : ¬ i = n := fun z => h z.symm
        simp [h, h']
    rw [e]
    by_cases h : i = n
    · simp [h]
    · simp [h]
theorem scal_ints {ns : List Int} : (ns.map PyData.int).all scalD = true := by
  rw [List.all_eq_true]
  intro x hx
  obtain ⟨i, _, rfl⟩ := List.mem_map.mp hx
  rfl
theorem in_L {ns : List Int} {i : Int} {P : Bool → Prop} : inS (.int i) (.list (ns.map PyData.int)) P = P (decide (i ∈ ns)) := by
  rw [ev37, any_ints]
  exact propext ⟨fun h => h.2, fun h => ⟨.inl ⟨rfl, scal_ints⟩, h⟩⟩
theorem in_T {ns : List Int} {i : Int} {P : Bool → Prop} : inS (.int i) (.tuple (ns.map PyData.int)) P = P (decide (i ∈ ns)) := by
  rw [ev38, any_ints]
  exact propext ⟨fun h => h.2, fun h => ⟨⟨rfl, scal_ints⟩, h⟩⟩
/-! typed items -/
theorem range_map {a b : Int} : rangeD a b = (List.range (b - a).toNat).map fun i : Nat => PyData.int (a + (i : Int)) := rfl
theorem enum_map {α : Type} {g : α → D} {xs : List α} : enumD (xs.map g) = xs.zipIdx.map fun p => .tuple [.int (p.2 : Nat), g p.1] := by
  unfold enumD
  rw [List.length_map]
  have h : ∀ (k : Nat) (xs : List α), (List.range' k xs.length).zipWith (fun i x => PyData.tuple [.int (i : Nat), x]) (xs.map g) = (xs.zipIdx k).map fun p => PyData.tuple [.int (p.2 : Nat), g p.1] := fun k xs => by
    induction xs generalizing k with
    | nil => rfl
    | cons x xs ih =>
      rw [List.length_cons, List.range'_succ, List.map_cons, List.zipWith_cons_cons, ih, List.zipIdx_cons, List.map_cons]
  rw [List.range_eq_range']
  exact h 0 xs
theorem zip_map {α β : Type} {f : α → D} {g : β → D} {xs : List α} {ys : List β} : (xs.map f).zipWith (fun u v => PyData.tuple [u, v]) (ys.map g) = (xs.zip ys).map fun p => .tuple [f p.1, g p.2] := by
  rw [List.zip, List.map_zipWith, List.zipWith_map_left, List.zipWith_map_right]
section
variable {C : List D} {Γ : Nat → FSpec} {R : Xn → Store → Prop} {ρ : Store} {k : Kd}
/-- a comprehension of values: each turn leaves the store as it was -/
theorem compL_map {α : Type} {t : Tg} {vs : List Nat} {wc : Store → (Bool → Store → Prop) → Prop} {we : Store → (D → Store → Prop) → Prop} {q : List D → Store → Prop} {g : α → D} (p : α → Bool) (f : α → D) {xs : List α}
    (h : ∀ x ∈ xs, ∀ F : Option D → Store → Prop, (p x = true → F (some (f x)) ρ) → (p x = false → F none ρ) → bindT t (g x) (wipes ρ vs) fun ρ1 => wc ρ1 fun b ρ2 => if b then we ρ2 fun d ρ3 => F (some d) (backs ρ ρ3 vs) else F none (backs ρ ρ2 vs)) {acc : List D}
    (hq : q (acc ++ (xs.filter p).map f) ρ) : compL t vs ρ wc we (xs.map g) acc ρ q := by
  induction xs generalizing acc with
  | nil =>
    rw [List.filter_nil, List.map_nil, List.append_nil] at hq
    exact hq
  | cons x xs ih =>
    have h' := fun y hy => h y (List.mem_cons_of_mem _ hy)
    rw [List.map_cons]
    have z := h x List.mem_cons_self (fun o ρ' => compL t vs ρ wc we (xs.map g) (acc ++ o.toList) ρ' q) (fun e => by
      refine ih h' ?_
      rw [List.filter_cons_of_pos e, List.map_cons] at hq
      simpa using hq) (fun e => by
      refine ih h' ?_
      rw [List.filter_cons_of_neg (by rw [e]; exact Bool.false_ne_true)] at hq
      simpa using hq)
    simp only [Option.toList, List.append_nil] at z
    exact z
theorem compL_all {α : Type} {t : Tg} {vs : List Nat} {we : Store → (D → Store → Prop) → Prop} {q : List D → Store → Prop} {g : α → D} (f : α → D) {xs : List α} {Rx : Xn → Store → Prop}
    (h : ∀ x ∈ xs, ∀ F : D → Store → Prop, F (f x) ρ → bindT t (g x) (wipes ρ vs) fun ρ1 => we ρ1 fun d ρ3 => F d (backs ρ ρ3 vs))
    (hq : q (xs.map f) ρ) : compL t vs ρ (wpC C Γ Rx .no) we (xs.map g) [] ρ q := by
  refine compL_map (fun _ => true) f (fun x hx F h1 _ => ?_) ?_
  · exact h x hx (fun d ρ' => F (some d) ρ') (h1 rfl)
  · rw [List.nil_append, List.filter_eq_self.mpr fun _ _ => rfl]
    exact hq
/-- a loop: what holds behind the items so far -/
theorem forL_pre {α : Type} {t : Tg} {w : WS} {g : α → D} {xs : List α} (P : List α → Store → Prop) (h0 : P [] ρ)
    (hs : ∀ pre x post ρ (F : Store → Prop), xs = pre ++ x :: post → (∀ ρ', P (pre ++ [x]) ρ' → F ρ') → P pre ρ → bindT t (g x) ρ fun ρ1 => w ρ1 { k with nx := F, ct := F, bk := k.nx })
    (he : ∀ ρ, P xs ρ → k.nx ρ) : forL t w (xs.map g) ρ k := by
  have key : ∀ (post pre : List α) (ρ : Store), xs = pre ++ post → P pre ρ → forL t w (post.map g) ρ k := fun post => by
    induction post with
    | nil =>
      intro pre ρ e hp
      rw [List.append_nil] at e
      subst e
      exact he ρ hp
    | cons x post ih =>
      intro pre ρ e hp
      exact hs pre x post ρ (fun ρ2 => forL t w (post.map g) ρ2 k) e (fun ρ' h' => ih (pre ++ [x]) ρ' (by rw [e, List.append_assoc]; rfl) h') hp
  exact key xs [] ρ rfl h0
theorem forL_rng {t : Tg} {w : WS} {a b : Int} (P : Int → Store → Prop) (hab : a ≤ b) (h0 : P a ρ)
    (hs : ∀ i ρ (F : Store → Prop), a ≤ i → i < b → (∀ ρ', P (i + 1) ρ' → F ρ') → P i ρ → bindT t (.int i) ρ fun ρ1 => w ρ1 { k with nx := F, ct := F, bk := k.nx })
    (he : ∀ ρ, P b ρ → k.nx ρ) : forL t w (rangeD a b) ρ k := by
  rw [range_map]
  refine forL_pre (fun pre ρ => P (a + (pre.length : Nat)) ρ) (by simpa using h0) (fun pre x post ρ F e hF hp => ?_) fun ρ hp => ?_
  · have hx : x = pre.length := by
      have z := congrArg (fun l => l[pre.length]?) e
      simp only [List.getElem?_append_right (Nat.le_refl _), Nat.sub_self, List.getElem?_cons_zero] at z
      rw [List.getElem?_range (by have := congrArg List.length e; simp at this; omega)] at z
      exact (Option.some.inj z).symm
    subst hx
    have hl := congrArg List.length e
    simp only [List.length_range, List.length_append, List.length_cons] at hl
    refine hs _ ρ F (by omega) (by omega) (fun ρ' h' => hF ρ' ?_) hp
    rw [List.length_append, List.length_singleton]
    have e2 : a + ((pre.length + 1 : Nat) : Int) = a + (pre.length : Int) + 1 := by omega
    rw [e2]
    exact h'
  · refine he ρ ?_
    rw [List.length_range] at hp
    have e2 : a + (((b - a).toNat : Nat) : Int) = b := by omega
    rw [e2] at hp
    exact hp
end
end DL

set_option maxHeartbeats 4000000
/-! DL part X: the walk's equations, one a form; what stands in a loop or a comprehension stays shut until its turn. -/
namespace DL
open PySem PySem.Spec PyProof.Rows L2
section
variable {C : List D} {Γ : Nat → FSpec} {R : Xn → Store → Prop} {ρ : Store} {Q : D → Bool → Store → Prop} {k : Kd}
def whT (C : List D) (Γ : Nat → FSpec) (R : Xn → Store → Prop) (t : E) : Store → (Bool → Store → Prop) → Prop := tst (oper t (wpB C Γ R t))
def cmC (C : List D) (Γ : Nat → FSpec) (R : Xn → Store → Prop) (c : Oe) : Store → (Bool → Store → Prop) → Prop := wpC C Γ R c
def cmE (C : List D) (Γ : Nat → FSpec) (R : Xn → Store → Prop) (e : E) : Store → (D → Store → Prop) → Prop := frz (wpB C Γ R e)
theorem whT_at {t : E} {Q : Bool → Store → Prop} : whT C Γ R t ρ Q = tst (oper t (wpB C Γ R t)) ρ Q := rfl
theorem cmC_at {c : Oe} {Q : Bool → Store → Prop} : cmC C Γ R c ρ Q = wpC C Γ R c ρ Q := rfl
theorem cmE_at {e : E} {Q : D → Store → Prop} : cmE C Γ R e ρ Q = frz (wpB C Γ R e) ρ Q := rfl
theorem wq_var {i : Nat} : wpB C Γ R (.var i) ρ Q = ∃ d, getV ρ i = some d ∧ Q d false ρ := rfl
theorem wq_int {n : Int} : wpB C Γ R (.int n) ρ Q = Q (.int n) false ρ := rfl
theorem wq_bl {b : Bool} : wpB C Γ R (.bl b) ρ Q = Q (.bool b) false ρ := rfl
theorem wq_non : wpB C Γ R .non ρ Q = Q .none false ρ := rfl
theorem wq_str {s : Str} : wpB C Γ R (.str s) ρ Q = Q (.str s) false ρ := rfl
theorem wq_glob {g : Nat} : wpB C Γ R (.glob g) ρ Q = ∃ d, C[g]? = some d ∧ Q d false ρ := rfl
theorem wq_un {o : UnaryOp} {a : E} : wpB C Γ R (.un o a) ρ Q = oper a (wpB C Γ R a) ρ fun x ρ1 => cont ρ1 x fun dx => unS o dx fun d => Q d (isMut d) ρ1 := rfl
theorem wq_not {a : E} : wpB C Γ R (.not a) ρ Q = tst (oper a (wpB C Γ R a)) ρ fun b ρ1 => Q (.bool (!b)) false ρ1 := rfl
theorem wq_bin {o : Operator} {a b : E} : wpB C Γ R (.bin o a b) ρ Q = oper a (wpB C Γ R a) ρ fun x ρ1 => oper b (wpB C Γ R b) ρ1 fun y ρ2 => cont ρ2 x fun dx => cont ρ2 y fun dy => binS o dx dy fun d => Q d (isMut d) ρ2 := rfl
theorem wq_cmp {o : CmpOp} {a b : E} : wpB C Γ R (.cmp o a b) ρ Q = oper a (wpB C Γ R a) ρ fun x ρ1 => oper b (wpB C Γ R b) ρ1 fun y ρ2 => cont ρ2 x fun dx => cont ρ2 y fun dy => cmpS o dx dy fun d => Q (.bool d) false ρ2 := rfl
theorem wq_chn {o1 o2 : CmpOp} {a b c : E} : wpB C Γ R (.chn o1 o2 a b c) ρ Q = oper a (wpB C Γ R a) ρ fun x ρ1 => oper b (wpB C Γ R b) ρ1 fun y ρ2 => cont ρ2 x fun dx => cont ρ2 y fun dy => cmpS o1 dx dy fun r =>
      if r then oper c (wpB C Γ R c) ρ2 fun z ρ3 => cont ρ3 y fun dy2 => cont ρ3 z fun dz => cmpS o2 dy2 dz fun d => Q (.bool d) false ρ3 else Q (.bool false) false ρ2 := rfl
theorem wq_and {a b : E} : wpB C Γ R (.and a b) ρ Q = frz (wpB C Γ R a) ρ fun x ρ1 => truS x fun k => if k then frz (wpB C Γ R b) ρ1 fun y ρ2 => Q y false ρ2 else Q x false ρ1 := rfl
theorem wq_or {a b : E} : wpB C Γ R (.or a b) ρ Q = frz (wpB C Γ R a) ρ fun x ρ1 => truS x fun k => if k then Q x false ρ1 else frz (wpB C Γ R b) ρ1 fun y ρ2 => Q y false ρ2 := rfl
theorem wq_ite {t a b : E} : wpB C Γ R (.ite t a b) ρ Q = tst (oper t (wpB C Γ R t)) ρ fun k ρ1 => if k then wpB C Γ R a ρ1 Q else wpB C Γ R b ρ1 Q := rfl
theorem wq_tup {es : Es} : wpB C Γ R (.tup es) ρ Q = wpEs C Γ R es ρ fun ds ρ1 => ds.length ≤ sizeLine ∧ Q (.tuple ds) false ρ1 := rfl
theorem wq_lst {es : Es} : wpB C Γ R (.lst es) ρ Q = wpEs C Γ R es ρ fun ds ρ1 => ds.length ≤ sizeLine ∧ Q (.list ds) true ρ1 := rfl
theorem wq_idx {a i : E} : wpB C Γ R (.idx a i) ρ Q = oper a (wpB C Γ R a) ρ fun x ρ1 => oper i (wpB C Γ R i) ρ1 fun y ρ2 => cont ρ2 x fun dx => cont ρ2 y fun dy => idxS dx dy fun d => Q d false ρ2 := rfl
theorem wq_slc {a : E} {lo hi : Oe} : wpB C Γ R (.slc a lo hi) ρ Q = oper a (wpB C Γ R a) ρ fun x ρ1 => wpOe C Γ R lo ρ1 fun l ρ2 => wpOe C Γ R hi ρ2 fun h ρ3 => cont ρ3 x fun dx => slcS dx l h fun d => Q d (isMut d) ρ3 := rfl
theorem wq_call {f : Nat} {tp : Option Nat} {es : Es} : wpB C Γ R (.call f tp es) ρ Q = (tpOk tp ρ ∧ wpOs C Γ R es ρ fun xs ρ1 => conts ρ1 xs fun ds => callS (Γ f) tp xs ds ρ1 R Q) := rfl
theorem wq_bf {b : Bf} {es : Es} : wpB C Γ R (.bf b es) ρ Q = wpOs C Γ R es ρ fun xs ρ1 => conts ρ1 xs fun ds => bfS b ds fun d => Q d (isMut d) ρ1 := rfl
theorem wq_mth {m : Mt} {r : E} {es : Es} : wpB C Γ R (.mth m r es) ρ Q = oper r (wpB C Γ R r) ρ fun x ρ1 => mtOk m ρ1 x ∧ wpOs C Γ R es ρ1 fun xs ρ2 => cont ρ2 x fun dx => conts ρ2 xs fun ds => mtS m dx ds fun d => Q d (isMut d) ρ2 := rfl
def popS (p : Md × D) (x : D) (K : D → Md × D → Prop) : Prop := match p.2, x with
  | .list ds, .int j => (-(2 ^ 63) ≤ j ∧ j < 2 ^ 63) ∧ ∃ k d, seqIndex? j ds.length = some k ∧ ds[k]? = some d ∧ K d (p.1, .list (ds.eraseIdx k))
  | _, _ => False
theorem popS_at {m : Md} {ds : List D} {j : Int} {K : D → Md × D → Prop} : popS (m, .list ds) (.int j) K = ((-(2 ^ 63) ≤ j ∧ j < 2 ^ 63) ∧ ∃ k d, seqIndex? j ds.length = some k ∧ ds[k]? = some d ∧ K d (m, .list (ds.eraseIdx k))) := rfl
theorem wq_pop {i : Nat} {a : E} : wpB C Γ R (.pop i a) ρ Q = ((getO ρ i).isSome = true ∧ oper a (wpB C Γ R a) ρ fun x ρ1 => cont ρ1 x fun dx => ∃ p, getO ρ1 i = some p ∧ popS p dx fun d p' => Q d false (ρ1.set i (some p'))) := by
  have e : wpB C Γ R (.pop i a) ρ Q = ((getO ρ i).isSome = true ∧ oper a (wpB C Γ R a) ρ fun x ρ1 => cont ρ1 x fun dx => ∃ m ds j k d, getO ρ1 i = some (m, .list ds) ∧ dx = .int j ∧ (-(2 ^ 63) ≤ j ∧ j < 2 ^ 63) ∧ seqIndex? j ds.length = some k ∧ ds[k]? = some d ∧
      Q d false (ρ1.set i (some (m, .list (ds.eraseIdx k))))) := rfl
  rw [e]
  congr 2
  funext x ρ1
  congr 1
  funext dx
  apply propext
  constructor
  · rintro ⟨m, ds, j, k, d, h1, rfl, h2, h3, h4, h5⟩
    exact ⟨_, h1, h2, k, d, h3, h4, h5⟩
  · rintro ⟨⟨m, x⟩, h1, h2⟩
    cases x with
    | list ds =>
      cases dx with
      | int j =>
        obtain ⟨h2, k, d, h3, h4, h5⟩ := h2
        exact ⟨m, ds, j, k, d, h1, rfl, h2, h3, h4, h5⟩
      | _ => exact h2.elim
    | _ => cases dx <;> exact h2.elim
theorem wq_comp {elt : E} {t : Tg} {it : It} {c : Oe} {vs : List Nat} : wpB C Γ R (.comp elt t it c vs) ρ Q = wpIt C Γ R it ρ fun items ρ1 => valOk ρ1 vs = true ∧ items.length ≤ sizeLine ∧
      compL t vs ρ1 (cmC C Γ (fun x ρ' => R x (backs ρ1 ρ' vs)) c) (cmE C Γ (fun x ρ' => R x (backs ρ1 ρ' vs)) elt) items [] ρ1 fun ds ρ2 => Q (.list ds) true ρ2 := rfl
theorem ws_asg {t : Tg} {e : E} : wpS C Γ (.asg t e) ρ k = frz (wpB C Γ k.ex e) ρ fun d ρ1 => bindT t d ρ1 k.nx := rfl
theorem ws_own {i : Nat} {e : E} : wpS C Γ (.own i e) ρ k = wpB C Γ k.ex e ρ fun d fr ρ1 => fr = true ∧ i < ρ1.length ∧ k.nx (ρ1.set i (some (.o, d))) := rfl
theorem ws_aug {i : Nat} {o : Operator} {e : E} : wpS C Γ (.aug i o e) ρ k = ∃ x, getV ρ i = some x ∧ frz (wpB C Γ k.ex e) ρ fun y ρ1 => augS o x y fun d => k.nx (ρ1.set i (some (.v, d))) := rfl
def appS (p : Md × D) (d : D) (K : Md × D → Prop) : Prop := match p.2 with
  | .list ds => mOk p.1 d ∧ ds.length < sizeLine ∧ K (p.1, .list (ds ++ [d]))
  | _ => False
theorem appS_at {m : Md} {ds : List D} {d : D} {K : Md × D → Prop} : appS (m, .list ds) d K = (mOk m d ∧ ds.length < sizeLine ∧ K (m, .list (ds ++ [d]))) := rfl
theorem ws_app {i : Nat} {e : E} : wpS C Γ (.app i e) ρ k = ((getO ρ i).isSome = true ∧ frz (wpB C Γ k.ex e) ρ fun d ρ1 => ∃ p, getO ρ1 i = some p ∧ appS p d fun p' => k.nx (ρ1.set i (some p'))) := by
  have e : wpS C Γ (.app i e) ρ k = ((getO ρ i).isSome = true ∧ frz (wpB C Γ k.ex e) ρ fun d ρ1 => ∃ m ds, getO ρ1 i = some (m, .list ds) ∧ mOk m d ∧ ds.length < sizeLine ∧ k.nx (ρ1.set i (some (m, .list (ds ++ [d]))))) := rfl
  rw [e]
  congr 2
  funext d ρ1
  apply propext
  constructor
  · rintro ⟨m, ds, h1, h2⟩
    exact ⟨_, h1, h2⟩
  · rintro ⟨⟨m, x⟩, h1, h2⟩
    cases x with
    | list ds => exact ⟨m, ds, h1, h2⟩
    | _ => exact h2.elim
def extS (p : Md × D) (d : D) (K : Md × D → Prop) : Prop := match p.2, d with
  | .list ds, .list xs => (∀ x ∈ xs, mOk p.1 x) ∧ ds.length + xs.length ≤ sizeLine ∧ K (p.1, .list (ds ++ xs))
  | _, _ => False
theorem extS_at {m : Md} {ds xs : List D} {K : Md × D → Prop} : extS (m, .list ds) (.list xs) K = ((∀ x ∈ xs, mOk m x) ∧ ds.length + xs.length ≤ sizeLine ∧ K (m, .list (ds ++ xs))) := rfl
theorem ws_ext {i : Nat} {e : E} : wpS C Γ (.ext i e) ρ k = ((getO ρ i).isSome = true ∧ frz (wpB C Γ k.ex e) ρ fun d ρ1 => ∃ p, getO ρ1 i = some p ∧ extS p d fun p' => k.nx (ρ1.set i (some p'))) := by
  have e : wpS C Γ (.ext i e) ρ k = ((getO ρ i).isSome = true ∧ frz (wpB C Γ k.ex e) ρ fun d ρ1 => ∃ m ds xs, getO ρ1 i = some (m, .list ds) ∧ d = .list xs ∧ (∀ x ∈ xs, mOk m x) ∧ ds.length + xs.length ≤ sizeLine ∧ k.nx (ρ1.set i (some (m, .list (ds ++ xs))))) := rfl
  rw [e]
  congr 2
  funext d ρ1
  apply propext
  constructor
  · rintro ⟨m, ds, xs, h1, rfl, h2⟩
    exact ⟨_, h1, h2⟩
  · rintro ⟨⟨m, x⟩, h1, h2⟩
    cases x with
    | list ds =>
      cases d with
      | list xs => exact ⟨m, ds, xs, h1, rfl, h2⟩
      | _ => exact h2.elim
    | _ => cases d <;> exact h2.elim
theorem ws_put {i : Nat} {ix e : E} : wpS C Γ (.put i ix e) ρ k = frz (wpB C Γ k.ex e) ρ fun v ρ1 => (getO ρ1 i).isSome = true ∧ frz (wpB C Γ k.ex ix) ρ1 fun j ρ2 => ∃ p, getO ρ2 i = some p ∧ mOk p.1 v ∧ putS p.2 j v fun d => k.nx (ρ2.set i (some (p.1, d))) := rfl
theorem ws_frz {i : Nat} : wpS C Γ (.frz i) ρ k = ∃ d, ρ[i]? = some (some (.o, d)) ∧ k.nx (ρ.set i (some (.v, d))) := rfl
theorem ws_expr {e : E} : wpS C Γ (.expr e) ρ k = frz (wpB C Γ k.ex e) ρ fun _ ρ1 => k.nx ρ1 := rfl
theorem ws_ret {e : E} : wpS C Γ (.ret e) ρ k = wpB C Γ k.ex e ρ k.rt := rfl
theorem ws_retO {i : Nat} : wpS C Γ (.retO i) ρ k = ∃ d, ρ[i]? = some (some (.o, d)) ∧ k.rt d true (ρ.set i none) := rfl
theorem ws_retN : wpS C Γ .retN ρ k = k.rt .none false ρ := rfl
theorem ws_ifs {t : E} {a b : Ss} : wpS C Γ (.ifs t a b) ρ k = tst (oper t (wpB C Γ k.ex t)) ρ fun r ρ1 => if r then wpSs C Γ a ρ1 k else wpSs C Γ b ρ1 k := rfl
theorem ws_whl {t : E} {b : Ss} : wpS C Γ (.whl t b) ρ k = ∃ n, whlN (whT C Γ k.ex t) (wpSs C Γ b) n ρ k := rfl
theorem ws_fors {t : Tg} {it : It} {b : Ss} : wpS C Γ (.fors t it b) ρ k = wpIt C Γ k.ex it ρ fun items ρ1 => forL t (wpSs C Γ b) items ρ1 k := rfl
theorem ws_brk : wpS C Γ .brk ρ k = k.bk ρ := rfl
theorem ws_cnt : wpS C Γ .cnt ρ k = k.ct ρ := rfl
theorem ws_pas : wpS C Γ .pas ρ k = k.nx ρ := rfl
theorem ws_nev : wpS C Γ .nev ρ k = False := rfl
theorem wss_nil : wpSs C Γ .nil ρ k = k.nx ρ := rfl
theorem wss_cons {s : S} {ss : Ss} : wpSs C Γ (.cons s ss) ρ k = wpS C Γ s ρ { k with nx := fun ρ1 => wpSs C Γ ss ρ1 k } := rfl
theorem wi_val {e : E} {Q : List D → Store → Prop} : wpIt C Γ R (.val e) ρ Q = frz (wpB C Γ R e) ρ fun d ρ1 => ∃ xs, itOf d = some xs ∧ Q xs ρ1 := rfl
theorem wi_rng {a : E} {Q : List D → Store → Prop} : wpIt C Γ R (.rng a) ρ Q = frz (wpB C Γ R a) ρ fun x ρ1 => ∃ n, x = .int n ∧ rngOk 0 n ∧ Q (rangeD 0 n) ρ1 := rfl
theorem wi_rng2 {a b : E} {Q : List D → Store → Prop} : wpIt C Γ R (.rng2 a b) ρ Q = frz (wpB C Γ R a) ρ fun x ρ1 => frz (wpB C Γ R b) ρ1 fun y ρ2 => ∃ m, x = .int m ∧ ∃ n, y = .int n ∧ rngOk m n ∧ Q (rangeD m n) ρ2 := by
  have e : wpIt C Γ R (.rng2 a b) ρ Q = frz (wpB C Γ R a) ρ fun x ρ1 => frz (wpB C Γ R b) ρ1 fun y ρ2 => ∃ m n, x = .int m ∧ y = .int n ∧ rngOk m n ∧ Q (rangeD m n) ρ2 := rfl
  rw [e]
  congr 1
  funext x ρ1
  congr 1
  funext y ρ2
  exact propext ⟨fun ⟨m, n, h1, h2, h3⟩ => ⟨m, h1, n, h2, h3⟩, fun ⟨m, h1, n, h2, h3⟩ => ⟨m, n, h1, h2, h3⟩⟩
theorem wi_enum {a : E} {Q : List D → Store → Prop} : wpIt C Γ R (.enum a) ρ Q = frz (wpB C Γ R a) ρ fun d ρ1 => ∃ xs, seqOf d = some xs ∧ Q (enumD xs) ρ1 := rfl
theorem wi_zip {a b : E} {Q : List D → Store → Prop} : wpIt C Γ R (.zip a b) ρ Q = frz (wpB C Γ R a) ρ fun x ρ1 => frz (wpB C Γ R b) ρ1 fun y ρ2 => ∃ xs, seqOf x = some xs ∧ ∃ ys, seqOf y = some ys ∧ Q (xs.zipWith (fun u v => .tuple [u, v]) ys) ρ2 := by
  have e : wpIt C Γ R (.zip a b) ρ Q = frz (wpB C Γ R a) ρ fun x ρ1 => frz (wpB C Γ R b) ρ1 fun y ρ2 => ∃ xs ys, seqOf x = some xs ∧ seqOf y = some ys ∧ Q (xs.zipWith (fun u v => .tuple [u, v]) ys) ρ2 := rfl
  rw [e]
  congr 1
  funext x ρ1
  congr 1
  funext y ρ2
  exact propext ⟨fun ⟨m, n, h1, h2, h3⟩ => ⟨m, h1, n, h2, h3⟩, fun ⟨m, h1, n, h2, h3⟩ => ⟨m, n, h1, h2, h3⟩⟩
/-! == of lists of ints -/
theorem lay_ints : ∀ ns : List Int, PyData.canLayAll0 (ns.map PyData.int) = true
  | [] => rfl
  | n :: ns => by
    show (PyData.canLay0 (.int n) && PyData.canLayAll0 (ns.map PyData.int)) = true
    rw [lay_ints ns]
    rfl
theorem dep_ints : ∀ ns : List Int, PyData.depthAll (ns.map PyData.int) ≤ 1
  | [] => Nat.zero_le _
  | n :: ns => by
    have := dep_ints ns
    simp only [List.map_cons, PyData.depthAll, PyData.depth]
    omega
theorem shp_L (ns : List Int) : SeqAt.shaped (.list (ns.map PyData.int)) = true := by
  unfold SeqAt.shaped
  have h1 : (PyData.list (ns.map PyData.int)).canLay0 = true := lay_ints ns
  have h2 := dep_ints ns
  rw [h1, Bool.true_and, decide_eq_true_eq]
  simp only [PyData.depth]
  omega
theorem shp_T (ns : List Int) : SeqAt.shaped (.tuple (ns.map PyData.int)) = true := by
  unfold SeqAt.shaped
  have h1 : (PyData.tuple (ns.map PyData.int)).canLay0 = true := lay_ints ns
  have h2 := dep_ints ns
  rw [h1, Bool.true_and, decide_eq_true_eq]
  simp only [PyData.depth]
  omega
theorem eqv_ints : ∀ ns ms : List Int, PyData.eqvAll (ns.map PyData.int) (ms.map PyData.int) = decide (ns = ms)
  | [], [] => rfl
  | [], _ :: _ => rfl
  | _ :: _, [] => rfl
  | n :: ns, m :: ms => by
    have ih := eqv_ints ns ms
    simp only [List.map_cons, PyData.eqvAll, PyData.eqv, ih]
    by_cases h1 : n = m
    · by_cases h2 : ns = ms <;> simp [h1, h2]
    · simp [h1]
theorem eq_L {ns ms : List Int} {P : Bool → Prop} : eqS (.list (ns.map PyData.int)) (.list (ms.map PyData.int)) P = P (decide (ns = ms)) := by
  show ((_ ∧ _) ∧ P (PyData.eqv _ _)) = _
  have e : PyData.eqv (.list (ns.map PyData.int)) (.list (ms.map PyData.int)) = decide (ns = ms) := by
    simp only [PyData.eqv]
    exact eqv_ints ns ms
  rw [e]
  exact propext ⟨fun h => h.2, fun h => ⟨⟨shp_L _, shp_L _⟩, h⟩⟩
theorem eq_T {ns ms : List Int} {P : Bool → Prop} : eqS (.tuple (ns.map PyData.int)) (.tuple (ms.map PyData.int)) P = P (decide (ns = ms)) := by
  show ((_ ∧ _) ∧ P (PyData.eqv _ _)) = _
  have e : PyData.eqv (.tuple (ns.map PyData.int)) (.tuple (ms.map PyData.int)) = decide (ns = ms) := by
    simp only [PyData.eqv]
    exact eqv_ints ns ms
  rw [e]
  exact propext ⟨fun h => h.2, fun h => ⟨⟨shp_T _, shp_T _⟩, h⟩⟩
theorem eq_Lnil {ns : List Int} {P : Bool → Prop} : eqS (.list (ns.map PyData.int)) (.list []) P = P (decide (ns = [])) := @eq_L ns [] P
theorem eq_Tnil {ns : List Int} {P : Bool → Prop} : eqS (.tuple (ns.map PyData.int)) (.tuple []) P = P (decide (ns = [])) := @eq_T ns [] P
theorem resOk_flat {xs : List Od} {ds : List D} {d : D} (h : flatD d = true) : resOk xs ds d false := .inr (by
  cases d <;> first | exact h | cases h)
theorem resOk_int {xs : List Od} {ds : List D} {i : Int} : resOk xs ds (.int i) false = True := eq_true (resOk_flat rfl)
theorem resOk_bl {xs : List Od} {ds : List D} {i : Bool} : resOk xs ds (.bool i) false = True := eq_true (resOk_flat rfl)
theorem resOk_non {xs : List Od} {ds : List D} : resOk xs ds .none false = True := eq_true (resOk_flat rfl)
theorem resOk_str {xs : List Od} {ds : List D} {i : Str} : resOk xs ds (.str i) false = True := eq_true (resOk_flat rfl)
theorem flat_ints : ∀ ns : List Int, flatDs (ns.map PyData.int) = true
  | [] => rfl
  | n :: ns => by
    show (true && flatDs (ns.map PyData.int)) = true
    rw [flat_ints ns]
    rfl
theorem resOk_T {xs : List Od} {ds : List D} {ns : List Int} : resOk xs ds (.tuple (ns.map PyData.int)) false = True := eq_true (resOk_flat (flat_ints ns))
theorem resOk_L {xs : List Od} {ds : List D} {ns : List Int} : resOk xs ds (.list (ns.map PyData.int)) true = True := eq_true (.inr (flat_ints ns))
theorem snoc_ints {ns : List Int} {m : Int} : ns.map PyData.int ++ [.int m] = (ns ++ [m]).map PyData.int := by rw [List.map_append]; rfl
theorem app_ints {ns ms : List Int} : ns.map PyData.int ++ ms.map PyData.int = (ns ++ ms).map PyData.int := (List.map_append ..).symm
theorem seqIndex_of {r : Int} {n : Nat} (h0 : 0 ≤ r) (h : r < n) : seqIndex? r n = some r.toNat := by
  have e : (if r < 0 then r + (n : Int) else r) = r := if_neg (by omega)
  simp only [seqIndex?, e]
  rw [if_pos]
  simp only [Bool.and_eq_true, decide_eq_true_eq]
  exact ⟨h0, h⟩
theorem take_ints {ns : List Int} {k : Nat} : (ns.map PyData.int).take k = (ns.take k).map PyData.int := List.map_take.symm
theorem drop_ints {ns : List Int} {k : Nat} : (ns.map PyData.int).drop k = (ns.drop k).map PyData.int := List.map_drop.symm
theorem rng0 {n : Nat} : rangeD 0 (n : Int) = (List.range n).map fun k : Nat => PyData.int (k : Int) := by
  unfold rangeD
  rw [show ((n : Int) - 0).toNat = n by omega]
  congr 1
  funext k
  rw [Int.zero_add]
theorem rngOk_nat {n : Nat} (h : n < 4611686018427387904) : rngOk 0 (n : Int) := ⟨by omega, by omega, by omega, by omega⟩
theorem erase_perm {α : Type} : ∀ {l : List α} {i : Nat} (h : i < l.length), (l[i] :: l.eraseIdx i).Perm l
  | x :: l, 0, _ => List.Perm.refl _
  | x :: l, i + 1, h => by
    rw [List.eraseIdx_cons_succ, List.getElem_cons_succ]
    exact (List.Perm.swap ..).trans ((erase_perm (by simpa using h)).cons x)
theorem perm_ints {ns : List Int} {es : List D} (h : es.Perm (ns.map PyData.int)) : ∃ ms : List Int, es = ms.map PyData.int ∧ ms.Perm ns := by
  have hi : ∀ e ∈ es, ∃ i : Int, e = .int i := fun e he => by
    obtain ⟨i, _, q⟩ := List.mem_map.mp (h.mem_iff.mp he)
    exact ⟨i, q.symm⟩
  have hm : ∃ ms : List Int, es = ms.map PyData.int := by
    clear h
    induction es with
    | nil => exact ⟨[], rfl⟩
    | cons e es ih =>
      obtain ⟨ms, q⟩ := ih fun x hx => hi x (List.mem_cons_of_mem _ hx)
      obtain ⟨i, q2⟩ := hi e List.mem_cons_self
      exact ⟨i :: ms, by rw [q, q2]; rfl⟩
  obtain ⟨ms, rfl⟩ := hm
  refine ⟨ms, rfl, ?_⟩
  have z := h.map fun d : D => match d with
    | .int i => i
    | _ => 0
  rw [List.map_map, List.map_map] at z
  have e : ((fun d : D => match d with
    | .int i => i
    | _ => 0) ∘ PyData.int) = id := rfl
  rw [e, List.map_id, List.map_id] at z
  exact z
theorem intsD_eq : ∀ {xs : List D} {ns : List Int}, intsD xs = some ns → xs = ns.map PyData.int
  | [], ns, h => by
    cases h
    rfl
  | .int i :: xs, ns, h => by
    have h : (intsD xs).map (i :: ·) = some ns := h
    cases e : intsD xs with
    | none =>
      rw [e] at h
      cases h
    | some ms =>
      rw [e] at h
      cases h
      rw [intsD_eq e]
      rfl
theorem eq_lits {xs ys : List D} {ns ms : List Int} {P : Bool → Prop} (h1 : intsD xs = some ns) (h2 : intsD ys = some ms) : eqS (.list xs) (.list ys) P = P (decide (ns = ms)) := by
  rw [intsD_eq h1, intsD_eq h2]
  exact eq_L
theorem bits_of {i : Int} (h0 : 0 ≤ i) : i < 2 ^ Builtin.Int.intBits i ∧ (0 < Builtin.Int.intBits i → (2 : Int) ^ (Builtin.Int.intBits i - 1) ≤ i) := by
  unfold Builtin.Int.intBits
  by_cases z : i = 0
  · subst z
    decide
  · rw [if_neg (by simpa using z)]
    have hn : i.natAbs ≠ 0 := by omega
    have e : ((i.natAbs : Nat) : Int) = i := by omega
    have b := Nat.lt_log2_self (n := i.natAbs)
    have d := Nat.log2_self_le hn
    refine ⟨?_, fun _ => ?_⟩
    · have : ((i.natAbs : Nat) : Int) < ((2 ^ (i.natAbs.log2 + 1) : Nat) : Int) := by exact_mod_cast b
      rw [e] at this
      exact_mod_cast this
    · have : (((2 ^ i.natAbs.log2 : Nat)) : Int) ≤ ((i.natAbs : Nat) : Int) := by exact_mod_cast d
      rw [e] at this
      exact_mod_cast this
theorem pow_lt_iff {a b : Nat} : (2 : Int) ^ a < 2 ^ b ↔ a < b := by
  constructor
  · intro h
    refine Nat.lt_of_not_le fun z => ?_
    have : (2 : Nat) ^ b ≤ 2 ^ a := Nat.pow_le_pow_right (by decide) z
    have : ((2 ^ b : Nat) : Int) ≤ ((2 ^ a : Nat) : Int) := by exact_mod_cast this
    have e1 : ((2 ^ b : Nat) : Int) = 2 ^ b := by push_cast; rfl
    have e2 : ((2 ^ a : Nat) : Int) = 2 ^ a := by push_cast; rfl
    omega
  · intro h
    have : (2 : Nat) ^ a < 2 ^ b := Nat.pow_lt_pow_right (by decide) h
    exact_mod_cast this
theorem pow_le_iff {a b : Nat} : (2 : Int) ^ a ≤ 2 ^ b ↔ a ≤ b := by
  have := @pow_lt_iff b a
  omega
theorem bits_le {i : Int} (h0 : 0 ≤ i) {k : Nat} (h : i < 2 ^ k) : Builtin.Int.intBits i ≤ k := by
  refine Nat.le_of_not_lt fun z => ?_
  have b := (bits_of h0).2 (by omega)
  have : (2 : Int) ^ k ≤ 2 ^ (Builtin.Int.intBits i - 1) := pow_le_iff.mpr (by omega)
  omega
theorem bits_uniq {i : Int} {k : Nat} (h0 : 0 ≤ i) (h : i < 2 ^ k) (h2 : 0 < k → (2 : Int) ^ (k - 1) ≤ i) : Builtin.Int.intBits i = k := by
  have a := bits_le h0 h
  have b := (bits_of h0).1
  rcases Nat.lt_or_ge (Builtin.Int.intBits i) k with z | z
  · have c := h2 (by omega)
    have : (2 : Int) ^ Builtin.Int.intBits i ≤ 2 ^ (k - 1) := pow_le_iff.mpr (by omega)
    omega
  · omega
theorem mtOk_b {x : Od} : mtOk .bitLength ρ x = True := rfl
theorem mtOk_i {x : Od} : mtOk .index ρ x = cont ρ x isSeqD := rfl
theorem mtOk_c {x : Od} : mtOk .count ρ x = cont ρ x isLstD := rfl
theorem isLst_l {xs : List D} : isLstD (.list xs) = True := rfl
theorem isSeq_l {xs : List D} : isSeqD (.list xs) = True := rfl
theorem isSeq_t {xs : List D} : isSeqD (.tuple xs) = True := rfl
theorem index_T {ns : List Int} {i : Int} {Q : D → Prop} : mtS .index (.tuple (ns.map PyData.int)) [.int i] Q = (i ∈ ns ∧ Q (.int (ns.idxOf i : Nat))) := by
  show (∃ ms, intsD (ns.map PyData.int) = some ms ∧ i ∈ ms ∧ Q (.int (ms.idxOf i : Nat))) = _
  rw [intsD_map]
  exact propext ⟨fun ⟨ms, e, h⟩ => by cases e; exact h, fun h => ⟨ns, rfl, h⟩⟩
theorem pairsD_map : ∀ ps : List (Int × Int), pairsD (ps.map ipD) = some ps
  | [] => rfl
  | p :: ps => by
    show (pairsD (ps.map ipD)).map (p :: ·) = _
    rw [pairsD_map ps]
    rfl
theorem srtP_L {ps : List (Int × Int)} {Q : D → Prop} : bfS .srtP [.list (ps.map ipD)] Q = Q (.list ((Ma.srtP ps).map ipD)) := by
  show (∃ qs, pairsD (ps.map ipD) = some qs ∧ ∀ ms : List (Int × Int), ms.Perm qs → ms.Pairwise leP → Q (.list (ms.map ipD))) = _
  rw [pairsD_map]
  refine propext ⟨fun ⟨qs, e, h⟩ => ?_, fun h => ⟨ps, rfl, fun ms h1 h2 => ?_⟩⟩
  · cases e
    exact h _ (Ma.srtP_perm ps) (Ma.srtP_sorted ps)
  · rw [Ma.srtP_uniq h1 h2]
    exact h
theorem srtK_L {ps : List (Int × Int)} {Q : D → Prop} : bfS .srtK [.list (ps.map ipD)] Q = Q (.list ((Ma.srtK ps).map ipD)) := by
  show (∃ xs qs, some (ps.map ipD) = some xs ∧ pairsD xs = some qs ∧ ∀ ms : List (Int × Int), ms.Perm qs → ms.Pairwise leK → Q (.list (ms.map ipD))) = _
  refine propext ⟨fun ⟨xs, qs, e0, e, h⟩ => ?_, fun h => ⟨_, ps, rfl, pairsD_map ps, fun ms h1 h2 => ?_⟩⟩
  · cases e0
    rw [pairsD_map] at e
    cases e
    exact h _ (Ma.srtK_perm ps) (Ma.srtK_sorted ps)
  · rw [Ma.srtK_uniq h1 h2]
    exact h
theorem srtK_T {ps : List (Int × Int)} {Q : D → Prop} : bfS .srtK [.tuple (ps.map ipD)] Q = Q (.list ((Ma.srtK ps).map ipD)) := @srtK_L ps Q
theorem maxP_L {ps : List (Int × Int)} {Q : D → Prop} : bfS .maxP [.list (ps.map ipD)] Q = (0 < ps.length ∧ ∀ m, isMxP true ps m → Q (ipD m)) := by
  show (∃ xs qs, some (ps.map ipD) = some xs ∧ pairsD xs = some qs ∧ 0 < qs.length ∧ ∀ m, isMxP true qs m → Q (ipD m)) = _
  refine propext ⟨fun ⟨xs, qs, e0, e, h⟩ => ?_, fun h => ⟨_, ps, rfl, pairsD_map ps, h⟩⟩
  cases e0
  rw [pairsD_map] at e
  cases e
  exact h
theorem minP_L {ps : List (Int × Int)} {Q : D → Prop} : bfS .minP [.list (ps.map ipD)] Q = (0 < ps.length ∧ ∀ m, isMxP false ps m → Q (ipD m)) := by
  show (∃ xs qs, some (ps.map ipD) = some xs ∧ pairsD xs = some qs ∧ 0 < qs.length ∧ ∀ m, isMxP false qs m → Q (ipD m)) = _
  refine propext ⟨fun ⟨xs, qs, e0, e, h⟩ => ?_, fun h => ⟨_, ps, rfl, pairsD_map ps, h⟩⟩
  cases e0
  rw [pairsD_map] at e
  cases e
  exact h
theorem lt_TT {ns ms : List Int} {Q : Bool → Prop} : cmpS .Lt (.tuple (ns.map PyData.int)) (.tuple (ms.map PyData.int)) Q = Q (HT.lexLt ns ms) := by
  show (∃ xs ys, intsD (ns.map PyData.int) = some xs ∧ intsD (ms.map PyData.int) = some ys ∧ Q (HT.lexLt xs ys)) = _
  rw [intsD_map, intsD_map]
  exact propext ⟨fun ⟨_, _, e1, e2, h⟩ => by cases e1; cases e2; exact h, fun h => ⟨_, _, rfl, rfl, h⟩⟩
theorem lt_pairs {p q : Int × Int} {Q : Bool → Prop} : cmpS .Lt (ipD p) (ipD q) Q = Q (decide (p.1 < q.1 ∨ (p.1 = q.1 ∧ p.2 < q.2))) := by
  have e : cmpS .Lt (ipD p) (ipD q) Q = Q (HT.lexLt [p.1, p.2] [q.1, q.2]) := @lt_TT [p.1, p.2] [q.1, q.2] Q
  rw [e]
  congr 1
  rw [HT.lexLt_cons, HT.lexLt_cons, HT.lexLt_nil_nil]
  by_cases h1 : p.1 = q.1
  · rw [if_pos h1]
    by_cases h2 : p.2 = q.2
    · rw [if_pos h2]
      exact (decide_eq_false (by omega)).symm
    · rw [if_neg h2]
      exact decide_eq_decide.mpr (by omega)
  · rw [if_neg h1]
    exact decide_eq_decide.mpr (by omega)
theorem index_L {ns : List Int} {i : Int} {Q : D → Prop} : mtS .index (.list (ns.map PyData.int)) [.int i] Q = (i ∈ ns ∧ Q (.int (ns.idxOf i : Nat))) := by
  show (∃ ms, intsD (ns.map PyData.int) = some ms ∧ i ∈ ms ∧ Q (.int (ms.idxOf i : Nat))) = _
  rw [intsD_map]
  exact propext ⟨fun ⟨ms, e, h⟩ => by cases e; exact h, fun h => ⟨ns, rfl, h⟩⟩
theorem count_L {ns : List Int} {i : Int} {Q : D → Prop} : mtS .count (.list (ns.map PyData.int)) [.int i] Q = Q (.int (ns.count i : Nat)) := by
  show (∃ ms, intsD (ns.map PyData.int) = some ms ∧ Q (.int (ms.count i : Nat))) = _
  rw [intsD_map]
  exact propext ⟨fun ⟨ms, e, h⟩ => by cases e; exact h, fun h => ⟨ns, rfl, h⟩⟩
theorem sum_L {ns : List Int} {Q : D → Prop} : bfS .sum [.list (ns.map PyData.int)] Q = Q (.int ns.sum) := by
  show (∃ ms, intsD (ns.map PyData.int) = some ms ∧ Q (.int ms.sum)) = _
  rw [intsD_map]
  exact propext ⟨fun ⟨ms, e, h⟩ => by cases e; exact h, fun h => ⟨ns, rfl, h⟩⟩
theorem boolsD_map : ∀ ns : List Bool, boolsD (ns.map PyData.bool) = some ns
  | [] => rfl
  | n :: ns => by
    show (boolsD (ns.map PyData.bool)).map (n :: ·) = _
    rw [boolsD_map ns]
    rfl
theorem all_L {ns : List Bool} {Q : D → Prop} : bfS .all [.list (ns.map PyData.bool)] Q = Q (.bool (ns.all id)) := by
  show (∃ ms, boolsD (ns.map PyData.bool) = some ms ∧ Q (.bool (ms.all id))) = _
  rw [boolsD_map]
  exact propext ⟨fun ⟨ms, e, h⟩ => by cases e; exact h, fun h => ⟨ns, rfl, h⟩⟩
theorem any_L {ns : List Bool} {Q : D → Prop} : bfS .any [.list (ns.map PyData.bool)] Q = Q (.bool (ns.any id)) := by
  show (∃ ms, boolsD (ns.map PyData.bool) = some ms ∧ Q (.bool (ms.any id))) = _
  rw [boolsD_map]
  exact propext ⟨fun ⟨ms, e, h⟩ => by cases e; exact h, fun h => ⟨ns, rfl, h⟩⟩
theorem tupRev_at {xs : List D} {Q : D → Prop} : bfS .tupRev [.list xs] Q = Q (.tuple xs.reverse) := rfl
theorem revT_at {xs : List D} {Q : D → Prop} : bfS .revL [.tuple xs] Q = Q (.tuple xs.reverse) := rfl
theorem revL_at {xs : List D} {Q : D → Prop} : bfS .revL [.list xs] Q = Q (.list xs.reverse) := rfl
theorem tupRng_at {n : Int} {Q : D → Prop} : bfS .tupRng [.int n] Q = ((0 ≤ n ∧ n ≤ 16777216) ∧ Q (.tuple (rangeD 0 n))) := rfl
theorem rev_ints {ns : List Int} : (ns.map PyData.int).reverse = ns.reverse.map PyData.int := List.map_reverse.symm
theorem srtR_L {ns : List Int} {Q : D → Prop} : bfS .srtR [.list (ns.map PyData.int)] Q = Q (.list ((Ma.srt ns).reverse.map PyData.int)) := by
  show (∃ ms, intsD (ns.map PyData.int) = some ms ∧ ∀ zs : List Int, zs.Perm ms → zs.Pairwise (· ≥ ·) → Q (.list (zs.map PyData.int))) = _
  rw [intsD_map]
  apply propext
  constructor
  · rintro ⟨ms, e, h⟩
    cases e
    exact h _ ((List.reverse_perm _).trans (Ma.srt_perm ns)) (List.pairwise_reverse.mpr (Ma.srt_sorted ns))
  · intro h
    refine ⟨ns, rfl, fun zs hp hs => ?_⟩
    have e : zs.reverse = Ma.srt ns := Ma.srt_uniq ((List.reverse_perm _).trans hp) (List.pairwise_reverse.mpr hs)
    rw [← e, List.reverse_reverse] at h
    exact h
abbrev natsD (ks : List Nat) : List D := ks.map fun k => PyData.int (k : Nat)
theorem nats_ints (ks : List Nat) : natsD ks = (ks.map Int.ofNat).map PyData.int := by
  unfold natsD
  rw [List.map_map]
  rfl
theorem snoc_N {ks : List Nat} {k : Nat} : (ks.map fun k => PyData.int (k : Nat)) ++ [.int (k : Nat)] = (ks ++ [k]).map fun k => PyData.int (k : Nat) := by rw [List.map_append]; rfl
theorem mem_ofNat {ks : List Nat} {k : Nat} : (k : Int) ∈ ks.map Int.ofNat ↔ k ∈ ks := by
  rw [List.mem_map]
  constructor
  · rintro ⟨j, hj, e⟩
    have e : (j : Int) = k := e
    have : j = k := by omega
    rw [← this]
    exact hj
  · exact fun h => ⟨k, h, rfl⟩
theorem in_N {ks : List Nat} {k : Nat} {P : Bool → Prop} : inS (.int (k : Nat)) (.list (ks.map fun k => PyData.int (k : Nat))) P = P (decide (k ∈ ks)) := by
  have e := nats_ints ks
  unfold natsD at e
  rw [e, in_L]
  congr 1
  exact decide_eq_decide.mpr mem_ofNat
theorem in_NT {ks : List Nat} {k : Nat} {P : Bool → Prop} : inS (.int (k : Nat)) (.tuple (ks.map fun k => PyData.int (k : Nat))) P = P (decide (k ∈ ks)) := by
  have e := nats_ints ks
  unfold natsD at e
  rw [e, in_T]
  congr 1
  exact decide_eq_decide.mpr mem_ofNat
theorem len_N {ks : List Nat} : (ks.map fun k => PyData.int (k : Nat)).length = ks.length := List.length_map _
theorem at_N {ks : List Nat} {j : Nat} (h : j < ks.length) : atI (ks.map fun k => PyData.int (k : Nat)) (j : Int) = some (.int (ks[j] : Nat)) := by
  rw [DL.atI_nat, List.getElem?_map, List.getElem?_eq_getElem h]
  rfl
def optD : Option Nat → D
  | none => .none
  | some r => .int (r : Nat)
theorem len_O {cs : List (Option Nat)} : (cs.map optD).length = cs.length := List.length_map _
theorem at_O {cs : List (Option Nat)} {j : Nat} (h : j < cs.length) : atI (cs.map optD) (j : Int) = some (optD (cs.getD j none)) := by
  rw [DL.atI_nat, List.getElem?_map, List.getD_eq_getElem?_getD, List.getElem?_eq_getElem h]
  rfl
theorem perm_N {ns : List Nat} {es : List D} (h : es.Perm (natsD ns)) : ∃ ms : List Nat, es = natsD ms ∧ ms.Perm ns := by
  have hm : ∃ ms : List Nat, es = natsD ms := by
    have hi : ∀ e ∈ es, ∃ i : Nat, e = .int (i : Nat) := fun e he => by
      obtain ⟨i, _, q⟩ := List.mem_map.mp (h.mem_iff.mp he)
      exact ⟨i, q.symm⟩
    clear h
    induction es with
    | nil => exact ⟨[], rfl⟩
    | cons e es ih =>
      obtain ⟨ms, q⟩ := ih fun x hx => hi x (List.mem_cons_of_mem _ hx)
      obtain ⟨i, q2⟩ := hi e List.mem_cons_self
      exact ⟨i :: ms, by rw [q, q2]; rfl⟩
  obtain ⟨ms, rfl⟩ := hm
  refine ⟨ms, rfl, ?_⟩
  have z := h.map fun d : D => match d with
    | .int i => i.toNat
    | _ => 0
  unfold natsD at z
  rw [List.map_map, List.map_map] at z
  have e : ((fun d : D => match d with
    | .int i => i.toNat
    | _ => 0) ∘ fun k : Nat => PyData.int (k : Nat)) = id := rfl
  rw [e, List.map_id, List.map_id] at z
  exact z
theorem index_N {ks : List Nat} {k : Nat} {Q : D → Prop} (h : k ∈ ks) (hq : ∀ j : Nat, Q (.int (j : Nat))) : mtS .index (.list (ks.map fun k => PyData.int (k : Nat))) [.int (k : Nat)] Q := by
  have e := nats_ints ks
  unfold natsD at e
  rw [e, index_L]
  exact ⟨mem_ofNat.mpr h, hq _⟩
theorem take_N {ks : List Nat} {k : Nat} : (ks.map fun k => PyData.int (k : Nat)).take k = (ks.take k).map fun k => PyData.int (k : Nat) := List.map_take.symm
theorem drop_N {ks : List Nat} {k : Nat} : (ks.map fun k => PyData.int (k : Nat)).drop k = (ks.drop k).map fun k => PyData.int (k : Nat) := List.map_drop.symm
theorem lastN {f : List Nat} (hn : f ≠ []) : atI (f.map fun k => PyData.int (k : Nat)) (-1) = some (.int (f.getLast hn : Nat)) := by
  have e1 : atI (f.map fun k => PyData.int (k : Nat)) (-1) = (f.map fun k => PyData.int (k : Nat))[f.length - 1]? := by
    have hp := List.length_pos_iff.mpr hn
    unfold atI ixN
    rw [List.length_map, if_neg (by omega), if_pos (by omega)]
    show (f.map fun k => PyData.int (k : Nat))[(((-1 : Int) + (f.length : Int))).toNat]? = _
    congr 1
    omega
  rw [e1, List.getElem?_map, List.getLast_eq_getElem, List.getElem?_eq_getElem (by have := List.length_pos_iff.mpr hn; omega)]
  rfl
theorem cut_m1 {α : Type} {xs : List α} : cutL xs none (some (-1)) = xs.dropLast := by
  unfold cutL
  show (xs.drop 0).take (HT.sIx xs.length xs.length (some (-1)) - 0) = _
  have e : HT.sIx xs.length xs.length (some (-1)) = xs.length - 1 := by
    show (if (-1 : Int) < 0 then ((-1 : Int) + (xs.length : Int)).toNat else min (-1 : Int).toNat xs.length) = _
    rw [if_pos (by decide)]
    omega
  rw [e, List.drop_zero, Nat.sub_zero, List.dropLast_eq_take]
theorem rev_N {ks : List Nat} : (ks.map fun k => PyData.int (k : Nat)).reverse = ks.reverse.map fun k => PyData.int (k : Nat) := List.map_reverse.symm
theorem app_N {ks js : List Nat} : (ks.map fun k => PyData.int (k : Nat)) ++ (js.map fun k => PyData.int (k : Nat)) = (ks ++ js).map fun k => PyData.int (k : Nat) := (List.map_append ..).symm
theorem cut_N {ks : List Nat} {l h : Option Int} : cutL (ks.map fun k => PyData.int (k : Nat)) l h = (cutL ks l h).map fun k => PyData.int (k : Nat) := cutL_map _ _ _ _
theorem emp_N {ks : List Nat} : (ks.map fun k => PyData.int (k : Nat)).isEmpty = ks.isEmpty := by cases ks <;> rfl
theorem resOk_NT {xs : List Od} {ds : List D} {ns : List Nat} : resOk xs ds (.tuple (ns.map fun k => PyData.int (k : Nat))) false = True := by
  have e := nats_ints ns
  unfold natsD at e
  rw [e]
  exact resOk_T
theorem shl_big {i : Int} {k : Nat} {j : Int} (h0 : 0 ≤ i) (h : i < 2 ^ k) (hj : 0 ≤ j) (hs : (k : Int) + j ≤ 134217728) : CShl i j := ⟨hj, by
  have := bits_le h0 h
  omega⟩
theorem eq_NT {ns ms : List Nat} {P : Bool → Prop} : eqS (.tuple (ns.map fun k => PyData.int (k : Nat))) (.tuple (ms.map fun k => PyData.int (k : Nat))) P = P (decide (ns = ms)) := by
  have e1 := nats_ints ns
  have e2 := nats_ints ms
  unfold natsD at e1 e2
  rw [e1, e2, eq_T]
  congr 1
  refine decide_eq_decide.mpr ⟨fun h => ?_, fun h => by rw [h]⟩
  have z := congrArg (List.map Int.toNat) h
  rw [List.map_map, List.map_map] at z
  have e : Int.toNat ∘ Int.ofNat = id := rfl
  rw [e, List.map_id, List.map_id] at z
  exact z
theorem eq_NTnil {ns : List Nat} {P : Bool → Prop} : eqS (.tuple (ns.map fun k => PyData.int (k : Nat))) (.tuple []) P = P (decide (ns = [])) := @eq_NT ns [] P
theorem eqv_N : ∀ ns ms : List Nat, PyData.eqv (.tuple (natsD ns)) (.tuple (natsD ms)) = decide (ns = ms) := fun ns ms => by
  simp only [PyData.eqv]
  rw [nats_ints, nats_ints, eqv_ints]
  refine decide_eq_decide.mpr ⟨fun h => ?_, fun h => by rw [h]⟩
  have z := congrArg (List.map Int.toNat) h
  rw [List.map_map, List.map_map] at z
  have e : Int.toNat ∘ Int.ofNat = id := rfl
  rw [e, List.map_id, List.map_id] at z
  exact z
theorem shp_NT (ns : List Nat) : SeqAt.shaped (.tuple (natsD ns)) = true := by
  rw [nats_ints]
  exact shp_T _
abbrev tupN (s : List Nat) : D := .tuple (natsD s)
theorem shp_TN : ∀ ss : List (List Nat), SeqAt.shaped (.list (ss.map tupN)) = true := fun ss => by
  have h : ∀ ss : List (List Nat), PyData.canLayAll0 (ss.map tupN) = true ∧ PyData.depthAll (ss.map tupN) ≤ 2 := fun ss => by
    induction ss with
    | nil => exact ⟨rfl, Nat.zero_le _⟩
    | cons s ss ih =>
      have z := shp_NT s
      unfold SeqAt.shaped at z
      have z1 := (and2 z).1
      have z2 : (tupN s).depth ≤ 2 := by
        show (PyData.tuple (natsD s)).depth ≤ 2
        rw [nats_ints]
        have := dep_ints (s.map Int.ofNat)
        simp only [PyData.depth]
        omega
      refine ⟨?_, ?_⟩
      · show ((tupN s).canLay0 && PyData.canLayAll0 (ss.map tupN)) = true
        rw [ih.1, Bool.and_true]
        exact z1
      · rw [List.map_cons]
        simp only [PyData.depthAll]
        omega
  obtain ⟨h1, h2⟩ := h ss
  unfold SeqAt.shaped
  have e : (PyData.list (ss.map tupN)).canLay0 = true := h1
  rw [e, Bool.true_and, decide_eq_true_eq]
  simp only [PyData.depth]
  omega
theorem in_TT {s : List Nat} {ss : List (List Nat)} {P : Bool → Prop} : inS (.tuple (s.map fun k => PyData.int (k : Nat))) (.list (ss.map fun s => PyData.tuple (s.map fun k => PyData.int (k : Nat)))) P = P (decide (s ∈ ss)) := by
  rw [ev37]
  have e : ((ss.map fun s => PyData.tuple (s.map fun k => PyData.int (k : Nat))).any fun z => PyData.eqv z (.tuple (s.map fun k => PyData.int (k : Nat)))) = decide (s ∈ ss) := by
    induction ss with
    | nil => rfl
    | cons t ss ih =>
      rw [List.map_cons, List.any_cons, ih]
      have := eqv_N t s
      unfold natsD at this
      rw [this]
      by_cases h : t = s
      · simp [h]
      · have h' : ¬ s = t := fun z => h z.symm
        simp [h, h']
  rw [e]
  exact propext ⟨fun h => h.2, fun h => ⟨.inr ⟨shp_NT s, shp_TN ss⟩, h⟩⟩
theorem eq_TNnil {ss : List (List Nat)} {P : Bool → Prop} : eqS (.list (ss.map fun s => PyData.tuple (s.map fun k => PyData.int (k : Nat)))) (.list []) P = P (decide (ss = [])) := by
  show ((_ ∧ _) ∧ P (PyData.eqv _ _)) = _
  have e : PyData.eqv (.list (ss.map fun s => PyData.tuple (s.map fun k => PyData.int (k : Nat)))) (.list []) = decide (ss = []) := by
    cases ss <;> simp [PyData.eqv, PyData.eqvAll]
  rw [e]
  exact propext ⟨fun h => h.2, fun h => ⟨⟨shp_TN ss, by decide⟩, h⟩⟩
theorem in_ON {o : Option Nat} {ks : List Nat} {P : Bool → Prop} : inS (optD o) (.list (ks.map fun k => PyData.int (k : Nat))) P = P (match o with | none => false | some r => decide (r ∈ ks)) := by
  cases o with
  | some r => exact in_N
  | none =>
    show inS .none _ P = _
    rw [ev37]
    have e : ((ks.map fun k => PyData.int (k : Nat)).any fun z => PyData.eqv z .none) = false := by
      induction ks with
      | nil => rfl
      | cons k ks ih => rw [List.map_cons, List.any_cons, ih]; simp [PyData.eqv]
    rw [e]
    refine propext ⟨fun h => h.2, fun h => ⟨.inl ⟨rfl, ?_⟩, h⟩⟩
    have z := scal_ints (ns := ks.map Int.ofNat)
    rw [List.map_map] at z
    exact z
theorem in_ONT {o : Option Nat} {ks : List Nat} {P : Bool → Prop} : inS (optD o) (.tuple (ks.map fun k => PyData.int (k : Nat))) P = P (match o with | none => false | some r => decide (r ∈ ks)) := by
  cases o with
  | some r => exact in_NT
  | none =>
    show inS .none _ P = _
    rw [ev38]
    have e : ((ks.map fun k => PyData.int (k : Nat)).any fun z => PyData.eqv z .none) = false := by
      induction ks with
      | nil => rfl
      | cons k ks ih => rw [List.map_cons, List.any_cons, ih]; simp [PyData.eqv]
    rw [e]
    refine propext ⟨fun h => h.2, fun h => ⟨⟨rfl, ?_⟩, h⟩⟩
    have z := scal_ints (ns := ks.map Int.ofNat)
    rw [List.map_map] at z
    exact z
theorem is_ON {o : Option Nat} {P : Bool → Prop} : cmpS .Is (optD o) .none P = P (decide (o = none)) := by
  cases o <;> rfl
theorem isnot_ON {o : Option Nat} {P : Bool → Prop} : cmpS .IsNot (optD o) .none P = P (decide (o ≠ none)) := by
  cases o <;> rfl
theorem sorted_N {ks s : List Nat} {Q : D → Prop} (hp : ks.Perm s) (hs : s.Pairwise (· < ·)) : bfS .sorted [.tuple (ks.map fun k => PyData.int (k : Nat))] Q = Q (.list (s.map fun k => PyData.int (k : Nat))) := by
  have e1 := nats_ints ks
  have e2 := nats_ints s
  unfold natsD at e1 e2
  rw [e1, sorted_T, e2]
  congr 3
  refine (Ma.srt_uniq (hp.symm.map _) (List.pairwise_map.mpr (hs.imp fun h => ?_))).symm
  show (_ : Int) ≤ _
  exact Int.ofNat_le.mpr (Nat.le_of_lt h)
theorem optD_is {o : Option Nat} {c : Nat} {P : Bool → Prop} : eqS (optD o) (.int (c : Nat)) P = P (decide (o = some c)) := by
  cases o with
  | none =>
    show ((_ ∧ _) ∧ P (PyData.eqv .none (.int (c : Nat)))) = _
    have e : PyData.eqv .none (.int (c : Nat)) = false := by simp [PyData.eqv]
    rw [e]
    exact propext ⟨fun h => h.2, fun h => ⟨⟨rfl, rfl⟩, h⟩⟩
  | some d =>
    show P (decide ((d : Int) = (c : Int))) = _
    congr 1
    refine decide_eq_decide.mpr ⟨fun h => ?_, fun h => by cases h; rfl⟩
    congr 1
    omega
theorem snoc_TN {ss : List (List Nat)} {s : List Nat} : (ss.map fun s => PyData.tuple (s.map fun k => PyData.int (k : Nat))) ++ [.tuple (s.map fun k => PyData.int (k : Nat))] = (ss ++ [s]).map fun s => PyData.tuple (s.map fun k => PyData.int (k : Nat)) := by rw [List.map_append]; rfl
/-- a while: as long as the measure is below m -/
theorem whl_run {wt : Store → (Bool → Store → Prop) → Prop} {w : WS} (P : Nat → Store → Prop) {m : Nat} (h0 : P m ρ)
    (h : ∀ m ρ (F : Store → Prop), (∀ m' ρ', m' < m → P m' ρ' → F ρ') → P m ρ → wt ρ fun b ρ1 => if b then w ρ1 { k with nx := F, ct := F, bk := k.nx } else k.nx ρ1) : ∃ n, whlN wt w n ρ k := by
  have key : ∀ (n m : Nat) (ρ : Store), m < n → P m ρ → whlN wt w n ρ k := fun n => by
    induction n with
    | zero => exact fun m ρ hm _ => absurd hm (Nat.not_lt_zero _)
    | succ n ih => exact fun m ρ hm hp => h m ρ (fun ρ2 => whlN wt w n ρ2 k) (fun m' ρ' hm' hp' => ih m' ρ' (by omega) hp') hp
  exact ⟨m + 1, key _ m ρ (Nat.lt_succ_self _) h0⟩
end
section
variable {C : List D} {Γ : Nat → FSpec}
/-- a comprehension whose step writes (the tape): ints that are all G -/
theorem compL_ints {t : Tg} {vs : List Nat} {ρ ρ₀ : Store} {we : Store → (D → Store → Prop) → Prop} {q : List D → Store → Prop} {items : List D} {Rx : Xn → Store → Prop} (P : Store → Prop) (G : Int → Prop) (h0 : P ρ)
    (h : ∀ x ∈ items, ∀ ρ, P ρ → ∀ F : D → Store → Prop, (∀ (i : Int) ρ', G i → P ρ' → F (.int i) ρ') → bindT t x (wipes ρ vs) fun ρ1 => we ρ1 fun d ρ3 => F d (backs ρ₀ ρ3 vs))
    (hq : ∀ (ns : List Int) ρ', P ρ' → ns.length = items.length → (∀ i ∈ ns, G i) → q (ns.map PyData.int) ρ') : compL t vs ρ₀ (wpC C Γ Rx .no) we items [] ρ q := by
  have key : ∀ (its : List D) (ns : List Int) (ρ : Store), P ρ → (∀ x ∈ its, x ∈ items) → ns.length + its.length = items.length → (∀ i ∈ ns, G i) → compL t vs ρ₀ (wpC C Γ Rx .no) we its (ns.map PyData.int) ρ q := fun its => by
    induction its with
    | nil =>
      intro ns ρ hP _ hl hG
      exact hq ns ρ hP (by simpa using hl) hG
    | cons x its ih =>
      intro ns ρ hP hi hl hG
      refine h x (hi x List.mem_cons_self) ρ hP (fun d ρ' => compL t vs ρ₀ (wpC C Γ Rx .no) we its (ns.map PyData.int ++ [d]) ρ' q) fun i ρ' gi hP' => ?_
      have e : ns.map PyData.int ++ [PyData.int i] = (ns ++ [i]).map PyData.int := by rw [List.map_append]; rfl
      rw [e]
      refine ih (ns ++ [i]) ρ' hP' (fun y hy => hi y (List.mem_cons_of_mem _ hy)) ?_ fun y hy => ?_
      · rw [List.length_append, List.length_singleton]
        rw [List.length_cons] at hl
        omega
      · rcases List.mem_append.mp hy with z | z
        · exact hG y z
        · rw [List.mem_singleton.mp z]
          exact gi
  exact key items [] ρ h0 (fun _ h => h) (by simp) fun _ h => nomatch h
end
theorem mtOk_g {x : Od} : mtOk .get ρ x = cont ρ x isDctD := rfl
theorem dctOf_d {ps : List (Int × Int)} : dctOf (dctD ps) = some ps := kvs_map ps
theorem isDct_d {ps : List (Int × Int)} : isDctD (dctD ps) = True := by
  unfold isDctD
  rw [dctOf_d]
  exact eq_true rfl
theorem mut_dct {ps : List (Int × Int)} : isMut (dctD ps) = false := rfl
theorem dct_L {ps : List (Int × Int)} {Q : D → Prop} : bfS .dctO [.tuple (ps.map ipD)] Q = Q (dctD ps) := by
  show (∃ qs, pairsD (ps.map ipD) = some qs ∧ Q (dctD qs)) = _
  rw [pairsD_map]
  exact propext ⟨fun ⟨ms, e, h⟩ => by cases e; exact h, fun h => ⟨ps, rfl, h⟩⟩
def orD (o : Option Int) (d : D) : D := match o with | some i => .int i | none => d
theorem get_L {ps : List (Int × Int)} {k : Int} {d : D} {Q : D → Prop} : mtS .get (dctD ps) [.int k, d] Q = (isMut d = false ∧ Q (orD (lastP ps k) d)) := by
  show (∃ qs, dctOf (dctD ps) = some qs ∧ isMut d = false ∧ Q (match lastP qs k with | some i => .int i | none => d)) = _
  rw [dctOf_d]
  exact propext ⟨fun ⟨ms, e, h⟩ => by cases e; exact h, fun h => ⟨ps, rfl, h⟩⟩
end DL

/-! plain: windows -/
namespace Ma
def cnt (xs : List Int) (W x : Int) : Nat := (xs.filter fun y => decide (x ≤ y ∧ y < x + W)).length
def below (xs : List Int) (v : Int) : Nat := (xs.filter fun y => decide (y < v)).length
theorem below_le (xs : List Int) (v : Int) : below xs v ≤ xs.length := List.length_filter_le _ _
theorem cnt_le (xs : List Int) (W x : Int) : cnt xs W x ≤ xs.length := List.length_filter_le _ _
theorem cnt_perm {xs ys : List Int} (h : xs.Perm ys) (W x : Int) : cnt xs W x = cnt ys W x := (h.filter _).length_eq
theorem below_mono (xs : List Int) {u v : Int} (h : u ≤ v) : below xs u ≤ below xs v := by
  unfold below
  rw [← List.countP_eq_length_filter, ← List.countP_eq_length_filter]
  refine List.countP_mono_left fun x _ hx => ?_
  simp only [decide_eq_true_eq] at *
  omega
theorem cnt_below (xs : List Int) {W : Int} (h : 0 ≤ W) (x : Int) : cnt xs W x + below xs x = below xs (x + W) := by
  unfold cnt below
  induction xs with
  | nil => rfl
  | cons y ys ih =>
    by_cases h1 : y < x
    · rw [List.filter_cons_of_neg (by rw [decide_eq_true_eq]; omega), List.filter_cons_of_pos (by rw [decide_eq_true_eq]; exact h1), List.filter_cons_of_pos (by rw [decide_eq_true_eq]; omega), List.length_cons, List.length_cons]
      omega
    · by_cases h2 : y < x + W
      · rw [List.filter_cons_of_pos (by rw [decide_eq_true_eq]; omega), List.filter_cons_of_neg (by rw [decide_eq_true_eq]; exact h1), List.filter_cons_of_pos (by rw [decide_eq_true_eq]; omega), List.length_cons, List.length_cons]
        omega
      · rw [List.filter_cons_of_neg (by rw [decide_eq_true_eq]; omega), List.filter_cons_of_neg (by rw [decide_eq_true_eq]; exact h1), List.filter_cons_of_neg (by rw [decide_eq_true_eq]; omega)]
        exact ih
theorem sorted_below {xs : List Int} (hs : xs.Pairwise (· ≤ ·)) {v : Int} : ∀ (i : Nat) (h : i < xs.length), (xs[i] < v ↔ i < below xs v) := by
  induction xs with
  | nil => intro i h; cases h
  | cons y ys ih =>
    obtain ⟨h1, h2⟩ := List.pairwise_cons.mp hs
    intro i h
    unfold below
    simp only [List.filter_cons]
    by_cases hy : y < v
    · simp only [hy, decide_true, if_true, List.length_cons]
      cases i with
      | zero => simp [hy]
      | succ i =>
        have z := ih h2 i (by simpa using h)
        unfold below at z
        simp only [List.getElem_cons_succ]
        omega
    · have e : (ys.filter fun y => decide (y < v)) = [] := by
        refine List.filter_eq_nil_iff.mpr fun z hz => ?_
        have := h1 z hz
        simp only [decide_eq_true_eq]
        omega
      simp only [hy, decide_false, Bool.false_eq_true, if_false, e, List.length_nil, Nat.not_lt_zero, iff_false]
      cases i with
      | zero => exact hy
      | succ i =>
        have := h1 _ (List.getElem_mem (l := ys) (n := i) (by simpa using h))
        simp only [List.getElem_cons_succ]
        omega
/-- what window_counts gives -/
def wcs (xs : List Int) (W : Int) : List Int := xs.mapIdx fun p x => (below xs (x + W) : Int) - p
theorem wcs_len (xs : List Int) (W : Int) : (wcs xs W).length = xs.length := List.length_mapIdx
theorem wcs_at {xs : List Int} {W : Int} {p : Nat} (h : p < xs.length) : (wcs xs W)[p]? = some ((below xs (xs[p] + W) : Int) - p) := by
  unfold wcs
  rw [List.getElem?_mapIdx, List.getElem?_eq_getElem h]
  rfl
def cover (xs : List Int) (W : Int) : Int := maxD 0 (xs.map fun x => (cnt xs W x : Int))
theorem cover_perm {xs ys : List Int} (h : xs.Perm ys) (W : Int) : cover xs W = cover ys W := by
  unfold cover
  have e : (fun x => (cnt xs W x : Int)) = fun x => (cnt ys W x : Int) := funext fun x => by rw [cnt_perm h]
  rw [e]
  exact maxD_perm (h.map _)
theorem cover_nil (W : Int) : cover [] W = 0 := rfl
theorem cover_nonneg (xs : List Int) (W : Int) : 0 ≤ cover xs W := by
  cases xs with
  | nil => exact Int.le_refl _
  | cons x xs =>
    unfold cover
    have := maxD_le (d := 0) (List.mem_map_of_mem (f := fun y => (cnt (x :: xs) W y : Int)) (List.mem_cons_self (a := x) (l := xs)))
    have l : (0 : Int) ≤ (cnt (x :: xs) W x : Int) := Int.natCast_nonneg _
    exact Int.le_trans l this
theorem cnt_le_cover {xs : List Int} {W x : Int} (h : x ∈ xs) : (cnt xs W x : Int) ≤ cover xs W := maxD_le (List.mem_map_of_mem (f := fun x => (cnt xs W x : Int)) h)
theorem cover_at {xs : List Int} {W : Int} (h : xs ≠ []) : ∃ x ∈ xs, (cnt xs W x : Int) = cover xs W := by
  have z := maxD_mem (d := 0) (xs := xs.map fun x => (cnt xs W x : Int)) (by simpa using h)
  obtain ⟨x, hx, e⟩ := List.mem_map.mp z
  exact ⟨x, hx, e⟩
theorem cover_uniq {xs : List Int} {W m : Int} (h1 : ∀ x ∈ xs, (cnt xs W x : Int) ≤ m) (h2 : (xs = [] ∧ m = 0) ∨ ∃ x ∈ xs, (cnt xs W x : Int) = m) : m = cover xs W := by
  rcases h2 with ⟨rfl, rfl⟩ | ⟨x, hx, e⟩
  · rfl
  · have := cnt_le_cover (W := W) hx
    obtain ⟨y, hy, e2⟩ := cover_at (xs := xs) (W := W) fun z => by rw [z] at hx; cases hx
    have := h1 y hy
    omega
/-- any window, wherever it starts -/
theorem cnt_le_cover_any (xs : List Int) {W : Int} (hW : 0 ≤ W) (x : Int) : (cnt xs W x : Int) ≤ cover xs W := by
  by_cases h : (xs.filter fun y => decide (x ≤ y ∧ y < x + W)) = []
  · have : cnt xs W x = 0 := by unfold cnt; rw [h]; rfl
    rw [this]
    exact cover_nonneg xs W
  · -- the least element in the window
    let zs := xs.filter fun y => decide (x ≤ y ∧ y < x + W)
    have hm := minD_mem (d := 0) (xs := zs) h
    obtain ⟨m1, m2⟩ := List.mem_filter.mp hm
    have m2 := of_decide_eq_true m2
    refine Int.le_trans ?_ (cnt_le_cover (W := W) m1)
    have : cnt xs W x ≤ cnt xs W (minD 0 zs) := by
      unfold cnt
      rw [← List.countP_eq_length_filter, ← List.countP_eq_length_filter]
      refine List.countP_mono_left fun y hy hp => ?_
      have hz : y ∈ zs := List.mem_filter.mpr ⟨hy, hp⟩
      have := minD_le (d := 0) hz
      simp only [decide_eq_true_eq] at *
      omega
    exact_mod_cast this
theorem wcs_first {xs : List Int} (hs : xs.Pairwise (· ≤ ·)) {W : Int} (hW : 0 ≤ W) {x : Int} (hx : x ∈ xs) : ∃ (h : below xs x < xs.length), xs[below xs x] = x ∧ (wcs xs W)[below xs x]? = some (cnt xs W x : Int) := by
  obtain ⟨i, hi, e⟩ := List.getElem_of_mem hx
  have z : ¬ i < below xs x := fun z => by
    have := (sorted_below hs (v := x) i hi).mpr z
    omega
  have hl : below xs x < xs.length := by omega
  have e1 : ¬ xs[below xs x] < x := fun z => Nat.lt_irrefl _ ((sorted_below hs _ hl).mp z)
  have e2 : xs[below xs x] ≤ x := by
    rcases Nat.lt_or_eq_of_le (Nat.not_lt.mp z) with l | l
    · have := List.pairwise_iff_getElem.mp hs _ _ hl hi l
      omega
    · have : xs[below xs x] = xs[i] := by congr
      omega
  have e3 : xs[below xs x] = x := by omega
  refine ⟨hl, e3, ?_⟩
  rw [wcs_at hl, e3]
  have := cnt_below xs hW x
  congr 1
  omega
theorem wcs_le {xs : List Int} (hs : xs.Pairwise (· ≤ ·)) {W : Int} (hW : 0 ≤ W) {p : Nat} (hp : p < xs.length) : (below xs (xs[p] + W) : Int) - p ≤ cnt xs W xs[p] := by
  have := cnt_below xs hW xs[p]
  have z : ¬ p < below xs xs[p] := fun z => by
    have := (sorted_below hs (v := xs[p]) p hp).mpr z
    omega
  omega
theorem max_wcs {xs : List Int} (hs : xs.Pairwise (· ≤ ·)) {W : Int} (hW : 0 ≤ W) : maxD 0 (wcs xs W) = cover xs W := by
  refine cover_uniq (fun x hx => ?_) ?_
  · obtain ⟨_, _, e⟩ := wcs_first hs hW hx
    exact maxD_le (List.mem_of_getElem? e)
  · by_cases e : xs = []
    · exact .inl ⟨e, by rw [e]; rfl⟩
    · have hn : wcs xs W ≠ [] := fun z => e (List.length_eq_zero_iff.mp (by rw [← wcs_len xs W, z]; rfl))
      have hm := maxD_mem (d := 0) hn
      obtain ⟨p, hp, e1⟩ := List.getElem_of_mem hm
      have hp' : p < xs.length := by rw [← wcs_len xs W]; exact hp
      have e2 := wcs_at (W := W) hp'
      rw [List.getElem?_eq_getElem hp, e1] at e2
      have e3 := Option.some.inj e2
      have l := wcs_le hs hW hp'
      obtain ⟨_, _, e4⟩ := wcs_first hs hW (List.getElem_mem hp')
      have l2 := maxD_le (d := 0) (List.mem_of_getElem? e4)
      exact .inr ⟨xs[p], List.getElem_mem hp', by omega⟩
/-- the starts -/
def starts (xs : List Int) (W : Int) : List Int := (dst xs).filter fun x => decide ((cnt xs W x : Int) = cover xs W)
theorem starts_perm {xs ys : List Int} (h : xs.Perm ys) (W : Int) : starts xs W = starts ys W := by
  unfold starts
  rw [dst_perm h, cover_perm h]
  congr 1
  funext x
  rw [cnt_perm h]
theorem starts_mem {xs : List Int} {W x : Int} : x ∈ starts xs W ↔ x ∈ xs ∧ (cnt xs W x : Int) = cover xs W := by
  unfold starts
  rw [List.mem_filter, dst_mem, decide_eq_true_eq]
theorem starts_asc (xs : List Int) (W : Int) : (starts xs W).Pairwise (· < ·) := (dst_asc xs).filter _
theorem starts_uniq {xs : List Int} {W : Int} {ss : List Int} (h : ss.Pairwise (· < ·)) (hm : ∀ x, x ∈ ss ↔ x ∈ xs ∧ (cnt xs W x : Int) = cover xs W) : ss = starts xs W :=
  asc_ext h (starts_asc xs W) fun x => (hm x).trans starts_mem.symm
theorem starts_nil (W : Int) : starts [] W = [] := by
  refine (starts_uniq List.Pairwise.nil fun x => ?_).symm
  simp
theorem starts_ne {xs : List Int} {W : Int} (h : xs ≠ []) : starts xs W ≠ [] := by
  obtain ⟨x, hx, e⟩ := cover_at (W := W) h
  exact List.ne_nil_of_mem (starts_mem.mpr ⟨hx, e⟩)
/-- the program's way -/
theorem starts_zip {xs : List Int} (hs : xs.Pairwise (· ≤ ·)) {W : Int} (hW : 0 < W) : ((xs.zip (wcs xs W)).filter fun p => decide (p.2 = cover xs W)).map (·.1) = starts xs W := by
  have hat : ∀ p q : Int, (p, q) ∈ xs.zip (wcs xs W) ↔ ∃ (i : Nat) (h : i < xs.length), xs[i] = p ∧ (below xs (xs[i] + W) : Int) - i = q := fun p q => by
    constructor
    · intro h
      obtain ⟨i, hi, e⟩ := List.getElem_of_mem h
      have hi' : i < xs.length := by
        rw [List.length_zip] at hi
        omega
      rw [List.getElem_zip] at e
      have e2 := wcs_at (W := W) hi'
      rw [List.getElem?_eq_getElem (by rw [wcs_len]; exact hi')] at e2
      have e2 := Option.some.inj e2
      injection e with e3 e4
      exact ⟨i, hi', e3, by rw [← e2]; exact e4⟩
    · rintro ⟨i, hi, e1, e2⟩
      have e3 := wcs_at (W := W) hi
      refine List.mem_of_getElem? (i := i) ?_
      rw [List.getElem?_zip_eq_some]
      exact ⟨by rw [List.getElem?_eq_getElem hi, e1], by rw [e3, e2]⟩
  refine starts_uniq ?_ fun x => ?_
  · refine List.pairwise_iff_getElem.mpr fun i j hi hj hij => ?_
    have hsub : ((((xs.zip (wcs xs W)).filter fun p => decide (p.2 = cover xs W)).map (·.1))).Sublist xs := by
      have a : (((xs.zip (wcs xs W)).filter fun p => decide (p.2 = cover xs W)).map (·.1)).Sublist ((xs.zip (wcs xs W)).map (·.1)) := (List.filter_sublist).map _
      have b : (xs.zip (wcs xs W)).map (·.1) = xs := List.map_fst_zip (by rw [wcs_len]; exact Nat.le_refl _)
      rw [b] at a
      exact a
    have hle := List.pairwise_iff_getElem.mp (hs.sublist hsub) i j hi hj hij
    refine Int.lt_iff_le_and_ne.mpr ⟨hle, fun e => ?_⟩
    -- equal neighbours: different indices in xs, same value, both counts greatest
    have hp : ((xs.zip (wcs xs W)).filter fun p => decide (p.2 = cover xs W)).Pairwise fun a b => a.1 ≠ b.1 := by
      refine List.Pairwise.imp_of_mem (R := fun a b : Int × Int => a.1 = b.1 → b.2 < a.2) (fun {a b} ha hb hab he => ?_) (List.Pairwise.filter _ ?_)
      · have h1 := of_decide_eq_true (List.mem_filter.mp ha).2
        have h2 := of_decide_eq_true (List.mem_filter.mp hb).2
        have := hab he
        omega
      · refine List.pairwise_iff_getElem.mpr fun k l hk hl hkl => ?_
        intro he
        rw [List.getElem_zip, List.getElem_zip] at he ⊢
        have hk' : k < xs.length := by rw [List.length_zip] at hk; omega
        have hl' : l < xs.length := by rw [List.length_zip] at hl; omega
        have ek := wcs_at (W := W) hk'
        have el := wcs_at (W := W) hl'
        rw [List.getElem?_eq_getElem (by rw [wcs_len]; exact hk')] at ek
        rw [List.getElem?_eq_getElem (by rw [wcs_len]; exact hl')] at el
        have ek := Option.some.inj ek
        have el := Option.some.inj el
        have he : xs[k] = xs[l] := he
        have g : (wcs xs W)[l]'(by rw [wcs_len]; exact hl') < (wcs xs W)[k]'(by rw [wcs_len]; exact hk') := by
          rw [ek, el, he]
          omega
        exact g
    have hn := List.pairwise_iff_getElem.mp (List.pairwise_map.mpr hp) i j hi hj hij
    exact hn e
  · rw [List.mem_map]
    constructor
    · rintro ⟨⟨p, q⟩, h, rfl⟩
      obtain ⟨h1, h2⟩ := List.mem_filter.mp h
      have h2 : q = cover xs W := of_decide_eq_true h2
      obtain ⟨i, hi, rfl, e⟩ := (hat _ _).mp h1
      refine ⟨List.getElem_mem hi, ?_⟩
      have l1 := cnt_le_cover (W := W) (List.getElem_mem hi)
      have l2 := wcs_le hs (Int.le_of_lt hW) hi
      show (cnt xs W xs[i] : Int) = cover xs W
      omega
    · rintro ⟨h1, h2⟩
      obtain ⟨hb, e1, e2⟩ := wcs_first hs (Int.le_of_lt hW) h1
      refine ⟨(x, cover xs W), List.mem_filter.mpr ⟨(hat _ _).mpr ⟨_, hb, e1, ?_⟩, decide_eq_true rfl⟩, rfl⟩
      rw [wcs_at hb] at e2
      have := Option.some.inj e2
      omega
def base (xs : List Int) (W : Int) : Int := (starts xs W).headD 0
theorem base_perm {xs ys : List Int} (h : xs.Perm ys) (W : Int) : base xs W = base ys W := by
  unfold base
  rw [starts_perm h]
theorem base_nil (W : Int) : base [] W = 0 := by
  unfold base
  rw [starts_nil]
  rfl
theorem base_mem {xs : List Int} {W : Int} (h : xs ≠ []) : base xs W ∈ xs ∧ (cnt xs W (base xs W) : Int) = cover xs W ∧ ∀ x ∈ xs, (cnt xs W x : Int) = cover xs W → base xs W ≤ x := by
  have hn := starts_ne (W := W) h
  unfold base
  have ha := starts_asc xs W
  have hm := fun x => starts_mem (xs := xs) (W := W) (x := x)
  revert hn ha hm
  generalize starts xs W = ss
  intro hn ha hm
  cases ss with
  | nil => exact absurd rfl hn
  | cons s ss =>
    obtain ⟨h1, h2⟩ := (hm s).mp List.mem_cons_self
    refine ⟨h1, h2, fun x hx e => ?_⟩
    rcases List.mem_cons.mp ((hm x).mpr ⟨hx, e⟩) with z | z
    · subst z; exact Int.le_refl _
    · exact Int.le_of_lt ((List.pairwise_cons.mp ha).1 x z)
theorem base_uniq {xs : List Int} {W b : Int} (h : b ∈ xs) (h2 : ∀ x ∈ xs, (cnt xs W x : Int) ≤ cnt xs W b) (h3 : ∀ x ∈ xs, cnt xs W x = cnt xs W b → b ≤ x) : b = base xs W := by
  obtain ⟨a1, a2, a3⟩ := base_mem (W := W) (List.ne_nil_of_mem h)
  have e : (cnt xs W b : Int) = cover xs W := cover_uniq h2 (.inr ⟨b, h, rfl⟩)
  have := a3 b h e
  have := h3 _ a1 (by omega)
  omega
theorem cover_base (xs : List Int) (W : Int) : cover xs W = cnt xs W (base xs W) := by
  by_cases h : xs = []
  · subst h
    rfl
  · exact (base_mem h).2.1.symm
def places (xs : List Int) (W : Int) : List Nat := (List.range xs.length).filter fun k => decide (base xs W ≤ xs.getD k 0 ∧ xs.getD k 0 < base xs W + W)
theorem zipIdx_range (xs : List Int) : xs.zipIdx = (List.range xs.length).map fun k => (xs.getD k 0, k) := by
  apply List.ext_getElem
  · simp
  · intro i h1 h2
    have h : i < xs.length := by simpa using h1
    simp [List.getD_eq_getElem?_getD, List.getElem?_eq_getElem h]
theorem places_zip (xs : List Int) (W : Int) (p : Int × Nat → Bool) (hp : ∀ q, p q = decide (base xs W ≤ q.1 ∧ q.1 < base xs W + W)) : (xs.zipIdx.filter p).map (·.2) = places xs W := by
  rw [zipIdx_range, List.filter_map, List.map_map]
  have e : p ∘ (fun k => (xs.getD k 0, k)) = fun k => decide (base xs W ≤ xs.getD k 0 ∧ xs.getD k 0 < base xs W + W) := funext fun k => hp _
  rw [e]
  show List.map (fun k => k) _ = _
  rw [List.map_id']
  rfl
end Ma

/-! plain: windows of all widths, moved, joined -/
namespace Ma
theorem cnt_mono (xs : List Int) {W V : Int} (h : W ≤ V) (x : Int) : cnt xs W x ≤ cnt xs V x := by
  unfold cnt
  rw [← List.countP_eq_length_filter, ← List.countP_eq_length_filter]
  refine List.countP_mono_left fun y _ hp => ?_
  simp only [decide_eq_true_eq] at *
  omega
theorem cover_mono (xs : List Int) {W V : Int} (h : W ≤ V) : cover xs W ≤ cover xs V := by
  by_cases e : xs = []
  · subst e
    exact Int.le_refl _
  · obtain ⟨x, hx, e2⟩ := cover_at (W := W) e
    have := cnt_mono xs h x
    have := cnt_le_cover (W := V) hx
    omega
theorem cnt_split (xs : List Int) {W : Int} (h : 0 ≤ W) (x : Int) : cnt xs (2 * W) x = cnt xs W x + cnt xs W (x + W) := by
  have a := cnt_below xs (W := 2 * W) (by omega) x
  have b := cnt_below xs h x
  have c := cnt_below xs h (x + W)
  have e : x + W + W = x + 2 * W := by omega
  rw [e] at c
  omega
theorem cover_double (xs : List Int) {W : Int} (h : 0 ≤ W) : cover xs (2 * W) ≤ 2 * cover xs W := by
  by_cases e : xs = []
  · subst e
    exact Int.le_refl _
  · obtain ⟨x, hx, e2⟩ := cover_at (W := 2 * W) e
    have := cnt_split xs h x
    have := cnt_le_cover_any xs h x
    have := cnt_le_cover_any xs h (x + W)
    omega
theorem cover_le_len (xs : List Int) (W : Int) : cover xs W ≤ xs.length := by
  by_cases e : xs = []
  · subst e
    exact Int.le_refl _
  · obtain ⟨x, hx, e2⟩ := cover_at (W := W) e
    have := cnt_le xs W x
    omega
def spread (xs : List Int) : Int := maxD 0 xs - minD 0 xs
theorem spread_nonneg (xs : List Int) : 0 ≤ spread xs := by
  unfold spread
  cases xs with
  | nil => exact Int.le_refl _
  | cons x xs =>
    have := maxD_le (d := 0) (List.mem_cons_self (a := x) (l := xs))
    have := minD_le (d := 0) (List.mem_cons_self (a := x) (l := xs))
    omega
theorem spread_perm {xs ys : List Int} (h : xs.Perm ys) : spread xs = spread ys := by
  unfold spread
  rw [maxD_perm h, minD_perm h]
theorem cover_full {xs : List Int} {W : Int} (h : spread xs < W) : cover xs W = xs.length := by
  by_cases e : xs = []
  · subst e
    rfl
  · have hm := minD_mem (d := 0) e
    have hc : cnt xs W (minD 0 xs) = xs.length := by
      unfold cnt
      rw [List.filter_eq_self.mpr]
      intro y hy
      have := minD_le (d := 0) hy
      have := maxD_le (d := 0) hy
      unfold spread at h
      simp only [decide_eq_true_eq]
      omega
    have := cnt_le_cover (W := W) hm
    have := cover_le_len xs W
    omega
theorem cover_lt {xs : List Int} {W : Int} (hn : xs ≠ []) (h : W ≤ spread xs) : cover xs W < xs.length := by
  obtain ⟨x, hx, e⟩ := cover_at (W := W) hn
  have l := cnt_le xs W x
  refine Int.lt_iff_le_and_ne.mpr ⟨by omega, fun q => ?_⟩
  have hl : (xs.filter fun y => decide (x ≤ y ∧ y < x + W)).length = xs.length := by
    have : cnt xs W x = xs.length := by omega
    exact this
  have ha := List.filter_eq_self.mp ((List.filter_sublist).eq_of_length hl)
  have h1 := ha _ (maxD_mem (d := 0) hn)
  have h2 := ha _ (minD_mem (d := 0) hn)
  simp only [decide_eq_true_eq] at h1 h2
  unfold spread at h
  omega
/-! the law's run -/
def runAt (xs : List Int) (W : Int) (k : Nat) : Int := (k : Int) - below xs (xs.getD k 0 - W + 1) + 1
theorem runAt_le {xs : List Int} (hs : xs.Pairwise (· ≤ ·)) {W : Int} (hW : 0 < W) {k : Nat} (hk : k < xs.length) : runAt xs W k ≤ cover xs W ∧ below xs (xs.getD k 0 - W + 1) ≤ k := by
  have e : xs.getD k 0 = xs[k] := by rw [List.getD_eq_getElem?_getD, List.getElem?_eq_getElem hk]; rfl
  unfold runAt
  rw [e]
  have hb : below xs (xs[k] - W + 1) ≤ k := Nat.not_lt.mp fun z => by
    have := (sorted_below hs (v := xs[k] - W + 1) k hk).mpr z
    omega
  refine ⟨?_, hb⟩
  have c := cnt_below xs (W := W) (by omega) (xs[k] - W + 1)
  have d : k < below xs (xs[k] - W + 1 + W) := (sorted_below hs k hk).mp (by omega)
  have := cnt_le_cover_any xs (W := W) (by omega) (xs[k] - W + 1)
  omega
theorem runAt_top {xs : List Int} (hs : xs.Pairwise (· ≤ ·)) {W : Int} (hW : 0 < W) (hn : xs ≠ []) : ∃ k, k < xs.length ∧ cover xs W ≤ runAt xs W k := by
  obtain ⟨x, hx, e⟩ := cover_at (W := W) hn
  have c := cnt_below xs (W := W) (by omega) x
  have b1 := below_le xs (x + W)
  have hpos : 0 < cnt xs W x := List.length_pos_iff.mpr (List.ne_nil_of_mem (a := x) (List.mem_filter.mpr ⟨hx, by rw [decide_eq_true_eq]; omega⟩))
  have hk : below xs (x + W) - 1 < xs.length := by omega
  refine ⟨_, hk, ?_⟩
  have e2 : xs.getD (below xs (x + W) - 1) 0 = xs[below xs (x + W) - 1] := by rw [List.getD_eq_getElem?_getD, List.getElem?_eq_getElem hk]; rfl
  unfold runAt
  rw [e2]
  have h1 := (sorted_below hs (v := x + W) _ hk).mpr (by omega)
  have h2 := below_mono xs (u := xs[below xs (x + W) - 1] - W + 1) (v := x) (by omega)
  omega
theorem run_cover {xs : List Int} (hs : xs.Pairwise (· ≤ ·)) {W : Int} (hW : 0 < W) {m : Int} (h1 : ∀ k, k < xs.length → runAt xs W k ≤ m) (h2 : (xs = [] ∧ m = 0) ∨ ∃ k, k < xs.length ∧ runAt xs W k = m) : m = cover xs W := by
  rcases h2 with ⟨rfl, rfl⟩ | ⟨k, hk, e⟩
  · rfl
  · have := (runAt_le hs hW hk).1
    obtain ⟨j, hj, e2⟩ := runAt_top hs hW (fun z => by rw [z] at hk; cases hk)
    have := h1 j hj
    omega
/-! joined -/
theorem cnt_append (xs ys : List Int) (W x : Int) : cnt (xs ++ ys) W x = cnt xs W x + cnt ys W x := by
  unfold cnt
  rw [List.filter_append, List.length_append]
theorem cover_append {xs ys : List Int} {W : Int} (hW : 0 ≤ W) : cover xs W ≤ cover (xs ++ ys) W ∧ cover ys W ≤ cover (xs ++ ys) W ∧ cover (xs ++ ys) W ≤ cover xs W + cover ys W := by
  have up : ∀ zs : List Int, (∀ x, cnt zs W x ≤ cnt (xs ++ ys) W x) → cover zs W ≤ cover (xs ++ ys) W := fun zs h => by
    by_cases e : zs = []
    · subst e
      exact cover_nonneg _ _
    · obtain ⟨x, hx, e⟩ := cover_at (W := W) e
      have := h x
      have := cnt_le_cover_any (xs ++ ys) hW x
      omega
  refine ⟨up xs fun x => by rw [cnt_append]; omega, up ys fun x => by rw [cnt_append]; omega, ?_⟩
  by_cases e : xs ++ ys = []
  · rw [e]
    have := cover_nonneg xs W
    have := cover_nonneg ys W
    rw [cover_nil]
    omega
  · obtain ⟨x, hx, e⟩ := cover_at (W := W) e
    rw [cnt_append] at e
    have := cnt_le_cover_any xs hW x
    have := cnt_le_cover_any ys hW x
    omega
theorem cnt_cons (f : Int) (xs : List Int) (W x : Int) : cnt (f :: xs) W x = cnt xs W x + if x ≤ f ∧ f < x + W then 1 else 0 := by
  unfold cnt
  by_cases h : x ≤ f ∧ f < x + W
  · rw [List.filter_cons_of_pos (by rw [decide_eq_true_eq]; exact h), if_pos h, List.length_cons]
  · rw [List.filter_cons_of_neg (by rw [decide_eq_true_eq]; exact h), if_neg h]
    omega
theorem cover_more {xs : List Int} {W f : Int} (hW : 0 < W) : cover (f :: xs) W = cover xs W + if (∃ x ∈ f :: xs, (x ≤ f ∧ f < x + W) ∧ (cnt xs W x : Int) = cover xs W) then 1 else 0 := by
  symm
  refine cover_uniq (fun x hx => ?_) (.inr ?_)
  · rw [cnt_cons]
    have l := cnt_le_cover_any xs (Int.le_of_lt hW) x
    by_cases hc : x ≤ f ∧ f < x + W
    · rw [if_pos hc]
      by_cases he : (cnt xs W x : Int) = cover xs W
      · rw [if_pos ⟨x, hx, hc, he⟩]
        omega
      · split <;> omega
    · rw [if_neg hc]
      split <;> omega
  · split
    · next h =>
      obtain ⟨x, hx, hc, he⟩ := h
      refine ⟨x, hx, ?_⟩
      rw [cnt_cons, if_pos hc]
      omega
    · next h =>
      by_cases e : xs = []
      · subst e
        exact absurd ⟨f, List.mem_cons_self, ⟨by omega, by omega⟩, rfl⟩ h
      · obtain ⟨x, hx, he⟩ := cover_at (W := W) e
        refine ⟨x, List.mem_cons_of_mem _ hx, ?_⟩
        have hc : ¬ (x ≤ f ∧ f < x + W) := fun z => h ⟨x, List.mem_cons_of_mem _ hx, z, he⟩
        rw [cnt_cons, if_neg hc]
        omega
/-! moved -/
theorem cnt_add (xs : List Int) (c W x : Int) : cnt (xs.map (· + c)) W (x + c) = cnt xs W x := by
  unfold cnt
  rw [List.filter_map, List.length_map]
  congr 2
  funext y
  show decide (x + c ≤ y + c ∧ y + c < x + c + W) = _
  congr 1
  exact propext ⟨fun h => ⟨by omega, by omega⟩, fun h => ⟨by omega, by omega⟩⟩
theorem cover_add (xs : List Int) (c W : Int) : cover (xs.map (· + c)) W = cover xs W := by
  unfold cover
  rw [List.map_map]
  congr 1
  refine List.map_congr_left fun x _ => ?_
  show ((cnt (xs.map (· + c)) W (x + c) : Nat) : Int) = _
  rw [cnt_add]
theorem starts_add (xs : List Int) (c W : Int) : starts (xs.map (· + c)) W = (starts xs W).map (· + c) := by
  symm
  refine starts_uniq ?_ fun x => ?_
  · refine List.pairwise_map.mpr ((starts_asc xs W).imp fun h => by omega)
  · rw [List.mem_map, List.mem_map, cover_add]
    constructor
    · rintro ⟨y, hy, rfl⟩
      obtain ⟨h1, h2⟩ := starts_mem.mp hy
      exact ⟨⟨y, h1, rfl⟩, by rw [cnt_add]; exact h2⟩
    · rintro ⟨⟨y, hy, rfl⟩, h2⟩
      rw [cnt_add] at h2
      exact ⟨y, starts_mem.mpr ⟨hy, h2⟩, rfl⟩
theorem base_add {xs : List Int} (hn : xs ≠ []) (c W : Int) : base (xs.map (· + c)) W = base xs W + c := by
  unfold base
  rw [starts_add]
  have := starts_ne (W := W) hn
  cases h : starts xs W with
  | nil => exact absurd h this
  | cons s ss => rfl
theorem places_add (xs : List Int) (c W : Int) : places (xs.map (· + c)) W = places xs W := by
  by_cases hn : xs = []
  · subst hn
    rfl
  · unfold places
    rw [List.length_map, base_add hn]
    refine List.filter_congr fun k hk => ?_
    have hk : k < xs.length := List.mem_range.mp hk
    have e : (xs.map (· + c)).getD k 0 = xs.getD k 0 + c := by
      rw [List.getD_eq_getElem?_getD, List.getD_eq_getElem?_getD, List.getElem?_map, List.getElem?_eq_getElem hk]
      rfl
    rw [e]
    congr 1
    exact propext ⟨fun h => ⟨by omega, by omega⟩, fun h => ⟨by omega, by omega⟩⟩
theorem cnt_neg (xs : List Int) (W x : Int) : cnt (xs.map (- ·)) W x = cnt xs W (-x - W + 1) := by
  unfold cnt
  rw [List.filter_map, List.length_map]
  congr 2
  funext y
  show decide (x ≤ -y ∧ -y < x + W) = _
  congr 1
  exact propext ⟨fun h => ⟨by omega, by omega⟩, fun h => ⟨by omega, by omega⟩⟩
theorem cover_neg_le (xs : List Int) {W : Int} (h : 0 ≤ W) : cover (xs.map (- ·)) W ≤ cover xs W := by
  by_cases e : xs = []
  · subst e
    exact Int.le_refl _
  · obtain ⟨x, hx, e2⟩ := cover_at (xs := xs.map (- ·)) (W := W) (by simpa using e)
    rw [cnt_neg] at e2
    have := cnt_le_cover_any xs h (-x - W + 1)
    omega
theorem cover_neg (xs : List Int) {W : Int} (h : 0 ≤ W) : cover (xs.map (- ·)) W = cover xs W := by
  have a := cover_neg_le xs h
  have b := cover_neg_le (xs.map (- ·)) h
  rw [List.map_map] at b
  have e : ((fun x : Int => -x) ∘ fun x : Int => -x) = id := funext fun x => Int.neg_neg x
  rw [e, List.map_id] at b
  omega
/-! a collection -/
theorem close_le {xs ys : List Int} {W : Int} (hW : 0 < W) (hs : ∀ z : Int, ys.count z ≤ xs.count z) (hc : maxD 0 ys - minD 0 ys < W) : (ys.length : Int) ≤ cover xs W := by
  by_cases e : ys = []
  · subst e
    exact cover_nonneg _ _
  · have h1 : cnt ys W (minD 0 ys) = ys.length := by
      unfold cnt
      rw [List.filter_eq_self.mpr]
      intro y hy
      have := minD_le (d := 0) hy
      have := maxD_le (d := 0) hy
      simp only [decide_eq_true_eq]
      omega
    have h2 : cnt ys W (minD 0 ys) ≤ cnt xs W (minD 0 ys) := by
      have hp : ∃ zs, (ys ++ zs).Perm xs := by
        clear h1 hc e
        induction ys generalizing xs with
        | nil => exact ⟨xs, List.Perm.refl _⟩
        | cons y ys ih =>
          have hy : y ∈ xs := List.count_pos_iff.mp (Nat.lt_of_lt_of_le (by rw [List.count_cons_self]; omega) (hs y))
          have pe := List.perm_cons_erase hy
          obtain ⟨zs, hz⟩ := ih (xs := xs.erase y) fun z => by
            have := hs z
            have q := pe.count_eq z
            rw [q, List.count_cons, List.count_cons] at this
            omega
          exact ⟨zs, (hz.cons y).trans pe.symm⟩
      obtain ⟨zs, hz⟩ := hp
      rw [← cnt_perm hz, cnt_append]
      omega
    have := cnt_le_cover_any xs (Int.le_of_lt hW) (minD 0 ys)
    omega
theorem places_len (xs : List Int) (W : Int) : ((places xs W).length : Int) = cover xs W := by
  rw [cover_base]
  have e : places xs W = (xs.zipIdx.filter fun q => decide (base xs W ≤ q.1 ∧ q.1 < base xs W + W)).map (·.2) := (places_zip xs W _ fun _ => rfl).symm
  rw [e, List.length_map]
  unfold cnt
  have h : ∀ (k : Nat), ((xs.zipIdx k).filter fun q => decide (base xs W ≤ q.1 ∧ q.1 < base xs W + W)).length = (xs.filter fun y => decide (base xs W ≤ y ∧ y < base xs W + W)).length := by
    clear e
    generalize base xs W = b
    induction xs with
    | nil => intro k; rfl
    | cons x xs ih =>
      intro k
      rw [List.zipIdx_cons]
      by_cases c : b ≤ x ∧ x < b + W
      · rw [List.filter_cons_of_pos (by rw [decide_eq_true_eq]; exact c), List.filter_cons_of_pos (by rw [decide_eq_true_eq]; exact c), List.length_cons, List.length_cons, ih]
      · rw [List.filter_cons_of_neg (by rw [decide_eq_true_eq]; exact c), List.filter_cons_of_neg (by rw [decide_eq_true_eq]; exact c), ih]
  rw [h 0]
theorem places_lt {xs : List Int} {W : Int} {k : Nat} (h : k ∈ places xs W) : k < xs.length ∧ base xs W ≤ xs.getD k 0 ∧ xs.getD k 0 < base xs W + W := by
  obtain ⟨h1, h2⟩ := List.mem_filter.mp h
  exact ⟨List.mem_range.mp h1, of_decide_eq_true h2⟩
theorem places_nodup (xs : List Int) (W : Int) : (places xs W).Pairwise (· < ·) := List.pairwise_lt_range.filter _
end Ma

/-! plain: choices of references -/
namespace Ma
theorem nodup_len : ∀ (n : Nat) (f : List Nat), f.Nodup → (∀ x ∈ f, x < n) → f.length ≤ n
  | 0, f, _, h => by
    cases f with
    | nil => exact Nat.le_refl _
    | cons x f => exact absurd (h x List.mem_cons_self) (Nat.not_lt_zero _)
  | n + 1, f, hn, h => by
    by_cases hm : n ∈ f
    · have h1 := nodup_len n (f.erase n) (hn.erase n) fun x hx => by
        have := h x (List.mem_of_mem_erase hx)
        have : x ≠ n := fun e => by
          rw [e] at hx
          exact (hn.mem_erase_iff.mp hx).1 rfl
        omega
      rw [List.length_erase_of_mem hm] at h1
      omega
    · have := nodup_len n f hn fun x hx => by
        have := h x hx
        have : x ≠ n := fun e => hm (by rw [← e]; exact hx)
        omega
      omega
def nxt (cs : List (Option Nat)) (c : Nat) : Option Nat := cs.getD c none
def ChOk (cs : List (Option Nat)) : Prop := ∀ r, some r ∈ cs → r < cs.length
theorem ChOk.nxt {cs : List (Option Nat)} (h : ChOk cs) {c r : Nat} (e : nxt cs c = some r) : r < cs.length := by
  unfold Ma.nxt at e
  refine h r ?_
  rw [List.getD_eq_getElem?_getD] at e
  cases q : cs[c]? with
  | none =>
    rw [q] at e
    cases e
  | some o =>
    rw [q] at e
    have e : o = some r := e
    subst e
    exact List.mem_of_getElem? q
def walk (cs : List (Option Nat)) : Nat → List Nat → Option Nat → List Nat × Option Nat
  | 0, f, o => (f, o)
  | _ + 1, f, none => (f, none)
  | n + 1, f, some c => if c ∈ f then (f, some c) else walk cs n (f ++ [c]) (nxt cs c)
theorem walk_none (cs : List (Option Nat)) (n : Nat) (f : List Nat) : walk cs n f none = (f, none) := by
  cases n <;> rfl
theorem walk_in {cs : List (Option Nat)} {n : Nat} {f : List Nat} {c : Nat} (h : c ∈ f) : walk cs n f (some c) = (f, some c) := by
  cases n with
  | zero => rfl
  | succ n => exact if_pos h
theorem walk_go {cs : List (Option Nat)} {n : Nat} {f : List Nat} {c : Nat} (h : c ∉ f) : walk cs (n + 1) f (some c) = walk cs n (f ++ [c]) (nxt cs c) := if_neg h
def followed (cs : List (Option Nat)) (c : Nat) : List Nat × Option Nat := walk cs (cs.length + 1) [] (some c)
/-- what is met is different and in range -/
structure Met (cs : List (Option Nat)) (f : List Nat) (o : Option Nat) : Prop where
  nd : f.Nodup
  lt : ∀ x ∈ f, x < cs.length
  o : ∀ c, o = some c → c < cs.length
theorem Met.go {cs : List (Option Nat)} {f : List Nat} {c : Nat} (hc : ChOk cs) (m : Met cs f (some c)) (h : c ∉ f) : Met cs (f ++ [c]) (nxt cs c) := by
  refine ⟨List.nodup_append.mpr ⟨m.nd, by simp, fun a ha b hb => ?_⟩, fun x hx => ?_, fun r e => hc.nxt e⟩
  · rw [List.mem_singleton.mp hb]
    exact fun e => h (by rw [← e]; exact ha)
  · rcases List.mem_append.mp hx with z | z
    · exact m.lt x z
    · rw [List.mem_singleton.mp z]
      exact m.o c rfl
theorem Met.len {cs : List (Option Nat)} {f : List Nat} {o : Option Nat} (m : Met cs f o) : f.length ≤ cs.length := nodup_len _ f m.nd m.lt
/-- the walk ends by itself -/
theorem walk_end {cs : List (Option Nat)} (hc : ChOk cs) : ∀ (n : Nat) (f : List Nat) (o : Option Nat), Met cs f o → cs.length < n + f.length → (walk cs n f o).2 = none ∨ ∃ c ∈ (walk cs n f o).1, (walk cs n f o).2 = some c
  | 0, f, o, m, h => by
    have := m.len
    omega
  | n + 1, f, none, m, h => .inl rfl
  | n + 1, f, some c, m, h => by
    by_cases hm : c ∈ f
    · rw [walk_in hm]
      exact .inr ⟨c, hm, rfl⟩
    · rw [walk_go hm]
      exact walk_end hc n _ _ (m.go hc hm) (by rw [List.length_append, List.length_singleton]; omega)
theorem walk_met {cs : List (Option Nat)} (hc : ChOk cs) : ∀ (n : Nat) (f : List Nat) (o : Option Nat), Met cs f o → Met cs (walk cs n f o).1 (walk cs n f o).2
  | 0, f, o, m => m
  | n + 1, f, none, m => m
  | n + 1, f, some c, m => by
    by_cases hm : c ∈ f
    · rw [walk_in hm]
      exact m
    · rw [walk_go hm]
      exact walk_met hc n _ _ (m.go hc hm)
theorem met0 {cs : List (Option Nat)} {c : Nat} (h : c < cs.length) : Met cs [] (some c) := ⟨List.nodup_nil, fun _ z => (nomatch z), fun _ e => by cases e; exact h⟩
theorem followed_met {cs : List (Option Nat)} (hc : ChOk cs) {c : Nat} (h : c < cs.length) : Met cs (followed cs c).1 (followed cs c).2 := walk_met hc _ _ _ (met0 h)
theorem followed_end {cs : List (Option Nat)} (hc : ChOk cs) {c : Nat} (h : c < cs.length) : (followed cs c).2 = none ∨ ∃ d ∈ (followed cs c).1, (followed cs c).2 = some d := walk_end hc _ _ _ (met0 h) (by simp)
/-- the first column that leads back to itself -/
def circle (cs : List (Option Nat)) : Option (List Nat) := (List.range cs.length).findSome? fun c => if (followed cs c).2 = some c then some (followed cs c).1 else none
theorem circle_some {cs : List (Option Nat)} {c : Nat} (hc : c < cs.length) (h : ∀ j, j < c → (followed cs j).2 ≠ some j) (e : (followed cs c).2 = some c) : circle cs = some (followed cs c).1 := by
  unfold circle
  have hs : List.range cs.length = List.range c ++ (List.range' c (cs.length - c)) := by
    have e := List.range'_append (s := 0) (m := c) (n := cs.length - c) (step := 1)
    rw [List.range_eq_range', List.range_eq_range']
    rw [show 0 + 1 * c = c by omega, show c + (cs.length - c) = cs.length by omega] at e
    exact e.symm
  rw [hs, List.findSome?_append]
  have h0 : (List.range c).findSome? (fun c => if (followed cs c).2 = some c then some (followed cs c).1 else none) = none := by
    rw [List.findSome?_eq_none_iff]
    intro x hx
    exact if_neg (h x (List.mem_range.mp hx))
  rw [h0]
  have h1 : cs.length - c = (cs.length - c - 1) + 1 := by omega
  rw [h1, List.range'_succ, List.findSome?_cons, if_pos e]
  rfl
theorem circle_none {cs : List (Option Nat)} (h : ∀ j, j < cs.length → (followed cs j).2 ≠ some j) : circle cs = none := by
  unfold circle
  rw [List.findSome?_eq_none_iff]
  intro x hx
  exact if_neg (h x (List.mem_range.mp hx))
theorem circle_len {cs : List (Option Nat)} (hc : ChOk cs) {p : List Nat} (h : circle cs = some p) : p.length ≤ cs.length := by
  unfold circle at h
  obtain ⟨x, hx, e⟩ := List.exists_of_findSome?_eq_some h
  split at e
  · cases e
    exact (followed_met hc (List.mem_range.mp hx)).len
  · cases e
end Ma

/-! plain: chains that end, closed sets -/
namespace Ma
variable {cs : List (Option Nat)}
def it (cs : List (Option Nat)) : Nat → Option Nat → Option Nat
  | 0, o => o
  | k + 1, o => it cs k (o.bind (nxt cs))
theorem it_none (cs : List (Option Nat)) : ∀ k, it cs k none = none
  | 0 => rfl
  | k + 1 => it_none cs k
def EndsK (cs : List (Option Nat)) (c : Nat) : Prop := ∃ k, it cs k (some c) = none
theorem endsK_none {c : Nat} (h : nxt cs c = none) : EndsK cs c := ⟨1, h⟩
theorem endsK_some {c r : Nat} (h : nxt cs c = some r) : EndsK cs c ↔ EndsK cs r := by
  constructor
  · rintro ⟨k, hk⟩
    cases k with
    | zero => cases hk
    | succ k =>
      have hk : it cs k (nxt cs c) = none := hk
      rw [h] at hk
      exact ⟨k, hk⟩
  · rintro ⟨k, hk⟩
    refine ⟨k + 1, ?_⟩
    show it cs k (nxt cs c) = none
    rw [h]
    exact hk
/-- a set that no reference leaves -/
def Closed (cs : List (Option Nat)) (S : List Nat) : Prop := ∀ c ∈ S, ∃ r ∈ S, nxt cs c = some r
theorem Closed.not_ends {S : List Nat} (h : Closed cs S) {c : Nat} (hc : c ∈ S) : ¬ EndsK cs c := by
  rintro ⟨k, hk⟩
  have key : ∀ k (c : Nat), c ∈ S → it cs k (some c) ≠ none := fun k => by
    induction k with
    | zero => exact fun c _ h => nomatch h
    | succ k ih =>
      intro c hc
      obtain ⟨r, hr, e⟩ := h c hc
      show it cs k (nxt cs c) ≠ none
      rw [e]
      exact ih r hr
  exact key k c hc hk
/-- each one's reference is the next one, the last one's is o -/
def Link (cs : List (Option Nat)) (f : List Nat) (o : Option Nat) : Prop := (∀ i (h : i + 1 < f.length), nxt cs f[i] = some f[i + 1]) ∧ ∀ hn : f ≠ [], nxt cs (f.getLast hn) = o
theorem link_go {f : List Nat} {c : Nat} (h : Link cs f (some c)) : Link cs (f ++ [c]) (nxt cs c) := by
  refine ⟨fun i hi => ?_, fun hn => by rw [List.getLast_append_of_ne_nil _ (List.cons_ne_nil _ _)]; rfl⟩
  rw [List.length_append, List.length_singleton] at hi
  by_cases z : i + 1 < f.length
  · rw [List.getElem_append_left (by omega), List.getElem_append_left z]
    exact h.1 i z
  · have hn : f ≠ [] := fun e => by
      rw [e] at hi z
      simp at hi
    have e1 : i = f.length - 1 := by omega
    have hp := List.length_pos_iff.mpr hn
    rw [List.getElem_append_left (by omega), List.getElem_append_right (by omega)]
    have := h.2 hn
    rw [List.getLast_eq_getElem] at this
    simp only [e1]
    rw [this]
    simp
theorem walk_link : ∀ (n : Nat) (f : List Nat) (o : Option Nat), Link cs f o → Link cs (walk cs n f o).1 (walk cs n f o).2
  | 0, f, o, h => h
  | n + 1, f, none, h => h
  | n + 1, f, some c, h => by
    by_cases hm : c ∈ f
    · rw [walk_in hm]
      exact h
    · rw [walk_go hm]
      exact walk_link n _ _ (link_go h)
theorem followed_link (cs : List (Option Nat)) (c : Nat) : Link cs (followed cs c).1 (followed cs c).2 := walk_link _ _ _ ⟨fun i h => absurd h (Nat.not_lt_zero _), fun hn => absurd rfl hn⟩
theorem walk_sub : ∀ (n : Nat) (f : List Nat) (o : Option Nat), ∀ x ∈ f, x ∈ (walk cs n f o).1
  | 0, f, o, x, h => h
  | n + 1, f, none, x, h => h
  | n + 1, f, some c, x, h => by
    by_cases hm : c ∈ f
    · rw [walk_in hm]
      exact h
    · rw [walk_go hm]
      exact walk_sub n _ _ x (List.mem_append_left _ h)
theorem followed_self (cs : List (Option Nat)) (c : Nat) : c ∈ (followed cs c).1 := by
  unfold followed
  rw [walk_go List.not_mem_nil]
  exact walk_sub _ _ _ c List.mem_cons_self
theorem followed_head (cs : List (Option Nat)) (c : Nat) : (followed cs c).1.head? = some c := by
  have key : ∀ (n : Nat) (f : List Nat) (o : Option Nat), f ≠ [] → (walk cs n f o).1.head? = f.head? := fun n => by
    induction n with
    | zero => exact fun f o _ => rfl
    | succ n ih =>
      intro f o hn
      cases o with
      | none => rfl
      | some c =>
        by_cases hm : c ∈ f
        · rw [walk_in hm]
        · rw [walk_go hm, ih _ _ (by simp)]
          cases f with
          | nil => exact absurd rfl hn
          | cons a f => rfl
  unfold followed
  rw [walk_go List.not_mem_nil, key _ _ _ (by simp)]
  rfl
/-- what is met is closed if it leads back -/
theorem link_closed {f : List Nat} {d : Nat} (h : Link cs f (some d)) (hd : d ∈ f) : Closed cs f := fun c hc => by
  obtain ⟨i, hi, rfl⟩ := List.getElem_of_mem hc
  by_cases z : i + 1 < f.length
  · exact ⟨_, List.getElem_mem z, h.1 i z⟩
  · have hn : f ≠ [] := List.ne_nil_of_mem hc
    have e : i = f.length - 1 := by omega
    have := h.2 hn
    rw [List.getLast_eq_getElem] at this
    subst e
    exact ⟨d, hd, this⟩
theorem link_ends {f : List Nat} (h : Link cs f none) {c : Nat} (hc : c ∈ f) : EndsK cs c := by
  obtain ⟨i, hi, rfl⟩ := List.getElem_of_mem hc
  have key : ∀ m i (hi : i < f.length), f.length - i ≤ m → EndsK cs f[i] := fun m => by
    induction m with
    | zero => exact fun i hi h => absurd h (by omega)
    | succ m ih =>
      intro i hi hm
      by_cases z : i + 1 < f.length
      · exact (endsK_some (h.1 i z)).mpr (ih (i + 1) z (by omega))
      · have hn : f ≠ [] := List.ne_nil_of_mem hc
        have e : i = f.length - 1 := by omega
        have := h.2 hn
        rw [List.getLast_eq_getElem] at this
        subst e
        exact endsK_none this
  exact key _ i hi (Nat.le_refl _)
theorem ends_iff (hc : ChOk cs) {c : Nat} (h : c < cs.length) : (followed cs c).2 = none ↔ EndsK cs c := by
  have hl := followed_link cs c
  constructor
  · intro e
    rw [e] at hl
    exact link_ends hl (followed_self cs c)
  · intro e
    rcases followed_end hc h with z | ⟨d, hd, z⟩
    · exact z
    · rw [z] at hl
      exact absurd e ((link_closed hl hd).not_ends (followed_self cs c))
/-- from a column on a circle one comes back to it -/
theorem walk_seg {f : List Nat} {j : Nat} (hn : f.Nodup) (hj : j < f.length) (h : Link cs f (some f[j])) : ∀ (m k n : Nat) (hk : k < f.length), j ≤ k → f.length - k ≤ m → m < n → walk cs n ((f.drop j).take (k - j)) (some f[k]) = (f.drop j, some f[j])
  | 0, k, n, hk, _, hm, _ => absurd hm (by omega)
  | m + 1, k, n + 1, hk, hjk, hm, hmn => by
    have hnot : f[k] ∉ (f.drop j).take (k - j) := fun z => by
      obtain ⟨i, hi, e⟩ := List.getElem_of_mem z
      rw [List.length_take, List.length_drop] at hi
      rw [List.getElem_take, List.getElem_drop] at e
      exact List.pairwise_iff_getElem.mp hn (j + i) k (by omega) hk (by omega) e
    rw [walk_go hnot]
    have e1 : (f.drop j).take (k - j) ++ [f[k]] = (f.drop j).take (k + 1 - j) := by
      have e2 : k + 1 - j = (k - j) + 1 := by omega
      rw [e2, List.take_add_one, List.getElem?_drop]
      have e3 : j + (k - j) = k := by omega
      rw [e3, List.getElem?_eq_getElem hk]
      rfl
    rw [e1]
    by_cases z : k + 1 < f.length
    · rw [h.1 k z]
      exact walk_seg hn hj h m (k + 1) n z (by omega) (by omega) (by omega)
    · have hne : f ≠ [] := fun e => by rw [e] at hk; cases hk
      have ek : k = f.length - 1 := by omega
      have := h.2 hne
      rw [List.getLast_eq_getElem] at this
      subst ek
      rw [this, List.take_of_length_le (by rw [List.length_drop]; omega)]
      exact walk_in (List.mem_iff_getElem.mpr ⟨0, by rw [List.length_drop]; omega, by rw [List.getElem_drop]; rfl⟩)
theorem circle_of_closed (hc : ChOk cs) {S : List Nat} (hS : Closed cs S) (hne : S ≠ []) (hlt : ∀ c ∈ S, c < cs.length) : circle cs ≠ none := by
  obtain ⟨c, hcS⟩ := List.exists_mem_of_ne_nil S hne
  have hcl := hlt c hcS
  have hm := followed_met hc hcl
  have hl := followed_link cs c
  rcases followed_end hc hcl with z | ⟨d, hd, z⟩
  · exact absurd ((ends_iff hc hcl).mp z) (hS.not_ends hcS)
  · rw [z] at hl hm
    obtain ⟨j, hj, rfl⟩ := List.getElem_of_mem hd
    have hdl := hm.lt _ hd
    have e := walk_seg hm.nd hj hl ((followed cs c).1.length) j (cs.length + 1) hj (Nat.le_refl _) (by omega) (by have := hm.len; omega)
    rw [Nat.sub_self, List.take_zero] at e
    have e2 : (followed cs (followed cs c).1[j]).2 = some (followed cs c).1[j] := by
      show (walk cs (cs.length + 1) [] (some (followed cs c).1[j])).2 = _
      rw [e]
    intro hcirc
    unfold circle at hcirc
    rw [List.findSome?_eq_none_iff] at hcirc
    have := hcirc _ (List.mem_range.mpr hdl)
    rw [if_pos e2] at this
    cases this
theorem circle_closed (hc : ChOk cs) {p : List Nat} (h : circle cs = some p) : Closed cs p ∧ p ≠ [] ∧ p.Nodup ∧ ∀ c ∈ p, c < cs.length := by
  unfold circle at h
  obtain ⟨x, hx, e⟩ := List.exists_of_findSome?_eq_some h
  split at e
  · next e2 =>
    cases e
    have hx := List.mem_range.mp hx
    have hl := followed_link cs x
    rw [e2] at hl
    have hm := followed_met hc hx
    exact ⟨link_closed hl (followed_self cs x), List.ne_nil_of_mem (followed_self cs x), hm.nd, hm.lt⟩
  · cases e
/-! sets of columns -/
def setsN : Nat → List (List Nat)
  | 0 => [[]]
  | n + 1 => setsN n ++ (setsN n).map (· ++ [n])
theorem mem_sets : ∀ (n : Nat) (s : List Nat), s ∈ setsN n ↔ s.Pairwise (· < ·) ∧ ∀ x ∈ s, x < n
  | 0, s => by
    unfold setsN
    rw [List.mem_singleton]
    constructor
    · rintro rfl
      exact ⟨List.Pairwise.nil, fun x hx => nomatch hx⟩
    · rintro ⟨_, h⟩
      cases s with
      | nil => rfl
      | cons x s => exact absurd (h x List.mem_cons_self) (Nat.not_lt_zero _)
  | n + 1, s => by
    unfold setsN
    rw [List.mem_append, List.mem_map, mem_sets n]
    constructor
    · rintro (⟨h1, h2⟩ | ⟨t, ht, rfl⟩)
      · exact ⟨h1, fun x hx => Nat.lt_succ_of_lt (h2 x hx)⟩
      · obtain ⟨h1, h2⟩ := (mem_sets n t).mp ht
        refine ⟨List.pairwise_append.mpr ⟨h1, List.pairwise_singleton _ _, fun a ha b hb => ?_⟩, fun x hx => ?_⟩
        · rw [List.mem_singleton.mp hb]
          exact h2 a ha
        · rcases List.mem_append.mp hx with z | z
          · exact Nat.lt_succ_of_lt (h2 x z)
          · rw [List.mem_singleton.mp z]
            exact Nat.lt_succ_self n
    · rintro ⟨h1, h2⟩
      by_cases hn : n ∈ s
      · right
        obtain ⟨a, b, e⟩ := List.append_of_mem hn
        subst e
        have hb : b = [] := by
          cases b with
          | nil => rfl
          | cons x b =>
            have h3 := (List.pairwise_append.mp h1).2.1
            have := (List.pairwise_cons.mp h3).1 x List.mem_cons_self
            have := h2 x (List.mem_append_right _ (List.mem_cons_of_mem _ List.mem_cons_self))
            omega
        subst hb
        refine ⟨a, (mem_sets n a).mpr ⟨(List.pairwise_append.mp h1).1, fun x hx => ?_⟩, rfl⟩
        exact (List.pairwise_append.mp h1).2.2 x hx n List.mem_cons_self
      · left
        refine ⟨h1, fun x hx => ?_⟩
        have := h2 x hx
        have : x ≠ n := fun e => hn (by rw [← e]; exact hx)
        omega
theorem sets_len : ∀ n, (setsN n).length = 2 ^ n
  | 0 => rfl
  | n + 1 => by
    unfold setsN
    rw [List.length_append, List.length_map, sets_len n, Nat.pow_succ]
    omega
def outOf (cs : List (Option Nat)) (s : List Nat) (c : Nat) : Bool := match nxt cs c with
  | none => true
  | some r => decide (r ∉ s)
def entered (cs : List (Option Nat)) (s : List Nat) : List Nat := s.filter (outOf cs s)
theorem entered_nil {s : List Nat} : entered cs s = [] ↔ Closed cs s := by
  unfold entered
  rw [List.filter_eq_nil_iff]
  constructor
  · intro h c hc
    have := h c hc
    unfold outOf at this
    cases e : nxt cs c with
    | none =>
      rw [e] at this
      exact absurd rfl this
    | some r =>
      rw [e] at this
      exact ⟨r, Decidable.not_not.mp fun z => this (decide_eq_true z), rfl⟩
  · intro h c hc
    obtain ⟨r, hr, e⟩ := h c hc
    unfold outOf
    rw [e]
    simpa using hr
/-! the order of computing -/
def ready (cs : List (Option Nat)) (os : List Nat) : List Nat := (List.range cs.length).filter fun c => decide (c ∉ os) && (match nxt cs c with
  | none => true
  | some r => decide (r ∈ os))
def ord (cs : List (Option Nat)) : Nat → List Nat → List Nat
  | 0, os => os
  | k + 1, os => match ready cs os with
    | [] => os
    | c :: _ => ord cs k (os ++ [c])
structure OrdOk (cs : List (Option Nat)) (os : List Nat) : Prop where
  nd : os.Nodup
  lt : ∀ c ∈ os, c < cs.length
  en : ∀ c ∈ os, EndsK cs c
theorem mem_ready {os : List Nat} {c : Nat} : c ∈ ready cs os ↔ c < cs.length ∧ c ∉ os ∧ (nxt cs c = none ∨ ∃ r, nxt cs c = some r ∧ r ∈ os) := by
  unfold ready
  rw [List.mem_filter, List.mem_range, Bool.and_eq_true, decide_eq_true_eq]
  cases e : nxt cs c with
  | none => simp
  | some r => simp
theorem OrdOk.go {os : List Nat} {c : Nat} (h : OrdOk cs os) (hr : c ∈ ready cs os) : OrdOk cs (os ++ [c]) := by
  obtain ⟨h1, h2, h3⟩ := mem_ready.mp hr
  refine ⟨List.nodup_append.mpr ⟨h.nd, by simp, fun a ha b hb => ?_⟩, fun x hx => ?_, fun x hx => ?_⟩
  · rw [List.mem_singleton.mp hb]
    exact fun e => h2 (by rw [← e]; exact ha)
  · rcases List.mem_append.mp hx with z | z
    · exact h.lt x z
    · rw [List.mem_singleton.mp z]
      exact h1
  · rcases List.mem_append.mp hx with z | z
    · exact h.en x z
    · rw [List.mem_singleton.mp z]
      rcases h3 with e | ⟨r, e, hr⟩
      · exact endsK_none e
      · exact (endsK_some e).mpr (h.en r hr)
theorem OrdOk.len {os : List Nat} (h : OrdOk cs os) : os.length ≤ cs.length := nodup_len _ os h.nd h.lt
theorem ordOk_nil : OrdOk cs [] := ⟨List.nodup_nil, fun _ h => (nomatch h), fun _ h => (nomatch h)⟩
/-- at the end: exactly those whose chain ends -/
theorem ord_end (hc : ChOk cs) {os : List Nat} (h : OrdOk cs os) (he : ready cs os = []) {c : Nat} (hl : c < cs.length) : c ∈ os ↔ EndsK cs c := by
  refine ⟨h.en c, fun hk => Decidable.byContradiction fun hn => ?_⟩
  have hcl : Closed cs ((List.range cs.length).filter fun c => decide (c ∉ os)) := fun x hx => by
    obtain ⟨x1, x2⟩ := List.mem_filter.mp hx
    have x1 := List.mem_range.mp x1
    have x2 := of_decide_eq_true x2
    have hnr : x ∉ ready cs os := by rw [he]; exact List.not_mem_nil
    rw [mem_ready] at hnr
    cases e : nxt cs x with
    | none => exact absurd ⟨x1, x2, .inl e⟩ hnr
    | some r =>
      refine ⟨r, List.mem_filter.mpr ⟨List.mem_range.mpr (hc.nxt e), decide_eq_true fun hr => hnr ⟨x1, x2, .inr ⟨r, e, hr⟩⟩⟩, rfl⟩
  exact hcl.not_ends (List.mem_filter.mpr ⟨List.mem_range.mpr hl, decide_eq_true hn⟩) hk
theorem ord_spec (hc : ChOk cs) : ∀ (k : Nat) (os : List Nat), OrdOk cs os → cs.length < k + os.length → OrdOk cs (ord cs k os) ∧ ready cs (ord cs k os) = []
  | 0, os, h, hk => absurd hk (by have := h.len; omega)
  | k + 1, os, h, hk => by
    unfold ord
    cases e : ready cs os with
    | nil => exact ⟨h, e⟩
    | cons c r => exact ord_spec hc k _ (h.go (by rw [e]; exact List.mem_cons_self)) (by rw [List.length_append, List.length_singleton]; omega)
def rank (cs : List (Option Nat)) (c : Nat) : Option Nat := match (followed cs c).2 with
  | none => some ((followed cs c).1.length - 1)
  | some _ => none
theorem rank_none (hc : ChOk cs) {c : Nat} (h : c < cs.length) : rank cs c = none ↔ ¬ EndsK cs c := by
  rw [← ends_iff hc h]
  unfold rank
  cases (followed cs c).2 with
  | none => simp
  | some d => simp
/-! the same order by turns -/
def turn (cs : List (Option Nat)) (os : List Nat) : List Nat := os ++ (ready cs os).take 1
def turns (cs : List (Option Nat)) : Nat → List Nat
  | 0 => []
  | k + 1 => turn cs (turns cs k)
theorem turn_ok {os : List Nat} (h : OrdOk cs os) : OrdOk cs (turn cs os) := by
  unfold turn
  cases e : ready cs os with
  | nil => simpa using h
  | cons c r => exact h.go (by rw [e]; exact List.mem_cons_self)
theorem turns_ok (k : Nat) : OrdOk cs (turns cs k) := by
  induction k with
  | zero => exact ordOk_nil
  | succ k ih => exact turn_ok ih
theorem turns_len (k : Nat) : ready cs (turns cs k) ≠ [] → (turns cs k).length = k := by
  induction k with
  | zero => exact fun _ => rfl
  | succ k ih =>
    intro h
    by_cases z : ready cs (turns cs k) = []
    · have e : turns cs (k + 1) = turns cs k := by
        show turn cs (turns cs k) = _
        unfold turn
        rw [z]
        simp
      rw [e] at h
      exact absurd z h
    · have hk := ih z
      show (turn cs (turns cs k)).length = k + 1
      unfold turn
      cases e : ready cs (turns cs k) with
      | nil => exact absurd e z
      | cons c r =>
        rw [List.length_append, hk]
        rfl
theorem turns_end : ready cs (turns cs cs.length) = [] := by
  refine Decidable.byContradiction fun z => ?_
  have hl := turns_len cs.length z
  obtain ⟨c, hc⟩ := List.exists_mem_of_ne_nil _ z
  have := ((turns_ok cs.length).go hc).len
  rw [List.length_append, hl, List.length_singleton] at this
  omega
theorem turns_ord (k : Nat) : ∀ j, ord cs k (turns cs j) = turns cs (j + k) := by
  induction k with
  | zero => exact fun j => rfl
  | succ k ih =>
    intro j
    have e2 : j + (k + 1) = (j + 1) + k := by omega
    unfold ord
    cases e : ready cs (turns cs j) with
    | nil =>
      have e3 : ∀ m, turns cs (j + m) = turns cs j := fun m => by
        induction m with
        | zero => rfl
        | succ m ihm =>
          show turn cs (turns cs (j + m)) = _
          rw [ihm]
          unfold turn
          rw [e]
          simp
      exact (e3 (k + 1)).symm
    | cons c r =>
      have e4 : turns cs j ++ [c] = turns cs (j + 1) := by
        show _ = turn cs (turns cs j)
        unfold turn
        rw [e]
        rfl
      show ord cs k (turns cs j ++ [c]) = _
      rw [e4, ih (j + 1), e2]
theorem turns_same : turns cs cs.length = ord cs (cs.length + 1) [] := by
  have h := turns_ord (cs := cs) (cs.length + 1) 0
  have e : turns cs (0 + (cs.length + 1)) = turns cs cs.length := by
    rw [Nat.zero_add]
    show turn cs (turns cs cs.length) = _
    unfold turn
    rw [turns_end]
    simp
  rw [e] at h
  exact h.symm
end Ma

/-! plain: packed codes -/
namespace Ma
theorem snocInd {α : Type} {P : List α → Prop} (nil : P []) (append_singleton : ∀ (xs : List α) (x : α), P xs → P (xs ++ [x])) (l : List α) : P l := by
  have key : ∀ l : List α, P l.reverse := fun l => by
    induction l with
    | nil => exact nil
    | cons x l ih =>
      rw [List.reverse_cons]
      exact append_singleton _ _ ih
  have z := key l.reverse
  rw [List.reverse_reverse] at z
  exact z
def big (B : Nat) (cs : List Nat) : Nat := cs.foldl (fun b c => b * B + c) 0
def lows (B : Nat) : Nat → Nat → List Nat
  | 0, _ => []
  | k + 1, n => n % B :: lows B k (n / B)
def digs (B k n : Nat) : List Nat := (lows B k n).reverse
theorem lows_len (B : Nat) : ∀ k n, (lows B k n).length = k
  | 0, _ => rfl
  | k + 1, n => by rw [lows, List.length_cons, lows_len B k]
theorem digs_len (B k n : Nat) : (digs B k n).length = k := by unfold digs; rw [List.length_reverse, lows_len]
theorem lows_lt {B : Nat} (hB : 0 < B) : ∀ k n, ∀ x ∈ lows B k n, x < B
  | 0, _, x, h => nomatch h
  | k + 1, n, x, h => by
    rw [lows] at h
    rcases List.mem_cons.mp h with e | e
    · rw [e]
      exact Nat.mod_lt _ hB
    · exact lows_lt hB k _ x e
theorem digs_lt {B : Nat} (hB : 0 < B) {k n x : Nat} (h : x ∈ digs B k n) : x < B := lows_lt hB k n x (List.mem_reverse.mp h)
theorem big_nil (B : Nat) : big B [] = 0 := rfl
theorem big_snoc (B : Nat) (cs : List Nat) (c : Nat) : big B (cs ++ [c]) = big B cs * B + c := by
  unfold big
  rw [List.foldl_append]
  rfl
theorem digs_succ (B k n : Nat) : digs B (k + 1) n = digs B k (n / B) ++ [n % B] := by
  unfold digs
  rw [lows, List.reverse_cons]
theorem big_digs (B : Nat) : ∀ k n, big B (digs B k n) = n % B ^ k
  | 0, n => by
    rw [Nat.pow_zero, Nat.mod_one]
    rfl
  | k + 1, n => by
    rw [digs_succ, big_snoc, big_digs B k, Nat.pow_succ, Nat.mul_comm (B ^ k) B, Nat.mod_mul, Nat.mul_comm]
    omega
theorem big_lt {B : Nat} (hB : 0 < B) : ∀ cs : List Nat, (∀ c ∈ cs, c < B) → big B cs < B ^ cs.length := fun cs => by
  induction cs using snocInd with
  | nil => intro _; exact Nat.one_pos
  | append_singleton cs c ih =>
    intro h
    have h1 := ih fun x hx => h x (List.mem_append_left _ hx)
    have h2 := h c (List.mem_append_right _ List.mem_cons_self)
    rw [big_snoc, List.length_append, List.length_singleton, Nat.pow_succ]
    have h3 : (big B cs + 1) * B ≤ B ^ cs.length * B := Nat.mul_le_mul_right _ h1
    rw [Nat.add_mul] at h3
    omega
theorem digs_big {B : Nat} (hB : 0 < B) : ∀ cs : List Nat, (∀ c ∈ cs, c < B) → digs B cs.length (big B cs) = cs := fun cs => by
  induction cs using snocInd with
  | nil => intro _; rfl
  | append_singleton cs c ih =>
    intro h
    have h2 := h c (List.mem_append_right _ List.mem_cons_self)
    rw [List.length_append, List.length_singleton, digs_succ, big_snoc]
    have e1 : (big B cs * B + c) / B = big B cs := by
      rw [Nat.mul_comm, Nat.mul_add_div hB, Nat.div_eq_of_lt h2, Nat.add_zero]
    have e2 : (big B cs * B + c) % B = c := by
      rw [Nat.mul_comm, Nat.mul_add_mod, Nat.mod_eq_of_lt h2]
    rw [e1, e2, ih fun x hx => h x (List.mem_append_left _ hx)]
theorem big_cons (B d : Nat) (cs : List Nat) : big B (d :: cs) = d * B ^ cs.length + big B cs := by
  induction cs using snocInd with
  | nil => simp [big]
  | append_singleton cs c ih =>
    rw [← List.cons_append, big_snoc, ih, big_snoc, List.length_append, List.length_singleton, Nat.pow_succ, Nat.add_mul, Nat.mul_assoc, Nat.add_assoc]
theorem lows_snoc (B : Nat) : ∀ k n, lows B (k + 1) n = lows B k n ++ [n / B ^ k % B]
  | 0, n => by
    rw [Nat.pow_zero, Nat.div_one]
    rfl
  | k + 1, n => by
    rw [lows, lows_snoc B k, lows, List.cons_append, Nat.div_div_eq_div_mul, Nat.pow_succ, Nat.mul_comm]
/-- the number of a packed sequence -/
def plen (m w : Nat) : Nat := (m * w + 7) / 8
def unus (m w : Nat) : Nat := 8 * plen m w - m * w
theorem plen_ok (m w : Nat) : m * w ≤ 8 * plen m w ∧ 8 * plen m w ≤ m * w + 7 := by
  unfold plen
  omega
theorem unus_ok (m w : Nat) : m * w + unus m w = 8 * plen m w ∧ unus m w ≤ 7 := by
  have := plen_ok m w
  unfold unus
  omega
def pack (cs : List Nat) (w : Nat) : List Nat := digs 256 (plen cs.length w) (big (2 ^ w) cs * 2 ^ unus cs.length w)
theorem pack_len (cs : List Nat) (w : Nat) : (pack cs w).length = plen cs.length w := digs_len _ _ _
theorem pack_lt {cs : List Nat} {w x : Nat} (h : x ∈ pack cs w) : x < 256 := digs_lt (by decide) h
theorem pow256 (k : Nat) : (256 : Nat) ^ k = 2 ^ (8 * k) := by
  rw [Nat.pow_mul]
theorem pack_big {cs : List Nat} {w : Nat} (h : ∀ c ∈ cs, c < 2 ^ w) : big 256 (pack cs w) = big (2 ^ w) cs * 2 ^ unus cs.length w := by
  unfold pack
  rw [big_digs, Nat.mod_eq_of_lt]
  have h1 := big_lt (Nat.two_pow_pos w) cs h
  have e := (unus_ok cs.length w).1
  rw [pow256, ← e, Nat.pow_add, Nat.mul_comm cs.length w, Nat.pow_mul]
  exact Nat.mul_lt_mul_of_pos_right h1 (Nat.two_pow_pos _)
def unpack (ns : List Nat) (m w : Nat) : Option (List Nat) := if big 256 ns % 2 ^ unus m w ≠ 0 then none else some (digs (2 ^ w) m (big 256 ns / 2 ^ unus m w))
theorem unpack_pack {cs : List Nat} {w : Nat} (h : ∀ c ∈ cs, c < 2 ^ w) : unpack (pack cs w) cs.length w = some cs := by
  unfold unpack
  rw [pack_big h, Nat.mul_mod_left, if_neg (by simp), Nat.mul_div_cancel _ (Nat.two_pow_pos _), digs_big (Nat.two_pow_pos w) cs h]
theorem pack_unpack {ns : List Nat} {m w : Nat} (hn : ∀ c ∈ ns, c < 256) (hl : ns.length = plen m w) {cs : List Nat} (h : unpack ns m w = some cs) : pack cs w = ns ∧ cs.length = m ∧ ∀ c ∈ cs, c < 2 ^ w := by
  unfold unpack at h
  split at h
  · cases h
  · next hz =>
    have hz : big 256 ns % 2 ^ unus m w = 0 := Decidable.not_not.mp hz
    have h := (Option.some.inj h).symm
    subst h
    refine ⟨?_, digs_len _ _ _, fun c hc => digs_lt (Nat.two_pow_pos w) hc⟩
    have hb := big_lt (by decide) ns hn
    have e := (unus_ok m w).1
    unfold pack
    rw [digs_len, big_digs, Nat.mod_eq_of_lt, Nat.div_mul_cancel (Nat.dvd_of_mod_eq_zero hz), ← hl, digs_big (by decide) ns hn]
    rw [← Nat.pow_mul, Nat.mul_comm w m, Nat.div_lt_iff_lt_mul (Nat.two_pow_pos _), ← Nat.pow_add, e, ← hl, ← pow256]
    exact hb
/-- bits, from the top -/
def bitAt (x many place : Nat) : Nat := x / 2 ^ (many - 1 - place) % 2
theorem bit_big {w : Nat} (hw : 0 < w) : ∀ (cs : List Nat), (∀ c ∈ cs, c < 2 ^ w) → ∀ p, p < cs.length * w → bitAt (cs.getD (p / w) 0) w (p - p / w * w) = big (2 ^ w) cs / 2 ^ (cs.length * w - 1 - p) % 2
  | [], _, p, h => by simp at h
  | d :: cs, hc, p, h => by
    have hd := hc d List.mem_cons_self
    have hlt := big_lt (Nat.two_pow_pos w) cs fun c h => hc c (List.mem_cons_of_mem _ h)
    rw [← Nat.pow_mul, Nat.mul_comm w] at hlt
    rw [big_cons, ← Nat.pow_mul, Nat.mul_comm w cs.length]
    rw [List.length_cons, Nat.succ_mul] at h ⊢
    by_cases hp : p < w
    · have e0 : p / w = 0 := Nat.div_eq_of_lt hp
      rw [e0, Nat.zero_mul, Nat.sub_zero, List.getD_cons_zero]
      unfold bitAt
      have e1 : cs.length * w + w - 1 - p = cs.length * w + (w - 1 - p) := by omega
      rw [e1, Nat.pow_add, ← Nat.div_div_eq_div_mul, Nat.mul_comm d, Nat.mul_add_div (Nat.two_pow_pos _), Nat.div_eq_of_lt hlt, Nat.add_zero]
    · have hp : w ≤ p := Nat.not_lt.mp hp
      have e0 : p / w = (p - w) / w + 1 := by
        rw [← Nat.sub_add_cancel hp, Nat.add_div_right _ hw, Nat.sub_add_cancel hp]
      have ih := bit_big hw cs (fun c h => hc c (List.mem_cons_of_mem _ h)) (p - w) (by omega)
      have e1 : p - p / w * w = (p - w) - (p - w) / w * w := by
        rw [e0, Nat.add_mul]
        omega
      rw [e1, e0, List.getD_cons_succ, ih]
      have e2 : cs.length * w + w - 1 - p = cs.length * w - 1 - (p - w) := by omega
      have e3 : cs.length * w = (cs.length * w - 1 - (p - w)) + ((p - w) + 1) := by omega
      rw [e2]
      generalize hE : cs.length * w - 1 - (p - w) = E at e3
      rw [e3, Nat.pow_add, Nat.mul_comm d, Nat.mul_assoc, Nat.mul_add_div (Nat.two_pow_pos _), Nat.pow_succ, Nat.mul_comm (2 ^ (p - w)) 2, Nat.mul_assoc, Nat.mul_add_mod]
theorem bits_right {cs : List Nat} {w : Nat} (hw : 0 < w ∨ cs = [] ∨ w = 0) (h : ∀ c ∈ cs, c < 2 ^ w) {p : Nat} (hp : p < 8 * (pack cs w).length) :
    bitAt ((pack cs w).getD (p / 8) 0) 8 (p - p / 8 * 8) = if p < cs.length * w then bitAt (cs.getD (p / w) 0) w (p - p / w * w) else 0 := by
  have e := (unus_ok cs.length w).1
  have hp2 : p < (pack cs w).length * 8 := by omega
  have z := bit_big (w := 8) (by decide) (pack cs w) (fun c hc => pack_lt hc) p hp2
  have e256 : (2 : Nat) ^ 8 = 256 := by decide
  rw [e256] at z
  rw [z, pack_big h, pack_len]
  rw [pack_len] at hp hp2
  split
  · next hlt =>
    have hw : 0 < w := by
      rcases Nat.eq_zero_or_pos w with q | q
      · rw [q, Nat.mul_zero] at hlt
        omega
      · exact q
    rw [bit_big hw cs h p hlt]
    have e2 : plen cs.length w * 8 - 1 - p = unus cs.length w + (cs.length * w - 1 - p) := by omega
    rw [e2, Nat.pow_add, ← Nat.div_div_eq_div_mul, Nat.mul_div_cancel _ (Nat.two_pow_pos _)]
  · next hge =>
    have e2 : unus cs.length w = (plen cs.length w * 8 - 1 - p) + ((p - cs.length * w) + 1) := by omega
    rw [e2, Nat.pow_add, Nat.mul_comm, Nat.mul_assoc, Nat.mul_div_cancel_left _ (Nat.two_pow_pos _), Nat.pow_succ, Nat.mul_assoc, Nat.mul_comm, Nat.mul_assoc, Nat.mul_mod_right]
end Ma

/-! plain: widths needed in a sorted list -/
namespace Ma
open PySem
def msp (xs : List Int) (m : Nat) : Int := minD 0 ((List.range (xs.length - m)).map fun i => xs.getD (i + m) 0 - xs.getD i 0)
def needs (xs : List Int) : List Nat := (List.range xs.length).map fun m => Builtin.Int.intBits (msp xs m)
theorem needs_len (xs : List Int) : (needs xs).length = xs.length := by
  unfold needs
  rw [List.length_map, List.length_range]
theorem getD_at {xs : List Int} {i : Nat} (h : i < xs.length) : xs.getD i 0 = xs[i] := by
  rw [List.getD_eq_getElem?_getD, List.getElem?_eq_getElem h]
  rfl
theorem asc_at {xs : List Int} (hs : xs.Pairwise (· ≤ ·)) {i j : Nat} (hij : i ≤ j) (hj : j < xs.length) : xs.getD i 0 ≤ xs.getD j 0 := by
  rw [getD_at (by omega), getD_at hj]
  rcases Nat.lt_or_ge i j with z | z
  · exact List.pairwise_iff_getElem.mp hs i j (by omega) hj z
  · have e : i = j := by omega
    subst e
    exact Int.le_refl _
theorem msp_ne {xs : List Int} {m : Nat} (hm : m < xs.length) : ((List.range (xs.length - m)).map fun i => xs.getD (i + m) 0 - xs.getD i 0) ≠ [] := fun e => by
  have := congrArg List.length e
  rw [List.length_map, List.length_range, List.length_nil] at this
  omega
theorem msp_nonneg {xs : List Int} (hs : xs.Pairwise (· ≤ ·)) {m : Nat} (hm : m < xs.length) : 0 ≤ msp xs m := by
  obtain ⟨i, hi, e⟩ := List.mem_map.mp (minD_mem (d := 0) (msp_ne hm))
  have hi := List.mem_range.mp hi
  unfold msp
  rw [← e]
  have := asc_at hs (i := i) (j := i + m) (by omega) (by omega)
  omega
theorem msp_lt {xs : List Int} (hs : xs.Pairwise (· ≤ ·)) {m : Nat} (hm : m < xs.length) {W : Int} (hW : 0 ≤ W) : msp xs m < W ↔ (m : Int) < cover xs W := by
  constructor
  · intro h
    obtain ⟨i, hi, e⟩ := List.mem_map.mp (minD_mem (d := 0) (msp_ne hm))
    have hi := List.mem_range.mp hi
    unfold msp at h
    rw [← e] at h
    have h1 : i < xs.length := by omega
    have h2 : i + m < xs.length := by omega
    rw [getD_at h1, getD_at h2] at h
    have a1 : ¬ i < below xs xs[i] := fun z => Int.lt_irrefl _ ((sorted_below hs i h1).mpr z)
    have a2 : i + m < below xs (xs[i] + W) := (sorted_below hs (i + m) h2).mp (by omega)
    have a3 := cnt_below xs hW xs[i]
    have a4 := cnt_le_cover (W := W) (List.getElem_mem h1)
    omega
  · intro h
    have hn : xs ≠ [] := fun e => by rw [e] at hm; cases hm
    obtain ⟨x, hx, e⟩ := cover_at (W := W) hn
    have a3 := cnt_below xs hW x
    have a5 := below_le xs (x + W)
    have h2 : below xs x + m < xs.length := by omega
    have h1 : below xs x < xs.length := by omega
    have a1 : ¬ xs[below xs x] < x := fun z => Nat.lt_irrefl _ ((sorted_below hs _ h1).mp z)
    have a2 : xs[below xs x + m] < x + W := (sorted_below hs _ h2).mpr (by omega)
    have a6 : msp xs m ≤ xs.getD (below xs x + m) 0 - xs.getD (below xs x) 0 := minD_le (List.mem_map.mpr ⟨below xs x, List.mem_range.mpr (by omega), rfl⟩)
    rw [getD_at h1, getD_at h2] at a6
    omega
theorem bits_iff {i : Int} (h0 : 0 ≤ i) {w : Nat} : Builtin.Int.intBits i ≤ w ↔ i < 2 ^ w := by
  constructor
  · intro h
    have a := (DL.bits_of h0).1
    have b := DL.pow_le_iff.mpr h
    omega
  · exact DL.bits_le h0
theorem need_iff {xs : List Int} (hs : xs.Pairwise (· ≤ ·)) {m w : Nat} (hm : m < xs.length) : Builtin.Int.intBits (msp xs m) ≤ w ↔ (m : Int) < cover xs (2 ^ w) := by
  rw [bits_iff (msp_nonneg hs hm), msp_lt hs hm (Int.le_of_lt (Int.pow_pos (by decide)))]
theorem range_ge (n c : Nat) (h : c ≤ n) : ((List.range n).filter fun m => decide (c ≤ m)).length = n - c := by
  induction n with
  | zero => simp
  | succ n ih =>
    rw [List.range_succ, List.filter_append, List.length_append]
    by_cases z : c ≤ n
    · have e1 : [n].filter (fun m => decide (c ≤ m)) = [n] := by simp [z]
      rw [ih z, e1, List.length_singleton]
      omega
    · have e : c = n + 1 := by omega
      have e0 : (List.range n).filter (fun m => decide (c ≤ m)) = [] := by
        rw [List.filter_eq_nil_iff]
        intro m hm
        have := List.mem_range.mp hm
        simp
        omega
      have e1 : [n].filter (fun m => decide (c ≤ m)) = [] := by simp [z]
      rw [e0, e1, e]
      simp
/-- how many needs lie over a width -/
theorem needs_count {xs : List Int} (hs : xs.Pairwise (· ≤ ·)) (w : Nat) : (((needs xs).filter fun k => decide (w < k)).length : Int) = xs.length - cover xs (2 ^ w) := by
  have c0 := cover_nonneg xs (2 ^ w)
  have c1 := cover_le_len xs (2 ^ w)
  unfold needs
  rw [List.filter_map, List.length_map]
  have e : (List.range xs.length).filter ((fun k => decide (w < k)) ∘ fun m => Builtin.Int.intBits (msp xs m)) = (List.range xs.length).filter fun m => decide ((cover xs (2 ^ w)).toNat ≤ m) := by
    refine List.filter_congr fun m hm => ?_
    have hm := List.mem_range.mp hm
    show decide (w < Builtin.Int.intBits (msp xs m)) = _
    rw [decide_eq_decide]
    have := need_iff hs (m := m) (w := w) hm
    omega
  rw [e, range_ge _ _ (by omega)]
  omega
theorem needs_le {xs : List Int} (hs : xs.Pairwise (· ≤ ·)) : ∀ k ∈ needs xs, k ≤ Builtin.Int.intBits (spread xs) := fun k hk => by
  obtain ⟨m, hm, rfl⟩ := List.mem_map.mp hk
  have hm := List.mem_range.mp hm
  refine (need_iff hs hm).mpr ?_
  rw [cover_full ((bits_iff (spread_nonneg xs)).mp (Nat.le_refl _))]
  omega
theorem needs_top {xs : List Int} (hs : xs.Pairwise (· ≤ ·)) (hn : xs ≠ []) : Builtin.Int.intBits (spread xs) ∈ needs xs := by
  have hp := List.length_pos_iff.mpr hn
  have hm : xs.length - 1 < xs.length := by omega
  have h1 : Builtin.Int.intBits (msp xs (xs.length - 1)) ∈ needs xs := List.mem_map.mpr ⟨_, List.mem_range.mpr hm, rfl⟩
  have h2 := needs_le hs _ h1
  have h3 := (need_iff hs hm (w := Builtin.Int.intBits (msp xs (xs.length - 1)))).mp (Nat.le_refl _)
  have h4 : spread xs < 2 ^ Builtin.Int.intBits (msp xs (xs.length - 1)) := Int.not_le.mp fun z => by
    have := cover_lt hn z
    omega
  have h5 := (bits_iff (spread_nonneg xs)).mpr h4
  have e : Builtin.Int.intBits (msp xs (xs.length - 1)) = Builtin.Int.intBits (spread xs) := by omega
  rw [← e]
  exact h1
end Ma

set_option maxHeartbeats 4000000
/-! DL part X2: the walk's equations: keyword-only parameters, two clauses, rows. -/
namespace DL
open PySem PySem.Spec PyProof.Rows L2
section
variable {C : List D} {Γ : Nat → FSpec} {R : Xn → Store → Prop} {ρ : Store} {Q : D → Bool → Store → Prop} {k : Kd}
def cmI (C : List D) (Γ : Nat → FSpec) (R : Xn → Store → Prop) (it : It) : Store → (List D → Store → Prop) → Prop := wpIt C Γ R it
theorem cmI_at {it : It} {Q : List D → Store → Prop} : cmI C Γ R it ρ Q = wpIt C Γ R it ρ Q := rfl
theorem wq_callK {f : Nat} {es : Es} {e : E} : wpB C Γ R (.callK f es e) ρ Q = wpOs C Γ R es ρ fun xs ρ1 => oper e (wpB C Γ R e) ρ1 fun y ρ2 => conts ρ2 (xs ++ [y]) fun ds => callS (Γ f) none (xs ++ [y]) ds ρ2 R Q := rfl
theorem wq_callD {f : Nat} {es : Es} {d : Dk} : wpB C Γ R (.callD f d es) ρ Q = wpOs C Γ R es ρ fun xs ρ1 => conts ρ1 (xs ++ [.d d.d]) fun ds => callS (Γ f) none (xs ++ [.d d.d]) ds ρ1 R Q := rfl
theorem dk_0 : Dk.tup0.d = .tuple [] := rfl
theorem dk_n : Dk.non.d = .none := rfl
theorem wq_comp2 {elt : E} {t t1 : Tg} {it it1 : It} {c : Oe} {vs vs1 : List Nat} : wpB C Γ R (.comp2 elt t it t1 it1 c vs vs1) ρ Q = wpIt C Γ R it ρ fun items ρ1 => valOk ρ1 vs = true ∧
      compL2 t vs ρ1 (cmI C Γ (fun x ρ' => R x (backs ρ1 ρ' vs)) it1) t1 vs1 (cmC C Γ (fun x ρ' => R x (backs ρ1 ρ' vs)) c) (cmE C Γ (fun x ρ' => R x (backs ρ1 ρ' vs)) elt) items [] ρ1 fun ds ρ2 => Q (.list ds) true ρ2 := rfl
/-- what is wanted behind rows -/
def kNest (i a : Nat) (k : Kd) : KdN := { nx := fun ρ2 rw => getV ρ2 i = some (opqD a) ∧ k.nx (ρ2.set i (some (.v, rwD rw))), rt := k.rt, bk := fun _ _ => False, ct := fun _ _ => False, ex := k.ex }
theorem ws_nest0 {i j : Nat} {b : Ns} : wpS C Γ (.nest i j none b) ρ k = (i < ρ.length ∧ ∀ a : Nat, wpNs C Γ i a b (ρ.set i (some (.v, opqD a))) [] (kNest i a k)) := by
  have e : wpS C Γ (.nest i j none b) ρ k = (i < ρ.length ∧ ∀ (a : Nat) (bs : List Nat), bs.length = 0 → wpNs C Γ i a b (ρ.set i (some (.v, opqD a))) (bs.zip []) (kNest i a k)) := rfl
  rw [e]
  exact propext ⟨fun ⟨h1, h2⟩ => ⟨h1, fun a => by have z := h2 a [] rfl; exact z⟩, fun ⟨h1, h2⟩ => ⟨h1, fun a bs hb => by rw [List.length_eq_zero_iff.mp hb]; exact h2 a⟩⟩
theorem ws_nest1 {i j : Nat} {e : E} {b : Ns} : wpS C Γ (.nest i j (some e) b) ρ k = wpIt C Γ k.ex (.val e) ρ fun xs ρ1 => valOk ρ1 [j] = true ∧ xs.length ≤ sizeLine ∧ ∃ yss, rowsD xs = some yss ∧ i < ρ1.length ∧
      ∀ (a : Nat) (bs : List Nat), bs.length = yss.length → wpNs C Γ i a b (ρ1.set i (some (.v, opqD a))) (bs.zip yss) (kNest i a k) := rfl
variable {i a : Nat} {rw : Rw} {kn : KdN}
theorem kn_nx : (kNest i a k).nx ρ rw = (getV ρ i = some (opqD a) ∧ k.nx (ρ.set i (some (.v, rwD rw)))) := rfl
theorem kn_rt : (kNest i a k).rt = k.rt := rfl
theorem kn_bk : (kNest i a k).bk ρ rw = False := rfl
theorem kn_ct : (kNest i a k).ct ρ rw = False := rfl
theorem kn_ex : (kNest i a k).ex = k.ex := rfl
theorem wn_st {s : S} : wpN C Γ i a (.st s) ρ rw kn = wpS C Γ s ρ { nx := fun ρ1 => kn.nx ρ1 rw, rt := kn.rt, bk := fun ρ1 => kn.bk ρ1 rw, ct := fun ρ1 => kn.ct ρ1 rw, ex := kn.ex } := rfl
theorem wn_appO {j : Nat} : wpN C Γ i a (.appO j) ρ rw kn = (getV ρ i = some (opqD a) ∧ ∃ ds, ρ[j]? = some (some (.o, .list ds)) ∧ ds.all scalD = true ∧ rw.length < sizeLine ∧ ∀ b : Nat, kn.nx (ρ.set j (some (.v, opqD b))) (rw ++ [(b, ds)])) := rfl
theorem wn_als {j : Nat} {ie : E} : wpN C Γ i a (.als j ie) ρ rw kn = (getV ρ i = some (opqD a) ∧ frz (wpB C Γ kn.ex ie) ρ fun x ρ1 => ∃ n p, x = .int n ∧ atI rw n = some p ∧ kn.nx (ρ1.set j (some (.v, opqD p.1))) rw) := rfl
theorem wn_putT {j : Nat} {ie ve : E} : wpN C Γ i a (.putA j true ie ve) ρ rw kn = ∃ b q ds, getV ρ j = some (opqD b) ∧ rw[q]? = some (b, ds) ∧
      frz (wpB C Γ kn.ex ve) (ρ.set j (some (.v, .list ds))) fun v ρ1 => frz (wpB C Γ kn.ex ie) ρ1 fun x ρ2 => lendOk (ρ.set j (some (.v, .list ds))) ρ2 ∧
          ∃ n m, x = .int n ∧ ixN ds.length n = some m ∧ scalD v = true ∧ kn.nx (ρ2.set j (some (.v, opqD b))) (rw.set q (b, ds.set m v)) := rfl
theorem wn_putF {j : Nat} {ie ve : E} : wpN C Γ i a (.putA j false ie ve) ρ rw kn = ∃ b q ds, getV ρ j = some (opqD b) ∧ rw[q]? = some (b, ds) ∧
      frz (wpB C Γ kn.ex ve) ρ fun v ρ1 => getV ρ1 j = some (opqD b) ∧ frz (wpB C Γ kn.ex ie) ρ1 fun x ρ2 => ∃ n m, x = .int n ∧ ixN ds.length n = some m ∧ scalD v = true ∧ kn.nx ρ2 (rw.set q (b, ds.set m v)) := rfl
theorem wn_aug2 {o : Operator} {re ce ve : E} : wpN C Γ i a (.aug2 o re ce ve) ρ rw kn = (getV ρ i = some (opqD a) ∧ frz (wpB C Γ kn.ex re) ρ fun x ρ1 => ∃ n q p, x = .int n ∧ ixN rw.length n = some q ∧ rw[q]? = some p ∧ frz (wpB C Γ kn.ex ce) ρ1 fun y ρ2 =>
      ∃ n2 m c, y = .int n2 ∧ ixN p.2.length n2 = some m ∧ p.2[m]? = some c ∧ frz (wpB C Γ kn.ex ve) ρ2 fun v ρ3 => augS o c v fun d => kn.nx ρ3 (rw.set q (p.1, p.2.set m d))) := rfl
theorem wn_asgL {j : Nat} {e : E} : wpN C Γ i a (.asgL j e) ρ rw kn = (getV ρ i = some (opqD a) ∧ wpB C Γ kn.ex e (ρ.set i (some (.v, rwD rw))) fun d fr ρ1 => lendOk (ρ.set i (some (.v, rwD rw))) ρ1 ∧ flatR d fr ∧ bindT (.nm j) d (ρ1.set i (some (.v, opqD a))) fun ρ2 => kn.nx ρ2 rw) := rfl
theorem wn_ifs {t : E} {x y : Ns} : wpN C Γ i a (.ifs t x y) ρ rw kn = tst (oper t (wpB C Γ kn.ex t)) ρ fun r ρ1 => if r then wpNs C Γ i a x ρ1 rw kn else wpNs C Γ i a y ρ1 rw kn := rfl
theorem wn_fors {t : Tg} {it : It} {b : Ns} : wpN C Γ i a (.fors t it b) ρ rw kn = wpIt C Γ kn.ex it ρ fun items ρ1 => forN t (wpNs C Γ i a b) items ρ1 rw kn := rfl
theorem wns_nil : wpNs C Γ i a .nil ρ rw kn = kn.nx ρ rw := rfl
theorem wns_cons {s : Nt} {ss : Ns} : wpNs C Γ i a (.cons s ss) ρ rw kn = wpN C Γ i a s ρ rw { kn with nx := fun ρ1 rw1 => wpNs C Γ i a ss ρ1 rw1 kn } := rfl
theorem opq_inj {a b : Nat} : (opqD a = opqD b) = (a = b) := by
  refine propext ⟨fun h => ?_, fun h => by rw [h]⟩
  unfold opqD at h
  have e := PyData.dict.inj h
  have e := (List.cons.inj e).1
  have e := (Prod.mk.inj e).2
  exact Int.ofNat.inj (PyData.int.inj e)
theorem lendOk_same {i : Nat} {p : Md × D} (h : ∀ (j : Nat) (d : D), ρ[j]? = some (some (.o, d)) → ∃ ds, d = .list ds ∧ flatDs ds = true) : lendOk ρ ρ := ⟨fun _ _ e => e, h⟩
/-- a slot that holds nothing of one's own -/
def vS (x : Option (Md × D)) : Prop := x = none ∨ ∃ d, x = some (.v, d)
theorem vv {d : D} : vS (some (.v, d)) := .inr ⟨d, rfl⟩
theorem vn : vS none := .inl rfl
def vAll : Store → Prop
  | [] => True
  | x :: r => vS x ∧ vAll r
theorem vAll.at : ∀ {r : Store}, vAll r → ∀ x ∈ r, vS x
  | _ :: _, ⟨h, hs⟩, x, hx => by
    rcases List.mem_cons.mp hx with z | z
    · rw [z]
      exact h
    · exact vAll.at hs x z
theorem noO_v {r : Store} (h : vAll r) {i : Nat} {d : D} (e : r[i]? = some (some (.o, d))) : False := by
  rcases h.at _ (List.mem_of_getElem? e) with z | ⟨_, z⟩ <;> cases z
theorem lendOk_m {t t' : D} {r : Store} (h : vAll r) : lendOk (some (.m, t) :: r) (some (.m, t') :: r) := by
  refine ⟨fun i d e => ?_, fun i d e => ?_⟩
  · cases i with
    | zero => cases e
    | succ i => exact e
  · cases i with
    | zero => cases e
    | succ i => exact (noO_v h e).elim
theorem lendOk_v {r : Store} (h : vAll r) : lendOk r r := ⟨fun _ _ e => e, fun _ _ e => (noO_v h e).elim⟩
/-! loops over rows -/
theorem forN_ind {t : Tg} {w : Store → Rw → KdN → Prop} (P : List D → Store → Rw → Prop) (hnil : ∀ ρ rw, P [] ρ rw → kn.nx ρ rw)
    (hcons : ∀ x xs ρ rw (F : Store → Rw → Prop), (∀ ρ' rw', P xs ρ' rw' → F ρ' rw') → P (x :: xs) ρ rw → bindT t x ρ fun ρ1 => w ρ1 rw { kn with nx := F, ct := F, bk := kn.nx }) :
    ∀ (items : List D) (ρ : Store) (rw : Rw), P items ρ rw → forN t w items ρ rw kn
  | [], ρ, rw, h => hnil ρ rw h
  | x :: xs, ρ, rw, h => hcons x xs ρ rw (fun ρ2 rw2 => forN t w xs ρ2 rw2 kn) (fun ρ' rw' h' => forN_ind P hnil hcons xs ρ' rw' h') h
theorem forN_pre {α : Type} {t : Tg} {w : Store → Rw → KdN → Prop} {g : α → D} {xs : List α} (P : List α → Store → Rw → Prop) (h0 : P [] ρ rw)
    (hs : ∀ pre x post ρ rw (F : Store → Rw → Prop), xs = pre ++ x :: post → (∀ ρ' rw', P (pre ++ [x]) ρ' rw' → F ρ' rw') → P pre ρ rw → bindT t (g x) ρ fun ρ1 => w ρ1 rw { kn with nx := F, ct := F, bk := kn.nx })
    (he : ∀ ρ rw, P xs ρ rw → kn.nx ρ rw) : forN t w (xs.map g) ρ rw kn := by
  have key : ∀ (post pre : List α) (ρ : Store) (rw : Rw), xs = pre ++ post → P pre ρ rw → forN t w (post.map g) ρ rw kn := fun post => by
    induction post with
    | nil =>
      intro pre ρ rw e hp
      rw [List.append_nil] at e
      subst e
      exact he ρ rw hp
    | cons x post ih =>
      intro pre ρ rw e hp
      exact hs pre x post ρ rw (fun ρ2 rw2 => forN t w (post.map g) ρ2 rw2 kn) e (fun ρ' rw' h' => ih (pre ++ [x]) ρ' rw' (by rw [e, List.append_assoc]; rfl) h') hp
  exact key xs [] ρ rw rfl h0
theorem forN_rng {t : Tg} {w : Store → Rw → KdN → Prop} {m : Int} (P : Int → Store → Rw → Prop) (hm : 0 ≤ m) (h0 : P 0 ρ rw)
    (hs : ∀ i ρ rw (F : Store → Rw → Prop), 0 ≤ i → i < m → (∀ ρ' rw', P (i + 1) ρ' rw' → F ρ' rw') → P i ρ rw → bindT t (.int i) ρ fun ρ1 => w ρ1 rw { kn with nx := F, ct := F, bk := kn.nx })
    (he : ∀ ρ rw, P m ρ rw → kn.nx ρ rw) : forN t w (rangeD 0 m) ρ rw kn := by
  rw [range_map]
  refine forN_pre (fun pre ρ rw => P (pre.length : Nat) ρ rw) (by simpa using h0) (fun pre x post ρ rw F e hF hp => ?_) fun ρ rw hp => ?_
  · have hx : x = pre.length := by
      have z := congrArg (fun l => l[pre.length]?) e
      simp only [List.getElem?_append_right (Nat.le_refl _), Nat.sub_self, List.getElem?_cons_zero] at z
      rw [List.getElem?_range (by have := congrArg List.length e; simp at this; omega)] at z
      exact (Option.some.inj z).symm
    subst hx
    have hl := congrArg List.length e
    simp only [List.length_range, List.length_append, List.length_cons] at hl
    have e0 : (0 : Int) + (pre.length : Int) = (pre.length : Int) := by omega
    rw [e0]
    refine hs _ ρ rw F (by omega) (by omega) (fun ρ' rw' h' => hF ρ' rw' ?_) hp
    rw [List.length_append, List.length_singleton]
    have e2 : ((pre.length + 1 : Nat) : Int) = (pre.length : Int) + 1 := by omega
    rw [e2]
    exact h'
  · refine he ρ rw ?_
    rw [List.length_range] at hp
    have e2 : (((m - 0).toNat : Nat) : Int) = m := by omega
    rw [e2] at hp
    exact hp
/-- two clauses, nothing drawn: what each outer item adds -/
theorem compL2_flat {α : Type} {t t1 : Tg} {vs vs1 : List Nat} {wi : Store → (List D → Store → Prop) → Prop} {wc : Store → (Bool → Store → Prop) → Prop} {we : Store → (D → Store → Prop) → Prop} {q : List D → Store → Prop} {g : α → D} (f : α → List D) {xs : List α}
    (h : ∀ x ∈ xs, ∀ (acc : List D) (F : List D → Store → Prop), acc.length ≤ (xs.flatMap f).length → F (acc ++ f x) ρ → bindT t (g x) (wipes ρ vs) fun ρ1 => wi ρ1 fun ys ρ2 => valOk ρ2 vs1 = true ∧ acc.length + ys.length ≤ sizeLine ∧
      compL t1 vs1 ρ2 wc we ys acc ρ2 fun acc' ρ3 => F acc' (backs ρ ρ3 vs))
    (hq : q (xs.flatMap f) ρ) : compL2 t vs ρ wi t1 vs1 wc we (xs.map g) [] ρ q := by
  have key : ∀ (post pre : List α), xs = pre ++ post → compL2 t vs ρ wi t1 vs1 wc we (post.map g) (pre.flatMap f) ρ q := fun post => by
    induction post with
    | nil =>
      intro pre e
      rw [List.append_nil] at e
      subst e
      exact hq
    | cons x post ih =>
      intro pre e
      refine h x (by rw [e]; exact List.mem_append_right _ List.mem_cons_self) (pre.flatMap f) (fun acc' ρ' => compL2 t vs ρ wi t1 vs1 wc we (post.map g) acc' ρ' q) ?_ ?_
      · rw [e, List.flatMap_append, List.length_append]
        omega
      · have z := ih (pre ++ [x]) (by rw [e, List.append_assoc]; rfl)
        rw [List.flatMap_append] at z
        simpa using z
  exact key xs [] rfl
end
end DL

set_option maxHeartbeats 4000000
/-! MG: costs, fixed references, what a column may refer to. -/
namespace Ma
abbrev Mat := List (List Int)
structure rowsOk (k : Nat) (C : Mat) : Prop where
  len : C.length = k
  row : ∀ r ∈ C, r.length = k
def inB (C : Mat) : Prop := ∀ r ∈ C, ∀ x ∈ r, 0 ≤ x ∧ x ≤ 1000000
def cell (C : Mat) (c r : Nat) : Int := (C.getD c []).getD r 0
def cst (C : Mat) (c : Nat) (o : Option Nat) : Int := cell C c (o.getD c)
abbrev Pins := List (Nat × Option Nat)
structure PinsOk (k : Nat) (ps : Pins) : Prop where
  nd : (ps.map (·.1)).Nodup
  lt : ∀ p ∈ ps, p.1 < k ∧ ∀ r, p.2 = some r → r < k
  ac : ∃ rank : Nat → Nat, ∀ p ∈ ps, ∀ r, p.2 = some r → rank r < rank p.1
theorem pinsNil (k : Nat) : PinsOk k [] := ⟨List.nodup_nil, (fun _ h => nomatch h), (fun _ => 0), (fun _ h => nomatch h)⟩
/-- the references that column c may have -/
def frees (k c : Nat) : List (Option Nat) := none :: ((List.range k).filter fun r => decide (r ≠ c)).map some
def opts (k : Nat) (ps : Pins) (c : Nat) : List (Option Nat) := match ps.find? fun p => decide (p.1 = c) with
  | some p => [p.2]
  | none => frees k c
theorem opts_nil {k c : Nat} : opts k [] c = frees k c := rfl
theorem mem_frees {k c : Nat} {o : Option Nat} : o ∈ frees k c ↔ ∀ r, o = some r → r < k ∧ r ≠ c := by
  unfold frees
  cases o with
  | none => simp
  | some r => simp
theorem frees_nd {k c : Nat} : (frees k c).Nodup := by
  unfold frees
  refine List.nodup_cons.mpr ⟨fun h => ?_, ?_⟩
  · obtain ⟨_, _, e⟩ := List.mem_map.mp h
    cases e
  · exact List.Pairwise.map some (fun a b h e => h (Option.some.inj e)) (List.nodup_range.filter _)
theorem opts_nd {k : Nat} {ps : Pins} {c : Nat} : (opts k ps c).Nodup := by
  unfold opts
  split
  · exact List.nodup_cons.mpr ⟨fun z => (nomatch z), List.nodup_nil⟩
  · exact frees_nd
theorem opts_lt {k : Nat} {ps : Pins} (h : PinsOk k ps) {c : Nat} {o : Option Nat} (ho : o ∈ opts k ps c) : ∀ r, o = some r → r < k := by
  unfold opts at ho
  split at ho
  · next p e =>
    rw [List.mem_singleton.mp ho]
    exact (h.lt p (List.mem_of_find?_eq_some e)).2
  · exact fun r e => (mem_frees.mp ho r e).1
theorem opts_ne {k : Nat} {ps : Pins} {c : Nat} : opts k ps c ≠ [] := by
  unfold opts
  split
  · exact List.cons_ne_nil _ _
  · exact List.cons_ne_nil _ _
theorem frees_len {k c : Nat} : (frees k c).length ≤ k + 1 := by
  unfold frees
  rw [List.length_cons, List.length_map]
  have := List.length_filter_le (fun r => decide (r ≠ c)) (List.range k)
  rw [List.length_range] at this
  omega
theorem opts_len {k : Nat} {ps : Pins} {c : Nat} : (opts k ps c).length ≤ k + 1 := by
  unfold opts
  split
  · simp
  · exact frees_len
/-- a column is not its own reference -/
theorem opts_self {k : Nat} {ps : Pins} (h : PinsOk k ps) {c : Nat} : some c ∉ opts k ps c := by
  unfold opts
  split
  · next p e =>
    intro z
    have z := List.mem_singleton.mp z
    obtain ⟨rank, hr⟩ := h.ac
    have e1 : p.1 = c := of_decide_eq_true (List.find?_some (p := fun p : Nat × Option Nat => decide (p.1 = c)) e)
    have := hr p (List.mem_of_find?_eq_some e) c z.symm
    rw [e1] at this
    omega
  · exact fun z => (mem_frees.mp z c rfl).2 rfl
theorem getD_set {α : Type} {xs : List α} {i j : Nat} {a d : α} (h : i < xs.length) : (xs.set i a).getD j d = if i = j then a else xs.getD j d := by
  rw [List.getD_eq_getElem?_getD, List.getD_eq_getElem?_getD, List.getElem?_set]
  split
  · next e =>
    subst e
    simp [h]
  · rfl
/-! the program's way: all are free, then the fixed ones are put -/
def allow (k : Nat) (ps : Pins) : List (List (Option Nat)) := ps.foldl (fun rows p => rows.set p.1 [p.2]) ((List.range k).map (frees k))
def chosen (k : Nat) (ps : Pins) : List (Option Nat) := ps.foldl (fun cs p => cs.set p.1 p.2) (List.replicate k none)
theorem fold_len {α β : Type} (f : β → Nat) (g : β → α) : ∀ (ps : List β) (xs : List α), (ps.foldl (fun xs p => xs.set (f p) (g p)) xs).length = xs.length
  | [], _ => rfl
  | p :: ps, xs => by rw [List.foldl_cons, fold_len f g ps, List.length_set]
theorem fold_at {α β : Type} (f : β → Nat) (g : β → α) (d : α) : ∀ (ps : List β) (xs : List α), (ps.map f).Nodup → (∀ p ∈ ps, f p < xs.length) → ∀ c, (ps.foldl (fun xs p => xs.set (f p) (g p)) xs).getD c d = match ps.find? fun p => decide (f p = c) with
    | some p => g p
    | none => xs.getD c d
  | [], _, _, _, _ => rfl
  | p :: ps, xs, nd, hl, c => by
    have nd := List.nodup_cons.mp nd
    rw [List.foldl_cons, fold_at f g d ps _ nd.2 (fun q hq => by rw [List.length_set]; exact hl q (List.mem_cons_of_mem _ hq)), List.find?_cons]
    by_cases e : f p = c
    · have e0 : ps.find? (fun p => decide (f p = c)) = none := List.find?_eq_none.mpr fun q hq z => nd.1 (List.mem_map.mpr ⟨q, hq, (of_decide_eq_true z).trans e.symm⟩)
      rw [e0]
      simp only [decide_eq_true e]
      rw [getD_set (hl p List.mem_cons_self), if_pos e]
    · simp only [decide_eq_false e]
      cases ps.find? fun p => decide (f p = c) with
      | some q => rfl
      | none =>
        simp only
        rw [getD_set (hl p List.mem_cons_self), if_neg e]
theorem allow_eq {k : Nat} {ps : Pins} (h : PinsOk k ps) : allow k ps = (List.range k).map (opts k ps) := by
  have hl : (allow k ps).length = k := by
    unfold allow
    rw [fold_len (fun p : Nat × Option Nat => p.1) fun p => [p.2], List.length_map, List.length_range]
  apply List.ext_getElem?
  intro c
  by_cases hc : c < k
  · have e := fold_at (fun p : Nat × Option Nat => p.1) (fun p => [p.2]) [] ps ((List.range k).map (frees k)) h.nd (fun p hp => by rw [List.length_map, List.length_range]; exact (h.lt p hp).1) c
    have e : (allow k ps).getD c [] = _ := e
    rw [List.getD_eq_getElem?_getD, List.getElem?_eq_getElem (by omega), Option.getD_some] at e
    rw [List.getElem?_eq_getElem (by omega), e, List.getElem?_map, List.getElem?_range hc]
    unfold opts
    simp only [Option.map_some]
    cases ps.find? fun p => decide (p.1 = c) with
    | some p => rfl
    | none =>
      simp only
      rw [List.getD_eq_getElem?_getD, List.getElem?_map, List.getElem?_range hc]
      rfl
  · rw [List.getElem?_eq_none (by omega), List.getElem?_eq_none (by rw [List.length_map, List.length_range]; omega)]
theorem chosen_len {k : Nat} {ps : Pins} : (chosen k ps).length = k := by
  unfold chosen
  rw [fold_len (fun p : Nat × Option Nat => p.1) fun p => p.2, List.length_replicate]
theorem chosen_nxt {k : Nat} {ps : Pins} (h : PinsOk k ps) {c r : Nat} (e : nxt (chosen k ps) c = some r) : (c, some r) ∈ ps := by
  have z := fold_at (fun p : Nat × Option Nat => p.1) (fun p => p.2) none ps (List.replicate k none) h.nd (fun p hp => by rw [List.length_replicate]; exact (h.lt p hp).1) c
  have z : nxt (chosen k ps) c = _ := z
  rw [e] at z
  cases q : ps.find? fun p => decide (p.1 = c) with
  | some p =>
    rw [q] at z
    have e1 : p.1 = c := of_decide_eq_true (List.find?_some (p := fun p : Nat × Option Nat => decide (p.1 = c)) q)
    have hm := List.mem_of_find?_eq_some q
    have : p = (c, some r) := by
      obtain ⟨a, b⟩ := p
      simp only at z e1
      rw [← z, e1]
    rw [this] at hm
    exact hm
  | none =>
    rw [q] at z
    simp only [List.getD_eq_getElem?_getD, List.getElem?_replicate] at z
    split at z <;> cases z
theorem chosen_ok {k : Nat} {ps : Pins} (h : PinsOk k ps) : ChOk (chosen k ps) := fun r hr => by
  obtain ⟨c, hc⟩ := List.mem_iff_getElem?.mp hr
  have e : nxt (chosen k ps) c = some r := by
    show (chosen k ps).getD c none = _
    rw [List.getD_eq_getElem?_getD, hc]
    rfl
  rw [chosen_len]
  exact (h.lt _ (chosen_nxt h e)).2 r rfl
/-- ranks that fall leave no circle -/
theorem circle_ranks {cs : List (Option Nat)} (hc : ChOk cs) (rank : Nat → Nat) (h : ∀ c r, nxt cs c = some r → rank r < rank c) : circle cs = none := by
  cases e : circle cs with
  | none => rfl
  | some p =>
    obtain ⟨h1, h2, _, _⟩ := circle_closed hc e
    exfalso
    have key : ∀ n, ∀ c ∈ p, rank c ≤ n → False := fun n => by
      induction n with
      | zero =>
        intro c hc' hn
        obtain ⟨r, _, hr⟩ := h1 c hc'
        have := h c r hr
        omega
      | succ n ih =>
        intro c hc' hn
        obtain ⟨r, hrp, hr⟩ := h1 c hc'
        have := h c r hr
        exact ih r hrp (by omega)
    cases p with
    | nil => exact h2 rfl
    | cons c p => exact key (rank c) c List.mem_cons_self (Nat.le_refl _)
theorem chosen_free {k : Nat} {ps : Pins} (h : PinsOk k ps) : circle (chosen k ps) = none := by
  obtain ⟨rank, hr⟩ := h.ac
  exact circle_ranks (chosen_ok h) rank fun c r e => hr _ (chosen_nxt h e) r rfl
/-! the arcs into a set -/
def enters (ms : List Nat) (o : Option Nat) : Bool := match o with
  | none => true
  | some r => decide (r ∉ ms)
def arcs (k : Nat) (ps : Pins) (ms : List Nat) : List (Nat × Option Nat) := ms.flatMap fun c => ((opts k ps c).filter (enters ms)).map fun o => (c, o)
theorem flat_len {α β : Type} {f : α → List β} {m : Nat} : ∀ {xs : List α}, (∀ x ∈ xs, (f x).length ≤ m) → (xs.flatMap f).length ≤ xs.length * m
  | [], _ => by simp
  | x :: xs, h => by
    rw [List.flatMap_cons, List.length_append, List.length_cons, Nat.succ_mul]
    have := flat_len (xs := xs) fun y hy => h y (List.mem_cons_of_mem _ hy)
    have := h x List.mem_cons_self
    omega
theorem arcs_len {k : Nat} {ps : Pins} {ms : List Nat} : (arcs k ps ms).length ≤ ms.length * (k + 1) := by
  refine flat_len fun c _ => ?_
  rw [List.length_map]
  exact Nat.le_trans (List.length_filter_le _ _) opts_len
theorem mem_arcs {k : Nat} {ps : Pins} {ms : List Nat} {c : Nat} {o : Option Nat} : (c, o) ∈ arcs k ps ms ↔ c ∈ ms ∧ o ∈ opts k ps c ∧ enters ms o = true := by
  unfold arcs
  rw [List.mem_flatMap]
  constructor
  · rintro ⟨d, hd, h⟩
    obtain ⟨o', ho, e⟩ := List.mem_map.mp h
    cases e
    exact ⟨hd, List.mem_filter.mp ho⟩
  · rintro ⟨h1, h2⟩
    exact ⟨c, h1, List.mem_map.mpr ⟨o, List.mem_filter.mpr h2, rfl⟩⟩
theorem least_mem (f : Nat → Nat) : ∀ {ms : List Nat}, ms ≠ [] → ∃ c ∈ ms, ∀ d ∈ ms, f c ≤ f d
  | [], h => absurd rfl h
  | [c], _ => ⟨c, List.mem_cons_self, fun d hd => by rw [List.mem_singleton.mp hd]; exact Nat.le_refl _⟩
  | c :: d :: ms, _ => by
    obtain ⟨e, he, hm⟩ := least_mem f (ms := d :: ms) (List.cons_ne_nil _ _)
    by_cases h : f c ≤ f e
    · refine ⟨c, List.mem_cons_self, fun x hx => ?_⟩
      rcases List.mem_cons.mp hx with z | z
      · rw [z]
        exact Nat.le_refl _
      · exact Nat.le_trans h (hm x z)
    · refine ⟨e, List.mem_cons_of_mem _ he, fun x hx => ?_⟩
      rcases List.mem_cons.mp hx with z | z
      · rw [z]
        omega
      · exact hm x z
theorem arcs_ne {k : Nat} {ps : Pins} {ms : List Nat} (h : PinsOk k ps) (hm : ms ≠ []) : arcs k ps ms ≠ [] := by
  obtain ⟨rank, hr⟩ := h.ac
  obtain ⟨c, hc, hmin⟩ := least_mem rank hm
  have key : ∃ o, o ∈ opts k ps c ∧ enters ms o = true := by
    cases q : ps.find? fun p => decide (p.1 = c) with
    | none =>
      refine ⟨none, ?_, rfl⟩
      unfold opts
      rw [q]
      exact List.mem_cons_self
    | some p =>
      have e1 : p.1 = c := of_decide_eq_true (List.find?_some (p := fun p : Nat × Option Nat => decide (p.1 = c)) q)
      refine ⟨p.2, ?_, ?_⟩
      · unfold opts
        rw [q]
        exact List.mem_singleton.mpr rfl
      · cases e : p.2 with
        | none => rfl
        | some r =>
          show decide (r ∉ ms) = true
          rw [decide_eq_true_eq]
          intro hz
          have h1 := hr p (List.mem_of_find?_eq_some q) r e
          have h2 := hmin r hz
          rw [e1] at h1
          omega
  obtain ⟨o, ho⟩ := key
  exact List.ne_nil_of_mem (mem_arcs.mpr ⟨hc, ho⟩)
/-! cells -/
def setC (C : Mat) (c r : Nat) (x : Int) : Mat := C.set c ((C.getD c []).set r x)
theorem rowsOk.get {k : Nat} {C : Mat} (h : rowsOk k C) {c : Nat} (hc : c < k) : (C.getD c []).length = k := by
  rw [List.getD_eq_getElem?_getD, List.getElem?_eq_getElem (by rw [h.len]; exact hc)]
  exact h.row _ (List.getElem_mem _)
theorem rowsOk.set {k : Nat} {C : Mat} (h : rowsOk k C) {c r : Nat} {x : Int} (hc : c < k) : rowsOk k (setC C c r x) := by
  refine ⟨by unfold setC; rw [List.length_set]; exact h.len, fun w hw => ?_⟩
  rcases List.mem_or_eq_of_mem_set hw with z | z
  · exact h.row w z
  · rw [z, List.length_set]
    exact h.get hc
theorem cell_set {k : Nat} {C : Mat} (h : rowsOk k C) {c r c' r' : Nat} {x : Int} (hc : c < k) (hr : r < k) : cell (setC C c r x) c' r' = if c = c' ∧ r = r' then x else cell C c' r' := by
  unfold cell setC
  rw [getD_set (by rw [h.len]; exact hc)]
  by_cases e : c = c'
  · subst e
    rw [if_pos rfl, getD_set (by rw [h.get hc]; exact hr)]
    simp
  · rw [if_neg e, if_neg fun z => e z.1]
/-- costs with an amount taken off arcs -/
def lower (C : Mat) (as : List (Nat × Option Nat)) (x : Int) : Mat := as.foldl (fun C p => setC C p.1 (p.2.getD p.1) (cst C p.1 p.2 - x)) C
theorem lower_rows {k : Nat} {x : Int} : ∀ (as : List (Nat × Option Nat)) (C : Mat), rowsOk k C → (∀ p ∈ as, p.1 < k) → rowsOk k (lower C as x)
  | [], _, h, _ => h
  | p :: as, C, h, hp => lower_rows as _ (h.set (hp p List.mem_cons_self)) fun q hq => hp q (List.mem_cons_of_mem _ hq)
theorem lower_snoc {C : Mat} {as : List (Nat × Option Nat)} {p : Nat × Option Nat} {x : Int} : lower C (as ++ [p]) x = setC (lower C as x) p.1 (p.2.getD p.1) (cst (lower C as x) p.1 p.2 - x) := by
  unfold lower
  rw [List.foldl_append]
  rfl
theorem arcs_lt {k : Nat} {ps : Pins} {ms : List Nat} (h : PinsOk k ps) (hm : ∀ c ∈ ms, c < k) {p : Nat × Option Nat} (hp : p ∈ arcs k ps ms) : p.1 < k ∧ p.2.getD p.1 < k ∧ ∀ r, p.2 = some r → r < k := by
  obtain ⟨c, o⟩ := p
  obtain ⟨h1, h2, _⟩ := mem_arcs.mp hp
  have z := opts_lt h h2
  refine ⟨hm c h1, ?_, z⟩
  cases o with
  | none => exact hm c h1
  | some r => exact z r rfl
end Ma
namespace DL
open PySem PySem.Spec PyProof.Rows L2 Ma
abbrev rowT (r : List Int) : D := .tuple (r.map PyData.int)
abbrev rowL (r : List Int) : D := .list (r.map PyData.int)
abbrev matT (C : Mat) : D := .tuple (C.map fun r => .tuple (r.map PyData.int))
abbrev matL (C : Mat) : D := .list (C.map fun r => .list (r.map PyData.int))
abbrev pinD (p : Nat × Option Nat) : D := .tuple [.int (p.1 : Nat), optD p.2]
abbrev pinsD (ps : Pins) : D := .tuple (ps.map fun p => .tuple [.int (p.1 : Nat), optD p.2])
theorem at_map {α : Type} {f : α → D} {xs : List α} {j : Nat} {d : α} (h : j < xs.length) : atI (xs.map f) (j : Int) = some (f (xs.getD j d)) := by
  rw [DL.atI_nat, List.getElem?_map, List.getD_eq_getElem?_getD, List.getElem?_eq_getElem h]
  rfl
theorem at_row {k : Nat} {C : Mat} (h : rowsOk k C) {c : Nat} (hc : c < k) : atI (C.map fun r => PyData.tuple (r.map PyData.int)) (c : Int) = some (rowT (C.getD c [])) := at_map (f := fun r : List Int => PyData.tuple (r.map PyData.int)) (by rw [h.len]; exact hc)
theorem at_rowL {k : Nat} {C : Mat} (h : rowsOk k C) {c : Nat} (hc : c < k) : atI (C.map fun r => PyData.list (r.map PyData.int)) (c : Int) = some (rowL (C.getD c [])) := at_map (f := fun r : List Int => PyData.list (r.map PyData.int)) (by rw [h.len]; exact hc)
theorem at_cell {k : Nat} {C : Mat} (h : rowsOk k C) {c r : Nat} (hc : c < k) (hr : r < k) : atI ((C.getD c []).map PyData.int) (r : Int) = some (.int (cell C c r)) := at_map (by rw [h.get hc]; exact hr)
theorem shp_O (os : List (Option Nat)) : SeqAt.shaped (.list (os.map optD)) = true := by
  have h : ∀ os : List (Option Nat), PyData.canLayAll0 (os.map optD) = true ∧ PyData.depthAll (os.map optD) ≤ 1 := fun os => by
    induction os with
    | nil => exact ⟨rfl, Nat.zero_le _⟩
    | cons o os ih =>
      obtain ⟨h1, h2⟩ := ih
      refine ⟨?_, ?_⟩
      · show ((optD o).canLay0 && PyData.canLayAll0 (os.map optD)) = true
        rw [h1, Bool.and_true]
        cases o <;> rfl
      · rw [List.map_cons]
        simp only [PyData.depthAll]
        cases o with
        | none =>
          simp only [optD, PyData.depth]
          omega
        | some r =>
          simp only [optD, PyData.depth]
          omega
  obtain ⟨h1, h2⟩ := h os
  unfold SeqAt.shaped
  have e : (PyData.list (os.map optD)).canLay0 = true := h1
  rw [e, Bool.true_and, decide_eq_true_eq]
  simp only [PyData.depth]
  omega
theorem eq_Onil {os : List (Option Nat)} {P : Bool → Prop} : eqS (.list (os.map optD)) (.list []) P = P (decide (os = [])) := by
  show ((_ ∧ _) ∧ P (PyData.eqv _ _)) = _
  have e : PyData.eqv (.list (os.map optD)) (.list []) = decide (os = []) := by
    cases os <;> simp [PyData.eqv, PyData.eqvAll]
  rw [e]
  exact propext ⟨fun h => h.2, fun h => ⟨⟨shp_O os, by decide⟩, h⟩⟩
theorem eq_O1nil {o : Option Nat} {P : Bool → Prop} : eqS (.list [optD o]) (.list []) P = P false := eq_Onil (os := [o])
theorem eq_O0nil {P : Bool → Prop} : eqS (.list []) (.list []) P = P true := eq_Onil (os := [])
theorem dep_o {o : Option Nat} : (optD o).depth = 0 := by
  cases o <;> simp only [optD, PyData.depth]
theorem shp_Pin (ps : Pins) : SeqAt.shaped (pinsD ps) = true := by
  have h : ∀ ps : Pins, PyData.canLayAll0 (ps.map fun p => PyData.tuple [.int (p.1 : Nat), optD p.2]) = true ∧ PyData.depthAll (ps.map fun p => PyData.tuple [.int (p.1 : Nat), optD p.2]) ≤ 2 := fun ps => by
    induction ps with
    | nil => exact ⟨rfl, Nat.zero_le _⟩
    | cons p ps ih =>
      obtain ⟨h1, h2⟩ := ih
      refine ⟨?_, ?_⟩
      · show ((PyData.tuple [.int (p.1 : Nat), optD p.2]).canLay0 && PyData.canLayAll0 (ps.map fun p => PyData.tuple [.int (p.1 : Nat), optD p.2])) = true
        rw [h1, Bool.and_true]
        cases p.2 <;> rfl
      · rw [List.map_cons]
        simp only [PyData.depthAll, PyData.depth, dep_o]
        omega
  obtain ⟨h1, h2⟩ := h ps
  unfold SeqAt.shaped
  have e : (pinsD ps).canLay0 = true := h1
  rw [e, Bool.true_and, decide_eq_true_eq]
  simp only [PyData.depth]
  omega
theorem eq_PinNil {ps : Pins} {P : Bool → Prop} : eqS (.tuple (ps.map fun p => .tuple [.int (p.1 : Nat), optD p.2])) (.tuple []) P = P (decide (ps = [])) := by
  show ((_ ∧ _) ∧ P (PyData.eqv _ _)) = _
  have e : PyData.eqv (.tuple (ps.map fun p => .tuple [.int (p.1 : Nat), optD p.2])) (.tuple []) = decide (ps = []) := by
    cases ps <;> simp [PyData.eqv, PyData.eqvAll]
  rw [e]
  exact propext ⟨fun h => h.2, fun h => ⟨⟨shp_Pin ps, by decide⟩, h⟩⟩
theorem in_nT {ks : List Nat} {P : Bool → Prop} : inS .none (.tuple (ks.map fun k => PyData.int (k : Nat))) P = P false := in_ONT (o := none)
theorem in_nL {ks : List Nat} {P : Bool → Prop} : inS .none (.list (ks.map fun k => PyData.int (k : Nat))) P = P false := in_ON (o := none)
theorem cols_of : ∀ {f : List (Option Nat)}, none ∉ f → ∃ ks : List Nat, f = ks.map some
  | [], _ => ⟨[], rfl⟩
  | none :: f, h => absurd List.mem_cons_self h
  | some a :: f, h => by
    obtain ⟨ks, e⟩ := cols_of (f := f) fun z => h (List.mem_cons_of_mem _ z)
    exact ⟨a :: ks, by rw [e]; rfl⟩
theorem in_nO {f : List (Option Nat)} {P : Bool → Prop} : inS .none (.list (f.map optD)) P = P (decide (none ∈ f)) := by
  rw [ev37]
  have hs : (f.map optD).all scalD = true := by
    rw [List.all_eq_true]
    intro x hx
    obtain ⟨q, _, rfl⟩ := List.mem_map.mp hx
    cases q <;> rfl
  have e : ((f.map optD).any fun z => PyData.eqv z .none) = decide (none ∈ f) := by
    induction f with
    | nil => rfl
    | cons q f ih =>
      have hs : (f.map optD).all scalD = true := by
        rw [List.map_cons, List.all_cons] at hs
        exact (and2 hs).2
      rw [List.map_cons, List.any_cons, ih hs]
      cases q with
      | none => simp [optD, PyData.eqv]
      | some a => simp [optD, PyData.eqv]
  rw [e]
  exact propext ⟨fun h => h.2, fun h => ⟨.inl ⟨rfl, hs⟩, h⟩⟩
theorem eq_LNnil {ks : List Nat} {P : Bool → Prop} : eqS (.list (ks.map fun k => PyData.int (k : Nat))) (.list []) P = P (decide (ks = [])) := by
  have e := nats_ints ks
  unfold natsD at e
  rw [e, eq_Lnil]
  congr 1
  refine decide_eq_decide.mpr ⟨fun h => List.map_eq_nil_iff.mp h, fun h => by rw [h]; rfl⟩
theorem lendOk_o3 {a b c : Option (Md × D)} {r : Store} {ds : List D} (ha : vAll [a, b, c]) (hr : vAll r) (hf : flatDs ds = true) : lendOk (a :: b :: c :: some (.o, .list ds) :: r) (a :: b :: c :: some (.o, .list ds) :: r) := by
  refine ⟨fun _ _ e => e, fun i d e => ?_⟩
  obtain ⟨h1, h2, h3, _⟩ := ha
  match i, e with
  | 0, e =>
    cases e
    rcases h1 with z | ⟨_, z⟩ <;> cases z
  | 1, e =>
    cases e
    rcases h2 with z | ⟨_, z⟩ <;> cases z
  | 2, e =>
    cases e
    rcases h3 with z | ⟨_, z⟩ <;> cases z
  | 3, e =>
    cases e
    exact ⟨_, rfl, hf⟩
  | i + 4, e => exact (noO_v hr (i := i) e).elim
/-! rows of one's own -/
def rwOf (bs : List Nat) (C : Mat) : Rw := bs.zip (C.map fun r => r.map PyData.int)
theorem rw_len {bs : List Nat} {C : Mat} (h : bs.length = C.length) : (rwOf bs C).length = C.length := by
  unfold rwOf
  rw [List.length_zip, List.length_map, h, Nat.min_self]
theorem rw_at {bs : List Nat} {C : Mat} (h : bs.length = C.length) {q : Nat} (hq : q < C.length) : (rwOf bs C)[q]? = some (bs.getD q 0, (C.getD q []).map PyData.int) := by
  unfold rwOf
  rw [List.getElem?_zip_eq_some]
  constructor
  · rw [List.getD_eq_getElem?_getD, List.getElem?_eq_getElem (by omega)]
    rfl
  · show (C.map fun r => r.map PyData.int)[q]? = some ((C.getD q []).map PyData.int)
    rw [List.getElem?_map, List.getD_eq_getElem?_getD, List.getElem?_eq_getElem hq]
    rfl
theorem rw_set {bs : List Nat} {C : Mat} (h : bs.length = C.length) {q : Nat} {r : List Int} (hq : q < C.length) : (rwOf bs C).set q (bs.getD q 0, r.map PyData.int) = rwOf bs (C.set q r) := by
  apply List.ext_getElem?
  intro j
  have hs : bs.length = (C.set q r).length := by rw [List.length_set]; exact h
  by_cases hj : j < C.length
  · rw [rw_at hs (by rw [List.length_set]; exact hj), List.getElem?_set, rw_len h, getD_set hq]
    by_cases e : q = j
    · subst e
      rw [if_pos rfl, if_pos rfl, if_pos hq]
    · rw [if_neg e, if_neg e, rw_at h hj]
  · rw [List.getElem?_eq_none (by rw [List.length_set, rw_len h]; omega), List.getElem?_eq_none (by rw [rw_len hs, List.length_set]; omega)]
theorem rw_D {bs : List Nat} {C : Mat} (h : bs.length = C.length) : rwD (rwOf bs C) = matL C := by
  unfold rwD rwOf
  congr 1
  induction C generalizing bs with
  | nil => cases bs <;> rfl
  | cons r C ih =>
    cases bs with
    | nil => cases h
    | cons b bs =>
      rw [List.map_cons, List.zip_cons_cons, List.map_cons, List.map_cons, ih (Nat.succ.inj h)]
theorem rowsD_T : ∀ C : Mat, rowsD (C.map fun r => PyData.tuple (r.map PyData.int)) = some (C.map fun r => r.map PyData.int)
  | [] => rfl
  | r :: C => by
    rw [List.map_cons]
    unfold rowsD
    rw [show seqOf (PyData.tuple (r.map PyData.int)) = some (r.map PyData.int) from rfl, rowsD_T C]
    simp only [scal_ints, if_true]
    rfl
theorem rw_snoc {bs : List Nat} {C : Mat} (h : bs.length = C.length) {b : Nat} {r : List Int} : rwOf bs C ++ [(b, r.map PyData.int)] = rwOf (bs ++ [b]) (C ++ [r]) := by
  unfold rwOf
  rw [List.map_append, List.zip_append (by rw [List.length_map]; exact h)]
  rfl
theorem inB.set {C : Mat} (h : inB C) {c r : Nat} {x : Int} (hx : 0 ≤ x ∧ x ≤ 1000000) : inB (setC C c r x) := fun w hw y hy => by
  rcases List.mem_or_eq_of_mem_set hw with z | z
  · exact h w z y hy
  · rw [z] at hy
    rcases List.mem_or_eq_of_mem_set hy with q | q
    · rw [List.getD_eq_getElem?_getD] at q
      cases e : C[c]? with
      | none =>
        rw [e] at q
        cases q
      | some v =>
        rw [e] at q
        exact h v (List.mem_of_getElem? e) y q
    · rw [q]
      exact hx
theorem inB.cell {k : Nat} {C : Mat} (h : inB C) (hC : rowsOk k C) {c r : Nat} (hc : c < k) (hr : r < k) : 0 ≤ cell C c r ∧ cell C c r ≤ 1000000 := by
  unfold Ma.cell
  have h1 : C.getD c [] ∈ C := by
    rw [List.getD_eq_getElem?_getD, List.getElem?_eq_getElem (by rw [hC.len]; exact hc)]
    exact List.getElem_mem _
  have key : ∀ w : List Int, r < w.length → w.getD r 0 ∈ w := fun w hw => by
    rw [List.getD_eq_getElem?_getD, List.getElem?_eq_getElem hw]
    exact List.getElem_mem _
  exact h _ h1 _ (key _ (by rw [hC.get hc]; exact hr))
theorem rw_setC {bs : List Nat} {C : Mat} (h : bs.length = C.length) {c r : Nat} {v : Int} (hc : c < C.length) : (rwOf bs C).set c (bs.getD c 0, ((C.getD c []).map PyData.int).set r (.int v)) = rwOf bs (setC C c r v) := by
  have e : ((C.getD c []).map PyData.int).set r (.int v) = ((C.getD c []).set r v).map PyData.int := by rw [List.map_set]
  rw [e, rw_set h hc]
  rfl
theorem cells_at {k : Nat} {C : Mat} (h : rowsOk k C) {c r : Nat} (hc : c < k) (hr : r < k) : ((C.getD c []).map PyData.int)[r]? = some (.int (cell C c r)) := by
  have z := at_cell h hc hr
  rw [DL.atI_nat] at z
  exact z
theorem cells_ix {k : Nat} {C : Mat} (h : rowsOk k C) {c r : Nat} (hc : c < k) (hr : r < k) : ixN ((C.getD c []).map PyData.int).length (r : Int) = some r := by rw [List.length_map, h.get hc, ixN_nat, if_pos hr]
theorem cells_ix' {k : Nat} {C : Mat} (h : rowsOk k C) {c r : Nat} (hc : c < k) (hr : r < k) : ixN (C.getD c []).length (r : Int) = some r := by rw [h.get hc, ixN_nat, if_pos hr]
theorem rows_ix {bs : List Nat} {C : Mat} (h : bs.length = C.length) {c : Nat} (hc : c < C.length) : ixN (rwOf bs C).length (c : Int) = some c := by rw [rw_len h, ixN_nat, if_pos hc]
theorem rw_ix {bs : List Nat} {C : Mat} (h : bs.length = C.length) {q : Nat} (hq : q < C.length) : atI (rwOf bs C) (q : Int) = some (bs.getD q 0, (C.getD q []).map PyData.int) := by
  rw [DL.atI_nat]
  exact rw_at h hq
theorem list_eq_mapP {α : Type} {f : α → D} {P : α → Prop} : ∀ {xs : List D}, (∀ x ∈ xs, ∃ a, x = f a ∧ P a) → ∃ as : List α, xs = as.map f ∧ ∀ a ∈ as, P a
  | [], _ => ⟨[], rfl, fun _ h => nomatch h⟩
  | x :: xs, h => by
    obtain ⟨a, e, p⟩ := h x List.mem_cons_self
    obtain ⟨as, e2, ps⟩ := list_eq_mapP (f := f) (P := P) (xs := xs) fun y hy => h y (List.mem_cons_of_mem _ hy)
    refine ⟨a :: as, by rw [e, e2]; rfl, fun b hb => ?_⟩
    rcases List.mem_cons.mp hb with z | z
    · rw [z]
      exact p
    · exact ps b z
theorem list_eq_map {α : Type} {f : α → D} : ∀ {xs : List D}, (∀ x ∈ xs, ∃ a, x = f a) → ∃ as : List α, xs = as.map f
  | [], _ => ⟨[], rfl⟩
  | x :: xs, h => by
    obtain ⟨a, e⟩ := h x List.mem_cons_self
    obtain ⟨as, e2⟩ := list_eq_map (f := f) (xs := xs) fun y hy => h y (List.mem_cons_of_mem _ hy)
    exact ⟨a :: as, by rw [e, e2]; rfl⟩
end DL

set_option maxHeartbeats 4000000
/-! MG2: what leads to a column without cost; the first source component; the steps of a certificate. -/
namespace Ma
section
variable {k : Nat} {C : Mat} {ps : Pins}
def bstep (k : Nat) (C : Mat) (ps : Pins) (f : List (Option Nat)) (j : Nat) : List (Option Nat) := match f[j]? with
  | some (some a) => f ++ (opts k ps a).filter fun r => decide (cst C a r = 0 ∧ r ∉ f)
  | _ => f
def bfs (k : Nat) (C : Mat) (ps : Pins) : Nat → Nat → List (Option Nat) → List (Option Nat)
  | 0, _, f => f
  | n + 1, j, f => bfs k C ps n (j + 1) (bstep k C ps f j)
def srcs (k : Nat) (C : Mat) (ps : Pins) (c : Nat) : List (Option Nat) := bfs k C ps (k + 1) 0 [some c]
structure BOk (k : Nat) (f : List (Option Nat)) : Prop where
  nd : f.Nodup
  lt : ∀ r, some r ∈ f → r < k
theorem BOk.len {f : List (Option Nat)} (h : BOk k f) : f.length ≤ k + 1 := by
  have h1 : (f.map fun o => match o with | none => k | some r => r).Nodup := by
    refine List.pairwise_map.mpr (h.nd.imp_of_mem fun {a b} ha hb hab e => hab ?_)
    cases a with
    | none =>
      cases b with
      | none => rfl
      | some r =>
        have := h.lt r hb
        have e : k = r := e
        omega
    | some q =>
      cases b with
      | none =>
        have := h.lt q ha
        have e : q = k := e
        omega
      | some r =>
        have e : q = r := e
        rw [e]
  have h2 := nodup_len (k + 1) _ h1 fun x hx => by
    obtain ⟨o, ho, rfl⟩ := List.mem_map.mp hx
    cases o with
    | none => exact Nat.lt_succ_self k
    | some r => exact Nat.lt_succ_of_lt (h.lt r ho)
  rw [List.length_map] at h2
  exact h2
theorem bstep_ok (hp : PinsOk k ps) {f : List (Option Nat)} {j : Nat} (h : BOk k f) : BOk k (bstep k C ps f j) := by
  unfold bstep
  split
  · next a e =>
    refine ⟨List.nodup_append.mpr ⟨h.nd, opts_nd.filter _, fun x hx y hy z => ?_⟩, fun r hr => ?_⟩
    · have := (of_decide_eq_true (List.mem_filter.mp hy).2).2
      rw [z] at hx
      exact this hx
    · rcases List.mem_append.mp hr with z | z
      · exact h.lt r z
      · exact opts_lt hp (List.mem_filter.mp z).1 r rfl
  · exact h
theorem bfs_ok (hp : PinsOk k ps) : ∀ (n j : Nat) (f : List (Option Nat)), BOk k f → BOk k (bfs k C ps n j f)
  | 0, _, _, h => h
  | n + 1, j, f, h => bfs_ok hp n (j + 1) _ (bstep_ok hp h)
theorem bok1 {c : Nat} (h : c < k) : BOk k [some c] := ⟨List.nodup_cons.mpr ⟨fun z => (nomatch z), List.nodup_nil⟩, fun r hr => by
  rw [List.mem_singleton] at hr
  cases hr
  exact h⟩
theorem srcs_ok (hp : PinsOk k ps) {c : Nat} (h : c < k) : BOk k (srcs k C ps c) := bfs_ok hp _ _ _ (bok1 h)
theorem bfs_sub : ∀ (n j : Nat) (f : List (Option Nat)), ∀ x ∈ f, x ∈ bfs k C ps n j f
  | 0, _, _, _, h => h
  | n + 1, j, f, x, h => bfs_sub n (j + 1) _ x (by
    unfold bstep
    split
    · exact List.mem_append_left _ h
    · exact h)
theorem srcs_self {c : Nat} : some c ∈ srcs k C ps c := bfs_sub _ _ _ _ List.mem_cons_self
/-- behind its end nothing is added -/
theorem bfs_done : ∀ (n j : Nat) (f : List (Option Nat)), f.length ≤ j → bfs k C ps n j f = f
  | 0, _, _, _ => rfl
  | n + 1, j, f, h => by
    have e : bstep k C ps f j = f := by
      unfold bstep
      rw [List.getElem?_eq_none h]
    show bfs k C ps n (j + 1) (bstep k C ps f j) = f
    rw [e]
    exact bfs_done n (j + 1) f (by omega)
/-- more turns than there are vertices make no difference -/
theorem bfs_more (hp : PinsOk k ps) : ∀ (n m j : Nat) (f : List (Option Nat)), BOk k f → k + 1 ≤ n + j → k + 1 ≤ m + j → bfs k C ps n j f = bfs k C ps m j f
  | 0, m, j, f, h, hn, _ => (bfs_done m j f (by have := h.len; omega)).symm
  | n + 1, 0, j, f, h, _, hm => bfs_done (n + 1) j f (by have := h.len; omega)
  | n + 1, m + 1, j, f, h, hn, hm => bfs_more hp n m (j + 1) _ (bstep_ok hp h) (by omega) (by omega)
/-- the columns of a list, ascending -/
def grp (k : Nat) (f : List (Option Nat)) : List Nat := (List.range k).filter fun c => decide (some c ∈ f)
theorem mem_grp {f : List (Option Nat)} {c : Nat} : c ∈ grp k f ↔ c < k ∧ some c ∈ f := by
  unfold grp
  rw [List.mem_filter, List.mem_range, decide_eq_true_eq]
theorem grp_asc (f : List (Option Nat)) : (grp k f).Pairwise (· < ·) := List.pairwise_lt_range.filter _
theorem grp_len {f : List (Option Nat)} : (grp k f).length ≤ k := by
  unfold grp
  have := List.length_filter_le (fun c => decide (some c ∈ f)) (List.range k)
  rw [List.length_range] at this
  exact this
def isSrc (k : Nat) (C : Mat) (ps : Pins) (c : Nat) : Bool := decide (none ∉ srcs k C ps c) && (grp k (srcs k C ps c)).all fun q => decide (some c ∈ srcs k C ps q)
def firstS (k : Nat) (C : Mat) (ps : Pins) : List Nat := match (List.range k).find? (isSrc k C ps) with
  | some c => grp k (srcs k C ps c)
  | none => []
theorem firstS_lt {c : Nat} (h : c ∈ firstS k C ps) : c < k := by
  unfold firstS at h
  split at h
  · exact (mem_grp.mp h).1
  · cases h
theorem firstS_len : (firstS k C ps).length ≤ k := by
  unfold firstS
  split
  · exact grp_len
  · exact Nat.zero_le _
def entC (C : Mat) (as : List (Nat × Option Nat)) : Int := minD 0 (as.map fun p => cst C p.1 p.2)
/-- the steps of a certificate, n at most -/
def duals (k : Nat) (ps : Pins) : Nat → Mat → List (List Nat × Int)
  | 0, _ => []
  | n + 1, C => if firstS k C ps = [] then [] else (firstS k C ps, entC C (arcs k ps (firstS k C ps))) :: duals k ps n (lower C (arcs k ps (firstS k C ps)) (entC C (arcs k ps (firstS k C ps))))
theorem duals_succ {n : Nat} {C : Mat} : duals k ps (n + 1) C = if firstS k C ps = [] then [] else (firstS k C ps, entC C (arcs k ps (firstS k C ps))) :: duals k ps n (lower C (arcs k ps (firstS k C ps)) (entC C (arcs k ps (firstS k C ps)))) := rfl
theorem duals_len : ∀ (n : Nat) (C : Mat), (duals k ps n C).length ≤ n
  | 0, _ => Nat.le_refl _
  | n + 1, C => by
    unfold duals
    split
    · exact Nat.zero_le _
    · exact Nat.succ_le_succ (duals_len n _)
theorem duals_lt : ∀ (n : Nat) (C : Mat), ∀ p ∈ duals k ps n C, (∀ c ∈ p.1, c < k) ∧ p.1.length ≤ k
  | 0, _, _, h => nomatch h
  | n + 1, C, p, h => by
    unfold duals at h
    split at h
    · cases h
    · rcases List.mem_cons.mp h with z | z
      · rw [z]
        exact ⟨fun c hc => firstS_lt hc, firstS_len⟩
      · exact duals_lt n _ p z
end
/-! loads -/
abbrev Prs := List (List Nat × Int)
def hits (c : Nat) (r : Option Nat) (p : List Nat × Int) : Bool := decide (c ∈ p.1) && enters p.1 r
def load (ps : Prs) (c : Nat) (r : Option Nat) : Int := ((ps.filter (hits c r)).map (·.2)).sum
def excess (k : Nat) (C : Mat) (prs : Prs) (ps : Pins) (c : Nat) : Int := maxD 0 (0 :: (opts k ps c).map fun r => load prs c r - cst C c r)
end Ma
namespace DL
open PySem PySem.Spec PyProof.Rows L2 Ma
abbrev prD (p : List Nat × Int) : D := .tuple [.tuple (p.1.map fun c => PyData.int (c : Nat)), .int p.2]
theorem natsL_sorted {f : List (Option Nat)} {ks : List Nat} (e : f = ks.map some) {k : Nat} (h : BOk k f) {Q : D → Prop} (hq : Q (.list ((grp k f).map fun c => PyData.int (c : Nat)))) : bfS .sorted [.list (f.map optD)] Q := by
  subst e
  have e1 : (ks.map some).map optD = (ks.map Int.ofNat).map PyData.int := by
    rw [List.map_map, List.map_map]
    rfl
  rw [e1, sorted_L]
  have hnd : ks.Nodup := by
    have z := h.nd
    rw [List.nodup_iff_pairwise_ne, List.pairwise_map] at z
    exact z.imp fun a b => a (congrArg some b)
  have hp : ks.Perm (grp k (ks.map some)) := by
    refine (List.perm_ext_iff_of_nodup hnd ((grp_asc _).imp fun h => Nat.ne_of_lt h)).mpr fun a => ?_
    rw [mem_grp]
    constructor
    · intro ha
      have : some a ∈ ks.map some := List.mem_map.mpr ⟨a, ha, rfl⟩
      exact ⟨h.lt a this, this⟩
    · rintro ⟨_, ha⟩
      obtain ⟨b, hb, e⟩ := List.mem_map.mp ha
      cases e
      exact hb
  have es : Ma.srt (ks.map Int.ofNat) = (grp k (ks.map some)).map Int.ofNat := (Ma.srt_uniq (hp.symm.map _) (List.pairwise_map.mpr ((grp_asc _).imp fun h => by
    show (_ : Int) ≤ _
    exact Int.ofNat_le.mpr (Nat.le_of_lt h)))).symm
  rw [es, List.map_map]
  exact hq
end DL

set_option maxHeartbeats 0
namespace Lw
open PySem PySem.Spec PyProof.Rows L2 DL
abbrev rw : PySem.W.OpenLaw := PySem.Challenge.rw_refpack_k38_loads_and_excesses
abbrev pw : PySem.Program := PySem.Challenge.pw_refpack_k38_loads_and_excesses
def top (i : Nat) : Stmt := pw.main.body.getD i (.Pass ⟨0, 0, 0, 0⟩)
abbrev i_followed : Nat := 0
abbrev i_circle_of : Nat := 1
abbrev i_cost_at : Nat := 2
abbrev i_allowed_references : Nat := 3
abbrev i_load_of : Nat := 4
abbrev i_excess_of : Nat := 5
abbrev i__law_tape : Nat := 6
abbrev i__law_draw : Nat := 7
abbrev i__law_pick : Nat := 8
abbrev i__law_same : Nat := 9
abbrev i__law_shuffled : Nat := 10
abbrev i__law_options : Nat := 11
abbrev i__law_at : Nat := 12
abbrev i__law_matrix : Nat := 13
abbrev i__law_matrix_to : Nat := 14
abbrev i__law_pinned : Nat := 15
abbrev i__law_pins : Nat := 16
abbrev i__law_bundle : Nat := 17
abbrev i__law_sources : Nat := 18
abbrev i__law_first_source : Nat := 19
abbrev i__law_entering : Nat := 20
abbrev i__law_pairs : Nat := 21
abbrev i__law_load : Nat := 22
abbrev i__law_excess : Nat := 23
abbrev i_law : Nat := 24
def b_followed_1 : Ss := (.cons (.app 2 (.var 1)) (.cons (.asg (.nm 1) (.idx (.var 0) (.var 1))) .nil))
def b_followed_2 : Ss := (.cons (.frz 2) (.cons (.ret (.tup (.cons (.bf .tuple (.cons (.var 2) .nil)) (.cons (.var 1) .nil)))) .nil))
def b_followed : Ss := (.cons (.own 2 (.lst .nil)) (.cons (.whl (.and (.cmp .IsNot (.var 1) .non) (.cmp .NotIn (.var 1) (.brw 2))) b_followed_1) b_followed_2))
def fn_followed : Fn := ⟨false, 2, 3, b_followed, .no⟩
def df_followed : Df := ⟨"followed", defArgs (top 4), defBody (top 4), defScope (top 4), ["choice", "column", "found"], ["choice", "column"], fn_followed, none⟩
def b_circle_of_1 : Ss := (.cons (.asg (.tp [2, 3]) (.call i_followed none (.cons (.var 0) (.cons (.var 1) .nil)))) (.cons (.ifs (.cmp .Eq (.var 3) (.var 1)) (.cons (.ret (.var 2)) .nil) .nil) .nil))
def b_circle_of_2 : Ss := (.cons (.ret .non) .nil)
def b_circle_of : Ss := (.cons (.fors (.nm 1) (.rng (.bf .len (.cons (.var 0) .nil))) b_circle_of_1) b_circle_of_2)
def fn_circle_of : Fn := ⟨false, 1, 4, b_circle_of, .no⟩
def df_circle_of : Df := ⟨"circle_of", defArgs (top 5), defBody (top 5), defScope (top 5), ["choice", "column", "path", "following"], ["choice"], fn_circle_of, none⟩
def b_cost_at : Ss := (.cons (.ret (.idx (.idx (.var 0) (.var 1)) (.ite (.cmp .Is (.var 2) .non) (.var 1) (.var 2)))) .nil)
def fn_cost_at : Fn := ⟨false, 3, 3, b_cost_at, .no⟩
def df_cost_at : Df := ⟨"cost_at", defArgs (top 7), defBody (top 7), defScope (top 7), ["costs", "column", "reference"], ["costs", "column", "reference"], fn_cost_at, none⟩
def b_allowed_references_1 : Ss := (.cons (.put 2 (.var 4) (.lst (.cons (.var 5) .nil))) (.cons (.put 3 (.var 4) (.var 5)) .nil))
def b_allowed_references_2 : Ss := (.cons (.retO 2) .nil)
def b_allowed_references_3 : Ss := (.cons (.frz 3) (.cons (.ifs (.cmp .IsNot (.call i_circle_of none (.cons (.var 3) .nil)) .non) (.cons .nev .nil) .nil) b_allowed_references_2))
def b_allowed_references : Ss := (.cons (.own 2 (.comp (.bin .Add (.lst (.cons .non .nil)) (.comp (.var 6) (.nm 6) (.rng (.var 0)) (.yes (.cmp .NotEq (.var 6) (.var 4))) [6])) (.nm 4) (.rng (.var 0)) .no [4])) (.cons (.own 3 (.bin .Mult (.lst (.cons .non .nil)) (.var 0))) (.cons (.fors (.tp [4, 5]) (.val (.var 1)) b_allowed_references_1) b_allowed_references_3)))
def fn_allowed_references : Fn := ⟨false, 2, 7, b_allowed_references, .no⟩
def df_allowed_references : Df := ⟨"allowed_references", defArgs (top 8), defBody (top 8), defScope (top 8), ["many", "fixed", "allowed", "choice", "column", "reference", "other"], ["many", "fixed"], fn_allowed_references, none⟩
def b_load_of : Ss := (.cons (.ret (.bf .sum (.cons (.comp (.var 4) (.tp [3, 4]) (.val (.var 0)) (.yes (.and (.cmp .In (.var 1) (.var 3)) (.cmp .NotIn (.var 2) (.var 3)))) [3, 4]) .nil))) .nil)
def fn_load_of : Fn := ⟨false, 3, 5, b_load_of, .no⟩
def df_load_of : Df := ⟨"load_of", defArgs (top 10), defBody (top 10), defScope (top 10), ["pairs", "column", "reference", "members", "amount"], ["pairs", "column", "reference"], fn_load_of, none⟩
def b_excess_of : Ss := (.cons (.asg (.nm 4) (.idx (.call i_allowed_references none (.cons (.bf .len (.cons (.var 0) .nil)) (.cons (.var 3) .nil))) (.var 2))) (.cons (.ret (.bf .max (.cons (.bin .Add (.lst (.cons (.int 0) .nil)) (.comp (.bin .Sub (.call i_load_of none (.cons (.var 1) (.cons (.var 2) (.cons (.var 5) .nil)))) (.call i_cost_at none (.cons (.var 0) (.cons (.var 2) (.cons (.var 5) .nil))))) (.nm 5) (.val (.var 4)) .no [5])) .nil))) .nil))
def fn_excess_of : Fn := ⟨false, 4, 6, b_excess_of, .no⟩
def df_excess_of : Df := ⟨"excess_of", defArgs (top 11), defBody (top 11), defScope (top 11), ["costs", "pairs", "column", "fixed", "references", "other"], ["costs", "pairs", "column", "fixed"], fn_excess_of, (some ("fixed", .tup0))⟩
def b__law_tape_1 : Ss := (.cons (.asg (.nm 1) (.bin .Mod (.bf .int (.cons (.bin .Add (.bin .Mult (.var 1) (.int 31)) (.bf .abs (.cons (.bf .int (.cons (.var 2) .nil)) .nil))) .nil)) (.int 2147483647))) .nil)
def b__law_tape_2 : Ss := (.cons (.ret (.lst (.cons (.bf .list (.cons (.var 0) .nil)) (.cons (.int 0) (.cons (.int 0) (.cons (.var 1) .nil)))))) .nil)
def b__law_tape : Ss := (.cons (.asg (.nm 1) (.int 7)) (.cons (.fors (.nm 2) (.val (.var 0)) b__law_tape_1) b__law_tape_2))
def fn__law_tape : Fn := ⟨false, 1, 3, b__law_tape, .no⟩
def df__law_tape : Df := ⟨"_law_tape", defArgs (top 13), defBody (top 13), defScope (top 13), ["script", "total", "cell"], ["script"], fn__law_tape, none⟩
def b__law_draw_1 : Ss := (.cons (.put 0 (.int 2) (.var 3)) .nil)
def b__law_draw_2 : Ss := (.cons (.put 0 (.int 1) (.bin .Add (.var 2) (.int 1))) (.cons (.ifs (.cmp .Lt (.var 3) (.bin .Pow (.int 10) (.int 18))) (.cons (.asg (.nm 3) (.bin .Mod (.bf .int (.cons (.bin .Add (.bin .Add (.bin .Mult (.var 3) (.int 48271)) (.bin .Mult (.var 2) (.int 69621))) (.int 5)) .nil)) (.int 2147483647))) (.cons (.asg (.nm 3) (.bin .Mod (.bf .int (.cons (.bin .Mult (.var 3) (.int 69621)) .nil)) (.int 2147483629))) (.cons (.ret (.bin .Mod (.bf .int (.cons (.var 3) .nil)) (.bf .max (.cons (.var 1) (.cons (.int 1) .nil))))) .nil))) .nil) b__law_draw_1))
def b__law_draw_3 : Ss := (.cons (.asg (.nm 3) (.idx (.brw 0) (.int 2))) (.cons (.put 0 (.int 2) (.bin .FloorDiv (.var 3) (.bf .max (.cons (.var 1) (.cons (.int 2) .nil))))) (.cons (.ret (.bin .Mod (.bf .int (.cons (.var 3) .nil)) (.bf .max (.cons (.var 1) (.cons (.int 1) .nil))))) .nil)))
def b__law_draw : Ss := (.cons (.ifs (.cmp .Eq (.idx (.brw 0) (.int 2)) (.int 0)) (.cons (.asg (.nm 2) (.idx (.brw 0) (.int 1))) (.cons (.asg (.nm 3) (.int 0)) (.cons (.ifs (.cmp .Lt (.var 2) (.bf .len (.cons (.idx (.brw 0) (.int 0)) .nil))) (.cons (.asg (.nm 3) (.bf .abs (.cons (.bf .int (.cons (.idx (.idx (.brw 0) (.int 0)) (.var 2)) .nil)) .nil))) .nil) (.cons (.put 0 (.int 3) (.bin .Mod (.bf .int (.cons (.bin .Add (.bin .Add (.bin .Mult (.idx (.brw 0) (.int 3)) (.int 48271)) (.var 2)) (.int 1)) .nil)) (.int 2147483647))) (.cons (.asg (.nm 3) (.idx (.brw 0) (.int 3))) .nil))) b__law_draw_2))) .nil) b__law_draw_3)
def fn__law_draw : Fn := ⟨true, 2, 4, b__law_draw, .no⟩
def df__law_draw : Df := ⟨"_law_draw", defArgs (top 14), defBody (top 14), defScope (top 14), ["tape", "many", "place", "number"], ["tape", "many"], fn__law_draw, none⟩
def b__law_pick : Ss := (.cons (.ret (.idx (.var 1) (.call i__law_draw (some 0) (.cons (.bf .len (.cons (.var 1) .nil)) .nil)))) .nil)
def fn__law_pick : Fn := ⟨true, 2, 2, b__law_pick, .no⟩
def df__law_pick : Df := ⟨"_law_pick", defArgs (top 15), defBody (top 15), defScope (top 15), ["tape", "row"], ["tape", "row"], fn__law_pick, none⟩
def b__law_same_1 : Ss := (.cons (.ifs (.not (.call i__law_same none (.cons (.idx (.var 0) (.var 2)) (.cons (.idx (.var 1) (.var 2)) .nil)))) (.cons (.ret (.bl false)) .nil) .nil) .nil)
def b__law_same_2 : Ss := (.cons (.ret (.bl true)) .nil)
def b__law_same_3 : Ss := (.cons (.fors (.nm 2) (.rng (.bf .len (.cons (.var 1) .nil))) b__law_same_1) b__law_same_2)
def b__law_same_4 : Ss := (.cons (.ret (.and (.bf .isI (.cons (.var 0) .nil)) (.and (.not (.bf .isB (.cons (.var 0) .nil))) (.cmp .Eq (.var 0) (.var 1))))) .nil)
def b__law_same_5 : Ss := (.cons (.ifs (.bf .isS (.cons (.var 1) .nil)) (.cons (.ret (.and (.bf .isS (.cons (.var 0) .nil)) (.cmp .Eq (.var 0) (.var 1)))) .nil) .nil) b__law_same_4)
def b__law_same_6 : Ss := (.cons (.ifs (.bf .isB (.cons (.var 1) .nil)) (.cons (.ret (.and (.bf .isB (.cons (.var 0) .nil)) (.cmp .Eq (.var 0) (.var 1)))) .nil) .nil) b__law_same_5)
def b__law_same_7 : Ss := (.cons (.ifs (.bf .isT (.cons (.var 1) .nil)) (.cons (.ifs (.or (.not (.bf .isT (.cons (.var 0) .nil))) (.cmp .NotEq (.bf .len (.cons (.var 0) .nil)) (.bf .len (.cons (.var 1) .nil)))) (.cons (.ret (.bl false)) .nil) .nil) b__law_same_3) .nil) b__law_same_6)
def b__law_same : Ss := (.cons (.ifs (.cmp .Is (.var 1) .non) (.cons (.ret (.cmp .Is (.var 0) .non)) .nil) .nil) b__law_same_7)
def fn__law_same : Fn := ⟨false, 2, 3, b__law_same, .no⟩
def df__law_same : Df := ⟨"_law_same", defArgs (top 16), defBody (top 16), defScope (top 16), ["actual", "expected", "k"], ["actual", "expected"], fn__law_same, none⟩
def b__law_shuffled_1 : Ss := (.cons (.app 3 (.pop 2 (.call i__law_draw (some 0) (.cons (.bf .len (.cons (.brw 2) .nil)) .nil)))) .nil)
def b__law_shuffled_2 : Ss := (.cons (.retO 3) .nil)
def b__law_shuffled : Ss := (.cons (.own 2 (.bf .list (.cons (.var 1) .nil))) (.cons (.own 3 (.lst .nil)) (.cons (.fors (.nm 4) (.rng (.bf .len (.cons (.var 1) .nil))) b__law_shuffled_1) b__law_shuffled_2)))
def fn__law_shuffled : Fn := ⟨true, 2, 5, b__law_shuffled, .no⟩
def df__law_shuffled : Df := ⟨"_law_shuffled", defArgs (top 17), defBody (top 17), defScope (top 17), ["tape", "row", "left", "found", "k"], ["tape", "row"], fn__law_shuffled, none⟩
def b__law_options : Ss := (.cons (.asg (.nm 3) (.comp (.idx (.var 4) (.int 1)) (.nm 4) (.val (.var 1)) (.yes (.cmp .Eq (.idx (.var 4) (.int 0)) (.var 2))) [4])) (.cons (.ret (.ite (.cmp .NotEq (.var 3) (.lst .nil)) (.var 3) (.bin .Add (.lst (.cons .non .nil)) (.comp (.var 5) (.nm 5) (.rng (.var 0)) (.yes (.cmp .NotEq (.var 5) (.var 2))) [5])))) .nil))
def fn__law_options : Fn := ⟨false, 3, 6, b__law_options, .no⟩
def df__law_options : Df := ⟨"_law_options", defArgs (top 18), defBody (top 18), defScope (top 18), ["many", "pins", "c", "given", "pair", "r"], ["many", "pins", "c"], fn__law_options, none⟩
def b__law_at : Ss := (.cons (.ret (.ite (.cmp .Is (.var 2) .non) (.idx (.idx (.var 0) (.var 1)) (.var 1)) (.idx (.idx (.var 0) (.var 1)) (.var 2)))) .nil)
def fn__law_at : Fn := ⟨false, 3, 3, b__law_at, .no⟩
def df__law_at : Df := ⟨"_law_at", defArgs (top 19), defBody (top 19), defScope (top 19), ["costs", "c", "r"], ["costs", "c", "r"], fn__law_at, none⟩
def b__law_matrix : Ss := (.cons (.ret (.call i__law_matrix_to (some 0) (.cons (.var 1) (.cons (.call i__law_pick (some 0) (.cons (.lst (.cons (.int 1) (.cons (.int 2) (.cons (.int 3) (.cons (.int 5) (.cons (.int 5) (.cons (.int 12) (.cons (.int 1000) (.cons (.int 1000001) .nil))))))))) .nil)) .nil)))) .nil)
def fn__law_matrix : Fn := ⟨true, 2, 2, b__law_matrix, .no⟩
def df__law_matrix : Df := ⟨"_law_matrix", defArgs (top 20), defBody (top 20), defScope (top 20), ["tape", "k"], ["tape", "k"], fn__law_matrix, none⟩
def b__law_matrix_to_1 : Ns := (.cons (.st (.own 6 (.comp (.call i__law_draw (some 0) (.cons (.var 2) .nil)) (.nm 11) (.rng (.var 1)) .no [11]))) (.cons (.st (.put 6 (.var 5) (.bf .min (.cons (.int 1000000) (.cons (.bin .Add (.idx (.brw 6) (.var 5)) (.var 3)) .nil))))) (.cons (.appO 6) .nil)))
def b__law_matrix_to_2 : Ns := (.cons (.als 6 (.idx (.var 8) (.var 10))) (.cons (.putA 6 true (.idx (.var 8) (.bin .Add (.var 10) (.int 1))) (.bf .min (.cons (.idx (.var 6) (.idx (.var 8) (.bin .Add (.var 10) (.int 1)))) (.cons (.var 9) .nil)))) (.cons (.als 6 (.idx (.var 8) (.bin .Add (.var 10) (.int 1)))) (.cons (.putA 6 true (.idx (.var 8) (.int 0)) (.bf .min (.cons (.idx (.var 6) (.idx (.var 8) (.int 0))) (.cons (.bin .Add (.var 9) (.call i__law_draw (some 0) (.cons (.int 2) .nil))) .nil)))) .nil))))
def b__law_matrix_to_3 : Ns := (.cons (.st (.asg (.nm 8) (.slc (.call i__law_shuffled (some 0) (.cons (.comp (.var 5) (.nm 5) (.rng (.var 1)) .no [5]) .nil)) .no (.yes (.bin .Add (.int 1) (.call i__law_draw (some 0) (.cons (.var 1) .nil))))))) (.cons (.st (.asg (.nm 9) (.bin .FloorDiv (.call i__law_draw (some 0) (.cons (.var 2) .nil)) (.int 2)))) (.cons (.fors (.nm 10) (.rng (.bin .Sub (.bf .len (.cons (.var 8) .nil)) (.int 1))) b__law_matrix_to_2) .nil)))
def b__law_matrix_to_4 : Ns := (.cons (.fors (.nm 7) (.rng (.call i__law_draw (some 0) (.cons (.int 3) .nil))) b__law_matrix_to_3) .nil)
def b__law_matrix_to_5 : Ns := (.cons (.fors (.nm 5) (.rng (.var 1)) b__law_matrix_to_1) b__law_matrix_to_4)
def b__law_matrix_to_6 : Ss := (.cons (.ret (.bf .tuple (.cons (.comp (.bf .tuple (.cons (.var 6) .nil)) (.nm 6) (.val (.var 4)) .no [6]) .nil))) .nil)
def b__law_matrix_to : Ss := (.cons (.asg (.nm 3) (.call i__law_pick (some 0) (.cons (.lst (.cons (.int 0) (.cons (.int 0) (.cons (.bin .Sub (.var 2) (.int 1)) (.cons (.bin .Mult (.int 3) (.var 2)) .nil))))) .nil))) (.cons (.nest 4 0 none b__law_matrix_to_5) b__law_matrix_to_6))
def fn__law_matrix_to : Fn := ⟨true, 3, 12, b__law_matrix_to, .no⟩
def df__law_matrix_to : Df := ⟨"_law_matrix_to", defArgs (top 21), defBody (top 21), defScope (top 21), ["tape", "k", "top", "start", "rows", "c", "row", "turn", "circle", "cheap", "j", "r"], ["tape", "k", "top"], fn__law_matrix_to, none⟩
def b__law_pinned : Ss := (.cons (.asg (.nm 3) (.call i__law_shuffled (some 0) (.cons (.comp (.var 4) (.nm 4) (.rng (.var 1)) .no [4]) .nil))) (.cons (.ret (.bf .tuple (.cons (.comp (.tup (.cons (.var 4) (.cons (.call i__law_pick (some 0) (.cons (.bin .Add (.lst (.cons .non .nil)) (.slc (.var 3) .no (.yes (.mth .index (.var 3) (.cons (.var 4) .nil))))) .nil)) .nil))) (.nm 4) (.val (.slc (.call i__law_shuffled (some 0) (.cons (.var 3) .nil)) .no (.yes (.var 2)))) .no [4]) .nil))) .nil))
def fn__law_pinned : Fn := ⟨true, 3, 5, b__law_pinned, .no⟩
def df__law_pinned : Df := ⟨"_law_pinned", defArgs (top 22), defBody (top 22), defScope (top 22), ["tape", "k", "many", "order", "c"], ["tape", "k", "many"], fn__law_pinned, none⟩
def b__law_pins : Ss := (.cons (.ret (.call i__law_pinned (some 0) (.cons (.var 1) (.cons (.call i__law_pick (some 0) (.cons (.lst (.cons (.int 0) (.cons (.int 0) (.cons (.int 1) (.cons (.int 1) (.cons (.int 2) (.cons (.call i__law_draw (some 0) (.cons (.bin .Add (.var 1) (.int 1)) .nil)) .nil))))))) .nil)) .nil)))) .nil)
def fn__law_pins : Fn := ⟨true, 2, 2, b__law_pins, .no⟩
def df__law_pins : Df := ⟨"_law_pins", defArgs (top 23), defBody (top 23), defScope (top 23), ["tape", "k"], ["tape", "k"], fn__law_pins, none⟩
def b__law_bundle_1 : Ss := (.cons (.asg (.nm 7) (.slc (.call i__law_shuffled (some 0) (.cons (.comp (.var 8) (.nm 8) (.rng (.bf .len (.cons (.var 1) .nil))) .no [8]) .nil)) .no (.yes (.bin .Add (.int 1) (.call i__law_draw (some 0) (.cons (.bf .len (.cons (.var 1) .nil)) .nil)))))) (.cons (.app 3 (.tup (.cons (.bf .tuple (.cons (.var 7) .nil)) (.cons (.call i__law_pick (some 0) (.cons (.lst (.cons (.int 0) (.cons (.int 1) (.cons (.int 2) (.cons (.call i__law_draw (some 0) (.cons (.int 12) .nil)) (.cons (.call i__law_draw (some 0) (.cons (.int 1000001) .nil)) .nil)))))) .nil)) .nil)))) .nil))
def b__law_bundle_2 : Ss := (.cons (.frz 3) (.cons (.ret (.bf .tuple (.cons (.call i__law_shuffled (some 0) (.cons (.var 3) .nil)) .nil))) .nil))
def b__law_bundle_3 : Ss := (.cons (.fors (.nm 4) (.rng (.var 6)) b__law_bundle_1) b__law_bundle_2)
def b__law_bundle_4 : Ss := (.cons (.asg (.nm 6) (.call i__law_pick (some 0) (.cons (.lst (.cons (.int 0) (.cons (.int 0) (.cons (.int 1) (.cons (.int 2) (.cons (.call i__law_draw (some 0) (.cons (.int 7) .nil)) .nil)))))) .nil))) (.cons (.ifs (.cmp .Eq (.call i__law_draw (some 0) (.cons (.int 16) .nil)) (.int 0)) (.cons (.asg (.nm 6) (.bin .Sub (.int 100) (.bf .len (.cons (.brw 3) .nil)))) .nil) .nil) b__law_bundle_3))
def b__law_bundle : Ss := (.cons (.own 3 (.lst .nil)) (.cons (.ifs (.cmp .Eq (.call i__law_draw (some 0) (.cons (.int 2) .nil)) (.int 0)) (.cons (.own 3 (.bf .list (.cons (.call i__law_pairs none (.cons (.var 1) (.cons (.var 2) .nil))) .nil))) (.cons (.ifs (.and (.cmp .NotEq (.brw 3) (.lst .nil)) (.cmp .Eq (.call i__law_draw (some 0) (.cons (.int 2) .nil)) (.int 0))) (.cons (.asg (.nm 4) (.call i__law_draw (some 0) (.cons (.bf .len (.cons (.brw 3) .nil)) .nil))) (.cons (.asg (.nm 5) (.bin .Add (.idx (.idx (.brw 3) (.var 4)) (.int 1)) (.call i__law_pick (some 0) (.cons (.lst (.cons (.int 1) (.cons (.un .USub (.int 1)) (.cons (.int 3) (.cons (.int 20) .nil))))) .nil)))) (.cons (.put 3 (.var 4) (.tup (.cons (.idx (.idx (.brw 3) (.var 4)) (.int 0)) (.cons (.bf .max (.cons (.int 0) (.cons (.bf .min (.cons (.int 1000000) (.cons (.var 5) .nil))) .nil))) .nil)))) .nil))) .nil) .nil)) .nil) b__law_bundle_4))
def fn__law_bundle : Fn := ⟨true, 3, 9, b__law_bundle, .no⟩
def df__law_bundle : Df := ⟨"_law_bundle", defArgs (top 24), defBody (top 24), defScope (top 24), ["tape", "costs", "pins", "pairs", "j", "amount", "many", "members", "c"], ["tape", "costs", "pins"], fn__law_bundle, none⟩
def b__law_sources_1 : Ss := (.cons (.ifs (.and (.cmp .Lt (.var 4) (.bf .len (.cons (.var 3) .nil))) (.cmp .IsNot (.idx (.var 3) (.var 4)) .non)) (.cons (.asg (.nm 5) (.idx (.var 3) (.var 4))) (.cons (.asg (.nm 6) (.call i__law_options none (.cons (.bf .len (.cons (.var 0) .nil)) (.cons (.var 1) (.cons (.var 5) .nil))))) (.cons (.asg (.nm 3) (.bin .Add (.var 3) (.comp (.var 7) (.nm 7) (.val (.var 6)) (.yes (.and (.cmp .Eq (.call i__law_at none (.cons (.var 0) (.cons (.var 5) (.cons (.var 7) .nil)))) (.int 0)) (.cmp .NotIn (.var 7) (.var 3)))) [7]))) .nil))) .nil) .nil)
def b__law_sources_2 : Ss := (.cons (.ret (.var 3)) .nil)
def b__law_sources : Ss := (.cons (.asg (.nm 3) (.lst (.cons (.var 2) .nil))) (.cons (.fors (.nm 4) (.rng (.bin .Add (.bf .len (.cons (.var 0) .nil)) (.int 1))) b__law_sources_1) b__law_sources_2))
def fn__law_sources : Fn := ⟨false, 3, 8, b__law_sources, .no⟩
def df__law_sources : Df := ⟨"_law_sources", defArgs (top 25), defBody (top 25), defScope (top 25), ["left", "pins", "c", "found", "k", "at", "options", "r"], ["left", "pins", "c"], fn__law_sources, none⟩
def b__law_first_source_1 : Ss := (.cons (.asg (.nm 3) (.call i__law_sources none (.cons (.var 0) (.cons (.var 1) (.cons (.var 2) .nil))))) (.cons (.ifs (.and (.cmp .NotIn .non (.var 3)) (.cmp .Eq (.bf .len (.cons (.comp (.var 4) (.nm 4) (.val (.var 3)) (.yes (.cmp .NotIn (.var 2) (.call i__law_sources none (.cons (.var 0) (.cons (.var 1) (.cons (.var 4) .nil)))))) [4]) .nil)) (.int 0))) (.cons (.ret (.bf .sorted (.cons (.var 3) .nil))) .nil) .nil) .nil))
def b__law_first_source_2 : Ss := (.cons (.ret (.lst .nil)) .nil)
def b__law_first_source : Ss := (.cons (.fors (.nm 2) (.rng (.bf .len (.cons (.var 0) .nil))) b__law_first_source_1) b__law_first_source_2)
def fn__law_first_source : Fn := ⟨false, 2, 5, b__law_first_source, .no⟩
def df__law_first_source : Df := ⟨"_law_first_source", defArgs (top 26), defBody (top 26), defScope (top 26), ["left", "pins", "c", "group", "q"], ["left", "pins"], fn__law_first_source, none⟩
def b__law_entering_1 : Ss := (.cons (.ext 3 (.comp (.tup (.cons (.var 4) (.cons (.var 5) .nil))) (.nm 5) (.val (.call i__law_options none (.cons (.var 0) (.cons (.var 1) (.cons (.var 4) .nil))))) (.yes (.cmp .NotIn (.var 5) (.var 2))) [5])) .nil)
def b__law_entering_2 : Ss := (.cons (.retO 3) .nil)
def b__law_entering : Ss := (.cons (.own 3 (.lst .nil)) (.cons (.fors (.nm 4) (.val (.var 2)) b__law_entering_1) b__law_entering_2))
def fn__law_entering : Fn := ⟨false, 3, 6, b__law_entering, .no⟩
def df__law_entering : Df := ⟨"_law_entering", defArgs (top 27), defBody (top 27), defScope (top 27), ["many", "pins", "group", "arcs", "c", "r"], ["many", "pins", "group"], fn__law_entering, none⟩
def b__law_pairs_1 : Ns := (.cons (.als 9 (.idx (.var 8) (.int 0))) (.cons (.st (.asg (.nm 10) (.ite (.cmp .Is (.idx (.var 8) (.int 1)) .non) (.idx (.var 8) (.int 0)) (.idx (.var 8) (.int 1))))) (.cons (.putA 9 true (.var 10) (.bin .Sub (.idx (.var 9) (.var 10)) (.var 7))) .nil)))
def b__law_pairs_2 : Ns := (.cons (.asgL 5 (.call i__law_first_source none (.cons (.var 2) (.cons (.var 1) .nil)))) (.cons (.st (.ifs (.cmp .Eq (.var 5) (.lst .nil)) (.cons (.frz 3) (.cons (.ret (.bf .tuple (.cons (.var 3) .nil))) .nil)) .nil)) (.cons (.st (.asg (.nm 6) (.call i__law_entering none (.cons (.bf .len (.cons (.var 0) .nil)) (.cons (.var 1) (.cons (.var 5) .nil)))))) (.cons (.asgL 7 (.bf .min (.cons (.comp (.call i__law_at none (.cons (.var 2) (.cons (.idx (.var 8) (.int 0)) (.cons (.idx (.var 8) (.int 1)) .nil)))) (.nm 8) (.val (.var 6)) .no [8]) .nil))) (.cons (.st (.app 3 (.tup (.cons (.bf .tuple (.cons (.var 5) .nil)) (.cons (.var 7) .nil))))) (.cons (.fors (.nm 8) (.val (.var 6)) b__law_pairs_1) .nil))))))
def b__law_pairs_3 : Ns := (.cons (.st (.own 3 (.lst .nil))) (.cons (.fors (.nm 4) (.rng (.bin .Mult (.int 2) (.bf .len (.cons (.var 0) .nil)))) b__law_pairs_2) .nil))
def b__law_pairs_4 : Ss := (.cons (.frz 3) (.cons (.ret (.bf .tuple (.cons (.var 3) .nil))) .nil))
def b__law_pairs : Ss := (.cons (.nest 2 9 (some (.var 0)) b__law_pairs_3) b__law_pairs_4)
def fn__law_pairs : Fn := ⟨false, 2, 11, b__law_pairs, .no⟩
def df__law_pairs : Df := ⟨"_law_pairs", defArgs (top 28), defBody (top 28), defScope (top 28), ["costs", "pins", "left", "pairs", "turn", "group", "arcs", "least", "arc", "row", "place"], ["costs", "pins"], fn__law_pairs, none⟩
def b__law_load : Ss := (.cons (.ret (.bf .sum (.cons (.comp (.idx (.var 3) (.int 1)) (.nm 3) (.val (.var 0)) (.yes (.and (.cmp .In (.var 1) (.idx (.var 3) (.int 0))) (.cmp .NotIn (.var 2) (.idx (.var 3) (.int 0))))) [3]) .nil))) .nil)
def fn__law_load : Fn := ⟨false, 3, 4, b__law_load, .no⟩
def df__law_load : Df := ⟨"_law_load", defArgs (top 29), defBody (top 29), defScope (top 29), ["pairs", "c", "r", "pair"], ["pairs", "c", "r"], fn__law_load, none⟩
def b__law_excess : Ss := (.cons (.asg (.nm 4) (.call i__law_options none (.cons (.bf .len (.cons (.var 0) .nil)) (.cons (.var 2) (.cons (.var 3) .nil))))) (.cons (.ret (.bf .max (.cons (.bin .Add (.lst (.cons (.int 0) .nil)) (.comp (.bin .Sub (.call i__law_load none (.cons (.var 1) (.cons (.var 3) (.cons (.var 5) .nil)))) (.call i__law_at none (.cons (.var 0) (.cons (.var 3) (.cons (.var 5) .nil))))) (.nm 5) (.val (.var 4)) .no [5])) .nil))) .nil))
def fn__law_excess : Fn := ⟨false, 4, 6, b__law_excess, .no⟩
def df__law_excess : Df := ⟨"_law_excess", defArgs (top 30), defBody (top 30), defScope (top 30), ["costs", "pairs", "pins", "c", "options", "r"], ["costs", "pairs", "pins", "c"], fn__law_excess, none⟩
def b_law_1 : Ss := (.cons (.ifs (.not (.call i__law_same none (.cons (.call i_load_of none (.cons (.var 8) (.cons (.var 9) (.cons (.var 10) .nil)))) (.cons (.call i__law_load none (.cons (.var 8) (.cons (.var 9) (.cons (.var 10) .nil)))) .nil)))) (.cons (.ret (.bl false)) .nil) .nil) .nil)
def b_law_2 : Ss := (.cons (.asg (.nm 12) (.call i__law_excess none (.cons (.idx (.var 11) (.int 0)) (.cons (.var 8) (.cons (.idx (.var 11) (.int 1)) (.cons (.var 9) .nil)))))) (.cons (.ifs (.not (.call i__law_same none (.cons (.callK i_excess_of (.cons (.idx (.var 11) (.int 0)) (.cons (.var 8) (.cons (.var 9) .nil))) (.idx (.var 11) (.int 1))) (.cons (.var 12) .nil)))) (.cons (.ret (.bl false)) .nil) .nil) .nil))
def b_law_3 : Ss := (.cons (.fors (.nm 11) (.val (.lst (.cons (.tup (.cons (.var 3) (.cons (.var 4) .nil))) (.cons (.tup (.cons (.var 3) (.cons (.tup .nil) .nil))) (.cons (.tup (.cons (.var 7) (.cons (.var 4) .nil))) .nil))))) b_law_2) .nil)
def b_law_4 : Ss := (.cons (.fors (.nm 10) (.val (.call i__law_options none (.cons (.var 2) (.cons (.tup .nil) (.cons (.var 9) .nil))))) b_law_1) b_law_3)
def b_law_5 : Ss := (.cons (.fors (.nm 9) (.rng (.var 2)) b_law_4) .nil)
def b_law_6 : Ss := (.cons (.ret (.call i__law_same none (.cons (.callD i_excess_of .tup0 (.cons (.var 3) (.cons (.var 5) (.cons (.int 0) .nil)))) (.cons (.call i__law_excess none (.cons (.var 3) (.cons (.var 5) (.cons (.tup .nil) (.cons (.int 0) .nil))))) .nil)))) .nil)
def b_law : Ss := (.cons (.own 1 (.call i__law_tape none (.cons (.var 0) .nil))) (.cons (.asg (.nm 2) (.bin .Add (.int 1) (.call i__law_draw (some 1) (.cons (.int 6) .nil)))) (.cons (.asg (.nm 3) (.call i__law_matrix (some 1) (.cons (.var 2) .nil))) (.cons (.asg (.nm 4) (.call i__law_pins (some 1) (.cons (.var 2) .nil))) (.cons (.asg (.nm 5) (.call i__law_bundle (some 1) (.cons (.var 3) (.cons (.var 4) .nil)))) (.cons (.asg (.nm 6) (.call i__law_bundle (some 1) (.cons (.var 3) (.cons (.var 4) .nil)))) (.cons (.asg (.nm 7) (.call i__law_matrix (some 1) (.cons (.var 2) .nil))) (.cons (.fors (.nm 8) (.val (.lst (.cons (.var 5) (.cons (.var 6) (.cons (.var 5) .nil))))) b_law_5) b_law_6))))))))
def fn_law : Fn := ⟨false, 1, 13, b_law, .no⟩
def df_law : Df := ⟨"law", defArgs (top 31), defBody (top 31), defScope (top 31), ["script", "tape", "k", "costs", "drawn", "pairs", "other", "others", "bundle", "c", "r", "trial", "due"], ["script"], fn_law, none⟩
def TT : List Df := [df_followed, df_circle_of, df_cost_at, df_allowed_references, df_load_of, df_excess_of, df__law_tape, df__law_draw, df__law_pick, df__law_same, df__law_shuffled, df__law_options, df__law_at, df__law_matrix, df__law_matrix_to, df__law_pinned, df__law_pins, df__law_bundle, df__law_sources, df__law_first_source, df__law_entering, df__law_pairs, df__law_load, df__law_excess, df_law]
def CS : List (Str × D) := []
def BL : List Str := ["abs", "bool", "int", "isinstance", "len", "list", "max", "min", "range", "sorted", "str", "sum", "tuple"]
abbrev CC : List D := CS.map (·.2)
abbrev PP : List Fn := TT.map (·.fn)
abbrev dn (n i : Nat) : FSpec := den CC PP n i
theorem ok_followed : df_followed.Ok TT (CS.map (·.1)) BL := ⟨by decide +kernel, (fun _ _ _ _ _ _ _ us hl => match us, hl with | [_, _], _ => rfl), (fun _ _ h => nomatch h), (fun _ _ h => nomatch h), fun _ => by decide +kernel, rfl, rfl, fun h => absurd rfl h⟩
theorem ok_circle_of : df_circle_of.Ok TT (CS.map (·.1)) BL := ⟨by decide +kernel, (fun _ _ _ _ _ _ _ us hl => match us, hl with | [_], _ => rfl), (fun _ _ h => nomatch h), (fun _ _ h => nomatch h), fun _ => by decide +kernel, rfl, rfl, fun h => absurd rfl h⟩
theorem ok_cost_at : df_cost_at.Ok TT (CS.map (·.1)) BL := ⟨by decide +kernel, (fun _ _ _ _ _ _ _ us hl => match us, hl with | [_, _, _], _ => rfl), (fun _ _ h => nomatch h), (fun _ _ h => nomatch h), fun _ => by decide +kernel, rfl, rfl, fun h => absurd rfl h⟩
theorem ok_allowed_references : df_allowed_references.Ok TT (CS.map (·.1)) BL := ⟨by decide +kernel, (fun _ _ _ _ _ _ _ us hl => match us, hl with | [_, _], _ => rfl), (fun _ _ h => nomatch h), (fun _ _ h => nomatch h), fun _ => by decide +kernel, rfl, rfl, fun h => absurd rfl h⟩
theorem ok_load_of : df_load_of.Ok TT (CS.map (·.1)) BL := ⟨by decide +kernel, (fun _ _ _ _ _ _ _ us hl => match us, hl with | [_, _, _], _ => rfl), (fun _ _ h => nomatch h), (fun _ _ h => nomatch h), fun _ => by decide +kernel, rfl, rfl, fun h => absurd rfl h⟩
theorem ok_excess_of : df_excess_of.Ok TT (CS.map (·.1)) BL := ⟨by decide +kernel, (fun h => nomatch h), (fun kn dk h => by cases h; exact ⟨rfl, fun _ _ _ _ _ _ us ws l1 l2 => match us, ws, l1, l2 with | [_, _, _], [_], _, _ => rfl, fun _ _ _ _ _ _ us ks l1 l2 => match us, ks, l1, l2 with | [_, _, _], [_], _, _ => ⟨_, _, _, _, _, _, rfl, rfl, rfl⟩⟩), (fun _ _ _ => by decide), fun _ => by decide +kernel, rfl, rfl, fun h => absurd rfl h⟩
theorem ok__law_tape : df__law_tape.Ok TT (CS.map (·.1)) BL := ⟨by decide +kernel, (fun _ _ _ _ _ _ _ us hl => match us, hl with | [_], _ => rfl), (fun _ _ h => nomatch h), (fun _ _ h => nomatch h), fun _ => by decide +kernel, rfl, rfl, fun h => absurd rfl h⟩
theorem ok__law_draw : df__law_draw.Ok TT (CS.map (·.1)) BL := ⟨by decide +kernel, (fun _ _ _ _ _ _ _ us hl => match us, hl with | [_, _], _ => rfl), (fun _ _ h => nomatch h), (fun _ _ h => nomatch h), fun _ => by decide +kernel, rfl, rfl, fun h => absurd rfl h⟩
theorem ok__law_pick : df__law_pick.Ok TT (CS.map (·.1)) BL := ⟨by decide +kernel, (fun _ _ _ _ _ _ _ us hl => match us, hl with | [_, _], _ => rfl), (fun _ _ h => nomatch h), (fun _ _ h => nomatch h), fun _ => by decide +kernel, rfl, rfl, fun h => absurd rfl h⟩
theorem ok__law_same : df__law_same.Ok TT (CS.map (·.1)) BL := ⟨by decide +kernel, (fun _ _ _ _ _ _ _ us hl => match us, hl with | [_, _], _ => rfl), (fun _ _ h => nomatch h), (fun _ _ h => nomatch h), fun _ => by decide +kernel, rfl, rfl, fun h => absurd rfl h⟩
theorem ok__law_shuffled : df__law_shuffled.Ok TT (CS.map (·.1)) BL := ⟨by decide +kernel, (fun _ _ _ _ _ _ _ us hl => match us, hl with | [_, _], _ => rfl), (fun _ _ h => nomatch h), (fun _ _ h => nomatch h), fun _ => by decide +kernel, rfl, rfl, fun h => absurd rfl h⟩
theorem ok__law_options : df__law_options.Ok TT (CS.map (·.1)) BL := ⟨by decide +kernel, (fun _ _ _ _ _ _ _ us hl => match us, hl with | [_, _, _], _ => rfl), (fun _ _ h => nomatch h), (fun _ _ h => nomatch h), fun _ => by decide +kernel, rfl, rfl, fun h => absurd rfl h⟩
theorem ok__law_at : df__law_at.Ok TT (CS.map (·.1)) BL := ⟨by decide +kernel, (fun _ _ _ _ _ _ _ us hl => match us, hl with | [_, _, _], _ => rfl), (fun _ _ h => nomatch h), (fun _ _ h => nomatch h), fun _ => by decide +kernel, rfl, rfl, fun h => absurd rfl h⟩
theorem ok__law_matrix : df__law_matrix.Ok TT (CS.map (·.1)) BL := ⟨by decide +kernel, (fun _ _ _ _ _ _ _ us hl => match us, hl with | [_, _], _ => rfl), (fun _ _ h => nomatch h), (fun _ _ h => nomatch h), fun _ => by decide +kernel, rfl, rfl, fun h => absurd rfl h⟩
theorem ok__law_matrix_to : df__law_matrix_to.Ok TT (CS.map (·.1)) BL := ⟨by decide +kernel, (fun _ _ _ _ _ _ _ us hl => match us, hl with | [_, _, _], _ => rfl), (fun _ _ h => nomatch h), (fun _ _ h => nomatch h), fun _ => by decide +kernel, rfl, rfl, fun h => absurd rfl h⟩
theorem ok__law_pinned : df__law_pinned.Ok TT (CS.map (·.1)) BL := ⟨by decide +kernel, (fun _ _ _ _ _ _ _ us hl => match us, hl with | [_, _, _], _ => rfl), (fun _ _ h => nomatch h), (fun _ _ h => nomatch h), fun _ => by decide +kernel, rfl, rfl, fun h => absurd rfl h⟩
theorem ok__law_pins : df__law_pins.Ok TT (CS.map (·.1)) BL := ⟨by decide +kernel, (fun _ _ _ _ _ _ _ us hl => match us, hl with | [_, _], _ => rfl), (fun _ _ h => nomatch h), (fun _ _ h => nomatch h), fun _ => by decide +kernel, rfl, rfl, fun h => absurd rfl h⟩
theorem ok__law_bundle : df__law_bundle.Ok TT (CS.map (·.1)) BL := ⟨by decide +kernel, (fun _ _ _ _ _ _ _ us hl => match us, hl with | [_, _, _], _ => rfl), (fun _ _ h => nomatch h), (fun _ _ h => nomatch h), fun _ => by decide +kernel, rfl, rfl, fun h => absurd rfl h⟩
theorem ok__law_sources : df__law_sources.Ok TT (CS.map (·.1)) BL := ⟨by decide +kernel, (fun _ _ _ _ _ _ _ us hl => match us, hl with | [_, _, _], _ => rfl), (fun _ _ h => nomatch h), (fun _ _ h => nomatch h), fun _ => by decide +kernel, rfl, rfl, fun h => absurd rfl h⟩
theorem ok__law_first_source : df__law_first_source.Ok TT (CS.map (·.1)) BL := ⟨by decide +kernel, (fun _ _ _ _ _ _ _ us hl => match us, hl with | [_, _], _ => rfl), (fun _ _ h => nomatch h), (fun _ _ h => nomatch h), fun _ => by decide +kernel, rfl, rfl, fun h => absurd rfl h⟩
theorem ok__law_entering : df__law_entering.Ok TT (CS.map (·.1)) BL := ⟨by decide +kernel, (fun _ _ _ _ _ _ _ us hl => match us, hl with | [_, _, _], _ => rfl), (fun _ _ h => nomatch h), (fun _ _ h => nomatch h), fun _ => by decide +kernel, rfl, rfl, fun h => absurd rfl h⟩
theorem ok__law_pairs : df__law_pairs.Ok TT (CS.map (·.1)) BL := ⟨by decide +kernel, (fun _ _ _ _ _ _ _ us hl => match us, hl with | [_, _], _ => rfl), (fun _ _ h => nomatch h), (fun _ _ h => nomatch h), fun _ => by decide +kernel, rfl, rfl, fun h => absurd rfl h⟩
theorem ok__law_load : df__law_load.Ok TT (CS.map (·.1)) BL := ⟨by decide +kernel, (fun _ _ _ _ _ _ _ us hl => match us, hl with | [_, _, _], _ => rfl), (fun _ _ h => nomatch h), (fun _ _ h => nomatch h), fun _ => by decide +kernel, rfl, rfl, fun h => absurd rfl h⟩
theorem ok__law_excess : df__law_excess.Ok TT (CS.map (·.1)) BL := ⟨by decide +kernel, (fun _ _ _ _ _ _ _ us hl => match us, hl with | [_, _, _, _], _ => rfl), (fun _ _ h => nomatch h), (fun _ _ h => nomatch h), fun _ => by decide +kernel, rfl, rfl, fun h => absurd rfl h⟩
theorem ok_law : df_law.Ok TT (CS.map (·.1)) BL := ⟨by decide +kernel, (fun _ _ _ _ _ _ _ us hl => match us, hl with | [_], _ => rfl), (fun _ _ h => nomatch h), (fun _ _ h => nomatch h), fun _ => by decide +kernel, rfl, rfl, fun h => absurd rfl h⟩
theorem okTT : ∀ d ∈ TT, d.Ok TT (CS.map (·.1)) BL := List.forall_mem_cons.mpr ⟨ok_followed, List.forall_mem_cons.mpr ⟨ok_circle_of, List.forall_mem_cons.mpr ⟨ok_cost_at, List.forall_mem_cons.mpr ⟨ok_allowed_references, List.forall_mem_cons.mpr ⟨ok_load_of, List.forall_mem_cons.mpr ⟨ok_excess_of, List.forall_mem_cons.mpr ⟨ok__law_tape, List.forall_mem_cons.mpr ⟨ok__law_draw, List.forall_mem_cons.mpr ⟨ok__law_pick, List.forall_mem_cons.mpr ⟨ok__law_same, List.forall_mem_cons.mpr ⟨ok__law_shuffled, List.forall_mem_cons.mpr ⟨ok__law_options, List.forall_mem_cons.mpr ⟨ok__law_at, List.forall_mem_cons.mpr ⟨ok__law_matrix, List.forall_mem_cons.mpr ⟨ok__law_matrix_to, List.forall_mem_cons.mpr ⟨ok__law_pinned, List.forall_mem_cons.mpr ⟨ok__law_pins, List.forall_mem_cons.mpr ⟨ok__law_bundle, List.forall_mem_cons.mpr ⟨ok__law_sources, List.forall_mem_cons.mpr ⟨ok__law_first_source, List.forall_mem_cons.mpr ⟨ok__law_entering, List.forall_mem_cons.mpr ⟨ok__law_pairs, List.forall_mem_cons.mpr ⟨ok__law_load, List.forall_mem_cons.mpr ⟨ok__law_excess, List.forall_mem_cons.mpr ⟨ok_law, fun _ h => nomatch h⟩⟩⟩⟩⟩⟩⟩⟩⟩⟩⟩⟩⟩⟩⟩⟩⟩⟩⟩⟩⟩⟩⟩⟩⟩
abbrev fa : List He.Fa := faOf TT BL CS
abbrev fns : List He.DefD := TT.map mkD
abbrev R : PySem.W.OpenRow := PySem.W.OpenLaw.row rw
abbrev KDS : List DL.KdT := TT.map fun d => (d.x, d.kw)
def lams : List Str := []
abbrev hk : PySem.W.Hook := DL.hookT 4 fa fns lams CS KDS
def ob (s : PySem.W.SharedT) : DL.AlT := DL.obsT 4 fa fns CS KDS (HandSHeadRun.getT s)
theorem ob_eq (s : PySem.W.SharedT) : ob s = hk.obs s.abs := DL.obsT_eq (HandSHeadRun.getT_eq s)
def loose0 : List Str := ["PackError", "CircularReferences", "followed", "circle_of", "cost_at", "allowed_references", "load_of", "excess_of", "_law_tape", "_law_draw", "_law_pick", "_law_same", "_law_shuffled", "_law_options", "_law_at", "_law_matrix", "_law_matrix_to", "_law_pinned", "_law_pins", "_law_bundle"]
def loose1 : List Str := ["_law_sources", "_law_first_source", "_law_entering", "_law_pairs", "_law_load", "_law_excess"]
def loose : List Str := loose0 ++ loose1
theorem run (w : World) : HandSHeadRun.RunEq R (PySem.W.view R.prog [31]) hk ob 2320 loose w := by
  intro os
  kernel_rfl
end Lw
open PySem PySem.W PySem.Calls PyProof.Rows L2 in
theorem holds_of {n : Nat} (hr : Room n callerA) (hl : DL.Law Lw.CS Lw.TT n Lw.i_law) : Lw.rw.Holds := by
  w_on; o_law
  refine HandSHeadRun.head_any (r := OpenLaw.row Lw.rw) (q := view (OpenLaw.row Lw.rw).prog [31]) (H := Lw.hk) (ob := Lw.ob) (M := 2320) (loose := Lw.loose) (d := HandSHeadRun.topDef (OpenLaw.row Lw.rw).prog 31) (kwd := []) Lw.ob_eq
    (by kernel_rfl) (fun s => by kernel_rfl) Lw.run (by kernel_rfl) (by kernel_rfl) (by kernel_rfl) (by rfl) (by first | assumption | decide +kernel) (by decide +kernel) ⟨rfl, rfl, rfl, rfl, rfl, by decide +kernel⟩ ?hw ?hc
  case hw => w_witness2
  case hc =>
    refine LamX.walk_ofTsE (l := Lw.rw) (n := 63) (k := n) (x := "script") (CX := fun _ => L2.CX0) rfl (by decide) (by kernel_rfl) hr ?F (fun _ _ _ _ _ z => z)
    intro w mg fa h Y G hm
    have e : (HandSHeadRun.topDef (OpenLaw.row Lw.rw).prog 31).name = Lw.df_law.x := by kernel_rfl
    rw [e] at hm
    exact DL.law_F (l := Lw.rw) Lw.okTT (by decide +kernel) (i := Lw.i_law) (d := Lw.df_law) rfl ⟨rfl, rfl, rfl⟩ hl (by decide +kernel) w mg fa h Y G hm


set_option maxHeartbeats 1000000
set_option exponentiation.threshold 20000
namespace Lw
open PySem PySem.Spec PyProof.Rows L2 DL
section
local macro_rules
  | `(tactic| simp_arith only [$ls,*]) => `(tactic| try simp only [$ls,*, ↓wq_callK, ↓wq_callD, dk_0, dk_n, ↓wq_comp2, ↓cmI_at, ↓ws_nest0, ↓ws_nest1, ↓wn_st, ↓wn_appO, ↓wn_als, ↓wn_putT, ↓wn_putF, ↓wn_aug2, ↓wn_asgL, ↓wn_ifs, ↓wn_fors, ↓wns_nil, ↓wns_cons, opq_inj, kn_nx, kn_rt, kn_bk, kn_ct, kn_ex, ↓whT_at, ↓cmC_at, ↓cmE_at, ↓wq_var, ↓wq_int, ↓wq_bl, ↓wq_non, ↓wq_str, ↓wq_glob, ↓wq_un, ↓wq_not, ↓wq_bin, ↓wq_cmp, ↓wq_chn, ↓wq_and, ↓wq_or, ↓wq_ite, ↓wq_tup, ↓wq_lst, ↓wq_idx, ↓wq_slc, ↓wq_call, ↓wq_bf, ↓wq_mth, ↓wq_pop, ↓wq_comp, mtOk_b, ↓mtOk_i, ↓mtOk_c, ↓mtOk_g, isDct_d, mut_dct, ↓dct_L, ↓get_L, isLst_l, isSeq_l, isSeq_t, ↓index_T, ↓srtP_L, ↓srtK_L, ↓srtK_T, ↓maxP_L, ↓minP_L, ↓lt_pairs, ↓index_L, ↓count_L, ↓sum_L, ↓all_L, ↓any_L, ↓tupRev_at, ↓revL_at, ↓revT_at, ↓tupRng_at, rev_ints, ↓srtR_L, ↓wi_val, ↓wi_rng, ↓wi_rng2, ↓wi_enum, ↓wi_zip, ↓eq_L, ↓eq_T, ↓eq_Lnil, ↓eq_Tnil, ↓appS_at, ↓extS_at, ↓popS_at, ↓ws_asg, ↓ws_own, ↓ws_aug, ↓ws_app, ↓ws_ext, ↓ws_put, ↓ws_frz, ↓ws_expr, ↓ws_ret, ↓ws_retO, ↓ws_retN, ↓ws_ifs, ↓ws_whl, ↓ws_fors, ↓ws_brk, ↓ws_cnt, ↓ws_pas, ↓ws_nev, ↓wss_nil, ↓wss_cons, ↓tst_and, ↓tst_or, ↓tst_not, ↓vt_and, ↓vt_or, ↓wpEs, ↓wpOs, ↓wpOe, ↓wpC, ↓frz, ↓oper, ↓tst, ↓bindT, ↓bindTs, ↓cont, ↓conts, ↓ev0, ↓ev1, ↓ev2, ↓ev3, ↓ev4, ↓ev5, ↓ev6, ↓ev7, ↓ev8, ↓ev9, ↓ev10, ↓ev11, ↓ev12, ↓ev13, ↓ev14, ↓ev15, ↓ev16, ↓ev17, ↓ev18, ↓ev19, ↓ev20, ↓ev21, ↓ev22, ↓ev23, ↓ev24, ↓ev25, ↓ev26, ↓ev27, ↓ev28, ↓ev29, ↓ev30, ↓ev31, ↓ev32, ↓ev33, ↓ev34, ↓ev35, ↓ev36, ↓ev39, ↓ev40, ↓ev41, ↓ev42, ↓ev43, ↓ev44, ↓ev45, ↓ev46, ↓ev47, ↓ev48, ↓ev49, ↓ev50, ↓ev51, ↓ev52, ↓ev53, ↓ev54, ↓ev55, ↓ev56, ↓ev57, ↓ev58, ↓ev59, ↓ev60, ↓ev61, ↓ev62, ↓ev63, ↓ev64, ↓ev65, ↓ev66, ↓ev67, ↓ev68, ↓ev69, ↓ev70, ↓ev71, ↓ev72, ↓ev73, ↓ev74, ↓ev75, ↓ev76, ↓ev77, ↓ev78, ↓ev79, ↓ev80, ↓ev81, ↓ev82, ↓ev83, ↓ev84, ↓ev85, ↓ev86, ↓ev87, ↓ev88, ↓ev89, ↓ev90, ↓ev91, ↓ev92, ↓ev93, ↓ev94, ↓ev95, ↓ev96, ↓ev97, ↓ev98, ↓ev99, ↓ev_intb, ↓sorted_L, ↓sorted_T, ↓max_L, ↓max_T, ↓min_L, ↓min_T, ↓maxD_L, ↓minD_L, ↓in_L, ↓in_T, emp_ints, ints_len, resOk_int, resOk_bl, resOk_non, resOk_str, resOk_T, resOk_L, snoc_ints, snoc_N, ↓in_TT, ↓eq_TNnil, ↓in_ON, ↓in_ONT, ↓is_ON, ↓isnot_ON, ↓optD_is, snoc_TN, cut_m1, take_N, drop_N, rev_N, app_N, cut_N, emp_N, resOk_NT, ↓eq_NT, ↓eq_NTnil, ↓in_N, ↓in_NT, len_N, len_O, app_ints, cut_ints, take_ints, drop_ints, cut_lit, cut_litF, ne_eq, not_false_eq_true, Nat.reduceEqDiff, Nat.zero_le, intsD_map, ↓call0, ↓callS, ↓tpOk, gv0, gvS, gom, goo, goS, tpF, tpT, List.set_cons_zero, List.set_cons_succ, List.getElem?_cons_zero, List.getElem?_cons_succ, List.length_cons, List.length_nil, Nat.reduceAdd, Nat.reduceSub, Nat.reduceLT, ↓reduceIte, Option.some.injEq, exists_eq_left', exists_eq_left, true_and, and_true, Option.isSome_some, atI_lit, ixN_lit, decide_eq_true_eq, List.map_cons, List.map_nil, List.nil_append, List.cons_append, List.replicate_succ, List.replicate_zero, isMut, ite_and2, ite_or2, Prod.mk.injEq, and_assoc, DL.isNon, Bool.not_eq_true', decide_eq_false_iff_not, Bool.false_eq_true, reduceCtorEq, mOk_int, mOk_str, mOk_bl, mOk_non, mOk_o, mulOk_lit, mulOk_lit', CPow_lit, resOk_nil, resOk_d, false_or, or_false, PyData.bool.injEq, Int.toNat_natCast, wipes, backs, Option.getD_some, valOk, List.all_cons, List.all_nil, Bool.and_true, decide_true, Option.isSome_none, rngOk_lit, PyData.int.injEq, Int.one_mul, noOwn_nil, noOwn_d, noOwn_s, noSl_nil, noSl_d, noSl_s, Int.reduceToNat, Int.reducePow, Int.reduceLT, Int.reduceLE, Int.reduceNeg, Int.reduceSub, Int.reduceAdd, Int.reduceMul, Nat.reduceLeDiff, Bool.not_true, Bool.not_false, Bool.not_not])
  | `(tactic| simp_arith only) => `(tactic| try simp only [↓wq_callK, ↓wq_callD, dk_0, dk_n, ↓wq_comp2, ↓cmI_at, ↓ws_nest0, ↓ws_nest1, ↓wn_st, ↓wn_appO, ↓wn_als, ↓wn_putT, ↓wn_putF, ↓wn_aug2, ↓wn_asgL, ↓wn_ifs, ↓wn_fors, ↓wns_nil, ↓wns_cons, opq_inj, kn_nx, kn_rt, kn_bk, kn_ct, kn_ex, ↓whT_at, ↓cmC_at, ↓cmE_at, ↓wq_var, ↓wq_int, ↓wq_bl, ↓wq_non, ↓wq_str, ↓wq_glob, ↓wq_un, ↓wq_not, ↓wq_bin, ↓wq_cmp, ↓wq_chn, ↓wq_and, ↓wq_or, ↓wq_ite, ↓wq_tup, ↓wq_lst, ↓wq_idx, ↓wq_slc, ↓wq_call, ↓wq_bf, ↓wq_mth, ↓wq_pop, ↓wq_comp, mtOk_b, ↓mtOk_i, ↓mtOk_c, ↓mtOk_g, isDct_d, mut_dct, ↓dct_L, ↓get_L, isLst_l, isSeq_l, isSeq_t, ↓index_T, ↓srtP_L, ↓srtK_L, ↓srtK_T, ↓maxP_L, ↓minP_L, ↓lt_pairs, ↓index_L, ↓count_L, ↓sum_L, ↓all_L, ↓any_L, ↓tupRev_at, ↓revL_at, ↓revT_at, ↓tupRng_at, rev_ints, ↓srtR_L, ↓wi_val, ↓wi_rng, ↓wi_rng2, ↓wi_enum, ↓wi_zip, ↓eq_L, ↓eq_T, ↓eq_Lnil, ↓eq_Tnil, ↓appS_at, ↓extS_at, ↓popS_at, ↓ws_asg, ↓ws_own, ↓ws_aug, ↓ws_app, ↓ws_ext, ↓ws_put, ↓ws_frz, ↓ws_expr, ↓ws_ret, ↓ws_retO, ↓ws_retN, ↓ws_ifs, ↓ws_whl, ↓ws_fors, ↓ws_brk, ↓ws_cnt, ↓ws_pas, ↓ws_nev, ↓wss_nil, ↓wss_cons, ↓tst_and, ↓tst_or, ↓tst_not, ↓vt_and, ↓vt_or, ↓wpEs, ↓wpOs, ↓wpOe, ↓wpC, ↓frz, ↓oper, ↓tst, ↓bindT, ↓bindTs, ↓cont, ↓conts, ↓ev0, ↓ev1, ↓ev2, ↓ev3, ↓ev4, ↓ev5, ↓ev6, ↓ev7, ↓ev8, ↓ev9, ↓ev10, ↓ev11, ↓ev12, ↓ev13, ↓ev14, ↓ev15, ↓ev16, ↓ev17, ↓ev18, ↓ev19, ↓ev20, ↓ev21, ↓ev22, ↓ev23, ↓ev24, ↓ev25, ↓ev26, ↓ev27, ↓ev28, ↓ev29, ↓ev30, ↓ev31, ↓ev32, ↓ev33, ↓ev34, ↓ev35, ↓ev36, ↓ev39, ↓ev40, ↓ev41, ↓ev42, ↓ev43, ↓ev44, ↓ev45, ↓ev46, ↓ev47, ↓ev48, ↓ev49, ↓ev50, ↓ev51, ↓ev52, ↓ev53, ↓ev54, ↓ev55, ↓ev56, ↓ev57, ↓ev58, ↓ev59, ↓ev60, ↓ev61, ↓ev62, ↓ev63, ↓ev64, ↓ev65, ↓ev66, ↓ev67, ↓ev68, ↓ev69, ↓ev70, ↓ev71, ↓ev72, ↓ev73, ↓ev74, ↓ev75, ↓ev76, ↓ev77, ↓ev78, ↓ev79, ↓ev80, ↓ev81, ↓ev82, ↓ev83, ↓ev84, ↓ev85, ↓ev86, ↓ev87, ↓ev88, ↓ev89, ↓ev90, ↓ev91, ↓ev92, ↓ev93, ↓ev94, ↓ev95, ↓ev96, ↓ev97, ↓ev98, ↓ev99, ↓ev_intb, ↓sorted_L, ↓sorted_T, ↓max_L, ↓max_T, ↓min_L, ↓min_T, ↓maxD_L, ↓minD_L, ↓in_L, ↓in_T, emp_ints, ints_len, resOk_int, resOk_bl, resOk_non, resOk_str, resOk_T, resOk_L, snoc_ints, snoc_N, ↓in_TT, ↓eq_TNnil, ↓in_ON, ↓in_ONT, ↓is_ON, ↓isnot_ON, ↓optD_is, snoc_TN, cut_m1, take_N, drop_N, rev_N, app_N, cut_N, emp_N, resOk_NT, ↓eq_NT, ↓eq_NTnil, ↓in_N, ↓in_NT, len_N, len_O, app_ints, cut_ints, take_ints, drop_ints, cut_lit, cut_litF, ne_eq, not_false_eq_true, Nat.reduceEqDiff, Nat.zero_le, intsD_map, ↓call0, ↓callS, ↓tpOk, gv0, gvS, gom, goo, goS, tpF, tpT, List.set_cons_zero, List.set_cons_succ, List.getElem?_cons_zero, List.getElem?_cons_succ, List.length_cons, List.length_nil, Nat.reduceAdd, Nat.reduceSub, Nat.reduceLT, ↓reduceIte, Option.some.injEq, exists_eq_left', exists_eq_left, true_and, and_true, Option.isSome_some, atI_lit, ixN_lit, decide_eq_true_eq, List.map_cons, List.map_nil, List.nil_append, List.cons_append, List.replicate_succ, List.replicate_zero, isMut, ite_and2, ite_or2, Prod.mk.injEq, and_assoc, DL.isNon, Bool.not_eq_true', decide_eq_false_iff_not, Bool.false_eq_true, reduceCtorEq, mOk_int, mOk_str, mOk_bl, mOk_non, mOk_o, mulOk_lit, mulOk_lit', CPow_lit, resOk_nil, resOk_d, false_or, or_false, PyData.bool.injEq, Int.toNat_natCast, wipes, backs, Option.getD_some, valOk, List.all_cons, List.all_nil, Bool.and_true, decide_true, Option.isSome_none, rngOk_lit, PyData.int.injEq, Int.one_mul, noOwn_nil, noOwn_d, noOwn_s, noSl_nil, noSl_d, noSl_s, Int.reduceToNat, Int.reducePow, Int.reduceLT, Int.reduceLE, Int.reduceNeg, Int.reduceSub, Int.reduceAdd, Int.reduceMul, Nat.reduceLeDiff, Bool.not_true, Bool.not_false, Bool.not_not])
  | `(tactic| simp_arith only [$ls,*] at $h:ident) => `(tactic| try simp only [$ls,*, ↓wq_callK, ↓wq_callD, dk_0, dk_n, ↓wq_comp2, ↓cmI_at, ↓ws_nest0, ↓ws_nest1, ↓wn_st, ↓wn_appO, ↓wn_als, ↓wn_putT, ↓wn_putF, ↓wn_aug2, ↓wn_asgL, ↓wn_ifs, ↓wn_fors, ↓wns_nil, ↓wns_cons, opq_inj, kn_nx, kn_rt, kn_bk, kn_ct, kn_ex, ↓whT_at, ↓cmC_at, ↓cmE_at, ↓wq_var, ↓wq_int, ↓wq_bl, ↓wq_non, ↓wq_str, ↓wq_glob, ↓wq_un, ↓wq_not, ↓wq_bin, ↓wq_cmp, ↓wq_chn, ↓wq_and, ↓wq_or, ↓wq_ite, ↓wq_tup, ↓wq_lst, ↓wq_idx, ↓wq_slc, ↓wq_call, ↓wq_bf, ↓wq_mth, ↓wq_pop, ↓wq_comp, mtOk_b, ↓mtOk_i, ↓mtOk_c, ↓mtOk_g, isDct_d, mut_dct, ↓dct_L, ↓get_L, isLst_l, isSeq_l, isSeq_t, ↓index_T, ↓srtP_L, ↓srtK_L, ↓srtK_T, ↓maxP_L, ↓minP_L, ↓lt_pairs, ↓index_L, ↓count_L, ↓sum_L, ↓all_L, ↓any_L, ↓tupRev_at, ↓revL_at, ↓revT_at, ↓tupRng_at, rev_ints, ↓srtR_L, ↓wi_val, ↓wi_rng, ↓wi_rng2, ↓wi_enum, ↓wi_zip, ↓eq_L, ↓eq_T, ↓eq_Lnil, ↓eq_Tnil, ↓appS_at, ↓extS_at, ↓popS_at, ↓ws_asg, ↓ws_own, ↓ws_aug, ↓ws_app, ↓ws_ext, ↓ws_put, ↓ws_frz, ↓ws_expr, ↓ws_ret, ↓ws_retO, ↓ws_retN, ↓ws_ifs, ↓ws_whl, ↓ws_fors, ↓ws_brk, ↓ws_cnt, ↓ws_pas, ↓ws_nev, ↓wss_nil, ↓wss_cons, ↓tst_and, ↓tst_or, ↓tst_not, ↓vt_and, ↓vt_or, ↓wpEs, ↓wpOs, ↓wpOe, ↓wpC, ↓frz, ↓oper, ↓tst, ↓bindT, ↓bindTs, ↓cont, ↓conts, ↓ev0, ↓ev1, ↓ev2, ↓ev3, ↓ev4, ↓ev5, ↓ev6, ↓ev7, ↓ev8, ↓ev9, ↓ev10, ↓ev11, ↓ev12, ↓ev13, ↓ev14, ↓ev15, ↓ev16, ↓ev17, ↓ev18, ↓ev19, ↓ev20, ↓ev21, ↓ev22, ↓ev23, ↓ev24, ↓ev25, ↓ev26, ↓ev27, ↓ev28, ↓ev29, ↓ev30, ↓ev31, ↓ev32, ↓ev33, ↓ev34, ↓ev35, ↓ev36, ↓ev39, ↓ev40, ↓ev41, ↓ev42, ↓ev43, ↓ev44, ↓ev45, ↓ev46, ↓ev47, ↓ev48, ↓ev49, ↓ev50, ↓ev51, ↓ev52, ↓ev53, ↓ev54, ↓ev55, ↓ev56, ↓ev57, ↓ev58, ↓ev59, ↓ev60, ↓ev61, ↓ev62, ↓ev63, ↓ev64, ↓ev65, ↓ev66, ↓ev67, ↓ev68, ↓ev69, ↓ev70, ↓ev71, ↓ev72, ↓ev73, ↓ev74, ↓ev75, ↓ev76, ↓ev77, ↓ev78, ↓ev79, ↓ev80, ↓ev81, ↓ev82, ↓ev83, ↓ev84, ↓ev85, ↓ev86, ↓ev87, ↓ev88, ↓ev89, ↓ev90, ↓ev91, ↓ev92, ↓ev93, ↓ev94, ↓ev95, ↓ev96, ↓ev97, ↓ev98, ↓ev99, ↓ev_intb, ↓sorted_L, ↓sorted_T, ↓max_L, ↓max_T, ↓min_L, ↓min_T, ↓maxD_L, ↓minD_L, ↓in_L, ↓in_T, emp_ints, ints_len, resOk_int, resOk_bl, resOk_non, resOk_str, resOk_T, resOk_L, snoc_ints, snoc_N, ↓in_TT, ↓eq_TNnil, ↓in_ON, ↓in_ONT, ↓is_ON, ↓isnot_ON, ↓optD_is, snoc_TN, cut_m1, take_N, drop_N, rev_N, app_N, cut_N, emp_N, resOk_NT, ↓eq_NT, ↓eq_NTnil, ↓in_N, ↓in_NT, len_N, len_O, app_ints, cut_ints, take_ints, drop_ints, cut_lit, cut_litF, ne_eq, not_false_eq_true, Nat.reduceEqDiff, Nat.zero_le, intsD_map, ↓call0, ↓callS, ↓tpOk, gv0, gvS, gom, goo, goS, tpF, tpT, List.set_cons_zero, List.set_cons_succ, List.getElem?_cons_zero, List.getElem?_cons_succ, List.length_cons, List.length_nil, Nat.reduceAdd, Nat.reduceSub, Nat.reduceLT, ↓reduceIte, Option.some.injEq, exists_eq_left', exists_eq_left, true_and, and_true, Option.isSome_some, atI_lit, ixN_lit, decide_eq_true_eq, List.map_cons, List.map_nil, List.nil_append, List.cons_append, List.replicate_succ, List.replicate_zero, isMut, ite_and2, ite_or2, Prod.mk.injEq, and_assoc, DL.isNon, Bool.not_eq_true', decide_eq_false_iff_not, Bool.false_eq_true, reduceCtorEq, mOk_int, mOk_str, mOk_bl, mOk_non, mOk_o, mulOk_lit, mulOk_lit', CPow_lit, resOk_nil, resOk_d, false_or, or_false, PyData.bool.injEq, Int.toNat_natCast, wipes, backs, Option.getD_some, valOk, List.all_cons, List.all_nil, Bool.and_true, decide_true, Option.isSome_none, rngOk_lit, PyData.int.injEq, Int.one_mul, noOwn_nil, noOwn_d, noOwn_s, noSl_nil, noSl_d, noSl_s, Int.reduceToNat, Int.reducePow, Int.reduceLT, Int.reduceLE, Int.reduceNeg, Int.reduceSub, Int.reduceAdd, Int.reduceMul, Nat.reduceLeDiff, Bool.not_true, Bool.not_false, Bool.not_not] at $h:ident)
def Tp (t : D) : Prop := ∃ (ns : List Int) (pl cur tot : Int), t = .list [.list (ns.map PyData.int), .int pl, .int cur, .int tot] ∧ 0 ≤ pl ∧ 0 ≤ cur
theorem log2_of {j : Int} (h : j < 2 ^ 1000) (h0 : 0 < j) : j.natAbs.log2 < 9000 := by
  have h2 : j.natAbs < 2 ^ 1000 := by
    have e : ((j.natAbs : Nat) : Int) = j := by omega
    have : ((j.natAbs : Nat) : Int) < ((2 ^ 1000 : Nat) : Int) := by
      rw [e]
      exact_mod_cast h
    exact_mod_cast this
  exact Nat.lt_of_lt_of_le ((Nat.log2_lt (by omega)).mpr h2) (by decide)
theorem pow2_pos (w : Int) : (0 : Int) < 2 ^ w.toNat := by
  have a : (1 : Nat) ≤ 2 ^ w.toNat := Nat.one_le_two_pow
  have : ((1 : Nat) : Int) ≤ ((2 ^ w.toNat : Nat) : Int) := by exact_mod_cast a
  have e : ((2 ^ w.toNat : Nat) : Int) = 2 ^ w.toNat := by push_cast; rfl
  omega
section
variable {n : Nat} {Q : D → Bool → Option D → Prop} {R : Xn → Option D → Prop}
theorem max_bd {m : Int} (x : Int) : 0 < (if 1 > m then 1 else m) ∧ 0 ≤ x % (if 1 > m then 1 else m) ∧ (x % (if 1 > m then 1 else m) < m ∨ x % (if 1 > m then 1 else m) = 0) := by
  split
  · refine ⟨by omega, by omega, by omega⟩
  · have h : 0 < m := by omega
    have h1 := Int.emod_nonneg x (b := m) (by omega)
    have h2 := Int.emod_lt_of_pos x h
    exact ⟨h, h1, .inl h2⟩
theorem d_followed {cs : List (Option Nat)} {c : Nat} (hc : Ma.ChOk cs) (hl : cs.length ≤ 1000) (h0 : c < cs.length) (h : Q (.tuple [.tuple (natsD (Ma.followed cs c).1), optD (Ma.followed cs c).2]) false none) : dn (n + 1) i_followed none [.tuple (cs.map optD), .int (c : Nat)] Q R := by
  refine den_at (f := fn_followed) rfl ⟨⟨rfl, rfl⟩, ?_⟩
  simp_arith only [fn_followed, b_followed, init]
  refine whl_run (fun m ρ => ∃ (f : List Nat) (o : Option Nat), ρ = [some (.v, .tuple (cs.map optD)), some (.v, optD o), some (.o, .list (natsD f))] ∧ Ma.Met cs f o ∧ Ma.walk cs (cs.length + 1 - f.length) f o = Ma.followed cs c ∧ m = cs.length + 1 - f.length) (m := cs.length + 1) ⟨[], some c, rfl, Ma.met0 h0, rfl, rfl⟩ ?_
  rintro m ρ F hF ⟨f, o, rfl, hm, hw, rfl⟩
  have hfl := hm.len
  have fin : (Ma.followed cs c) = (f, o) → wpSs CC (den CC PP n) b_followed_2 [some (.v, .tuple (cs.map optD)), some (.v, optD o), some (.o, .list (natsD f))] { nx := fun ρ => tpEnd false ρ (Q PyData.none false), rt := fun d fr ρ => tpEnd false ρ (Q d fr), bk := fun x => False, ct := fun x => False, ex := fun x ρ => tpEnd false ρ (R x) } := fun e => by
    simp_arith only [b_followed_2]
    refine ⟨by decide, ?_⟩
    rw [e] at h
    exact h
  cases o with
  | none =>
    simp_arith only [optD]
    rw [Ma.walk_none] at hw
    have fin := fin hw.symm
    simp_arith only [optD] at fin
    exact fin
  | some d =>
    have hd := hm.o d rfl
    have ha := at_O (cs := cs) hd
    simp_arith only [optD]
    split
    · next hn =>
      simp_arith only [b_followed_1, ha]
      refine ⟨(by (try simp only [List.length_map, List.length_zipIdx, List.length_take, List.length_drop, List.length_append, List.length_cons, List.length_nil, List.length_zip, List.length_range, Ma.wcs_len, Ma.srt_len, sizeLine_eq]); omega), hF (cs.length + 1 - (f ++ [d]).length) _ (by rw [List.length_append, List.length_singleton]; omega) ⟨f ++ [d], Ma.nxt cs d, rfl, hm.go hc hn, ?_, rfl⟩⟩
      rw [← hw, show cs.length + 1 - f.length = (cs.length + 1 - (f ++ [d]).length) + 1 by rw [List.length_append, List.length_singleton]; omega, Ma.walk_go hn]
    · next hn =>
      have hn : d ∈ f := Decidable.not_not.mp hn
      rw [Ma.walk_in hn] at hw
      have fin := fin hw.symm
      simp_arith only [optD] at fin
      exact fin
def circD (cs : List (Option Nat)) : D := match Ma.circle cs with
  | none => .none
  | some p => .tuple (natsD p)
theorem d_circle_of {cs : List (Option Nat)} (hc : Ma.ChOk cs) (hl : cs.length ≤ 1000) (h : Q (circD cs) false none) : dn (n + 2) i_circle_of none [.tuple (cs.map optD)] Q R := by
  refine den_at (f := fn_circle_of) rfl ⟨⟨rfl, rfl⟩, ?_⟩
  simp_arith only [fn_circle_of, b_circle_of, init]
  refine ⟨rngOk_nat (by omega), forL_rng (fun i ρ => (∃ a b c : Option (Md × D), ρ = [some (.v, .tuple (cs.map optD)), a, b, c]) ∧ ∀ j : Nat, j < i → (Ma.followed cs j).2 ≠ some j) (by omega) ⟨⟨_, _, _, rfl⟩, fun j hj => absurd hj (by omega)⟩ ?_ ?_⟩
  · rintro i ρ F i0 i1 hF ⟨⟨a, b, c, rfl⟩, hj⟩
    obtain ⟨k, rfl⟩ := Int.eq_ofNat_of_zero_le i0
    simp_arith only [b_circle_of_1]
    refine d_followed hc hl (by omega) ?_
    simp_arith only
    split
    · next he =>
      unfold circD at h
      rw [Ma.circle_some (c := k) (by omega) (fun j hj2 => hj j (by omega)) he] at h
      exact h
    · next he =>
      refine hF _ ⟨⟨_, _, _, rfl⟩, fun j hj2 => ?_⟩
      by_cases z : j = k
      · rw [z]
        exact he
      · exact hj j (by omega)
  · rintro ρ ⟨⟨a, b, c, rfl⟩, hj⟩
    simp_arith only [b_circle_of_2]
    unfold circD at h
    rw [Ma.circle_none fun j hj2 => hj j (by omega)] at h
    exact h
theorem d_cost_at {C : Ma.Mat} {k c : Nat} {o : Option Nat} (hC : Ma.rowsOk k C) (hc : c < k) (ho : ∀ r, o = some r → r < k) (h : Q (.int (Ma.cst C c o)) false none) : dn (n + 1) i_cost_at none [matT C, .int (c : Nat), optD o] Q R := by
  refine den_at (f := fn_cost_at) rfl ⟨⟨rfl, rfl⟩, ?_⟩
  cases o with
  | none =>
    simp_arith only [fn_cost_at, b_cost_at, init, optD, at_row hC hc, at_cell hC hc hc]
    exact h
  | some r =>
    simp_arith only [fn_cost_at, b_cost_at, init, optD, at_row hC hc, at_cell hC hc (ho r rfl)]
    exact h
theorem d_followed_L {cs : List (Option Nat)} {c : Nat} (hc : Ma.ChOk cs) (hl : cs.length ≤ 1000) (h0 : c < cs.length) (h : Q (.tuple [.tuple (natsD (Ma.followed cs c).1), optD (Ma.followed cs c).2]) false none) : dn (n + 1) i_followed none [.list (cs.map optD), .int (c : Nat)] Q R := by
  refine den_at (f := fn_followed) rfl ⟨⟨rfl, rfl⟩, ?_⟩
  simp_arith only [fn_followed, b_followed, init]
  refine whl_run (fun m ρ => ∃ (f : List Nat) (o : Option Nat), ρ = [some (.v, .list (cs.map optD)), some (.v, optD o), some (.o, .list (natsD f))] ∧ Ma.Met cs f o ∧ Ma.walk cs (cs.length + 1 - f.length) f o = Ma.followed cs c ∧ m = cs.length + 1 - f.length) (m := cs.length + 1) ⟨[], some c, rfl, Ma.met0 h0, rfl, rfl⟩ ?_
  rintro m ρ F hF ⟨f, o, rfl, hm, hw, rfl⟩
  have hfl := hm.len
  have fin : (Ma.followed cs c) = (f, o) → wpSs CC (den CC PP n) b_followed_2 [some (.v, .list (cs.map optD)), some (.v, optD o), some (.o, .list (natsD f))] { nx := fun ρ => tpEnd false ρ (Q PyData.none false), rt := fun d fr ρ => tpEnd false ρ (Q d fr), bk := fun x => False, ct := fun x => False, ex := fun x ρ => tpEnd false ρ (R x) } := fun e => by
    simp_arith only [b_followed_2]
    refine ⟨by decide, ?_⟩
    rw [e] at h
    exact h
  cases o with
  | none =>
    simp_arith only [optD]
    rw [Ma.walk_none] at hw
    have fin := fin hw.symm
    simp_arith only [optD] at fin
    exact fin
  | some d =>
    have hd := hm.o d rfl
    have ha := at_O (cs := cs) hd
    simp_arith only [optD]
    split
    · next hn =>
      simp_arith only [b_followed_1, ha]
      refine ⟨(by (try simp only [List.length_map, List.length_zipIdx, List.length_take, List.length_drop, List.length_append, List.length_cons, List.length_nil, List.length_zip, List.length_range, Ma.wcs_len, Ma.srt_len, sizeLine_eq]); omega), hF (cs.length + 1 - (f ++ [d]).length) _ (by rw [List.length_append, List.length_singleton]; omega) ⟨f ++ [d], Ma.nxt cs d, rfl, hm.go hc hn, ?_, rfl⟩⟩
      rw [← hw, show cs.length + 1 - f.length = (cs.length + 1 - (f ++ [d]).length) + 1 by rw [List.length_append, List.length_singleton]; omega, Ma.walk_go hn]
    · next hn =>
      have hn : d ∈ f := Decidable.not_not.mp hn
      rw [Ma.walk_in hn] at hw
      have fin := fin hw.symm
      simp_arith only [optD] at fin
      exact fin
theorem d_circle_of_L {cs : List (Option Nat)} (hc : Ma.ChOk cs) (hl : cs.length ≤ 1000) (h : Q (circD cs) false none) : dn (n + 2) i_circle_of none [.list (cs.map optD)] Q R := by
  refine den_at (f := fn_circle_of) rfl ⟨⟨rfl, rfl⟩, ?_⟩
  simp_arith only [fn_circle_of, b_circle_of, init]
  refine ⟨rngOk_nat (by omega), forL_rng (fun i ρ => (∃ a b c : Option (Md × D), ρ = [some (.v, .list (cs.map optD)), a, b, c]) ∧ ∀ j : Nat, j < i → (Ma.followed cs j).2 ≠ some j) (by omega) ⟨⟨_, _, _, rfl⟩, fun j hj => absurd hj (by omega)⟩ ?_ ?_⟩
  · rintro i ρ F i0 i1 hF ⟨⟨a, b, c, rfl⟩, hj⟩
    obtain ⟨k, rfl⟩ := Int.eq_ofNat_of_zero_le i0
    simp_arith only [b_circle_of_1]
    refine d_followed_L hc hl (by omega) ?_
    simp_arith only
    split
    · next he =>
      unfold circD at h
      rw [Ma.circle_some (c := k) (by omega) (fun j hj2 => hj j (by omega)) he] at h
      exact h
    · next he =>
      refine hF _ ⟨⟨_, _, _, rfl⟩, fun j hj2 => ?_⟩
      by_cases z : j = k
      · rw [z]
        exact he
      · exact hj j (by omega)
  · rintro ρ ⟨⟨a, b, c, rfl⟩, hj⟩
    simp_arith only [b_circle_of_2]
    unfold circD at h
    rw [Ma.circle_none fun j hj2 => hj j (by omega)] at h
    exact h
theorem frees_D {k c : Nat} : (Ma.frees k c).map optD = PyData.none :: ((List.range k).filter fun r => decide (r ≠ c)).map fun r : Nat => PyData.int (r : Int) := by
  unfold Ma.frees
  rw [List.map_cons, List.map_map]
  rfl
theorem d_allowed_references {k : Nat} {ps : Ma.Pins} (h : Ma.PinsOk k ps) (hk : k ≤ 100) (hp : ps.length ≤ 100) (hQ : Q (.list ((List.range k).map fun c => .list ((Ma.opts k ps c).map optD))) true none) : dn (n + 3) i_allowed_references none [.int (k : Nat), pinsD ps] Q R := by
  refine den_at (f := fn_allowed_references) rfl ⟨⟨rfl, rfl⟩, ?_⟩
  simp_arith only [fn_allowed_references, b_allowed_references, init, rng0]
  refine ⟨rngOk_nat (by omega), (by (try simp only [List.length_map, List.length_zipIdx, List.length_take, List.length_drop, List.length_append, List.length_cons, List.length_nil, List.length_zip, List.length_range, Ma.wcs_len, Ma.srt_len, sizeLine_eq]); omega), compL_all (fun c : Nat => .list ((Ma.frees k c).map optD)) (fun c hc F hF => ?_) ?_⟩
  · simp_arith only [rng0]
    refine ⟨by decide, rngOk_nat (by omega), (by (try simp only [List.length_map, List.length_zipIdx, List.length_take, List.length_drop, List.length_append, List.length_cons, List.length_nil, List.length_zip, List.length_range, Ma.wcs_len, Ma.srt_len, sizeLine_eq]); omega), compL_map (fun r : Nat => decide (r ≠ c)) (fun r : Nat => .int (r : Nat)) (fun r hr F2 h1 h2 => ?_) ?_⟩
    · simp_arith only
      by_cases e : r = c
      · rw [if_neg (by rw [e]; exact fun z => z rfl)]
        exact h2 (by simp [e])
      · rw [if_pos (by omega)]
        exact h1 (by simp [e])
    · simp_arith only
      refine ⟨?_, ?_⟩
      · have := List.length_filter_le (fun r => decide ¬r = c) (List.range k)
        rw [List.length_range] at this
        rw [sizeLine_eq]
        omega
      · rw [frees_D] at hF
        exact hF
  · have ei : ([.none] : List D) = [optD none] := rfl
    have e0 : (List.replicate k [PyData.none]).flatten = (List.replicate k (none : Option Nat)).map optD := by
      rw [List.map_replicate]
      clear h hQ hk
      induction k with
      | zero => rfl
      | succ k ih => rw [List.replicate_succ, List.flatten_cons, ih, List.replicate_succ]; rfl
    simp_arith only [e0]
    refine ⟨by decide, by omega, by omega, (by (try simp only [List.length_map, List.length_zipIdx, List.length_take, List.length_drop, List.length_append, List.length_cons, List.length_nil, List.length_zip, List.length_range, Ma.wcs_len, Ma.srt_len, sizeLine_eq]); omega), ?_⟩
    refine forL_pre (fun pre ρ => ∃ a b c : Option (Md × D), ρ = [some (.v, .int (k : Nat)), some (.v, pinsD ps), some (.o, .list ((pre.foldl (fun rows (p : Nat × Option Nat) => rows.set p.1 [p.2]) ((List.range k).map (Ma.frees k))).map fun os => .list (os.map optD))), some (.o, .list ((pre.foldl (fun cs (p : Nat × Option Nat) => cs.set p.1 p.2) (List.replicate k none)).map optD)), a, b, c]) ⟨_, _, _, by rw [List.foldl_nil, List.foldl_nil, List.map_map]; rfl⟩ ?_ ?_
    · rintro pre ⟨c, o⟩ post ρ F e hF ⟨a, b, d, rfl⟩
      have hc : c < k := (h.lt (c, o) (by rw [e]; exact List.mem_append_right _ List.mem_cons_self)).1
      have l1 : (pre.foldl (fun rows (p : Nat × Option Nat) => rows.set p.1 [p.2]) ((List.range k).map (Ma.frees k))).length = k := by rw [Ma.fold_len (fun p : Nat × Option Nat => p.1) fun p => [p.2], List.length_map, List.length_range]
      have l2 : (pre.foldl (fun cs (p : Nat × Option Nat) => cs.set p.1 p.2) (List.replicate k none)).length = k := by rw [Ma.fold_len (fun p : Nat × Option Nat => p.1) fun p => p.2, List.length_replicate]
      simp_arith only [b_allowed_references_1]
      refine ⟨by decide, c, by rw [ixN_nat, if_pos (by rw [List.length_map, l1]; exact hc)], c, by rw [ixN_nat, if_pos (by rw [l2]; exact hc)], hF _ ⟨some (.v, .int (c : Nat)), some (.v, optD o), d, ?_⟩⟩
      rw [List.foldl_append, List.foldl_append, List.foldl_cons, List.foldl_cons, List.foldl_nil, List.foldl_nil, List.map_set, List.map_set]
      rfl
    · rintro ρ ⟨a, b, d, rfl⟩
      have e1 := Ma.allow_eq h
      have e2 : Ma.circle (Ma.chosen k ps) = none := Ma.chosen_free h
      unfold Ma.allow at e1
      rw [e1]
      simp_arith only [b_allowed_references_3]
      have hc := Ma.chosen_ok h
      have hl : (Ma.chosen k ps).length = k := Ma.chosen_len
      unfold Ma.chosen at e2 hc hl
      refine d_circle_of_L hc (by omega) ?_
      unfold circD
      rw [e2]
      simp_arith only [b_allowed_references_2, List.map_map]
      exact hQ
theorem sum_map {α : Type} {f : α → Int} {xs : List α} : (xs.map fun x => PyData.int (f x)) = (xs.map f).map PyData.int := by
  rw [List.map_map]
  rfl
theorem d_load_of {prs : Ma.Prs} {c : Nat} {o : Option Nat} (hl : prs.length ≤ 1000) (h : Q (.int (Ma.load prs c o)) false none) : dn (n + 1) i_load_of none [.tuple (prs.map fun p => .tuple [.tuple (p.1.map fun c => PyData.int (c : Nat)), .int p.2]), .int (c : Nat), optD o] Q R := by
  refine den_at (f := fn_load_of) rfl ⟨⟨rfl, rfl⟩, ?_⟩
  simp_arith only [fn_load_of, b_load_of, init]
  refine ⟨by rw [List.length_map, sizeLine_eq]; omega, compL_map (Ma.hits c o) (fun p => .int p.2) (fun p hp F h1 h2 => ?_) ?_⟩
  · unfold Ma.hits Ma.enters at h1 h2
    cases o with
    | none =>
      simp_arith only [optD, in_nT]
      by_cases e : c ∈ p.1
      · rw [if_pos e]
        exact h1 (by simp [e])
      · rw [if_neg e]
        exact h2 (by simp [e])
    | some r =>
      simp_arith only [optD]
      by_cases e : c ∈ p.1 ∧ ¬ r ∈ p.1
      · rw [if_pos e]
        exact h1 (by simp [e.1, e.2])
      · rw [if_neg e]
        refine h2 ?_
        by_cases e1 : c ∈ p.1
        · have e2 : r ∈ p.1 := Decidable.not_not.mp fun z => e ⟨e1, z⟩
          simp [e2]
        · simp [e1]
  · simp_arith only
    rw [sum_map, sum_L]
    exact h
theorem d_excess_of {C : Ma.Mat} {k : Nat} {prs : Ma.Prs} {ps : Ma.Pins} {c : Nat} (hC : Ma.rowsOk k C) (h : Ma.PinsOk k ps) (hk : k ≤ 100) (hp : ps.length ≤ 100) (hl : prs.length ≤ 1000) (hc : c < k) (hQ : Q (.int (Ma.excess k C prs ps c)) false none) : dn (n + 4) i_excess_of none [matT C, .tuple (prs.map fun p => .tuple [.tuple (p.1.map fun c => PyData.int (c : Nat)), .int p.2]), .int (c : Nat), pinsD ps] Q R := by
  refine den_at (f := fn_excess_of) rfl ⟨⟨rfl, rfl⟩, ?_⟩
  have hCl := hC.len
  simp_arith only [fn_excess_of, b_excess_of, init, List.length_map, hCl]
  refine d_allowed_references h hk hp ?_
  have ho := Nat.le_trans (Ma.opts_len (k := k) (ps := ps) (c := c)) (by omega : k + 1 ≤ 101)
  have ha : atI ((List.range k).map fun c => PyData.list ((Ma.opts k ps c).map optD)) (c : Int) = some (.list ((Ma.opts k ps c).map optD)) := by
    rw [DL.atI_nat, List.getElem?_map, List.getElem?_range hc]
    rfl
  simp_arith only [ha]
  refine ⟨by decide, by rw [sizeLine_eq]; omega, compL_all (fun r => .int (Ma.load prs c r - Ma.cst C c r)) (fun r hr F hF => ?_) ?_⟩
  · simp_arith only
    refine d_load_of hl ?_
    simp_arith only
    refine d_cost_at hC hc (fun r2 e => Ma.opts_lt h hr r2 e) ?_
    simp_arith only
    exact hF
  · have e : (PyData.int 0 :: (Ma.opts k ps c).map fun r => PyData.int (Ma.load prs c r - Ma.cst C c r)) = (0 :: (Ma.opts k ps c).map fun r => Ma.load prs c r - Ma.cst C c r).map PyData.int := by
      rw [List.map_cons, List.map_map]
      rfl
    simp_arith only [List.length_map]
    rw [e, max_L]
    exact ⟨by rw [sizeLine_eq]; omega, List.cons_ne_nil _ _, hQ⟩
theorem d__law_tape {ns : List Int} (h : ∀ t, Tp t → Q t true none) : dn (n + 1) i__law_tape none [scrD ns] Q R := by
  refine den_at (f := fn__law_tape) rfl ⟨⟨rfl, rfl⟩, ?_⟩
  simp_arith only [fn__law_tape, b__law_tape, init]
  refine forL_ind (fun xs ρ => (∃ a : Option (Md × D), ∃ tot : Int, ρ = [some (.v, scrD ns), some (.v, .int tot), a]) ∧ ∀ x ∈ xs, ∃ i : Int, x = .int i) ?_ ?_ _ _ ⟨⟨_, _, rfl⟩, fun x hx => ?_⟩
  · rintro ρ ⟨⟨a, tot, rfl⟩, _⟩
    simp_arith only [b__law_tape_2]
    exact ⟨by decide, h _ ⟨ns, _, _, _, rfl, by omega, by omega⟩⟩
  · rintro x xs ρ F ih ⟨⟨a, tot, rfl⟩, hx⟩
    obtain ⟨i, rfl⟩ := hx x List.mem_cons_self
    simp_arith only [b__law_tape_1]
    exact ih _ ⟨⟨_, _, rfl⟩, fun y hy => hx y (List.mem_cons_of_mem _ hy)⟩
  · obtain ⟨i, _, rfl⟩ := List.mem_map.mp hx
    exact ⟨i, rfl⟩
theorem d__law_draw {t : D} {m : Int} (ht : Tp t) (hm : m < 2 ^ 1000) (h : ∀ (r : Int) (t' : D), Tp t' → 0 ≤ r → (r < m ∨ r = 0) → Q (.int r) false (some t')) : dn (n + 1) i__law_draw (some t) [.int m] Q R := by
  obtain ⟨ns, pl, cur, tot, rfl, hp, hc⟩ := ht
  have h3 : ∀ {pl cur tot : Int} {a b : Option (Md × D)} {k : Kd}, 0 ≤ pl → 0 ≤ cur → (∀ d fr ρ, tpEnd true ρ (Q d fr) → k.rt d fr ρ) → wpSs CC (den CC PP n) b__law_draw_3 [some (.m, .list [.list (ns.map PyData.int), .int pl, .int cur, .int tot]), some (.v, .int m), a, b] k := fun {pl cur tot a b k} hp hc hk => by
    simp_arith only [b__law_draw_3]
    obtain ⟨m1, m2, m3⟩ := max_bd (m := m) cur
    have k2 : 0 < (if 2 > m then 2 else m) ∧ (if 2 > m then 2 else m) < 2 ^ 1000 := by split <;> omega
    refine ⟨⟨k2.1, log2_of k2.2 k2.1⟩, m1, hk _ _ _ ?_⟩
    simp_arith only
    exact h _ _ ⟨ns, _, _, _, rfl, hp, Int.ediv_nonneg hc (by omega)⟩ m2 m3
  have h2 : ∀ {pl cur tot num : Int} {k : Kd}, 0 ≤ pl → 0 ≤ num → 0 ≤ cur → (∀ d fr ρ, tpEnd true ρ (Q d fr) → k.rt d fr ρ) → k.nx = (fun ρ1 => wpSs CC (den CC PP n) b__law_draw_3 ρ1
                      { nx := fun ρ => tpEnd true ρ (Q PyData.none false), rt := fun d fr ρ => tpEnd true ρ (Q d fr),
                        bk := fun x => False, ct := fun x => False, ex := fun x ρ => tpEnd true ρ (R x) }) → wpSs CC (den CC PP n) b__law_draw_2 [some (.m, .list [.list (ns.map PyData.int), .int pl, .int cur, .int tot]), some (.v, .int m), some (.v, .int pl), some (.v, .int num)] k := fun {pl cur tot num k} hp hc hc0 hk hn => by
    simp_arith only [b__law_draw_2, b__law_draw_1]
    split
    · obtain ⟨m1, m2, m3⟩ := max_bd (m := m) ((num * 48271 + pl * 69621 + 5) % 2147483647 * 69621 % 2147483629)
      refine ⟨m1, hk _ _ _ ?_⟩
      simp_arith only
      exact h _ _ ⟨ns, _, _, _, rfl, by omega, hc0⟩ m2 m3
    · rw [hn]
      exact h3 (by omega) hc fun _ _ _ z => z
  refine den_at (f := fn__law_draw) rfl ⟨⟨rfl, rfl⟩, ?_⟩
  simp_arith only [fn__law_draw, b__law_draw, init]
  split
  · split
    · next hq =>
      obtain ⟨x, hx, hmem⟩ := atI_of (xs := ns.map PyData.int) hp (by rw [List.length_map]; exact hq)
      obtain ⟨i, _, rfl⟩ := List.mem_map.mp hmem
      refine ⟨_, hx, ?_⟩
      simp_arith only
      exact h2 hp (by split <;> omega) hc (fun _ _ _ z => z) rfl
    · exact h2 hp (by omega) hc (fun _ _ _ z => z) rfl
  · exact h3 hp hc fun _ _ _ z => z
theorem d__law_pick {t : D} {row : List D} (ht : Tp t) (hl : row ≠ []) (hn : row.length ≤ 1000000) (h : ∀ (d t' : D), Tp t' → d ∈ row → Q d false (some t')) : dn (n + 2) i__law_pick (some t) [.list row] Q R := by
  refine den_at (f := fn__law_pick) rfl ⟨⟨rfl, rfl⟩, ?_⟩
  simp_arith only [fn__law_pick, b__law_pick, init]
  refine d__law_draw ht (by omega) fun r t' ht' h0 h1 => ?_
  have hlen : 0 < row.length := List.length_pos_iff.mpr hl
  obtain ⟨x, hx, hm⟩ := atI_of (xs := row) h0 (by omega)
  simp_arith only
  exact ⟨x, hx, h x t' ht' hm⟩
mutual
def depD : D → Nat
  | .tuple xs => depDs xs + 1
  | _ => 0
def depDs : List D → Nat
  | [] => 0
  | x :: xs => max (depD x) (depDs xs)
end
mutual
def plainD : D → Bool
  | .tuple xs => decide (xs.length ≤ 16777216) && plainDs xs
  | .none => true
  | .bool _ => true
  | .int _ => true
  | .str _ => true
  | _ => false
def plainDs : List D → Bool
  | [] => true
  | x :: xs => plainD x && plainDs xs
end
theorem dep_mem : ∀ {xs : List D} {x : D}, x ∈ xs → depD x ≤ depDs xs
  | y :: ys, x, h => by
    show depD x ≤ max (depD y) (depDs ys)
    rcases List.mem_cons.mp h with z | z
    · subst z
      omega
    · have := dep_mem z
      omega
theorem plain_mem : ∀ {xs : List D} {x : D}, plainDs xs = true → x ∈ xs → plainD x = true
  | y :: ys, x, hp, h => by
    obtain ⟨h1, h2⟩ := and2 (show (plainD y && plainDs ys) = true from hp)
    rcases List.mem_cons.mp h with z | z
    · subst z
      exact h1
    · exact plain_mem h2 z
theorem mem_rangeD {a b : Int} {x : D} (h : x ∈ rangeD a b) : ∃ k : Int, x = .int k ∧ a ≤ k ∧ k < b := by
  unfold rangeD at h
  obtain ⟨i, hi, rfl⟩ := List.mem_map.mp h
  have := List.mem_range.mp hi
  exact ⟨_, rfl, by omega, by omega⟩
theorem d__law_same : ∀ (n : Nat) (d : D), plainD d = true → depD d ≤ n → ∀ {Q : D → Bool → Option D → Prop} {R : Xn → Option D → Prop}, Q (.bool true) false none → dn (n + 1) i__law_same none [d, d] Q R := fun n => by
  induction n with
  | zero =>
    intro d hp hd Q R hQ
    refine den_at (f := fn__law_same) rfl ⟨⟨rfl, rfl⟩, ?_⟩
    cases d with
    | tuple xs => exact absurd (show depDs xs + 1 ≤ 0 from hd) (by omega)
    | none =>
      simp_arith only [fn__law_same, b__law_same, init]
      exact hQ
    | bool b =>
      simp_arith only [fn__law_same, b__law_same, b__law_same_7, b__law_same_6, init]
      exact hQ
    | int i =>
      simp_arith only [fn__law_same, b__law_same, b__law_same_7, b__law_same_6, b__law_same_5, b__law_same_4, init]
      exact hQ
    | str i =>
      simp_arith only [fn__law_same, b__law_same, b__law_same_7, b__law_same_6, b__law_same_5, init]
      exact hQ
    | _ => cases hp
  | succ n ih =>
    intro d hp hd Q R hQ
    refine den_at (f := fn__law_same) rfl ⟨⟨rfl, rfl⟩, ?_⟩
    cases d with
    | tuple xs =>
      obtain ⟨p1, p2⟩ := and2 (show (decide (xs.length ≤ 16777216) && plainDs xs) = true from hp)
      have p1 := of_decide_eq_true p1
      have hd : depDs xs + 1 ≤ n + 1 := hd
      simp_arith only [fn__law_same, b__law_same, b__law_same_7, b__law_same_3, init]
      refine ⟨⟨by omega, by omega, by omega, by omega⟩, forL_ind (fun ys ρ => (∃ a : Option (Md × D), ρ = [some (.v, .tuple xs), some (.v, .tuple xs), a]) ∧ ∀ y ∈ ys, ∃ k : Int, y = .int k ∧ 0 ≤ k ∧ k < xs.length) ?_ ?_ _ _ ⟨⟨_, rfl⟩, fun y hy => mem_rangeD hy⟩⟩
      · rintro ρ ⟨⟨a, rfl⟩, _⟩
        simp_arith only [b__law_same_2]
        exact hQ
      · rintro y ys ρ F hF ⟨⟨a, rfl⟩, hy⟩
        obtain ⟨k, rfl, k0, k1⟩ := hy y List.mem_cons_self
        obtain ⟨x, hx, hm⟩ := atI_of (xs := xs) k0 k1
        simp_arith only [b__law_same_1]
        refine ⟨x, hx, x, hx, ih x (plain_mem p2 hm) (by have := dep_mem hm; omega) ?_⟩
        simp_arith only
        exact hF _ ⟨⟨_, rfl⟩, fun z hz => hy z (List.mem_cons_of_mem _ hz)⟩
    | none =>
      simp_arith only [fn__law_same, b__law_same, init]
      exact hQ
    | bool b =>
      simp_arith only [fn__law_same, b__law_same, b__law_same_7, b__law_same_6, init]
      exact hQ
    | int i =>
      simp_arith only [fn__law_same, b__law_same, b__law_same_7, b__law_same_6, b__law_same_5, b__law_same_4, init]
      exact hQ
    | str i =>
      simp_arith only [fn__law_same, b__law_same, b__law_same_7, b__law_same_6, b__law_same_5, init]
      exact hQ
    | _ => cases hp
theorem plain_ints (ns : List Int) : plainDs (ns.map PyData.int) = true := by
  induction ns with
  | nil => rfl
  | cons n ns ih => exact ih
theorem plain_T {ns : List Int} (h : ns.length ≤ 16777216) : plainD (.tuple (ns.map PyData.int)) = true := by
  show (decide _ && plainDs _) = true
  rw [plain_ints, List.length_map, decide_eq_true h]
  rfl
theorem deps_ints (ns : List Int) : depDs (ns.map PyData.int) = 0 := by
  induction ns with
  | nil => rfl
  | cons n ns ih =>
    show max 0 (depDs (ns.map PyData.int)) = 0
    rw [ih]
    rfl
theorem dep_T (ns : List Int) : depD (.tuple (ns.map PyData.int)) = 1 := by
  show depDs _ + 1 = 1
  rw [deps_ints]
theorem plain_N {ks : List Nat} (h : ks.length ≤ 16777216) : plainD (.tuple (natsD ks)) = true := by
  rw [nats_ints]
  exact plain_T (by rw [List.length_map]; exact h)
theorem dep_N (ks : List Nat) : depD (.tuple (natsD ks)) = 1 := by
  rw [nats_ints]
  exact dep_T _
theorem d__law_shuffled {t : D} {ds : List D} (ht : Tp t) (hl : ds.length ≤ 1000000) (h : ∀ (es : List D) (t' : D), Tp t' → es.Perm ds → Q (.list es) true (some t')) : dn (n + 2) i__law_shuffled (some t) [.list ds] Q R := by
  refine den_at (f := fn__law_shuffled) rfl ⟨⟨rfl, rfl⟩, ?_⟩
  simp_arith only [fn__law_shuffled, b__law_shuffled, init]
  refine ⟨⟨by omega, by omega, by omega, by omega⟩, forL_rng (fun i ρ => ∃ (t : D) (ls fs : List D) (x : Option (Md × D)), Tp t ∧ ρ = [some (.m, t), some (.v, .list ds), some (.o, .list ls), some (.o, .list fs), x] ∧ (fs ++ ls).Perm ds ∧ (fs.length : Int) = i) (by omega) ⟨t, ds, [], _, ht, rfl, List.Perm.refl _, rfl⟩ ?_ ?_⟩
  · rintro i ρ F i0 i1 hF ⟨t, ls, fs, x, ht, rfl, hp, hi⟩
    simp_arith only [b__law_shuffled_1]
    have hlen := hp.length_eq
    rw [List.length_append] at hlen
    refine d__law_draw ht (by omega) fun r t' ht' r0 r1 => ?_
    have hr : r < ls.length := by omega
    have hn : r.toNat < ls.length := by omega
    simp_arith only
    refine ⟨by omega, by omega, r.toNat, ls[r.toNat], DL.seqIndex_of r0 hr, List.getElem?_eq_getElem hn, (by (try simp only [List.length_map, List.length_zipIdx, List.length_take, List.length_drop, List.length_append, List.length_cons, List.length_nil, List.length_zip, List.length_range, Ma.wcs_len, Ma.srt_len, sizeLine_eq]); omega), hF _ ⟨t', ls.eraseIdx r.toNat, fs ++ [ls[r.toNat]], _, ht', rfl, ?_, by rw [List.length_append, List.length_singleton]; omega⟩⟩
    rw [List.append_assoc]
    exact ((DL.erase_perm hn).append_left fs).trans hp
  · rintro ρ ⟨t, ls, fs, x, ht, rfl, hp, hi⟩
    simp_arith only [b__law_shuffled_2]
    have hlen := hp.length_eq
    rw [List.length_append] at hlen
    have e : ls = [] := List.length_eq_zero_iff.mp (by omega)
    subst e
    rw [List.append_nil] at hp
    exact h fs t ht hp
theorem pin_filter {k : Nat} {ps : Ma.Pins} (h : Ma.PinsOk k ps) {c : Nat} : (ps.filter fun p => decide (p.1 = c)) = (match ps.find? fun p => decide (p.1 = c) with | some p => [p] | none => []) := by
  have nd := h.nd
  clear h
  induction ps with
  | nil => rfl
  | cons p ps ih =>
    have nd := List.nodup_cons.mp nd
    by_cases e : p.1 = c
    · have e0 : ps.filter (fun p => decide (p.1 = c)) = [] := List.filter_eq_nil_iff.mpr fun q hq z => nd.1 (List.mem_map.mpr ⟨q, hq, (of_decide_eq_true z).trans e.symm⟩)
      rw [List.filter_cons_of_pos (by simpa using e), e0, List.find?_cons_of_pos (by simpa using e)]
    · rw [List.filter_cons_of_neg (by simpa using e), List.find?_cons_of_neg (by simpa using e)]
      exact ih nd.2
theorem d__law_options {k c : Nat} {ps : Ma.Pins} (h : Ma.PinsOk k ps) (hk : k ≤ 100) (hp : ps.length ≤ 100) (hQ : ∀ fr : Bool, Q (.list ((Ma.opts k ps c).map optD)) fr none) : dn (n + 1) i__law_options none [.int (k : Nat), pinsD ps, .int (c : Nat)] Q R := by
  refine den_at (f := fn__law_options) rfl ⟨⟨rfl, rfl⟩, ?_⟩
  simp_arith only [fn__law_options, b__law_options, init]
  refine ⟨(by (try simp only [List.length_map, List.length_zipIdx, List.length_take, List.length_drop, List.length_append, List.length_cons, List.length_nil, List.length_zip, List.length_range, Ma.wcs_len, Ma.srt_len, sizeLine_eq]); omega), compL_map (fun p : Nat × Option Nat => decide (p.1 = c)) (fun p => optD p.2) (fun p hp F h1 h2 => ?_) ?_⟩
  · simp_arith only
    by_cases e : p.1 = c
    · rw [if_pos (by rw [e])]
      exact h1 (by simp [e])
    · rw [if_neg (by omega)]
      exact h2 (by simp [e])
  · have e1 : ((ps.filter fun p => decide (p.1 = c)).map fun p => optD p.2) = ((ps.filter fun p => decide (p.1 = c)).map (·.2)).map optD := by
      rw [List.map_map]
      rfl
    rw [List.nil_append, e1, pin_filter h]
    cases q : ps.find? fun p => decide (p.1 = c) with
    | some p =>
      have eo : Ma.opts k ps c = [p.2] := by
        unfold Ma.opts
        rw [q]
      have hQ2 := hQ false
      rw [eo] at hQ2
      simp_arith only [eq_O1nil]
      exact hQ2
    | none =>
      have eo : Ma.opts k ps c = Ma.frees k c := by
        unfold Ma.opts
        rw [q]
      have hQ := hQ true
      rw [eo, frees_D] at hQ
      simp_arith only [eq_O0nil, rng0]
      refine ⟨by decide, rngOk_nat (by omega), (by (try simp only [List.length_map, List.length_zipIdx, List.length_take, List.length_drop, List.length_append, List.length_cons, List.length_nil, List.length_zip, List.length_range, Ma.wcs_len, Ma.srt_len, sizeLine_eq]); omega), compL_map (fun r : Nat => decide (r ≠ c)) (fun r : Nat => .int (r : Nat)) (fun r hr F h1 h2 => ?_) ?_⟩
      · simp_arith only
        by_cases e : r = c
        · rw [if_neg (by rw [e]; exact fun z => z rfl)]
          exact h2 (by simp [e])
        · rw [if_pos (by omega)]
          exact h1 (by simp [e])
      · simp_arith only
        refine ⟨?_, hQ⟩
        have := List.length_filter_le (fun r => decide ¬r = c) (List.range k)
        rw [List.length_range] at this
        rw [sizeLine_eq]
        omega
def MatD (d : D) (C : Ma.Mat) : Prop := d = matT C ∨ d = matL C
theorem d__law_at {d : D} {C : Ma.Mat} {k c : Nat} {o : Option Nat} (hd : MatD d C) (hC : Ma.rowsOk k C) (hc : c < k) (ho : ∀ r, o = some r → r < k) (h : Q (.int (Ma.cst C c o)) false none) : dn (n + 1) i__law_at none [d, .int (c : Nat), optD o] Q R := by
  refine den_at (f := fn__law_at) rfl ⟨⟨rfl, rfl⟩, ?_⟩
  rcases hd with rfl | rfl
  · cases o with
    | none =>
      simp_arith only [fn__law_at, b__law_at, init, optD, at_row hC hc, at_cell hC hc hc]
      exact h
    | some r =>
      simp_arith only [fn__law_at, b__law_at, init, optD, at_row hC hc, at_cell hC hc (ho r rfl)]
      exact h
  · cases o with
    | none =>
      simp_arith only [fn__law_at, b__law_at, init, optD, at_rowL hC hc, at_cell hC hc hc]
      exact h
    | some r =>
      simp_arith only [fn__law_at, b__law_at, init, optD, at_rowL hC hc, at_cell hC hc (ho r rfl)]
      exact h
theorem plainDs_all : ∀ {xs : List D}, (∀ x ∈ xs, plainD x = true) → plainDs xs = true
  | [], _ => rfl
  | x :: xs, h => by
    show (plainD x && plainDs xs) = true
    rw [h x List.mem_cons_self, plainDs_all fun y hy => h y (List.mem_cons_of_mem _ hy)]
    rfl
theorem depDs_all {m : Nat} : ∀ {xs : List D}, (∀ x ∈ xs, depD x ≤ m) → depDs xs ≤ m
  | [], _ => Nat.zero_le _
  | x :: xs, h => Nat.max_le.mpr ⟨h x List.mem_cons_self, depDs_all fun y hy => h y (List.mem_cons_of_mem _ hy)⟩
theorem plain_tup {xs : List D} (hl : xs.length ≤ 16777216) (h : ∀ x ∈ xs, plainD x = true) : plainD (.tuple xs) = true := by
  show (decide (xs.length ≤ 16777216) && plainDs xs) = true
  rw [decide_eq_true hl, plainDs_all h]
  rfl
theorem dep_tup {m : Nat} {xs : List D} (h : ∀ x ∈ xs, depD x ≤ m) : depD (.tuple xs) ≤ m + 1 := Nat.succ_le_succ (depDs_all h)
theorem row_plain {r : List Int} (h : r.length ≤ 16777216) : plainD (rowT r) = true ∧ depD (rowT r) ≤ 1 := ⟨plain_tup (by rw [List.length_map]; exact h) fun x hx => by
  obtain ⟨i, _, rfl⟩ := List.mem_map.mp hx
  rfl, dep_tup fun x hx => by
  obtain ⟨i, _, rfl⟩ := List.mem_map.mp hx
  exact Nat.le_refl _⟩
theorem mat_plain {k : Nat} {C : Ma.Mat} (hC : Ma.rowsOk k C) (hk : k ≤ 100) : plainD (matT C) = true ∧ depD (matT C) ≤ 2 := ⟨plain_tup (by rw [List.length_map]; have := hC.len; omega) fun x hx => by
  obtain ⟨r, hr, rfl⟩ := List.mem_map.mp hx
  exact (row_plain (by have := hC.row r hr; omega)).1, dep_tup fun x hx => by
  obtain ⟨r, hr, rfl⟩ := List.mem_map.mp hx
  exact (row_plain (by have := hC.row r hr; omega)).2⟩
theorem d__law_matrix_to {t : D} {k : Nat} {top : Int} (ht : Tp t) (k0 : 0 < k) (k1 : k ≤ 100) (t0 : 0 < top) (t1 : top ≤ 1000001) (h : ∀ (C : Ma.Mat) (t' : D), Tp t' → Ma.rowsOk k C → Ma.inB C → Q (matT C) false (some t')) : dn (n + 3) i__law_matrix_to (some t) [.int (k : Nat), .int top] Q R := by
  refine den_at (f := fn__law_matrix_to) rfl ⟨⟨rfl, rfl⟩, ?_⟩
  simp_arith only [fn__law_matrix_to, b__law_matrix_to, init]
  refine ⟨by decide, d__law_pick ht (by simp) (by (try simp only [List.length_map, List.length_zipIdx, List.length_take, List.length_drop, List.length_append, List.length_cons, List.length_nil, List.length_zip, List.length_range, Ma.wcs_len, Ma.srt_len, sizeLine_eq]); omega) fun d t ht hd => ?_⟩
  have hs : ∃ s : Int, d = .int s ∧ 0 ≤ s := by
    simp only [List.mem_cons, List.not_mem_nil, or_false] at hd
    rcases hd with rfl | rfl | rfl | rfl
    · exact ⟨0, rfl, by omega⟩
    · exact ⟨0, rfl, by omega⟩
    · exact ⟨_, rfl, by omega⟩
    · exact ⟨_, rfl, by omega⟩
  obtain ⟨s, rfl, hs⟩ := hs
  simp_arith only [b__law_matrix_to_5]
  intro a
  -- behind the first rows
  have fin : ∀ (t : D) (C : Ma.Mat) (x5 x6 x7 x8 x9 x10 : Option (Md × D)) (k' : Kd), Tp t → Ma.rowsOk k C → Ma.inB C → vS x6 → k'.rt = (fun d fr ρ => tpEnd true ρ (Q d fr)) →
      wpSs CC (den CC PP (n + 2)) b__law_matrix_to_6 [some (.m, t), some (.v, .int (k : Nat)), some (.v, .int top), some (.v, .int s), some (.v, matL C), x5, x6, x7, x8, x9, x10, none] k' := fun t C x5 x6 x7 x8 x9 x10 k' ht hC hB h6 hk => by
    have hfl := hC.len
    have e6 : valOk [some (.m, t), some (.v, .int (k : Nat)), some (.v, .int top), some (.v, .int s), some (.v, matL C), x5, x6, x7, x8, x9, x10, none] [6] = true := by
      rcases h6 with rfl | ⟨d, rfl⟩ <;> rfl
    simp_arith only [b__law_matrix_to_6]
    refine ⟨by rcases h6 with rfl | ⟨d, rfl⟩ <;> rfl, by rw [List.length_map, hfl, sizeLine_eq]; omega, compL_all (fun r : List Int => .tuple (r.map PyData.int)) (fun r hr F hF => ?_) ?_⟩
    · simp_arith only
      exact hF
    · simp_arith only
      rw [hk]
      simp_arith only
      exact h C t ht hC hB
  refine ⟨rngOk_nat (by omega), forN_rng (fun i ρ rw => ∃ (t : D) (bs : List Nat) (C : Ma.Mat) (x5 x6 : Option (Md × D)), Tp t ∧ ρ = [some (.m, t), some (.v, .int (k : Nat)), some (.v, .int top), some (.v, .int s), some (.v, opqD a), x5, x6, none, none, none, none, none] ∧ rw = rwOf bs C ∧
      bs.length = C.length ∧ (C.length : Int) = i ∧ (∀ r ∈ C, r.length = k) ∧ Ma.inB C ∧ (0 < i → ∃ d, x5 = some (.v, d)) ∧ vS x6) (by omega) ⟨t, [], [], none, none, ht, rfl, rfl, rfl, rfl, fun _ h => (nomatch h), fun _ h => (nomatch h), fun h => absurd h (by omega), vn⟩ ?_ ?_⟩
  · rintro i ρ rw F i0 i1 hF ⟨t, bs, C, x5, x6, ht, rfl, rfl, hbl, hi, hr, hB, _, _⟩
    obtain ⟨c, rfl⟩ := Int.eq_ofNat_of_zero_le i0
    simp_arith only [b__law_matrix_to_1]
    refine ⟨rngOk_nat (by omega), by rw [rangeD_len, sizeLine_eq]; omega, compL_ints (fun ρ => ∃ t, Tp t ∧ ρ = [some (.m, t), some (.v, .int (k : Nat)), some (.v, .int top), some (.v, .int s), some (.v, opqD a), some (.v, .int (c : Nat)), x6, none, none, none, none, none]) (fun v => 0 ≤ v ∧ v < top) ⟨t, ht, rfl⟩ ?_ ?_⟩
    · rintro x hx ρ ⟨t, ht, rfl⟩ F hF
      simp_arith only
      refine d__law_draw ht (by omega) fun r t ht r0 r1 => ?_
      simp_arith only
      exact hF _ _ ⟨r0, by omega⟩ ⟨t, ht, rfl⟩
    · rintro ns ρ ⟨t, ht, rfl⟩ hnl hnb
      rw [rangeD_len] at hnl
      have hcn : c < ns.length := by rw [hnl]; omega
      have hat : atI (ns.map PyData.int) (c : Int) = some (.int (ns.getD c 0)) := at_map hcn
      have hv : 0 ≤ ns.getD c 0 ∧ ns.getD c 0 < top := hnb _ (by rw [List.getD_eq_getElem?_getD, List.getElem?_eq_getElem hcn]; exact List.getElem_mem _)
      simp_arith only [hat]
      refine ⟨c, by rw [ixN_nat, if_pos hcn], (ns.map PyData.int).set c (.int (if ns.getD c 0 + s < 1000000 then ns.getD c 0 + s else 1000000)), rfl, ?_, by rw [rw_len hbl, sizeLine_eq]; omega, fun b => hF _ _ ⟨t, bs ++ [b], C ++ [ns.set c (if ns.getD c 0 + s < 1000000 then ns.getD c 0 + s else 1000000)], _, _, ht, rfl, ?_, by simp [hbl], by rw [List.length_append]; simp; omega, ?_, ?_, fun _ => ⟨_, rfl⟩, vv⟩⟩
      · rw [show (PyData.int (if ns.getD c 0 + s < 1000000 then ns.getD c 0 + s else 1000000)) = PyData.int (if ns.getD c 0 + s < 1000000 then ns.getD c 0 + s else 1000000) from rfl, ← List.map_set]
        exact scal_ints
      · rw [← List.map_set, rw_snoc hbl]
      · intro r hr2
        rcases List.mem_append.mp hr2 with z | z
        · exact hr r z
        · rw [List.mem_singleton.mp z, List.length_set, hnl]
          omega
      · intro r hr2 y hy
        rcases List.mem_append.mp hr2 with z | z
        · exact hB r z y hy
        · rw [List.mem_singleton.mp z] at hy
          rcases List.mem_or_eq_of_mem_set hy with q | q
          · have := hnb y q
            omega
          · rw [q]
            split <;> omega
  · rintro ρ rw ⟨t, bs, C, x5, x6, ht, rfl, rfl, hbl, hi, hr, hB, h5, h6⟩
    obtain ⟨d5, rfl⟩ := h5 (by omega)
    have hC : Ma.rowsOk k C := ⟨by omega, hr⟩
    simp_arith only [b__law_matrix_to_4]
    refine d__law_draw ht (by omega) fun r t ht r0 r1 => ?_
    simp_arith only
    refine ⟨⟨by omega, by omega, by omega, by omega⟩, forN_rng (fun i ρ rw => ∃ (t : D) (C : Ma.Mat) (d5 : D) (x6 x7 x8 x9 x10 : Option (Md × D)), Tp t ∧ ρ = [some (.m, t), some (.v, .int (k : Nat)), some (.v, .int top), some (.v, .int s), some (.v, opqD a), some (.v, d5), x6, x7, x8, x9, x10, none] ∧ rw = rwOf bs C ∧
      Ma.rowsOk k C ∧ Ma.inB C ∧ vS x6 ∧ vS x7 ∧ vS x8 ∧ vS x9 ∧ vS x10) r0 ⟨t, C, d5, x6, none, none, none, none, ht, rfl, rfl, hC, hB, h6, vn, vn, vn, vn⟩ ?_ ?_⟩
    · rintro i ρ rw F i0 i1 hF ⟨t, C, d5, x6, x7, x8, x9, x10, ht, rfl, rfl, hC, hB, h6, h7, h8, h9, h10⟩
      simp_arith only [b__law_matrix_to_3, rng0]
      refine ⟨rngOk_nat (by omega), (by (try simp only [List.length_map, List.length_zipIdx, List.length_take, List.length_drop, List.length_append, List.length_cons, List.length_nil, List.length_zip, List.length_range, Ma.wcs_len, Ma.srt_len, sizeLine_eq]); omega), compL_all (fun k => .int (k : Nat)) (fun k _ F hF => by simp_arith only; exact hF) ?_⟩
      simp_arith only
      refine d__law_shuffled ht (by (try simp only [List.length_map, List.length_zipIdx, List.length_take, List.length_drop, List.length_append, List.length_cons, List.length_nil, List.length_zip, List.length_range, Ma.wcs_len, Ma.srt_len, sizeLine_eq]); omega) fun es t ht hp => ?_
      obtain ⟨os, rfl, hp2⟩ := perm_N hp
      have hol : os.length = k := by rw [hp2.length_eq, List.length_range]
      have hom : ∀ x ∈ os, x < k := fun x hx => List.mem_range.mp (hp2.mem_iff.mp hx)
      simp_arith only
      refine d__law_draw ht (by omega) fun r2 t ht r20 r21 => ?_
      obtain ⟨v, rfl⟩ := Int.eq_ofNat_of_zero_le r20
      have ev : (1 : Int) + (v : Int) = ((1 + v : Nat) : Int) := by omega
      simp_arith only [ev, cut_to]
      refine d__law_draw ht (by omega) fun r3 t ht r30 r31 => ?_
      simp_arith only
      obtain ⟨l, hl⟩ : ∃ l, l = os.take (1 + v) := ⟨_, rfl⟩
      have hll : l.length ≤ k := by rw [hl, List.length_take]; omega
      have hlm : ∀ j, j < l.length → l.getD j 0 < k := fun j hj => by
        rw [List.getD_eq_getElem?_getD, List.getElem?_eq_getElem hj]
        have : l[j] ∈ l := List.getElem_mem _
        generalize l[j] = y at this ⊢
        rw [hl] at this
        exact hom y (List.mem_of_mem_take this)
      have hla : ∀ j : Nat, j < l.length → atI (l.map fun k => PyData.int (k : Nat)) (j : Int) = some (.int (l.getD j 0 : Nat)) := fun j hj => at_map (f := fun k : Nat => PyData.int (k : Int)) hj
      have hl0 : 0 < l.length := by rw [hl, List.length_take]; omega
      have r32 : 0 ≤ r3 / 2 := Int.ediv_nonneg r30 (by decide)
      rw [← hl]
      refine ⟨⟨by decide, by decide⟩, ⟨by omega, by omega, by omega, by omega⟩, forN_rng (fun j ρ rw => ∃ (t : D) (C : Ma.Mat) (x6 x10 : Option (Md × D)), Tp t ∧ ρ = [some (.m, t), some (.v, .int (k : Nat)), some (.v, .int top), some (.v, .int s), some (.v, opqD a), some (.v, d5), x6, some (.v, .int i), some (.v, .list (l.map fun k => PyData.int (k : Nat))), some (.v, .int (r3 / 2)), x10, none] ∧ rw = rwOf bs C ∧
        Ma.rowsOk k C ∧ Ma.inB C ∧ vS x6 ∧ vS x10) (by omega) ⟨t, C, x6, x10, ht, rfl, rfl, hC, hB, h6, h10⟩ ?_ ?_⟩
      · rintro j ρ rw F j0 j1 hF ⟨t, C, x6, x10, ht, rfl, rfl, hC, hB, h6, h10⟩
        obtain ⟨j, rfl⟩ := Int.eq_ofNat_of_zero_le j0
        have ej : (j : Int) + 1 = ((j + 1 : Nat) : Int) := by omega
        have a0 := hla j (by omega)
        have a1 := hla (j + 1) (by omega)
        have a2 : atI (l.map fun k => PyData.int (k : Nat)) 0 = some (.int (l.getD 0 0 : Nat)) := hla 0 hl0
        have c0 := hlm j (by omega)
        have c1 := hlm (j + 1) (by omega)
        have c2 := hlm 0 hl0
        have hCl := hC.len
        have hbC : bs.length = C.length := by omega
        simp_arith only [b__law_matrix_to_2, a0, a1, a2, ej]
        have y1 := inB.cell hB hC c0 c1
        refine ⟨_, _, rfl, rw_ix hbC (by omega), _, l.getD j 0, _, rfl, rw_at hbC (by omega), _, at_cell hC c0 c1, ?_⟩
        simp_arith only
        refine ⟨lendOk_m ⟨vv, vv, vv, vv, vv, vv, vv, vv, vv, vv, vn, trivial⟩, _, _, rfl, cells_ix' hC c0 c1, rfl, ?_⟩
        rw [rw_setC hbC (by omega)]
        have hC2 : Ma.rowsOk k (Ma.setC C (l.getD j 0) (l.getD (j + 1) 0) (if r3 / 2 < Ma.cell C (l.getD j 0) (l.getD (j + 1) 0) then r3 / 2 else Ma.cell C (l.getD j 0) (l.getD (j + 1) 0))) := hC.set c0
        have hB2 : Ma.inB (Ma.setC C (l.getD j 0) (l.getD (j + 1) 0) (if r3 / 2 < Ma.cell C (l.getD j 0) (l.getD (j + 1) 0) then r3 / 2 else Ma.cell C (l.getD j 0) (l.getD (j + 1) 0))) := inB.set hB (by split <;> omega)
        revert hC2 hB2
        generalize Ma.setC C (l.getD j 0) (l.getD (j + 1) 0) (if r3 / 2 < Ma.cell C (l.getD j 0) (l.getD (j + 1) 0) then r3 / 2 else Ma.cell C (l.getD j 0) (l.getD (j + 1) 0)) = C2
        intro hC2 hB2
        have hbC2 : bs.length = C2.length := by rw [hbC, hC.len, hC2.len]
        have hl2 := hC2.len
        have y2 := inB.cell hB2 hC2 c1 c2
        refine ⟨_, _, rfl, rw_ix hbC2 (by omega), _, l.getD (j + 1) 0, _, rfl, rw_at hbC2 (by omega), _, at_cell hC2 c1 c2, ?_⟩
        refine d__law_draw ht (by omega) fun r4 t2 ht2 r40 r41 => ?_
        simp_arith only
        refine ⟨lendOk_m ⟨vv, vv, vv, vv, vv, vv, vv, vv, vv, vv, vn, trivial⟩, _, _, rfl, cells_ix' hC2 c1 c2, rfl, ?_⟩
        rw [rw_setC hbC2 (by omega)]
        exact hF _ _ ⟨t2, _, _, _, ht2, rfl, rfl, hC2.set c1, inB.set hB2 (by split <;> omega), vv, vv⟩
      · rintro ρ rw ⟨t, C, x6, x10, ht, rfl, rfl, hC, hB, h6, h10⟩
        exact hF _ _ ⟨t, C, _, _, _, _, _, _, ht, rfl, rfl, hC, hB, h6, vv, vv, vv, h10⟩
    · rintro ρ rw ⟨t, C, d5, x6, x7, x8, x9, x10, ht, rfl, rfl, hC, hB, h6, h7, h8, h9, h10⟩
      have e := rw_D (bs := bs) (C := C) (by rw [hbl, hC.len]; omega)
      simp_arith only [e]
      exact fin t C _ _ _ _ _ _ _ ht hC hB h6 rfl
theorem d__law_matrix {t : D} {k : Nat} (ht : Tp t) (k0 : 0 < k) (k1 : k ≤ 100) (h : ∀ (C : Ma.Mat) (t' : D), Tp t' → Ma.rowsOk k C → Ma.inB C → Q (matT C) false (some t')) : dn (n + 4) i__law_matrix (some t) [.int (k : Nat)] Q R := by
  refine den_at (f := fn__law_matrix) rfl ⟨⟨rfl, rfl⟩, ?_⟩
  simp_arith only [fn__law_matrix, b__law_matrix, init]
  refine ⟨by decide, d__law_pick ht (by simp) (by (try simp only [List.length_map, List.length_zipIdx, List.length_take, List.length_drop, List.length_append, List.length_cons, List.length_nil, List.length_zip, List.length_range, Ma.wcs_len, Ma.srt_len, sizeLine_eq]); omega) fun d t ht hd => ?_⟩
  have hs : ∃ s : Int, d = .int s ∧ 0 < s ∧ s ≤ 1000001 := by
    simp only [List.mem_cons, List.not_mem_nil, or_false] at hd
    rcases hd with rfl | rfl | rfl | rfl | rfl | rfl | rfl | rfl <;> exact ⟨_, rfl, by omega, by omega⟩
  obtain ⟨s, rfl, s0, s1⟩ := hs
  simp_arith only
  refine d__law_matrix_to ht k0 k1 s0 s1 fun C t' ht' hC hB => ?_
  simp_arith only
  exact h C t' ht' hC hB

theorem index_take {os : List Nat} {c : Nat} (hc : c ∈ os) {Q : D → Prop} (hq : Q (.int (os.idxOf c : Nat))) : mtS .index (.list (os.map fun k => PyData.int (k : Nat))) [.int (c : Nat)] Q := by
  have e := nats_ints os
  unfold natsD at e
  rw [e, index_L]
  refine ⟨mem_ofNat.mpr hc, ?_⟩
  have e2 : (os.map Int.ofNat).idxOf (c : Int) = os.idxOf c := by
    clear hc hq e
    induction os with
    | nil => rfl
    | cons o os ih =>
      rw [List.map_cons, List.idxOf_cons, List.idxOf_cons, ih]
      by_cases h : o = c
      · rw [h]
        simp
      · have h1 : (Int.ofNat o == (c : Int)) = false := by
          rw [beq_eq_false_iff_ne]
          intro z
          exact h (Int.ofNat.inj z)
        have h2 : (o == c) = false := by simpa using h
        rw [h1, h2]
  rw [e2]
  exact hq
theorem idx_le : ∀ (os : List Nat) (j : Nat) (h : j < os.length), os.idxOf os[j] ≤ j
  | o :: os, 0, _ => by
    rw [List.getElem_cons_zero, List.idxOf_cons]
    simp
  | o :: os, j + 1, h => by
    rw [List.getElem_cons_succ, List.idxOf_cons]
    have := idx_le os j (Nat.lt_of_succ_lt_succ h)
    cases e : o == os[j]'(Nat.lt_of_succ_lt_succ h) with
    | true => simp
    | false =>
      simp
      omega
theorem idx_take {os : List Nat} {c r : Nat} (h : r ∈ os.take (os.idxOf c)) : os.idxOf r < os.idxOf c := by
  obtain ⟨j, hj⟩ := List.mem_iff_getElem?.mp h
  rw [List.getElem?_take] at hj
  split at hj
  · next hlt =>
    have hjl : j < os.length := (List.getElem?_eq_some_iff.mp hj).1
    have e : os[j] = r := (List.getElem?_eq_some_iff.mp hj).2
    have : os.idxOf os[j] ≤ j := idx_le os j hjl
    rw [e] at this
    omega
  · cases hj
theorem d__law_pinned {t : D} {k m : Nat} (ht : Tp t) (k1 : k ≤ 100) (h : ∀ (ps : Ma.Pins) (t' : D), Tp t' → Ma.PinsOk k ps → ps.length ≤ 100 → Q (pinsD ps) false (some t')) : dn (n + 3) i__law_pinned (some t) [.int (k : Nat), .int (m : Nat)] Q R := by
  refine den_at (f := fn__law_pinned) rfl ⟨⟨rfl, rfl⟩, ?_⟩
  simp_arith only [fn__law_pinned, b__law_pinned, init, rng0]
  refine ⟨rngOk_nat (by omega), (by (try simp only [List.length_map, List.length_zipIdx, List.length_take, List.length_drop, List.length_append, List.length_cons, List.length_nil, List.length_zip, List.length_range, Ma.wcs_len, Ma.srt_len, sizeLine_eq]); omega), compL_all (fun k => .int (k : Nat)) (fun k _ F hF => by simp_arith only; exact hF) ?_⟩
  simp_arith only
  refine d__law_shuffled ht (by (try simp only [List.length_map, List.length_zipIdx, List.length_take, List.length_drop, List.length_append, List.length_cons, List.length_nil, List.length_zip, List.length_range, Ma.wcs_len, Ma.srt_len, sizeLine_eq]); omega) fun es t ht hp => ?_
  obtain ⟨os, rfl, hp2⟩ := perm_N hp
  have hol : os.length = k := by rw [hp2.length_eq, List.length_range]
  have hom : ∀ x ∈ os, x < k := fun x hx => List.mem_range.mp (hp2.mem_iff.mp hx)
  simp_arith only
  refine d__law_shuffled ht (by (try simp only [List.length_map, List.length_zipIdx, List.length_take, List.length_drop, List.length_append, List.length_cons, List.length_nil, List.length_zip, List.length_range, Ma.wcs_len, Ma.srt_len, sizeLine_eq]); omega) fun es t ht hp => ?_
  obtain ⟨qs, rfl, hq2⟩ := perm_N hp
  have hqm : ∀ x ∈ qs, x ∈ os := fun x hx => hq2.mem_iff.mp hx
  have hqn : qs.Nodup := hq2.nodup_iff.mpr (hp2.nodup_iff.mpr List.nodup_range)
  simp_arith only [cut_to]
  have hsz : (qs.take m).length ≤ 100 := by
    rw [List.length_take, hq2.length_eq, hol]
    omega
  refine ⟨by rw [sizeLine_eq]; omega, compL_ind (fun items acc ρ => (∃ t, Tp t ∧ ρ = [some (.m, t), some (.v, .int (k : Nat)), some (.v, .int (m : Nat)), some (.v, .list (natsD os)), none]) ∧ ∃ (ps : Ma.Pins) (rest : List Nat), acc = ps.map (fun p => PyData.tuple [.int (p.1 : Nat), optD p.2]) ∧ items = rest.map (fun c => PyData.int (c : Nat)) ∧ (ps.map (·.1) ++ rest).Nodup ∧ (∀ c ∈ rest, c ∈ os) ∧
    (∀ p ∈ ps, p.1 < k ∧ ∀ r, p.2 = some r → r < k ∧ os.idxOf r < os.idxOf p.1) ∧ ps.length + rest.length ≤ 100) ?_ ?_ _ _ _ ⟨⟨t, ht, rfl⟩, [], qs.take m, rfl, rfl, by simpa using hqn.sublist (List.take_sublist _ _), fun c hc => hqm c (List.mem_of_mem_take hc), fun p hp => (nomatch hp), by simpa using hsz⟩⟩
  · rintro acc ρ ⟨⟨t, ht, rfl⟩, ps, rest, rfl, he, hnd, hr, hps, hl⟩
    have e0 : rest = [] := List.map_eq_nil_iff.mp he.symm
    subst e0
    simp_arith only
    refine h ps t ht ⟨by simpa using hnd, fun p hp => ⟨(hps p hp).1, fun r e => ((hps p hp).2 r e).1⟩, os.idxOf, fun p hp r e => ((hps p hp).2 r e).2⟩ (by simpa using hl)
  · rintro x xs acc ρ F hF ⟨⟨t, ht, rfl⟩, ps, rest, rfl, he, hnd, hr, hps, hl⟩
    cases rest with
    | nil => cases he
    | cons c rest =>
      rw [List.map_cons] at he
      obtain ⟨rfl, rfl⟩ := List.cons.inj he
      have hc := hr c List.mem_cons_self
      simp_arith only
      refine ⟨by decide, index_take hc ?_⟩
      simp_arith only [cut_to]
      have hz : (os.take (os.idxOf c)).length ≤ 100 := by rw [List.length_take]; omega
      refine ⟨by rw [sizeLine_eq]; omega, d__law_pick ht (by simp) (by rw [List.length_cons, List.length_map]; omega) fun d t ht hd => ?_⟩
      have ho : ∃ o : Option Nat, d = optD o ∧ ∀ r, o = some r → r < k ∧ os.idxOf r < os.idxOf c := by
        rcases List.mem_cons.mp hd with rfl | hd
        · exact ⟨none, rfl, fun _ e => nomatch e⟩
        · obtain ⟨v, hv, rfl⟩ := List.mem_map.mp hd
          exact ⟨some v, rfl, fun r e => by cases e; exact ⟨hom v (List.mem_of_mem_take hv), idx_take hv⟩⟩
      obtain ⟨o, rfl, ho⟩ := ho
      refine ⟨_, rfl, by decide, hF _ _ ⟨⟨_, ht, rfl⟩, ps ++ [(c, o)], rest, by rw [List.map_append]; rfl, rfl, by simpa using hnd, fun c' hc' => hr c' (List.mem_cons_of_mem _ hc'), fun p hp => ?_, ?_⟩⟩
      · rcases List.mem_append.mp hp with z | z
        · exact hps p z
        · rw [List.mem_singleton.mp z]
          exact ⟨hom c hc, ho⟩
      · rw [List.length_append, List.length_singleton]
        rw [List.length_cons] at hl
        omega
theorem d__law_pins {t : D} {k : Nat} (ht : Tp t) (k1 : k ≤ 100) (h : ∀ (ps : Ma.Pins) (t' : D), Tp t' → Ma.PinsOk k ps → ps.length ≤ 100 → Q (pinsD ps) false (some t')) : dn (n + 4) i__law_pins (some t) [.int (k : Nat)] Q R := by
  refine den_at (f := fn__law_pins) rfl ⟨⟨rfl, rfl⟩, ?_⟩
  simp_arith only [fn__law_pins, b__law_pins, init]
  refine d__law_draw ht (by omega) fun r t ht r0 r1 => ?_
  simp_arith only
  refine ⟨by decide, d__law_pick ht (by simp) (by (try simp only [List.length_map, List.length_zipIdx, List.length_take, List.length_drop, List.length_append, List.length_cons, List.length_nil, List.length_zip, List.length_range, Ma.wcs_len, Ma.srt_len, sizeLine_eq]); omega) fun d t ht hd => ?_⟩
  have hs : ∃ m : Nat, d = .int (m : Nat) := by
    obtain ⟨v, rfl⟩ := Int.eq_ofNat_of_zero_le r0
    simp only [List.mem_cons, List.not_mem_nil, or_false] at hd
    rcases hd with rfl | rfl | rfl | rfl | rfl | rfl
    · exact ⟨0, rfl⟩
    · exact ⟨0, rfl⟩
    · exact ⟨1, rfl⟩
    · exact ⟨1, rfl⟩
    · exact ⟨2, rfl⟩
    · exact ⟨v, rfl⟩
  obtain ⟨m, rfl⟩ := hs
  simp_arith only
  refine d__law_pinned ht k1 fun ps t ht hps hl => ?_
  simp_arith only
  exact h ps t ht hps hl
theorem at_O' {f : List (Option Nat)} {j : Nat} (h : j < f.length) : atI (f.map optD) (j : Int) = some (optD (f.getD j none)) := at_O h
theorem in_OO {o : Option Nat} {f : List (Option Nat)} {P : Bool → Prop} : inS (optD o) (.list (f.map optD)) P = P (decide (o ∈ f)) := by
  rw [ev37]
  have hs : (f.map optD).all scalD = true := by
    rw [List.all_eq_true]
    intro x hx
    obtain ⟨q, _, rfl⟩ := List.mem_map.mp hx
    cases q <;> rfl
  have hs1 : scalD (optD o) = true := by cases o <;> rfl
  have e : ((f.map optD).any fun z => PyData.eqv z (optD o)) = decide (o ∈ f) := by
    induction f with
    | nil => rfl
    | cons q f ih =>
      have hs : (f.map optD).all scalD = true := by
        rw [List.map_cons, List.all_cons] at hs
        exact (and2 hs).2
      have e1 : PyData.eqv (optD q) (optD o) = decide (q = o) := by
        cases q <;> cases o
        · rfl
        · simp [optD, PyData.eqv]
        · simp [optD, PyData.eqv]
        · next a b =>
          simp only [optD, PyData.eqv]
          by_cases h : a = b
          · simp [h]
          · have : ¬ ((a : Int) = (b : Int)) := fun z => h (by omega)
            simp [h, this]
      rw [List.map_cons, List.any_cons, ih hs, e1]
      by_cases h : q = o
      · simp [h]
      · have h' : ¬ o = q := fun z => h z.symm
        simp [h, h']
  rw [e]
  exact propext ⟨fun h => h.2, fun h => ⟨.inl ⟨hs1, hs⟩, h⟩⟩
theorem d__law_sources {d : D} {C : Ma.Mat} {k c : Nat} {ps : Ma.Pins} (hd : MatD d C) (hC : Ma.rowsOk k C) (h : Ma.PinsOk k ps) (hk : k ≤ 100) (hp : ps.length ≤ 100) (hc : c < k) (hQ : Q (.list ((Ma.srcs k C ps c).map optD)) false none) : dn (n + 2) i__law_sources none [d, pinsD ps, .int (c : Nat)] Q R := by
  refine den_at (f := fn__law_sources) rfl ⟨⟨rfl, rfl⟩, ?_⟩
  have hCl := hC.len
  have hlen : lenS d = fun Q => Q (.int (k : Nat)) := by
    funext Q
    rcases hd with rfl | rfl
    · show Q (.int ((C.map fun r => PyData.tuple (r.map PyData.int)).length : Nat)) = _
      rw [List.length_map, hCl]
    · show Q (.int ((C.map fun r => PyData.list (r.map PyData.int)).length : Nat)) = _
      rw [List.length_map, hCl]
  have e1 : (k : Int) + 1 = ((k + 1 : Nat) : Int) := by omega
  simp_arith only [fn__law_sources, b__law_sources, init, hlen, e1]
  refine ⟨by decide, rngOk_nat (by omega), forL_rng (fun j ρ => ∃ (f : List (Option Nat)) (x4 x5 x6 : Option (Md × D)), ρ = [some (.v, d), some (.v, pinsD ps), some (.v, .int (c : Nat)), some (.v, .list (f.map optD)), x4, x5, x6, none] ∧ Ma.BOk k f ∧ Ma.bfs k C ps (k + 1 - j.toNat) j.toNat f = Ma.srcs k C ps c) (by omega) ⟨[some c], _, _, _, rfl, Ma.bok1 hc, rfl⟩ ?_ ?_⟩
  · rintro i ρ F i0 i1 hF ⟨f, x4, x5, x6, rfl, hf, hb⟩
    obtain ⟨j, rfl⟩ := Int.eq_ofNat_of_zero_le i0
    have hfl := hf.len
    have hb : Ma.bfs k C ps (k + 1 - j) j f = Ma.srcs k C ps c := hb
    have eb : Ma.bfs k C ps (k + 1 - (j + 1)) (j + 1) (Ma.bstep k C ps f j) = Ma.srcs k C ps c := by
      rw [← hb, show k + 1 - j = (k + 1 - (j + 1)) + 1 by omega]
      rfl
    have e2 : ((j : Int) + 1).toNat = j + 1 := by omega
    by_cases hj : j < f.length
    · have ha := at_O' (f := f) hj
      cases ho : f.getD j none with
      | none =>
        have es : Ma.bstep k C ps f j = f := by
          have z : f[j]? = some none := by
            rw [List.getD_eq_getElem?_getD, List.getElem?_eq_getElem hj] at ho
            rw [List.getElem?_eq_getElem hj]
            exact congrArg some ho
          unfold Ma.bstep
          rw [z]
        rw [es] at eb
        rw [ho] at ha
        simp_arith only [b__law_sources_1, ha, List.length_map, optD]
        rw [if_pos (by omega)]
        exact hF _ ⟨f, _, x5, x6, rfl, hf, by rw [e2]; exact eb⟩
      | some a =>
        have z : f[j]? = some (some a) := by
          rw [List.getD_eq_getElem?_getD, List.getElem?_eq_getElem hj] at ho
          rw [List.getElem?_eq_getElem hj]
          exact congrArg some ho
        have hak : a < k := hf.lt a (List.mem_of_getElem? z)
        have hok := Ma.bstep_ok (C := C) (j := j) h hf
        have es : Ma.bstep k C ps f j = f ++ (Ma.opts k ps a).filter fun r => decide (Ma.cst C a r = 0 ∧ r ∉ f) := by
          unfold Ma.bstep
          rw [z]
        rw [es] at eb hok
        rw [ho] at ha
        simp_arith only [b__law_sources_1, ha, List.length_map, optD, hlen]
        rw [if_pos (by omega)]
        refine d__law_options h hk hp fun fr => ?_
        have hol := Nat.le_trans (Ma.opts_len (k := k) (ps := ps) (c := a)) (by omega : k + 1 ≤ 101)
        simp_arith only
        refine ⟨by rw [sizeLine_eq]; omega, compL_map (fun r => decide (Ma.cst C a r = 0 ∧ r ∉ f)) optD (fun r hr F2 h1 h2 => ?_) ?_⟩
        · simp_arith only
          refine d__law_at hd hC hak (fun r2 e => Ma.opts_lt h hr r2 e) ?_
          simp_arith only [in_OO]
          by_cases e : Ma.cst C a r = 0 ∧ ¬ r ∈ f
          · rw [if_pos e]
            exact h1 (decide_eq_true e)
          · rw [if_neg e]
            exact h2 (decide_eq_false e)
        · simp_arith only
          have hl2 := hok.len
          rw [List.length_append] at hl2
          refine ⟨by rw [sizeLine_eq]; omega, ?_⟩
          rw [← List.map_append]
          exact hF _ ⟨_, _, _, _, rfl, hok, by rw [e2]; exact eb⟩
    · have es : Ma.bstep k C ps f j = f := by
        unfold Ma.bstep
        rw [List.getElem?_eq_none (by omega)]
      rw [es] at eb
      simp_arith only [b__law_sources_1, List.length_map]
      rw [if_neg (by omega)]
      exact hF _ ⟨f, _, x5, x6, rfl, hf, by rw [e2]; exact eb⟩
  · rintro ρ ⟨f, x4, x5, x6, rfl, hf, hb⟩
    have hb : Ma.bfs k C ps (k + 1 - (k + 1)) (k + 1) f = Ma.srcs k C ps c := hb
    rw [Nat.sub_self] at hb
    have hb : f = Ma.srcs k C ps c := hb
    subst hb
    simp_arith only [b__law_sources_2]
    exact hQ
theorem d__law_first_source {d : D} {C : Ma.Mat} {k : Nat} {ps : Ma.Pins} (hd : MatD d C) (hC : Ma.rowsOk k C) (h : Ma.PinsOk k ps) (hk : k ≤ 100) (hp : ps.length ≤ 100) (hQ : Q (.list ((Ma.firstS k C ps).map fun c => PyData.int (c : Nat))) true none) : dn (n + 3) i__law_first_source none [d, pinsD ps] Q R := by
  refine den_at (f := fn__law_first_source) rfl ⟨⟨rfl, rfl⟩, ?_⟩
  have hCl := hC.len
  have hlen : lenS d = fun Q => Q (.int (k : Nat)) := by
    funext Q
    rcases hd with rfl | rfl
    · show Q (.int ((C.map fun r => PyData.tuple (r.map PyData.int)).length : Nat)) = _
      rw [List.length_map, hCl]
    · show Q (.int ((C.map fun r => PyData.list (r.map PyData.int)).length : Nat)) = _
      rw [List.length_map, hCl]
  simp_arith only [fn__law_first_source, b__law_first_source, init, hlen]
  refine ⟨rngOk_nat (by omega), forL_rng (fun j ρ => ∃ x2 x3 : Option (Md × D), ρ = [some (.v, d), some (.v, pinsD ps), x2, x3, none] ∧ ∀ q : Nat, q < j → Ma.isSrc k C ps q = false) (by omega) ⟨_, _, rfl, fun q hq => absurd hq (by omega)⟩ ?_ ?_⟩
  · rintro i ρ F i0 i1 hF ⟨x2, x3, rfl, hq⟩
    obtain ⟨c, rfl⟩ := Int.eq_ofNat_of_zero_le i0
    have hc : c < k := by omega
    have hok := Ma.srcs_ok (C := C) h hc
    have hfl := hok.len
    simp_arith only [b__law_first_source_1]
    refine d__law_sources hd hC h hk hp hc ?_
    simp_arith only [in_nO]
    by_cases hn : none ∈ Ma.srcs k C ps c
    · rw [if_neg (by simpa using hn)]
      refine hF _ ⟨_, _, rfl, fun q hq2 => ?_⟩
      by_cases e : q = c
      · rw [e]
        unfold Ma.isSrc
        simp [hn]
      · exact hq q (by omega)
    · rw [if_pos (by simpa using hn)]
      obtain ⟨gs, eg⟩ := cols_of hn
      have hgs : ∀ q, q ∈ gs ↔ some q ∈ Ma.srcs k C ps c := fun q => by
        rw [eg]
        simp
      have em : (Ma.srcs k C ps c).map optD = gs.map fun q => PyData.int (q : Nat) := by
        rw [eg, List.map_map]
        rfl
      simp_arith only [em]
      refine ⟨by rw [sizeLine_eq]; omega, compL_map (fun q => decide (some c ∉ Ma.srcs k C ps q)) (fun q => .int (q : Nat)) (fun q hq2 F2 h1 h2 => ?_) ?_⟩
      · have hqk : q < k := hok.lt q ((hgs q).mp hq2)
        simp_arith only
        refine d__law_sources hd hC h hk hp hqk ?_
        simp_arith only
        have ei : inS (.int (c : Nat)) (.list ((Ma.srcs k C ps q).map optD)) = fun P => P (decide (some c ∈ Ma.srcs k C ps q)) := funext fun P => in_OO (o := some c)
        simp_arith only [ei]
        by_cases e : some c ∈ Ma.srcs k C ps q
        · rw [if_neg fun z => z e]
          exact h2 (by simp [e])
        · rw [if_pos e]
          exact h1 (by simp [e])
      · simp_arith only
        have hall : (gs.filter fun q => decide ¬ some c ∈ Ma.srcs k C ps q).length = 0 ↔ Ma.isSrc k C ps c = true := by
          unfold Ma.isSrc
          rw [decide_eq_true hn, Bool.true_and, List.all_eq_true, List.length_eq_zero_iff, List.filter_eq_nil_iff]
          constructor
          · intro z q hm
            have := z q ((hgs q).mpr (Ma.mem_grp.mp hm).2)
            simpa using this
          · intro z q hm
            have hm2 := (hgs q).mp hm
            have := z q (Ma.mem_grp.mpr ⟨hok.lt q hm2, hm2⟩)
            simpa using this
        by_cases e : Ma.isSrc k C ps c = true
        · rw [if_pos (by have := hall.mpr e; omega)]
          have ef : Ma.firstS k C ps = Ma.grp k (Ma.srcs k C ps c) := by
            unfold Ma.firstS
            have z : (List.range k).find? (Ma.isSrc k C ps) = some c := by
              rw [List.find?_range_eq_some]
              exact ⟨e, List.mem_range.mpr hc, fun j hj => by rw [hq j (by omega)]; rfl⟩
            rw [z]
          rw [ef] at hQ
          rw [← em]
          exact natsL_sorted eg hok hQ
        · rw [if_neg (by intro z; exact e (hall.mp (by omega)))]
          refine hF _ ⟨_, _, rfl, fun q hq2 => ?_⟩
          by_cases eq : q = c
          · rw [eq]
            simpa using e
          · exact hq q (by omega)
  · rintro ρ ⟨x2, x3, rfl, hq⟩
    have e : Ma.firstS k C ps = [] := by
      unfold Ma.firstS
      have z : (List.range k).find? (Ma.isSrc k C ps) = none := List.find?_eq_none.mpr fun q hm => by
        rw [hq q (by have := List.mem_range.mp hm; omega)]
        exact Bool.false_ne_true
      rw [z]
    rw [e] at hQ
    simp_arith only [b__law_first_source_2]
    exact hQ
theorem arcs_cons {k : Nat} {ps : Ma.Pins} {ms pre : List Nat} {c : Nat} : ((pre ++ [c]).flatMap fun c => ((Ma.opts k ps c).filter (Ma.enters ms)).map fun o => (c, o)) = (pre.flatMap fun c => ((Ma.opts k ps c).filter (Ma.enters ms)).map fun o => (c, o)) ++ ((Ma.opts k ps c).filter (Ma.enters ms)).map fun o => (c, o) := by
  rw [List.flatMap_append]
  simp
theorem d__law_entering {k : Nat} {ps : Ma.Pins} {ms : List Nat} (h : Ma.PinsOk k ps) (hk : k ≤ 100) (hp : ps.length ≤ 100) (hl : ms.length ≤ 100) (hQ : Q (.list ((Ma.arcs k ps ms).map fun p => .tuple [.int (p.1 : Nat), optD p.2])) true none) : dn (n + 2) i__law_entering none [.int (k : Nat), pinsD ps, .list (ms.map fun c => PyData.int (c : Nat))] Q R := by
  refine den_at (f := fn__law_entering) rfl ⟨⟨rfl, rfl⟩, ?_⟩
  simp_arith only [fn__law_entering, b__law_entering, init]
  refine forL_pre (fun pre ρ => ∃ a : Option (Md × D), vS a ∧ ρ = [some (.v, .int (k : Nat)), some (.v, pinsD ps), some (.v, .list (ms.map fun c => PyData.int (c : Nat))), some (.o, .list ((pre.flatMap fun c => ((Ma.opts k ps c).filter (Ma.enters ms)).map fun o => (c, o)).map fun p => .tuple [.int (p.1 : Nat), optD p.2])), a, none]) ⟨none, vn, rfl⟩ ?_ ?_
  · rintro pre c post ρ F e hF ⟨a, ha, rfl⟩
    have hz : (Ma.opts k ps c).length ≤ 101 := Nat.le_trans Ma.opts_len (by omega)
    have hpz : (pre.flatMap fun c => ((Ma.opts k ps c).filter (Ma.enters ms)).map fun o => (c, o)).length ≤ 10100 := by
      refine Nat.le_trans (Ma.flat_len (m := 101) fun c _ => ?_) ?_
      · rw [List.length_map]
        exact Nat.le_trans (List.length_filter_le _ _) (Nat.le_trans Ma.opts_len (by omega))
      · have : pre.length ≤ 100 := by
          rw [e, List.length_append] at hl
          omega
        omega
    simp_arith only [b__law_entering_1]
    refine d__law_options h hk hp fun fr => ?_
    simp_arith only
    refine ⟨by rw [sizeLine_eq]; omega, compL_map (Ma.enters ms) (fun o => .tuple [.int (c : Nat), optD o]) (fun o ho F2 h1 h2 => ?_) ?_⟩
    · simp_arith only
      cases o with
      | none =>
        rw [if_pos (show _ = false from rfl)]
        exact ⟨by decide, h1 rfl⟩
      | some r =>
        by_cases e : r ∈ ms
        · rw [if_neg (by simp [e])]
          exact h2 (by unfold Ma.enters; simp [e])
        · rw [if_pos (by simp [e])]
          exact ⟨by decide, h1 (by unfold Ma.enters; simp [e])⟩
    · simp_arith only
      have hfl := Nat.le_trans (List.length_filter_le (Ma.enters ms) (Ma.opts k ps c)) hz
      refine ⟨fun x _ => trivial, ?_, hF _ ⟨some (.v, .int (c : Nat)), vv, ?_⟩⟩
      · rw [List.length_map, List.length_map, sizeLine_eq]
        omega
      · rw [arcs_cons, List.map_append, List.map_map]
        rfl
  · rintro ρ ⟨a, ha, rfl⟩
    simp_arith only [b__law_entering_2]
    exact hQ
theorem arcs_sz {k : Nat} {ps : Ma.Pins} {ms : List Nat} (hk : k ≤ 100) (hl : ms.length ≤ 100) : (Ma.arcs k ps ms).length ≤ 10100 := Nat.le_trans Ma.arcs_len (Nat.le_trans (Nat.mul_le_mul hl (by omega : k + 1 ≤ 101)) (by decide))
theorem flat_N {ks : List Nat} : flatDs (ks.map fun k => PyData.int (k : Nat)) = true := by
  have z := DL.flat_ints (ks.map Int.ofNat)
  rw [List.map_map] at z
  exact z
theorem flat_prs : ∀ {prs : Ma.Prs}, flatDs (prs.map fun p => .tuple [.tuple (p.1.map fun c => PyData.int (c : Nat)), .int p.2]) = true
  | [] => rfl
  | p :: prs => by
    rw [List.map_cons]
    show (flatDs [.tuple (p.1.map fun c => PyData.int (c : Nat)), .int p.2] && _) = true
    rw [flat_prs, Bool.and_true]
    show (flatDs (p.1.map fun c => PyData.int (c : Nat)) && true) = true
    rw [flat_N]
    rfl
theorem d__law_pairs {C : Ma.Mat} {k : Nat} {ps : Ma.Pins} (hC : Ma.rowsOk k C) (h : Ma.PinsOk k ps) (hk : k ≤ 100) (hp : ps.length ≤ 100) (hQ : Q (.tuple ((Ma.duals k ps (2 * k) C).map fun p => .tuple [.tuple (p.1.map fun c => PyData.int (c : Nat)), .int p.2])) false none) : dn (n + 4) i__law_pairs none [matT C, pinsD ps] Q R := by
  refine den_at (f := fn__law_pairs) rfl ⟨⟨rfl, rfl⟩, ?_⟩
  have hCl := hC.len
  simp_arith only [fn__law_pairs, b__law_pairs, b__law_pairs_3, init]
  refine ⟨by rw [List.length_map, sizeLine_eq]; omega, _, rowsD_T C, fun a bs hb => ?_⟩
  rw [List.length_map] at hb
  simp_arith only [List.length_map, hCl]
  have e2 : (2 : Int) * (k : Int) = ((2 * k : Nat) : Int) := by omega
  simp_arith only [e2]
  refine ⟨rngOk_nat (by omega), forN_rng (fun j ρ rw => ∃ (M : Ma.Mat) (prs : Ma.Prs) (x4 x5 x6 x7 x8 x9 x10 : Option (Md × D)), Ma.rowsOk k M ∧ prs ++ Ma.duals k ps (2 * k - j.toNat) M = Ma.duals k ps (2 * k) C ∧ rw = rwOf bs M ∧ (vS x4 ∧ vS x5 ∧ vS x6 ∧ vS x7 ∧ vS x8 ∧ vS x9 ∧ vS x10) ∧
    ρ = [some (.v, matT C), some (.v, pinsD ps), some (.v, opqD a), some (.o, .list (prs.map fun p => .tuple [.tuple (p.1.map fun c => PyData.int (c : Nat)), .int p.2])), x4, x5, x6, x7, x8, x9, x10]) (by omega) ⟨C, [], _, _, _, _, _, _, _, hC, rfl, rfl, ⟨vn, vn, vn, vn, vn, vn, vn⟩, rfl⟩ ?_ ?_⟩
  · rintro i ρ rw F i0 i1 hF ⟨M, prs, x4, x5, x6, x7, x8, x9, x10, hM, hd, rfl, ⟨h4, h5, h6, h7, h8, h9, h10⟩, rfl⟩
    obtain ⟨j, rfl⟩ := Int.eq_ofNat_of_zero_le i0
    have hMl := hM.len
    have hbM : bs.length = M.length := by omega
    have hd : prs ++ Ma.duals k ps (2 * k - j) M = Ma.duals k ps (2 * k) C := hd
    have hplen : prs.length ≤ 200 := by
      have z := Ma.duals_len (k := k) (ps := ps) (2 * k) C
      rw [← hd, List.length_append] at z
      omega
    rw [show 2 * k - j = (2 * k - (j + 1)) + 1 by omega, Ma.duals_succ] at hd
    have eD := rw_D (bs := bs) (C := M) hbM
    simp_arith only [b__law_pairs_2, eD]
    refine d__law_first_source (.inr rfl) hM h hk hp ?_
    simp_arith only
    refine ⟨lendOk_o3 ⟨vv, vv, vv, trivial⟩ ⟨vv, h5, h6, h7, h8, h9, h10, trivial⟩ flat_prs, .inr ⟨rfl, _, rfl, flat_N⟩, ?_⟩
    simp_arith only [eq_LNnil]
    by_cases e : Ma.firstS k M ps = []
    · rw [if_pos e]
      rw [if_pos e, List.append_nil] at hd
      rw [← hd] at hQ
      exact hQ
    · rw [if_neg e]
      rw [if_neg e] at hd
      obtain ⟨g, hg⟩ : ∃ g, g = Ma.firstS k M ps := ⟨_, rfl⟩
      have hgl : g.length ≤ 100 := by rw [hg]; exact Nat.le_trans Ma.firstS_len hk
      have hgm : ∀ c ∈ g, c < k := fun c hc => Ma.firstS_lt (by rw [← hg]; exact hc)
      rw [← hg] at hd e ⊢
      simp_arith only [List.length_map, hCl]
      refine d__law_entering h hk hp hgl ?_
      have hsz := arcs_sz (k := k) (ps := ps) (ms := g) hk hgl
      simp_arith only [eD]
      refine ⟨by rcases h8 with rfl | ⟨d, rfl⟩ <;> rfl, by rw [List.length_map, sizeLine_eq]; omega, compL_all (fun p => .int (Ma.cst M p.1 p.2)) (fun p hp2 F2 hF2 => ?_) ?_⟩
      · obtain ⟨a1, _, a3⟩ := Ma.arcs_lt h hgm hp2
        simp_arith only
        refine d__law_at (.inr rfl) hM a1 a3 ?_
        simp_arith only
        exact hF2
      · have em : ((Ma.arcs k ps g).map fun p => PyData.int (Ma.cst M p.1 p.2)) = ((Ma.arcs k ps g).map fun p => Ma.cst M p.1 p.2).map PyData.int := by
          rw [List.map_map]
          rfl
        rw [em, min_L]
        refine ⟨fun z => Ma.arcs_ne h e (List.map_eq_nil_iff.mp z), ?_⟩
        have hE : Ma.minD 0 ((Ma.arcs k ps g).map fun p => Ma.cst M p.1 p.2) = Ma.entC M (Ma.arcs k ps g) := rfl
        simp_arith only [hE]
        refine ⟨lendOk_o3 ⟨vv, vv, vv, trivial⟩ ⟨vv, vv, vv, h7, h8, h9, h10, trivial⟩ flat_prs, .inl rfl, by decide, by rw [List.length_map, sizeLine_eq]; omega, ?_⟩
        have eprs : (prs.map fun p => (.tuple [.tuple (p.1.map fun c => PyData.int (c : Nat)), .int p.2] : D)) ++ [.tuple [.tuple (g.map fun c => PyData.int (c : Nat)), .int (Ma.entC M (Ma.arcs k ps g))]] = (prs ++ [(g, Ma.entC M (Ma.arcs k ps g))]).map fun p => .tuple [.tuple (p.1.map fun c => PyData.int (c : Nat)), .int p.2] := by
          rw [List.map_append]
          rfl
        rw [eprs]
        obtain ⟨E, hEe⟩ : ∃ E, E = Ma.entC M (Ma.arcs k ps g) := ⟨_, rfl⟩
        rw [← hEe] at hd ⊢
        refine forN_pre (fun pre ρ rw => (∃ u v w : Option (Md × D), vS u ∧ vS v ∧ vS w ∧ ρ = [some (.v, matT C), some (.v, pinsD ps), some (.v, opqD a), some (.o, .list ((prs ++ [(g, E)]).map fun p => .tuple [.tuple (p.1.map fun c => PyData.int (c : Nat)), .int p.2])), some (.v, .int (j : Nat)), some (.v, .list (g.map fun c => PyData.int (c : Nat))), some (.v, .list ((Ma.arcs k ps g).map fun p => .tuple [.int (p.1 : Nat), optD p.2])), some (.v, .int E), u, v, w]) ∧ rw = rwOf bs (Ma.lower M pre E)) ⟨⟨_, _, _, h8, h9, h10, rfl⟩, rfl⟩ ?_ ?_
        · rintro pre ⟨c, o⟩ post ρ rw F2 epre hF2 ⟨⟨u, v, w, hu, hv, hw, rfl⟩, rfl⟩
          have hmem : (c, o) ∈ Ma.arcs k ps g := by rw [epre]; exact List.mem_append_right _ List.mem_cons_self
          obtain ⟨a1, a2, a3⟩ := Ma.arcs_lt h hgm hmem
          have hpre : Ma.rowsOk k (Ma.lower M pre E) := Ma.lower_rows pre M hM fun q hq => (Ma.arcs_lt h hgm (by rw [epre]; exact List.mem_append_left _ hq)).1
          have hbl : bs.length = (Ma.lower M pre E).length := by rw [hbM, hM.len, hpre.len]
          have hcl : c < (Ma.lower M pre E).length := by rw [hpre.len]; exact a1
          simp_arith only [b__law_pairs_1]
          refine ⟨_, _, rfl, rw_ix hbl hcl, ?_⟩
          cases o with
          | none =>
            rw [if_pos rfl]
            simp_arith only
            refine ⟨_, c, _, rfl, rw_at hbl hcl, _, at_cell hpre a1 a1, ?_⟩
            simp_arith only
            refine ⟨lendOk_o3 ⟨vv, vv, vv, trivial⟩ ⟨vv, vv, vv, vv, vv, vv, vv, trivial⟩ flat_prs, _, _, rfl, cells_ix' hpre a1 a1, rfl, hF2 _ _ ⟨⟨_, _, _, vv, vv, vv, rfl⟩, ?_⟩⟩
            rw [Ma.lower_snoc, rw_setC hbl hcl]
            rfl
          | some r =>
            have hr := a3 r rfl
            rw [if_neg (fun z => nomatch z)]
            simp_arith only [optD]
            refine ⟨_, c, _, rfl, rw_at hbl hcl, _, at_cell hpre a1 hr, ?_⟩
            simp_arith only
            refine ⟨lendOk_o3 ⟨vv, vv, vv, trivial⟩ ⟨vv, vv, vv, vv, vv, vv, vv, trivial⟩ flat_prs, _, _, rfl, cells_ix' hpre a1 hr, rfl, hF2 _ _ ⟨⟨_, _, _, vv, vv, vv, rfl⟩, ?_⟩⟩
            rw [Ma.lower_snoc, rw_setC hbl hcl]
            rfl
        · rintro ρ rw ⟨⟨u, v, w, hu, hv, hw, rfl⟩, rfl⟩
          have hfin : Ma.rowsOk k (Ma.lower M (Ma.arcs k ps g) E) := Ma.lower_rows _ M hM fun q hq => (Ma.arcs_lt h hgm hq).1
          refine hF _ _ ⟨_, prs ++ [(g, E)], _, _, _, _, _, _, _, hfin, ?_, rfl, ⟨vv, vv, vv, vv, hu, hv, hw⟩, rfl⟩
          have e3 : ((j : Int) + 1).toNat = j + 1 := by omega
          rw [e3, List.append_assoc]
          exact hd
  · rintro ρ rw ⟨M, prs, x4, x5, x6, x7, x8, x9, x10, hM, hd, rfl, _, rfl⟩
    have hd : prs ++ Ma.duals k ps (2 * k - 2 * k) M = Ma.duals k ps (2 * k) C := hd
    rw [Nat.sub_self] at hd
    have hd : prs ++ [] = Ma.duals k ps (2 * k) C := hd
    rw [List.append_nil] at hd
    rw [← hd] at hQ
    simp_arith only [b__law_pairs_4]
    exact hQ
def PrsOk (k : Nat) (prs : Ma.Prs) : Prop := ∀ p ∈ prs, (∀ c ∈ p.1, c < k) ∧ p.1.length ≤ k
theorem PrsOk.snoc {k : Nat} {prs : Ma.Prs} {p : List Nat × Int} (h : PrsOk k prs) (hp : (∀ c ∈ p.1, c < k) ∧ p.1.length ≤ k) : PrsOk k (prs ++ [p]) := fun q hq => by
  rcases List.mem_append.mp hq with z | z
  · exact h q z
  · rw [List.mem_singleton.mp z]
    exact hp
theorem eq_PrsNil {prs : Ma.Prs} {P : Bool → Prop} : eqS (.list (prs.map fun p => .tuple [.tuple (p.1.map fun c => PyData.int (c : Nat)), .int p.2])) (.list []) P = P (decide (prs = [])) := by
  have hs : ∀ prs : Ma.Prs, PyData.canLayAll0 (prs.map fun p => PyData.tuple [.tuple (p.1.map fun c => PyData.int (c : Nat)), .int p.2]) = true ∧ PyData.depthAll (prs.map fun p => PyData.tuple [.tuple (p.1.map fun c => PyData.int (c : Nat)), .int p.2]) ≤ 3 := fun prs => by
    induction prs with
    | nil => exact ⟨rfl, Nat.zero_le _⟩
    | cons p prs ih =>
      obtain ⟨h1, h2⟩ := ih
      have z := shp_NT p.1
      unfold SeqAt.shaped at z
      have z1 := (and2 z).1
      have z2 : (PyData.tuple (p.1.map fun c => PyData.int (c : Nat))).depth ≤ 2 := by
        show (PyData.tuple (natsD p.1)).depth ≤ 2
        rw [nats_ints]
        have := dep_ints (p.1.map Int.ofNat)
        simp only [PyData.depth]
        omega
      refine ⟨?_, ?_⟩
      · show ((PyData.tuple [.tuple (p.1.map fun c => PyData.int (c : Nat)), .int p.2]).canLay0 && _) = true
        rw [h1, Bool.and_true]
        show ((PyData.tuple (p.1.map fun c => PyData.int (c : Nat))).canLay0 && true) = true
        rw [Bool.and_true]
        exact z1
      · rw [List.map_cons]
        simp only [PyData.depthAll, PyData.depth] at z2 ⊢
        omega
  show ((_ ∧ _) ∧ P (PyData.eqv _ _)) = _
  have e : PyData.eqv (.list (prs.map fun p => .tuple [.tuple (p.1.map fun c => PyData.int (c : Nat)), .int p.2])) (.list []) = decide (prs = []) := by
    cases prs <;> simp [PyData.eqv, PyData.eqvAll]
  rw [e]
  have hsh : SeqAt.shaped (.list (prs.map fun p => .tuple [.tuple (p.1.map fun c => PyData.int (c : Nat)), .int p.2])) = true := by
    obtain ⟨h1, h2⟩ := hs prs
    unfold SeqAt.shaped
    have e : (PyData.list (prs.map fun p => .tuple [.tuple (p.1.map fun c => PyData.int (c : Nat)), .int p.2])).canLay0 = true := h1
    rw [e, Bool.true_and, decide_eq_true_eq]
    simp only [PyData.depth]
    omega
  exact propext ⟨fun h => h.2, fun h => ⟨⟨hsh, by decide⟩, h⟩⟩
theorem d__law_bundle {t : D} {C : Ma.Mat} {k : Nat} {ps : Ma.Pins} (ht : Tp t) (hC : Ma.rowsOk k C) (h : Ma.PinsOk k ps) (k0 : 0 < k) (hk : k ≤ 6) (hp : ps.length ≤ 100) (hQ : ∀ (prs : Ma.Prs) (t' : D), Tp t' → PrsOk k prs → prs.length ≤ 300 → Q (.tuple (prs.map fun p => .tuple [.tuple (p.1.map fun c => PyData.int (c : Nat)), .int p.2])) false (some t')) : dn (n + 5) i__law_bundle (some t) [matT C, pinsD ps] Q R := by
  refine den_at (f := fn__law_bundle) rfl ⟨⟨rfl, rfl⟩, ?_⟩
  have hCl := hC.len
  have fin : ∀ (t : D) (prs : Ma.Prs) (x4 x5 : Option (Md × D)) (k' : Kd), Tp t → PrsOk k prs → prs.length ≤ 12 → k'.rt = (fun d fr ρ => tpEnd true ρ (Q d fr)) → k'.ex = (fun x ρ => tpEnd true ρ (R x)) →
      wpSs CC (den CC PP (n + 4)) b__law_bundle_4 [some (.m, t), some (.v, matT C), some (.v, pinsD ps), some (.o, .list (prs.map fun p => .tuple [.tuple (p.1.map fun c => PyData.int (c : Nat)), .int p.2])), x4, x5, none, none, none] k' := fun t prs x4 x5 k' ht hprs hl hk' hx' => by
    have go : ∀ (t : D) (m : Int) (k' : Kd), Tp t → 0 ≤ m → m ≤ 100 → k'.rt = (fun d fr ρ => tpEnd true ρ (Q d fr)) → k'.ex = (fun x ρ => tpEnd true ρ (R x)) → wpSs CC (den CC PP (n + 4)) b__law_bundle_3 [some (.m, t), some (.v, matT C), some (.v, pinsD ps), some (.o, .list (prs.map fun p => .tuple [.tuple (p.1.map fun c => PyData.int (c : Nat)), .int p.2])), x4, x5, some (.v, .int m), none, none] k' := fun t m k' ht m0 m1 hk' hx' => by
      simp_arith only [b__law_bundle_3]
      refine ⟨⟨by omega, by omega, by omega, by omega⟩, forL_rng (fun i ρ => ∃ (t : D) (prs : Ma.Prs) (x4 x7 : Option (Md × D)), Tp t ∧ PrsOk k prs ∧ (prs.length : Int) ≤ 12 + i ∧ ρ = [some (.m, t), some (.v, matT C), some (.v, pinsD ps), some (.o, .list (prs.map fun p => .tuple [.tuple (p.1.map fun c => PyData.int (c : Nat)), .int p.2])), x4, x5, some (.v, .int m), x7, none]) m0 ⟨t, prs, _, _, ht, hprs, by omega, rfl⟩ ?_ ?_⟩
      · rintro i ρ F i0 i1 hF ⟨t, prs, x4, x7, ht, hprs, hl, rfl⟩
        simp_arith only [b__law_bundle_1, List.length_map, hCl, rng0]
        refine ⟨rngOk_nat (by omega), (by (try simp only [List.length_map, List.length_zipIdx, List.length_take, List.length_drop, List.length_append, List.length_cons, List.length_nil, List.length_zip, List.length_range, Ma.wcs_len, Ma.srt_len, sizeLine_eq]); omega), compL_all (fun k => .int (k : Nat)) (fun k _ F hF => by simp_arith only; exact hF) ?_⟩
        simp_arith only
        refine d__law_shuffled ht (by (try simp only [List.length_map, List.length_zipIdx, List.length_take, List.length_drop, List.length_append, List.length_cons, List.length_nil, List.length_zip, List.length_range, Ma.wcs_len, Ma.srt_len, sizeLine_eq]); omega) fun es t ht hp2 => ?_
        obtain ⟨os, rfl, hp3⟩ := perm_N hp2
        have hol : os.length = k := by rw [hp3.length_eq, List.length_range]
        have hom : ∀ x ∈ os, x < k := fun x hx => List.mem_range.mp (hp3.mem_iff.mp hx)
        simp_arith only [List.length_map, hCl]
        refine d__law_draw ht (by omega) fun r2 t ht r20 r21 => ?_
        obtain ⟨u, rfl⟩ := Int.eq_ofNat_of_zero_le r20
        have ev : (1 : Int) + (u : Int) = ((1 + u : Nat) : Int) := by omega
        simp_arith only [ev, cut_to]
        refine d__law_draw ht (by omega) fun r3 t ht r30 r31 => ?_
        simp_arith only
        refine d__law_draw ht (by omega) fun r4 t ht r40 r41 => ?_
        simp_arith only
        refine ⟨by decide, d__law_pick ht (by simp) (by (try simp only [List.length_map, List.length_zipIdx, List.length_take, List.length_drop, List.length_append, List.length_cons, List.length_nil, List.length_zip, List.length_range, Ma.wcs_len, Ma.srt_len, sizeLine_eq]); omega) fun d t ht hd => ?_⟩
        have hx : ∃ x : Int, d = .int x := by
          simp only [List.mem_cons, List.not_mem_nil, or_false] at hd
          rcases hd with rfl | rfl | rfl | rfl | rfl <;> exact ⟨_, rfl⟩
        obtain ⟨x, rfl⟩ := hx
        simp_arith only [List.length_map]
        refine ⟨by decide, by rw [sizeLine_eq]; omega, ?_⟩
        have eprs : (prs.map fun p => (.tuple [.tuple (p.1.map fun c => PyData.int (c : Nat)), .int p.2] : D)) ++ [.tuple [.tuple ((os.take (1 + u)).map fun c => PyData.int (c : Nat)), .int x]] = (prs ++ [(os.take (1 + u), x)]).map fun p => .tuple [.tuple (p.1.map fun c => PyData.int (c : Nat)), .int p.2] := by
          rw [List.map_append]
          rfl
        rw [eprs]
        exact hF _ ⟨t, _, _, _, ht, hprs.snoc ⟨fun c hc => hom c (List.mem_of_mem_take hc), by rw [List.length_take]; omega⟩, by rw [List.length_append, List.length_singleton]; omega, rfl⟩
      · rintro ρ ⟨t, prs, x4, x7, ht, hprs, hl, rfl⟩
        simp_arith only [b__law_bundle_2]
        refine d__law_shuffled ht (by rw [List.length_map]; omega) fun es t ht hp2 => ?_
        obtain ⟨qs, rfl, hqs⟩ := list_eq_mapP (f := fun p : List Nat × Int => (.tuple [.tuple (p.1.map fun c => PyData.int (c : Nat)), .int p.2] : D)) (P := fun p => (∀ c ∈ p.1, c < k) ∧ p.1.length ≤ k) (xs := es) fun x hx => by
          obtain ⟨p, hpm, rfl⟩ := List.mem_map.mp (hp2.mem_iff.mp hx)
          exact ⟨p, rfl, hprs p hpm⟩
        have hql : qs.length ≤ 300 := by
          have z := hp2.length_eq
          rw [List.length_map, List.length_map] at z
          omega
        simp_arith only
        rw [hk']
        simp_arith only
        exact hQ qs t ht hqs hql
    simp_arith only [b__law_bundle_4]
    refine d__law_draw ht (by omega) fun r3 t ht r30 r31 => ?_
    simp_arith only
    refine ⟨by decide, d__law_pick ht (by simp) (by (try simp only [List.length_map, List.length_zipIdx, List.length_take, List.length_drop, List.length_append, List.length_cons, List.length_nil, List.length_zip, List.length_range, Ma.wcs_len, Ma.srt_len, sizeLine_eq]); omega) fun d t ht hd => ?_⟩
    have hx : ∃ x : Int, d = .int x ∧ 0 ≤ x ∧ x ≤ 100 := by
      simp only [List.mem_cons, List.not_mem_nil, or_false] at hd
      rcases hd with rfl | rfl | rfl | rfl | rfl <;> exact ⟨_, rfl, by omega, by omega⟩
    obtain ⟨x, rfl, x0, x1⟩ := hx
    simp_arith only
    refine d__law_draw ht (by omega) fun r4 t ht r40 r41 => ?_
    simp_arith only [List.length_map]
    split
    · exact go t _ _ ht (by omega) (by omega) hk' hx'
    · exact go t _ _ ht x0 x1 hk' hx'
  simp_arith only [fn__law_bundle, b__law_bundle, init]
  refine d__law_draw ht (by omega) fun r t ht r0 r1 => ?_
  simp_arith only
  split
  · refine d__law_pairs hC h (by omega) hp ?_
    obtain ⟨prs, hprs⟩ : ∃ prs, prs = Ma.duals k ps (2 * k) C := ⟨_, rfl⟩
    have hok : PrsOk k prs := fun p hp => Ma.duals_lt (2 * k) C p (by rw [← hprs]; exact hp)
    have hl : prs.length ≤ 12 := by
      have z := Ma.duals_len (k := k) (ps := ps) (2 * k) C
      rw [← hprs] at z
      omega
    rw [← hprs]
    simp_arith only [eq_PrsNil, List.length_map]
    by_cases e : prs = []
    · rw [if_neg fun z => z e]
      exact fin t prs _ _ _ ht hok hl rfl rfl
    · rw [if_pos e]
      refine d__law_draw ht (by omega) fun r2 t ht r20 r21 => ?_
      simp_arith only
      split
      · refine d__law_draw ht (by omega) fun r3 t ht r30 r31 => ?_
        have hpl := List.length_pos_iff.mpr e
        obtain ⟨j, rfl⟩ := Int.eq_ofNat_of_zero_le r30
        have hj : j < prs.length := by omega
        have ha : atI (prs.map fun p => (.tuple [.tuple (p.1.map fun c => PyData.int (c : Nat)), .int p.2] : D)) (j : Int) = some (.tuple [.tuple ((prs.getD j ([], 0)).1.map fun c => PyData.int (c : Nat)), .int (prs.getD j ([], 0)).2]) := at_map (f := fun p : List Nat × Int => (.tuple [.tuple (p.1.map fun c => PyData.int (c : Nat)), .int p.2] : D)) hj
        simp_arith only [ha]
        refine ⟨by decide, d__law_pick ht (by simp) (by (try simp only [List.length_map, List.length_zipIdx, List.length_take, List.length_drop, List.length_append, List.length_cons, List.length_nil, List.length_zip, List.length_range, Ma.wcs_len, Ma.srt_len, sizeLine_eq]); omega) fun d t ht hd => ?_⟩
        have hx : ∃ x : Int, d = .int x := by
          simp only [List.mem_cons, List.not_mem_nil, or_false] at hd
          rcases hd with rfl | rfl | rfl | rfl <;> exact ⟨_, rfl⟩
        obtain ⟨x, rfl⟩ := hx
        simp_arith only [ha]
        refine ⟨by decide, j, by rw [List.length_map, ixN_nat, if_pos hj], ?_⟩
        have hm : prs.getD j ([], 0) ∈ prs := by
          rw [List.getD_eq_getElem?_getD, List.getElem?_eq_getElem hj]
          exact List.getElem_mem _
        have hjk := hok _ hm
        revert hjk
        generalize prs.getD j ([], 0) = q
        intro hjk
        generalize (if (if q.2 + x < 1000000 then q.2 + x else 1000000) > 0 then if q.2 + x < 1000000 then q.2 + x else 1000000 else 0) = y
        have es : (prs.map fun p => (.tuple [.tuple (p.1.map fun c => PyData.int (c : Nat)), .int p.2] : D)).set j (.tuple [.tuple (q.1.map fun c => PyData.int (c : Nat)), .int y]) = (prs.set j (q.1, y)).map fun p => .tuple [.tuple (p.1.map fun c => PyData.int (c : Nat)), .int p.2] := by
          rw [List.map_set]
        rw [es]
        refine fin t _ _ _ _ ht (fun p hp => ?_) (by rw [List.length_set]; exact hl) rfl rfl
        rcases List.mem_or_eq_of_mem_set hp with z | z
        · exact hok p z
        · rw [z]
          exact hjk
      · exact fin t prs _ _ _ ht hok hl rfl rfl
  · exact fin t [] _ _ _ ht (fun _ h => nomatch h) (Nat.zero_le _) rfl rfl




theorem d__law_load {prs : Ma.Prs} {c : Nat} {o : Option Nat} (hl : prs.length ≤ 1000) (h : Q (.int (Ma.load prs c o)) false none) : dn (n + 1) i__law_load none [.tuple (prs.map fun p => .tuple [.tuple (p.1.map fun c => PyData.int (c : Nat)), .int p.2]), .int (c : Nat), optD o] Q R := by
  refine den_at (f := fn__law_load) rfl ⟨⟨rfl, rfl⟩, ?_⟩
  simp_arith only [fn__law_load, b__law_load, init]
  refine ⟨by rw [List.length_map, sizeLine_eq]; omega, compL_map (Ma.hits c o) (fun p => .int p.2) (fun p hp F h1 h2 => ?_) ?_⟩
  · unfold Ma.hits Ma.enters at h1 h2
    cases o with
    | none =>
      simp_arith only [optD, in_nT]
      by_cases e : c ∈ p.1
      · rw [if_pos e]
        exact h1 (by simp [e])
      · rw [if_neg e]
        exact h2 (by simp [e])
    | some r =>
      simp_arith only [optD]
      by_cases e : c ∈ p.1 ∧ ¬ r ∈ p.1
      · rw [if_pos e]
        exact h1 (by simp [e.1, e.2])
      · rw [if_neg e]
        refine h2 ?_
        by_cases e1 : c ∈ p.1
        · have e2 : r ∈ p.1 := Decidable.not_not.mp fun z => e ⟨e1, z⟩
          simp [e2]
        · simp [e1]
  · simp_arith only
    rw [sum_map, sum_L]
    exact h
theorem d__law_excess {C : Ma.Mat} {k : Nat} {prs : Ma.Prs} {ps : Ma.Pins} {c : Nat} (hC : Ma.rowsOk k C) (h : Ma.PinsOk k ps) (hk : k ≤ 100) (hp : ps.length ≤ 100) (hl : prs.length ≤ 1000) (hc : c < k) (hQ : Q (.int (Ma.excess k C prs ps c)) false none) : dn (n + 4) i__law_excess none [matT C, .tuple (prs.map fun p => .tuple [.tuple (p.1.map fun c => PyData.int (c : Nat)), .int p.2]), pinsD ps, .int (c : Nat)] Q R := by
  refine den_at (f := fn__law_excess) rfl ⟨⟨rfl, rfl⟩, ?_⟩
  have hCl := hC.len
  simp_arith only [fn__law_excess, b__law_excess, init, List.length_map, hCl]
  refine d__law_options h hk hp fun fr => ?_
  have ho := Nat.le_trans (Ma.opts_len (k := k) (ps := ps) (c := c)) (by omega : k + 1 ≤ 101)
  simp_arith only
  refine ⟨by decide, by rw [sizeLine_eq]; omega, compL_all (fun r => .int (Ma.load prs c r - Ma.cst C c r)) (fun r hr F hF => ?_) ?_⟩
  · simp_arith only
    refine d__law_load hl ?_
    simp_arith only
    refine d__law_at (.inl rfl) hC hc (fun r2 e => Ma.opts_lt h hr r2 e) ?_
    simp_arith only
    exact hF
  · have e : (PyData.int 0 :: (Ma.opts k ps c).map fun r => PyData.int (Ma.load prs c r - Ma.cst C c r)) = (0 :: (Ma.opts k ps c).map fun r => Ma.load prs c r - Ma.cst C c r).map PyData.int := by
      rw [List.map_cons, List.map_map]
      rfl
    simp_arith only [List.length_map]
    rw [e, max_L]
    exact ⟨by rw [sizeLine_eq]; omega, List.cons_ne_nil _ _, hQ⟩

def TrOk (k : Nat) (x : D) : Prop := ∃ (C : Ma.Mat) (ps : Ma.Pins), x = .tuple [matT C, pinsD ps] ∧ Ma.rowsOk k C ∧ Ma.PinsOk k ps ∧ ps.length ≤ 100
def BunOk (k : Nat) (x : D) : Prop := ∃ prs : Ma.Prs, x = .tuple (prs.map fun p => .tuple [.tuple (p.1.map fun c => PyData.int (c : Nat)), .int p.2]) ∧ PrsOk k prs ∧ prs.length ≤ 1000
theorem law_thm : Law CS TT 9 i_law := fun ns hn => by
  refine den_at (f := fn_law) rfl ⟨⟨rfl, rfl⟩, ?_⟩
  simp_arith only [fn_law, b_law, init]
  refine d__law_tape fun t ht => ?_
  simp_arith only
  refine d__law_draw ht (by omega) fun r t ht r0 r1 => ?_
  obtain ⟨v, rfl⟩ := Int.eq_ofNat_of_zero_le r0
  obtain ⟨k, hk⟩ : ∃ k, k = 1 + v := ⟨_, rfl⟩
  have ek : (1 : Int) + (v : Int) = (k : Int) := by omega
  have hk6 : k ≤ 6 := by omega
  simp_arith only [ek]
  refine d__law_matrix ht (by omega) (by omega) fun C t ht hC hB => ?_
  simp_arith only
  refine d__law_pins ht (by omega) fun ps t ht hps hpl => ?_
  simp_arith only
  refine d__law_bundle ht hC hps (by omega) hk6 hpl fun b1 t ht hb1 hl1 => ?_
  simp_arith only
  refine d__law_bundle ht hC hps (by omega) hk6 hpl fun b2 t ht hb2 hl2 => ?_
  simp_arith only
  refine d__law_matrix ht (by omega) (by omega) fun C2 t ht hC2 hB2 => ?_
  have hnil := Ma.pinsNil k
  simp_arith only
  have hbs : ∀ x ∈ [PyData.tuple (b1.map fun p => .tuple [.tuple (p.1.map fun c => PyData.int (c : Nat)), .int p.2]), PyData.tuple (b2.map fun p => .tuple [.tuple (p.1.map fun c => PyData.int (c : Nat)), .int p.2]), PyData.tuple (b1.map fun p => .tuple [.tuple (p.1.map fun c => PyData.int (c : Nat)), .int p.2])], BunOk k x := fun x hx => by
    simp only [List.mem_cons, List.not_mem_nil, or_false] at hx
    rcases hx with rfl | rfl | rfl
    · exact ⟨_, rfl, hb1, by omega⟩
    · exact ⟨_, rfl, hb2, by omega⟩
    · exact ⟨_, rfl, hb1, by omega⟩
  have htr : ∀ x ∈ [PyData.tuple [matT C, pinsD ps], PyData.tuple [matT C, PyData.tuple []], PyData.tuple [matT C2, pinsD ps]], TrOk k x := fun x hx => by
    simp only [List.mem_cons, List.not_mem_nil, or_false] at hx
    rcases hx with rfl | rfl | rfl
    · exact ⟨_, _, rfl, hC, hps, hpl⟩
    · exact ⟨_, [], rfl, hC, hnil, Nat.zero_le _⟩
    · exact ⟨_, _, rfl, hC2, hps, hpl⟩
  obtain ⟨X5, hX5⟩ : ∃ X, X = PyData.tuple (b1.map fun p => .tuple [.tuple (p.1.map fun c => PyData.int (c : Nat)), .int p.2]) := ⟨_, rfl⟩
  obtain ⟨X6, hX6⟩ : ∃ X, X = PyData.tuple (b2.map fun p => .tuple [.tuple (p.1.map fun c => PyData.int (c : Nat)), .int p.2]) := ⟨_, rfl⟩
  rw [← hX5, ← hX6] at hbs ⊢
  have e0 : ∀ j : Nat, j < k → PyData.int 0 = PyData.int ((0 : Nat) : Int) := fun _ _ => rfl
  refine ⟨by decide, forL_ind (fun items ρ => (∀ x ∈ items, BunOk k x) ∧ ∃ x8 x9 x10 x11 x12 : Option (Md × D), ρ = [some (.v, scrD ns), some (.o, t), some (.v, .int (k : Nat)), some (.v, matT C), some (.v, pinsD ps), some (.v, X5), some (.v, X6), some (.v, matT C2), x8, x9, x10, x11, x12]) ?_ ?_ _ _ ⟨hbs, _, _, _, _, _, rfl⟩⟩
  · rintro ρ ⟨_, x8, x9, x10, x11, x12, rfl⟩
    obtain ⟨G, hG⟩ : ∃ G, G = den (CS.map (·.2)) (TT.map (·.fn)) 8 := ⟨_, rfl⟩
    rw [← hG]
    simp_arith only [b_law_6]
    rw [hG, hX5]
    refine d_excess_of (c := 0) (ps := []) hC hnil (by omega) (Nat.zero_le _) (by omega) (by omega) ?_
    refine d__law_excess (c := 0) (ps := []) hC hnil (by omega) (Nat.zero_le _) (by omega) (by omega) ?_
    exact d__law_same 7 _ rfl (Nat.zero_le _) rfl
  · rintro x xs ρ F hF ⟨hx, x8, x9, x10, x11, x12, rfl⟩
    obtain ⟨prs, rfl, hpr, hprl⟩ := hx x List.mem_cons_self
    have hxs : ∀ y ∈ xs, BunOk k y := fun y hy => hx y (List.mem_cons_of_mem _ hy)
    simp_arith only [b_law_5]
    refine ⟨rngOk_nat (by omega), forL_rng (fun i ρ => ∃ x9 x10 x11 x12 : Option (Md × D), ρ = [some (.v, scrD ns), some (.o, t), some (.v, .int (k : Nat)), some (.v, matT C), some (.v, pinsD ps), some (.v, X5), some (.v, X6), some (.v, matT C2), some (.v, .tuple (prs.map fun p => .tuple [.tuple (p.1.map fun c => PyData.int (c : Nat)), .int p.2])), x9, x10, x11, x12]) (by omega) ⟨_, _, _, _, rfl⟩ ?_ ?_⟩
    · rintro i ρ F2 i0 i1 hF2 ⟨x9, x10, x11, x12, rfl⟩
      obtain ⟨c, rfl⟩ := Int.eq_ofNat_of_zero_le i0
      have hc : c < k := by omega
      simp_arith only [b_law_4]
      refine d__law_options (c := c) hnil (by omega) (Nat.zero_le _) fun fr => ?_
      simp_arith only
      refine forL_pre (fun pre ρ => ∃ x10 : Option (Md × D), ρ = [some (.v, scrD ns), some (.o, t), some (.v, .int (k : Nat)), some (.v, matT C), some (.v, pinsD ps), some (.v, X5), some (.v, X6), some (.v, matT C2), some (.v, .tuple (prs.map fun p => .tuple [.tuple (p.1.map fun c => PyData.int (c : Nat)), .int p.2])), some (.v, .int (c : Nat)), x10, x11, x12]) ⟨_, rfl⟩ ?_ ?_
      · rintro pre o post ρ F3 e hF3 ⟨x10, rfl⟩
        simp_arith only [b_law_1]
        refine d_load_of hprl ?_
        simp_arith only
        refine d__law_load hprl ?_
        refine d__law_same 7 _ rfl (Nat.zero_le _) ?_
        simp_arith only
        exact hF3 _ ⟨_, rfl⟩
      · rintro ρ ⟨x10, rfl⟩
        simp_arith only [b_law_3]
        refine ⟨by decide, by decide, by decide, by decide, forL_ind (fun items ρ => (∀ x ∈ items, TrOk k x) ∧ ∃ x11 x12 : Option (Md × D), ρ = [some (.v, scrD ns), some (.o, t), some (.v, .int (k : Nat)), some (.v, matT C), some (.v, pinsD ps), some (.v, X5), some (.v, X6), some (.v, matT C2), some (.v, .tuple (prs.map fun p => .tuple [.tuple (p.1.map fun c => PyData.int (c : Nat)), .int p.2])), some (.v, .int (c : Nat)), x10, x11, x12]) ?_ ?_ _ _ ⟨htr, _, _, rfl⟩⟩
        · rintro ρ ⟨_, x11, x12, rfl⟩
          exact hF2 _ ⟨_, _, _, _, rfl⟩
        · rintro y ys ρ F4 hF4 ⟨hy, x11, x12, rfl⟩
          obtain ⟨M, qs, rfl, hM, hq, hql⟩ := hy y List.mem_cons_self
          simp_arith only [b_law_2]
          refine d__law_excess (c := c) hM hq (by omega) hql hprl hc ?_
          simp_arith only
          refine d_excess_of (c := c) hM hq (by omega) hql hprl hc ?_
          refine d__law_same 7 _ rfl (Nat.zero_le _) ?_
          simp_arith only
          exact hF4 _ ⟨fun z hz => hy z (List.mem_cons_of_mem _ hz), _, _, rfl⟩
    · rintro ρ ⟨x9, x10, x11, x12, rfl⟩
      exact hF _ ⟨hxs, _, _, _, _, _, rfl⟩
end
end
end Lw
theorem PySem.Challenge.cw_refpack_k38_loads_and_excesses_holds : PySem.Challenge.rw_refpack_k38_loads_and_excesses.Holds := by
  exact holds_of (n := 9) ⟨rfl, by decide, by decide⟩ Lw.law_thm
