import PyProof.Rows.All
import Wide.All
import OpenK.AllK
import Wide.FinOn
import Open.SpecLaws
import KE.OsGo
import KE.SortData
import HandS.ForSpec
import HandS.Comp
import HandS.Iter
import HandS.Walk
import HandS.Style
import HandS.SetFor
import HandS.SortInts
import PySem.Challenge.RW_sailraces_s01_answers
set_option Elab.async false
set_option linter.all false
set_option maxRecDepth 100000
set_option maxHeartbeats 4000000
namespace Sail
/-! # The mathematics, A: the mirror of the small defs; sorts and sums -/
def toI (l : List Nat) : List Int := l.map fun n : Nat => (n : Int)
def putRight (rs ts : List Int) : List Int := List.zipWith (fun r t => r * t) rs ts
def ptsOf (right : Int) (boats : List Int) : Int :=
  if right = 0 then 2 * ((boats.length : Int) + 1)
  else 2 * ((boats.filter fun o => decide (o ≠ 0) && decide (o < right)).length : Int) + ((boats.filter fun o => decide (o = right)).length : Int) + 1
def racePts (rs ts : List Int) : List Int := (putRight rs ts).map fun r => ptsOf r (putRight rs ts)
def boatPts (races : List (List Int)) (b : Nat) : List Int := races.map fun r => r.getD b 0
def asc (l : List Int) : List Int := l.mergeSort (fun a b => decide (a ≤ b))
def sumW (l : List Int) (k : Nat) : Int := ((asc l).take (l.length - k)).sum

theorem ints_length (l : List Nat) : (toI l).length = l.length := List.length_map ..
theorem ints_append (l m : List Nat) : toI (l ++ m) = toI l ++ toI m := List.map_append ..
theorem ints_get? (l : List Nat) (i : Nat) : (toI l)[i]? = l[i]?.map fun n : Nat => (n : Int) := List.getElem?_map ..
theorem ints_nil {l : List Nat} (h : toI l = []) : l = [] := List.map_eq_nil_iff.mp h

/-- two rising lists of the same things are one -/
theorem rise_uniq : ∀ {l m : List Int}, l.Perm m → l.Pairwise (· ≤ ·) → m.Pairwise (· ≤ ·) → l = m
  | [], m, p, _, _ => (List.Perm.eq_nil p.symm).symm
  | x :: l, [], p, _, _ => absurd p.length_eq (by simp)
  | x :: l, y :: m, p, hl, hm => by
    have h1 : x ≤ y := by
      rcases List.mem_cons.mp (p.mem_iff.mpr (List.mem_cons_self (a := y) (l := m))) with e | h
      · rw [e]; exact Int.le_refl _
      · exact (List.pairwise_cons.mp hl).1 y h
    have h2 : y ≤ x := by
      rcases List.mem_cons.mp (p.mem_iff.mp (List.mem_cons_self (a := x) (l := l))) with e | h
      · rw [e]; exact Int.le_refl _
      · exact (List.pairwise_cons.mp hm).1 x h
    have e : x = y := Int.le_antisymm h1 h2
    subst e
    rw [rise_uniq p.cons_inv (List.pairwise_cons.mp hl).2 (List.pairwise_cons.mp hm).2]
theorem asc_perm (l : List Int) : (asc l).Perm l := List.mergeSort_perm _ _
theorem asc_rise (l : List Int) : (asc l).Pairwise (· ≤ ·) := by
  have h := List.pairwise_mergeSort (le := fun a b : Int => decide (a ≤ b)) (fun a b c h1 h2 => decide_eq_true (Int.le_trans (of_decide_eq_true h1) (of_decide_eq_true h2)))
    (fun a b => by
      rcases Int.le_total a b with h | h
      · simp [h]
      · simp [h]) l
  exact h.imp fun h => of_decide_eq_true h
theorem asc_length (l : List Int) : (asc l).length = l.length := (asc_perm l).length_eq
theorem asc_is {l m : List Int} (p : m.Perm l) (h : m.Pairwise (· ≤ ·)) : m = asc l := rise_uniq (p.trans (asc_perm l).symm) h (asc_rise l)

/-! the specification's own sort -/
open Uw33
theorem put_perm (n : Nat) : ∀ l : List Nat, (put n l).Perm (n :: l)
  | [] => List.Perm.refl _
  | m :: l => by
    unfold put
    split
    · exact List.Perm.refl _
    · exact ((put_perm n l).cons m).trans (List.Perm.swap n m l)
theorem put_falls (n : Nat) : ∀ l : List Nat, l.Pairwise (· ≥ ·) → (put n l).Pairwise (· ≥ ·)
  | [], _ => List.pairwise_singleton _ _
  | m :: l, h => by
    unfold put
    obtain ⟨h1, h2⟩ := List.pairwise_cons.mp h
    split
    · rename_i c
      refine List.pairwise_cons.mpr ⟨fun x hx => ?_, h⟩
      rcases List.mem_cons.mp hx with e | hx
      · rw [e]; exact Nat.le_of_lt c
      · exact Nat.le_trans (h1 x hx) (Nat.le_of_lt c)
    · rename_i c
      refine List.pairwise_cons.mpr ⟨fun x hx => ?_, put_falls n l h2⟩
      rcases List.mem_cons.mp ((put_perm n l).mem_iff.mp hx) with e | hx
      · rw [e]; exact Nat.le_of_not_lt c
      · exact h1 x hx
theorem fall_from : ∀ (l r : List Nat), r.Pairwise (· ≥ ·) → (l.foldl (fun r n => put n r) r).Perm (l ++ r) ∧ (l.foldl (fun r n => put n r) r).Pairwise (· ≥ ·)
  | [], r, h => ⟨List.Perm.refl _, h⟩
  | n :: l, r, h => by
    obtain ⟨p, q⟩ := fall_from l (put n r) (put_falls n r h)
    refine ⟨p.trans ?_, q⟩
    exact (List.Perm.append_left l (put_perm n r)).trans List.perm_middle
theorem fall_perm (l : List Nat) : (fall l).Perm l := by
  have h := (fall_from l [] List.Pairwise.nil).1
  rw [List.append_nil] at h
  exact h
theorem fall_falls (l : List Nat) : (fall l).Pairwise (· ≥ ·) := (fall_from l [] List.Pairwise.nil).2
theorem fall_length (l : List Nat) : (fall l).length = l.length := (fall_perm l).length_eq
theorem asc_ints (l : List Nat) : asc (toI l) = toI (fall l).reverse := by
  refine (asc_is ?_ ?_).symm
  · exact (((fall l).reverse_perm).trans (fall_perm l)).map _
  · unfold toI
    rw [List.pairwise_map, List.pairwise_reverse]
    exact (fall_falls l).imp fun h => Int.ofNat_le.mpr h
theorem total_from : ∀ (l : List Nat) (a : Nat), l.foldl (fun a b => a + b) a = a + l.foldl (fun a b => a + b) 0
  | [], a => rfl
  | n :: l, a => by
    show l.foldl (fun a b => a + b) (a + n) = a + l.foldl (fun a b => a + b) (0 + n)
    rw [total_from l (a + n), total_from l (0 + n)]
    omega
theorem total_ints : ∀ l : List Nat, (toI l).sum = ((total l : Nat) : Int)
  | [] => rfl
  | n :: l => by
    show ((n : Int) :: toI l).sum = ((l.foldl (fun a b => a + b) (0 + n) : Nat) : Int)
    rw [List.sum_cons, total_ints l, total_from l (0 + n)]
    show (n : Int) + ((l.foldl (fun a b => a + b) 0 : Nat) : Int) = _
    omega
theorem sum_reverse : ∀ l : List Int, l.reverse.sum = l.sum
  | [] => rfl
  | x :: l => by
    rw [List.reverse_cons, List.sum_append, sum_reverse l, List.sum_cons, List.sum_cons, List.sum_nil]
    omega
/-- the sum without the k greatest ones -/
theorem sumW_ints (l : List Nat) (k : Nat) (h : k ≤ l.length) : sumW (toI l) k = ((total ((fall l).drop k) : Nat) : Int) := by
  unfold sumW
  rw [asc_ints, ints_length, ← total_ints]
  unfold toI
  rw [← List.map_take, List.take_reverse, fall_length, show l.length - (l.length - k) = k by omega, List.map_reverse, sum_reverse]
end Sail
namespace Sail
/-! # The mathematics, B: points -/
open Uw33
/-- what holds of a series always -/
structure Good (s : Series) : Prop where
  p1 : 1 ≤ s.planned
  p8 : s.planned ≤ 8
  out : s.out < s.planned
  five : s.ratings.length ≤ 5
  rate : ∀ r ∈ s.ratings, 1 ≤ r ∧ r ≤ 2000
  most : s.races.length ≤ s.planned
  row : ∀ l ∈ s.races, l.length = s.ratings.length
/-- the points of all races sailed, race by race -/
def rowsOf (s : Series) : List (List Int) := (List.range s.races.length).map fun r => toI (s.boats.map fun b => s.points r b)
theorem rowsOf_length (s : Series) : (rowsOf s).length = s.races.length := by
  unfold rowsOf
  rw [List.length_map, List.length_range]
theorem rowsOf_get {s : Series} {r : Nat} (h : r < s.races.length) : (rowsOf s)[r]? = some (toI (s.boats.map fun b => s.points r b)) := by
  unfold rowsOf
  rw [List.getElem?_map, List.getElem?_range h]
  rfl
theorem boats_length (s : Series) : s.boats.length = s.ratings.length := List.length_range
theorem rowsOf_row {s : Series} {l : List Int} (h : l ∈ rowsOf s) : l.length = s.ratings.length := by
  obtain ⟨r, _, rfl⟩ := List.mem_map.mp h
  rw [ints_length, List.length_map, boats_length]
theorem rowsOf_nil {s : Series} : rowsOf s = [] ↔ s.races = [] := by
  constructor
  · intro h
    have e := congrArg List.length h
    rw [rowsOf_length] at e
    exact List.eq_nil_of_length_eq_zero e
  · intro h
    unfold rowsOf
    rw [h]
    rfl
theorem init_good : Good Uw33.init := ⟨by decide, by decide, by decide, by decide, fun r h => (nomatch (show r ∈ ([] : List Nat) from h)), by decide, fun l h => (nomatch (show l ∈ ([] : List (List Result)) from h))⟩
theorem boatPts_rows (s : Series) (b : Nat) (h : b < s.ratings.length) : boatPts (rowsOf s) b = toI (s.all_ b) := by
  unfold boatPts rowsOf Series.all_ toI
  rw [List.map_map, List.map_map]
  refine List.map_congr_left fun r _ => ?_
  show ((s.boats.map fun b => s.points r b).map fun n : Nat => (n : Int)).getD b 0 = ((s.points r b : Nat) : Int)
  unfold Series.boats
  rw [List.getD_eq_getElem?_getD, List.getElem?_map, List.getElem?_map, List.getElem?_range h]
  rfl
theorem all_length (s : Series) (b : Nat) : (s.all_ b).length = s.races.length := by
  unfold Series.all_
  rw [List.length_map, List.length_range]

/-! ### one race more -/
def timed (l : List Nat) : List Result := l.map fun t => if t = 0 then none else some t
def more (s : Series) (l : List Nat) : Series := { s with races := s.races ++ [timed l] }
theorem result_old {s : Series} {l : List Nat} {r b : Nat} (h : r < s.races.length) : (more s l).result r b = s.result r b := by
  unfold Series.result more
  show (List.getD (s.races ++ [timed l]) r []).getD b none = _
  refine congrArg (fun x : List Result => x.getD b none) ?_
  rw [List.getD_eq_getElem?_getD, List.getElem?_append_left h, ← List.getD_eq_getElem?_getD]
theorem result_new {s : Series} {l : List Nat} {b : Nat} : (more s l).result s.races.length b = (timed l).getD b none := by
  unfold Series.result more
  show (List.getD (s.races ++ [timed l]) s.races.length []).getD b none = _
  refine congrArg (fun x : List Result => x.getD b none) ?_
  rw [List.getD_eq_getElem?_getD, List.getElem?_append_right (Nat.le_refl _), Nat.sub_self]
  rfl
theorem right_old {s : Series} {l : List Nat} {r b : Nat} (h : r < s.races.length) : (more s l).right r b = s.right r b := by
  unfold Series.right
  rw [result_old h]
  rfl
theorem points_old {s : Series} {l : List Nat} {r b : Nat} (h : r < s.races.length) : (more s l).points r b = s.points r b := by
  have e : (more s l).right r = s.right r := funext fun b => right_old h
  unfold Series.points
  rw [e]
  rfl
/-- a time put right, 0 where the boat did not finish -/
def val (s : Series) (l : List Nat) (b : Nat) : Nat := s.ratings.getD b 0 * l.getD b 0
theorem right_new {s : Series} {l : List Nat} {b : Nat} (hr : ∀ r ∈ s.ratings, 1 ≤ r) (hl : l.length = s.ratings.length) (hb : b < s.ratings.length) :
    (more s l).right s.races.length b = if val s l b = 0 then none else some (val s l b) := by
  have hbl : b < l.length := by omega
  have h1 : 1 ≤ s.ratings.getD b 0 := by
    rw [List.getD_eq_getElem?_getD, List.getElem?_eq_getElem hb]
    exact hr _ (List.getElem_mem hb)
  have e : (timed l).getD b none = if l.getD b 0 = 0 then none else some (l.getD b 0) := by
    unfold timed
    rw [List.getD_eq_getElem?_getD, List.getElem?_map, List.getD_eq_getElem?_getD, List.getElem?_eq_getElem hbl]
    rfl
  unfold Series.right
  rw [result_new, e]
  show Option.map (fun t => t * s.ratings.getD b 0) (if l.getD b 0 = 0 then none else some (l.getD b 0)) = _
  unfold val
  by_cases c : l.getD b 0 = 0
  · rw [if_pos c, c, Nat.mul_zero, if_pos rfl]
    rfl
  · have c2 : ¬ s.ratings.getD b 0 * l.getD b 0 = 0 := by
      intro z
      rcases Nat.mul_eq_zero.mp z with z | z
      · omega
      · exact c z
    rw [if_neg c, if_neg c2, Nat.mul_comm]
    rfl
theorem putRight_val {s : Series} {l : List Nat} (hl : l.length = s.ratings.length) : putRight (toI s.ratings) (toI l) = toI (s.boats.map (val s l)) := by
  apply List.ext_getElem?
  intro i
  unfold putRight Series.boats
  rw [List.getElem?_zipWith, ints_get?, ints_get?, ints_get?, List.getElem?_map]
  by_cases h : i < s.ratings.length
  · rw [List.getElem?_range h, List.getElem?_eq_getElem h, List.getElem?_eq_getElem (show i < l.length by omega)]
    show some ((s.ratings[i] : Int) * (l[i] : Int)) = some ((val s l i : Nat) : Int)
    unfold val
    rw [List.getD_eq_getElem?_getD, List.getD_eq_getElem?_getD, List.getElem?_eq_getElem h, List.getElem?_eq_getElem (show i < l.length by omega)]
    rw [Int.natCast_mul]
    rfl
  · rw [List.getElem?_eq_none (show s.ratings.length ≤ i by omega), List.getElem?_eq_none (show l.length ≤ i by omega), List.getElem?_eq_none (by rw [List.length_range]; omega)]
    rfl
theorem filter_len_congr {α : Type} {l : List α} {p q : α → Bool} (h : ∀ x ∈ l, p x = q x) : (l.filter p).length = (l.filter q).length := by
  rw [List.filter_congr h]
theorem points_new {s : Series} {l : List Nat} {b : Nat} (hr : ∀ r ∈ s.ratings, 1 ≤ r) (hl : l.length = s.ratings.length) (hb : b < s.ratings.length) :
    (((more s l).points s.races.length b : Nat) : Int) = ptsOf ((val s l b : Nat) : Int) (putRight (toI s.ratings) (toI l)) := by
  have eB : (more s l).boats = s.boats := rfl
  have hm : ∀ c ∈ s.boats, c < s.ratings.length := fun c hc => List.mem_range.mp hc
  rw [putRight_val hl]
  unfold Series.points ptsOf
  rw [eB, right_new hr hl hb]
  by_cases c : val s l b = 0
  · rw [if_pos c, c, if_pos (show ((0 : Nat) : Int) = 0 from rfl)]
    show ((2 * (s.ratings.length + 1) : Nat) : Int) = _
    rw [ints_length, List.length_map, boats_length]
    omega
  · have c' : ¬ ((val s l b : Nat) : Int) = 0 := by omega
    rw [if_neg c, if_neg c']
    show ((2 * (s.boats.filter fun c => before ((more s l).right s.races.length c) (some (val s l b))).length + (s.boats.filter fun c => decide ((more s l).right s.races.length c = some (val s l b))).length + 1 : Nat) : Int) = _
    have e1 : ((toI (s.boats.map (val s l))).filter fun o => decide (o ≠ 0) && decide (o < ((val s l b : Nat) : Int))).length = (s.boats.filter fun c => before ((more s l).right s.races.length c) (some (val s l b))).length := by
      unfold toI
      rw [List.map_map, List.filter_map, List.length_map]
      refine filter_len_congr fun x hx => ?_
      rw [right_new hr hl (hm x hx)]
      show (decide (((val s l x : Nat) : Int) ≠ 0) && decide (((val s l x : Nat) : Int) < ((val s l b : Nat) : Int))) = _
      by_cases cx : val s l x = 0
      · rw [if_pos cx, cx]
        rfl
      · rw [if_neg cx]
        show _ = decide (val s l x < val s l b)
        have z : ((val s l x : Nat) : Int) ≠ 0 := by omega
        rw [decide_eq_true z, Bool.true_and]
        exact decide_eq_decide.mpr Int.ofNat_lt
    have e2 : ((toI (s.boats.map (val s l))).filter fun o => decide (o = ((val s l b : Nat) : Int))).length = (s.boats.filter fun c => decide ((more s l).right s.races.length c = some (val s l b))).length := by
      unfold toI
      rw [List.map_map, List.filter_map, List.length_map]
      refine filter_len_congr fun x hx => ?_
      rw [right_new hr hl (hm x hx)]
      show decide (((val s l x : Nat) : Int) = ((val s l b : Nat) : Int)) = _
      by_cases cx : val s l x = 0
      · rw [if_pos cx, cx]
        have z : ¬ (((0 : Nat) : Int) = ((val s l b : Nat) : Int)) := by omega
        rw [decide_eq_false z]
        rfl
      · rw [if_neg cx]
        refine decide_eq_decide.mpr ⟨fun h => congrArg some (Int.ofNat.inj h), fun h => by rw [Option.some.inj h]⟩
    rw [e1, e2]
    omega
/-- the rows behind one race more -/
theorem rows_more {s : Series} {l : List Nat} (hr : ∀ r ∈ s.ratings, 1 ≤ r) (hl : l.length = s.ratings.length) : rowsOf (more s l) = rowsOf s ++ [racePts (toI s.ratings) (toI l)] := by
  have eL : (more s l).races.length = s.races.length + 1 := by
    show (s.races ++ [timed l]).length = _
    rw [List.length_append]
    rfl
  have eB : (more s l).boats = s.boats := rfl
  unfold rowsOf
  rw [eL, List.range_succ, List.map_append, eB]
  refine congr (congrArg HAppend.hAppend (List.map_congr_left fun r h => ?_)) ?_
  · refine congrArg toI (List.map_congr_left fun b _ => ?_)
    exact points_old (List.mem_range.mp h)
  · show [toI (s.boats.map fun b => (more s l).points s.races.length b)] = [racePts (toI s.ratings) (toI l)]
    refine congrArg (fun x => [x]) ?_
    have e : racePts (toI s.ratings) (toI l) = (toI (s.boats.map (val s l))).map fun r => ptsOf r (putRight (toI s.ratings) (toI l)) := by
      rw [← putRight_val hl]
      rfl
    rw [e]
    show (s.boats.map fun b => (more s l).points s.races.length b).map (fun n : Nat => (n : Int)) = ((s.boats.map (val s l)).map fun n : Nat => (n : Int)).map fun r => ptsOf r (putRight (toI s.ratings) (toI l))
    rw [List.map_map, List.map_map, List.map_map]
    refine List.map_congr_left fun b hb => ?_
    have h := points_new (s := s) (l := l) hr hl (List.mem_range.mp hb)
    exact h
theorem more_good {s : Series} {l : List Nat} (g : Good s) (hl : l.length = s.ratings.length) (hp : ¬ s.planned ≤ s.races.length) : Good (more s l) := by
  refine ⟨g.p1, g.p8, g.out, g.five, g.rate, ?_, fun x hx => ?_⟩
  · show (s.races ++ [timed l]).length ≤ s.planned
    rw [List.length_append]
    show s.races.length + 1 ≤ _
    omega
  · rcases List.mem_append.mp (show x ∈ s.races ++ [timed l] from hx) with h | h
    · exact g.row x h
    · rw [List.mem_singleton.mp h]
      unfold timed
      rw [List.length_map]
      exact hl
end Sail
namespace Sail
/-! # The mathematics, C: the order -/
open Uw33
theorem lessL_irrefl : ∀ a : List Nat, lessL a a = false
  | [] => rfl
  | x :: a => by
    show (decide (x < x) || (x == x && lessL a a)) = false
    rw [lessL_irrefl a, decide_eq_false (Nat.lt_irrefl x)]
    simp
theorem lessL_cons (x y : Nat) (a b : List Nat) : lessL (x :: a) (y :: b) = true ↔ x < y ∨ (x = y ∧ lessL a b = true) := by
  show (decide (x < y) || (x == y && lessL a b)) = true ↔ _
  simp
theorem lessL_trans : ∀ a b c : List Nat, lessL a b = true → lessL b c = true → lessL a c = true
  | [], _, _, h, _ => by simp [lessL] at h
  | _ :: _, [], _, h, _ => by simp [lessL] at h
  | _ :: _, _ :: _, [], _, h => by simp [lessL] at h
  | x :: a, y :: b, z :: c, h1, h2 => by
    rw [lessL_cons] at h1 h2 ⊢
    rcases h1 with h1 | ⟨e1, h1⟩
    · rcases h2 with h2 | ⟨e2, h2⟩
      · exact .inl (by omega)
      · exact .inl (by omega)
    · rcases h2 with h2 | ⟨e2, h2⟩
      · exact .inl (by omega)
      · exact .inr ⟨by omega, lessL_trans a b c h1 h2⟩
theorem lessL_total : ∀ a b : List Nat, a.length = b.length → a ≠ b → lessL a b = true ∨ lessL b a = true
  | [], [], _, h => absurd rfl h
  | [], _ :: _, h, _ => by simp at h
  | _ :: _, [], h, _ => by simp at h
  | x :: a, y :: b, h, n => by
    rw [lessL_cons, lessL_cons]
    by_cases e : x = y
    · subst e
      have n' : a ≠ b := fun z => n (by rw [z])
      rcases lessL_total a b (by simpa using h) n' with q | q
      · exact .inl (.inr ⟨rfl, q⟩)
      · exact .inr (.inr ⟨rfl, q⟩)
    · by_cases c : x < y
      · exact .inl (.inl c)
      · exact .inr (.inl (by omega))
theorem lessL_append : ∀ a b c d : List Nat, a.length = b.length → lessL (a ++ c) (b ++ d) = (lessL a b || (a == b && lessL c d))
  | [], [], c, d, _ => by simp [lessL]
  | [], _ :: _, _, _, h => by simp at h
  | _ :: _, [], _, _, h => by simp at h
  | x :: a, y :: b, c, d, h => by
    have ih := lessL_append a b c d (by simpa using h)
    show (decide (x < y) || (x == y && lessL (a ++ c) (b ++ d))) = ((decide (x < y) || (x == y && lessL a b)) || ((x :: a) == (y :: b) && lessL c d))
    rw [ih]
    by_cases e : x = y
    · subst e
      have z : decide (x < x) = false := decide_eq_false (Nat.lt_irrefl x)
      have z2 : ((x :: a) == (x :: b)) = (a == b) := by
        rw [Bool.eq_iff_iff]
        simp
      rw [z, z2]
      simp
    · have z : (x == y) = false := beq_eq_false_iff_ne.mpr e
      have z2 : ((x :: a) == (y :: b)) = false := beq_eq_false_iff_ne.mpr fun q => e (List.cons.inj q).1
      rw [z, z2]
      simp
/-- all by which a boat stands, in one row -/
def key (s : Series) (b : Nat) : List Nat := s.sum b :: ((fall (s.all_ b)).reverse ++ ((s.all_ b).reverse ++ [b]))
theorem key_length (s : Series) (b : Nat) : (key s b).length = 2 * s.races.length + 2 := by
  unfold key
  rw [List.length_cons, List.length_append, List.length_append, List.length_reverse, List.length_reverse, fall_length, all_length]
  simp
  omega
theorem ahead_key (s : Series) (b c : Nat) : s.ahead b c = lessL (key s b) (key s c) := by
  unfold key
  show _ = (decide (s.sum b < s.sum c) || (s.sum b == s.sum c && lessL ((fall (s.all_ b)).reverse ++ ((s.all_ b).reverse ++ [b])) ((fall (s.all_ c)).reverse ++ ((s.all_ c).reverse ++ [c]))))
  rw [lessL_append _ _ _ _ (by rw [List.length_reverse, List.length_reverse, fall_length, fall_length, all_length, all_length]), lessL_append _ _ _ _ (by rw [List.length_reverse, List.length_reverse, all_length, all_length])]
  have e : lessL [b] [c] = decide (b < c) := by
    show (decide (b < c) || (b == c && lessL [] [])) = _
    simp [lessL]
  rw [e]
  rfl
theorem key_inj {s : Series} {b c : Nat} (h : key s b = key s c) : b = c := by
  unfold key at h
  have h1 := (List.cons.inj h).2
  have h2 := (List.append_inj' h1 (by rw [List.length_append, List.length_append, List.length_reverse, List.length_reverse, all_length, all_length]; rfl)).2
  have h3 := (List.append_inj' h2 rfl).2
  exact (List.cons.inj h3).1
theorem ahead_irrefl (s : Series) (b : Nat) : s.ahead b b = false := by rw [ahead_key, lessL_irrefl]
theorem ahead_trans {s : Series} {a b c : Nat} (h1 : s.ahead a b = true) (h2 : s.ahead b c = true) : s.ahead a c = true := by
  rw [ahead_key] at h1 h2 ⊢
  exact lessL_trans _ _ _ h1 h2
theorem ahead_total {s : Series} {b c : Nat} (h : b ≠ c) : s.ahead b c = true ∨ s.ahead c b = true := by
  rw [ahead_key, ahead_key]
  exact lessL_total _ _ (by rw [key_length, key_length]) fun z => h (key_inj z)
theorem ahead_asymm {s : Series} {b c : Nat} (h : s.ahead b c = true) : s.ahead c b = false := by
  cases e : s.ahead c b with
  | false => rfl
  | true =>
    have z := ahead_trans h e
    rw [ahead_irrefl] at z
    cases z
theorem insert_perm (s : Series) (b : Nat) : ∀ l : List Nat, (s.insert b l).Perm (b :: l)
  | [] => List.Perm.refl _
  | c :: l => by
    unfold Series.insert
    split
    · exact List.Perm.refl _
    · exact ((insert_perm s b l).cons c).trans (List.Perm.swap b c l)
theorem insert_up (s : Series) (b : Nat) : ∀ l : List Nat, b ∉ l → l.Pairwise (fun x y => s.ahead x y = true) → (s.insert b l).Pairwise (fun x y => s.ahead x y = true)
  | [], _, _ => List.pairwise_singleton _ _
  | c :: l, hb, h => by
    unfold Series.insert
    obtain ⟨h1, h2⟩ := List.pairwise_cons.mp h
    split
    · rename_i q
      refine List.pairwise_cons.mpr ⟨fun x hx => ?_, h⟩
      rcases List.mem_cons.mp hx with e | hx
      · rw [e]; exact q
      · exact ahead_trans q (h1 x hx)
    · rename_i q
      have hbc : b ≠ c := fun z => hb (by rw [z]; exact List.mem_cons_self ..)
      have hbl : b ∉ l := fun z => hb (List.mem_cons_of_mem _ z)
      have hcb : s.ahead c b = true := (ahead_total hbc).resolve_left q
      refine List.pairwise_cons.mpr ⟨fun x hx => ?_, insert_up s b l hbl h2⟩
      rcases List.mem_cons.mp ((insert_perm s b l).mem_iff.mp hx) with e | hx
      · rw [e]; exact hcb
      · exact h1 x hx
theorem order_from (s : Series) : ∀ (l r : List Nat), (l ++ r).Nodup → r.Pairwise (fun x y => s.ahead x y = true) → (l.foldl (fun r b => s.insert b r) r).Perm (l ++ r) ∧ (l.foldl (fun r b => s.insert b r) r).Pairwise (fun x y => s.ahead x y = true)
  | [], r, _, h => ⟨List.Perm.refl _, h⟩
  | b :: l, r, n, h => by
    have n1 : b ∉ l ++ r ∧ (l ++ r).Nodup := List.nodup_cons.mp n
    have hb : b ∉ r := fun z => n1.1 (List.mem_append_right _ z)
    have pp : (l ++ s.insert b r).Perm (b :: (l ++ r)) := (List.Perm.append_left l (insert_perm s b r)).trans List.perm_middle
    obtain ⟨p, q⟩ := order_from s l (s.insert b r) (pp.nodup_iff.mpr n) (insert_up s b r hb h)
    exact ⟨p.trans pp, q⟩
theorem order_perm (s : Series) : s.order.Perm (List.range s.ratings.length) := by
  have h := (order_from s (List.range s.ratings.length) [] (by rw [List.append_nil]; exact List.nodup_range) List.Pairwise.nil).1
  rw [List.append_nil] at h
  exact h
theorem order_up (s : Series) : s.order.Pairwise (fun x y => s.ahead x y = true) :=
  (order_from s (List.range s.ratings.length) [] (by rw [List.append_nil]; exact List.nodup_range) List.Pairwise.nil).2
theorem up_uniq {s : Series} : ∀ {l m : List Nat}, l.Perm m → l.Pairwise (fun x y => s.ahead x y = true) → m.Pairwise (fun x y => s.ahead y x = false) → l = m
  | [], m, p, _, _ => (List.Perm.eq_nil p.symm).symm
  | x :: l, [], p, _, _ => absurd p.length_eq (by simp)
  | x :: l, y :: m, p, hl, hm => by
    have e : x = y := by
      rcases List.mem_cons.mp (p.mem_iff.mpr (List.mem_cons_self (a := y) (l := m))) with e | h
      · exact e.symm
      · have h1 := (List.pairwise_cons.mp hl).1 y h
        rcases List.mem_cons.mp (p.mem_iff.mp (List.mem_cons_self (a := x) (l := l))) with e | h'
        · exact e
        · have h2 := (List.pairwise_cons.mp hm).1 x h'
          rw [h1] at h2
          cases h2
    subst e
    rw [up_uniq p.cons_inv (List.pairwise_cons.mp hl).2 (List.pairwise_cons.mp hm).2]
/-- the program's sort gives the specification's order -/
theorem sort_order (s : Series) : (List.range s.ratings.length).mergeSort (fun a b => !s.ahead b a) = s.order := by
  refine (up_uniq ?_ (order_up s) ?_).symm
  · exact (order_perm s).trans (List.mergeSort_perm _ _).symm
  · have h := List.pairwise_mergeSort (le := fun a b => !s.ahead b a) (fun a b c h1 h2 => by
      have h1' : s.ahead b a = false := by simpa using h1
      have h2' : s.ahead c b = false := by simpa using h2
      show (!s.ahead c a) = true
      cases e : s.ahead c a with
      | false => rfl
      | true =>
        by_cases ab : a = b
        · subst ab
          rw [e] at h2'
          cases h2'
        · have q := (ahead_total ab).resolve_right (by rw [h1']; exact Bool.false_ne_true)
          rw [ahead_trans e q] at h2'
          cases h2') (fun a b => by
      show (!s.ahead b a || !s.ahead a b) = true
      cases e : s.ahead b a with
      | false => rfl
      | true =>
        rw [ahead_asymm e]
        rfl) (List.range s.ratings.length)
    refine h.imp fun h => ?_
    simpa using h
/-! ### in Python's words -/
/-- the first that differ decide -/
def rkLt (x : Int) (p u : List Int) (b : Int) (x' : Int) (p' u' : List Int) (b' : Int) : Bool :=
  if x = x' then (if p = p' then (if u = u' then decide (b < b') else decide (u < u')) else decide (p < p')) else decide (x < x')
theorem ints_inj {l m : List Nat} : toI l = toI m ↔ l = m := by
  refine ⟨fun h => ?_, fun h => by rw [h]⟩
  exact List.map_inj_right (fun a b h => Int.ofNat.inj h) |>.mp h
theorem ints_lt : ∀ l m : List Nat, l.length = m.length → (toI l < toI m ↔ lessL l m = true)
  | [], [], _ => by
    show (([] : List Int) < []) ↔ _
    simp [lessL]
  | [], _ :: _, h => by simp at h
  | _ :: _, [], h => by simp at h
  | x :: l, y :: m, h => by
    have ih := ints_lt l m (by simpa using h)
    rw [lessL_cons]
    show ((x : Int) :: toI l < (y : Int) :: toI m) ↔ _
    rw [List.cons_lt_cons_iff, ih]
    constructor
    · rintro (h | ⟨h1, h2⟩)
      · exact .inl (Int.ofNat_lt.mp h)
      · exact .inr ⟨Int.ofNat.inj h1, h2⟩
    · rintro (h | ⟨h1, h2⟩)
      · exact .inl (Int.ofNat_lt.mpr h)
      · exact .inr ⟨by rw [h1], h2⟩
theorem rk_ahead (s : Series) (b c : Nat) : rkLt ((s.sum b : Nat) : Int) (toI (fall (s.all_ b)).reverse) (toI (s.all_ b).reverse) (b : Int) ((s.sum c : Nat) : Int) (toI (fall (s.all_ c)).reverse) (toI (s.all_ c).reverse) (c : Int) = s.ahead b c := by
  have hp : (fall (s.all_ b)).reverse.length = (fall (s.all_ c)).reverse.length := by rw [List.length_reverse, List.length_reverse, fall_length, fall_length, all_length, all_length]
  have hu : (s.all_ b).reverse.length = (s.all_ c).reverse.length := by rw [List.length_reverse, List.length_reverse, all_length, all_length]
  unfold rkLt
  show _ = (decide (s.sum b < s.sum c) || (s.sum b == s.sum c && (lessL (fall (s.all_ b)).reverse (fall (s.all_ c)).reverse || ((fall (s.all_ b)).reverse == (fall (s.all_ c)).reverse && (lessL (s.all_ b).reverse (s.all_ c).reverse || ((s.all_ b).reverse == (s.all_ c).reverse && decide (b < c)))))))
  generalize s.sum b = x, s.sum c = y at *
  generalize (fall (s.all_ b)).reverse = p, (fall (s.all_ c)).reverse = q at *
  generalize (s.all_ b).reverse = u, (s.all_ c).reverse = v at *
  by_cases e1 : x = y
  · subst e1
    rw [if_pos rfl, decide_eq_false (Nat.lt_irrefl x), beq_self_eq_true, Bool.false_or, Bool.true_and]
    by_cases e2 : p = q
    · subst e2
      rw [if_pos rfl, lessL_irrefl, beq_self_eq_true, Bool.false_or, Bool.true_and]
      by_cases e3 : u = v
      · subst e3
        rw [if_pos rfl, lessL_irrefl, beq_self_eq_true, Bool.false_or, Bool.true_and]
        exact decide_eq_decide.mpr Int.ofNat_lt
      · rw [if_neg (fun z => e3 (ints_inj.mp z)), beq_eq_false_iff_ne.mpr e3, Bool.false_and, Bool.or_false]
        rw [Bool.eq_iff_iff, decide_eq_true_iff]
        exact ints_lt u v hu
    · rw [if_neg (fun z => e2 (ints_inj.mp z)), beq_eq_false_iff_ne.mpr e2, Bool.false_and, Bool.or_false]
      rw [Bool.eq_iff_iff, decide_eq_true_iff]
      exact ints_lt p q hp
  · rw [if_neg (show ¬ (x : Int) = (y : Int) by omega), beq_eq_false_iff_ne.mpr e1, Bool.false_and, Bool.or_false]
    exact decide_eq_decide.mpr Int.ofNat_lt
theorem drop_is {s : Series} (g : Good s) : s.drop = if s.races.length = s.planned then s.out else 0 := by
  unfold Series.drop
  by_cases c : s.races.length = s.planned
  · rw [if_pos c, if_pos c]
    have := g.out
    omega
  · rw [if_neg c, if_neg c]
theorem drop_le {s : Series} (g : Good s) : s.drop ≤ s.races.length := by
  rw [drop_is g]
  have := g.out
  split <;> omega
/-- a boat's sum -/
theorem sumW_boat {s : Series} (g : Good s) {b : Nat} (h : b < s.ratings.length) : sumW (boatPts (rowsOf s) b) s.drop = ((s.sum b : Nat) : Int) := by
  rw [boatPts_rows s b h, sumW_ints _ _ (by rw [all_length]; exact drop_le g)]
  rfl
end Sail
namespace Sail
/-! # The mathematics, D: the chances -/
open Uw33
def putIn (o : List Int) (b : Int) (p : Nat) : List Int := o.take p ++ [b] ++ o.drop p
def withIt (o : List Int) (b : Int) : List (List Int) := (List.range (o.length + 1)).map fun p => putIn o b p
def ordersWith (os : List (List Int)) (b : Int) : List (List Int) := os.flatMap fun o => withIt o b
def allOrders (n : Nat) : List (List Int) := (List.range n).foldl (fun f b => ordersWith f ((b : Nat) : Int)) [[]]
def placeOf (o : List Int) (b : Int) : Nat := (o.takeWhile fun c => c != b).length
def sumB (races : List (List Int)) (o : List Int) (k : Nat) (b : Nat) : Int := sumW (boatPts races b ++ [2 * ((placeOf o ((b : Nat) : Int) : Int) + 1)]) k
def sumsB (races : List (List Int)) (o : List Int) (k : Nat) : List Int := (List.range o.length).map fun b => sumB races o k b
def wins (sums : List Int) (b : Nat) : Bool := sums.all fun x => decide (sums.getD b 0 ≤ x)
def alone (sums : List Int) (b : Nat) : Bool := wins sums b && decide (sums.count (sums.getD b 0) = 1)
def chance (all : List (List Int)) (b : Nat) : Int := if (all.all fun x => alone x b) = true then 2 else if (all.any fun x => wins x b) = true then 1 else 0
def allSums (races : List (List Int)) (n k : Nat) : List (List Int) := (allOrders n).map fun o => sumsB races o k
def chancesL (races : List (List Int)) (n k : Nat) : List Int := (List.range n).map fun b => chance (allSums races n k) b
def chancesT (races : List (List Int)) (n k : Nat) : List Int := (((chancesL races n k).filter fun c => decide (c ≠ 0)).length : Int) :: chancesL races n k

theorem allOrders_succ (n : Nat) : allOrders (n + 1) = ordersWith (allOrders n) ((n : Nat) : Int) := by
  unfold allOrders
  rw [List.range_succ, List.foldl_append]
  rfl
theorem range_ints_succ (n : Nat) : toI (List.range (n + 1)) = toI (List.range n) ++ [((n : Nat) : Int)] := by
  rw [List.range_succ, ints_append]
  rfl
theorem mem_allOrders : ∀ (n : Nat) (o : List Int), o ∈ allOrders n ↔ o.Perm (toI (List.range n))
  | 0, o => by
    show o ∈ [[]] ↔ o.Perm []
    rw [List.mem_singleton]
    exact ⟨fun h => by rw [h], fun h => List.Perm.eq_nil h⟩
  | n + 1, o => by
    rw [allOrders_succ, range_ints_succ]
    unfold ordersWith
    rw [List.mem_flatMap]
    constructor
    · rintro ⟨o', h1, h2⟩
      have p1 := (mem_allOrders n o').mp h1
      obtain ⟨p, _, rfl⟩ := List.mem_map.mp h2
      unfold putIn
      have e : (o'.take p ++ [((n : Nat) : Int)] ++ o'.drop p).Perm (o' ++ [((n : Nat) : Int)]) := by
        rw [List.append_assoc]
        refine (List.Perm.append_left _ List.perm_append_comm).trans ?_
        rw [← List.append_assoc, List.take_append_drop]
      exact e.trans (List.Perm.append_right _ p1)
    · intro h
      have hm : ((n : Nat) : Int) ∈ o := h.mem_iff.mpr (List.mem_append_right _ (List.mem_singleton.mpr rfl))
      obtain ⟨a, b, rfl⟩ := List.append_of_mem hm
      refine ⟨a ++ b, (mem_allOrders n _).mpr ?_, ?_⟩
      · have p1 : (((n : Nat) : Int) :: (a ++ b)).Perm (((n : Nat) : Int) :: toI (List.range n)) := List.perm_middle.symm.trans (h.trans (List.perm_append_comm (l₂ := [((n : Nat) : Int)])))
        exact p1.cons_inv
      · refine List.mem_map.mpr ⟨a.length, List.mem_range.mpr (by rw [List.length_append]; omega), ?_⟩
        unfold putIn
        rw [List.take_left, List.drop_left, List.append_assoc]
        rfl
theorem mem_orders : ∀ (n : Nat) (l o : List Nat), l.Nodup → l.length = n → (o ∈ orders n l ↔ o.Perm l)
  | 0, l, o, _, h => by
    have e : l = [] := List.eq_nil_of_length_eq_zero h
    subst e
    show o ∈ [[]] ↔ _
    rw [List.mem_singleton]
    exact ⟨fun h => by rw [h], fun h => List.Perm.eq_nil h⟩
  | n + 1, l, o, nd, h => by
    show o ∈ (l.flatMap fun x => (orders n (l.filter fun y => y != x)).map fun r => x :: r) ↔ _
    have key : ∀ x, x ∈ l → (x :: l.filter fun y => y != x).Perm l ∧ (l.filter fun y => y != x).Nodup ∧ (l.filter fun y => y != x).length = n := by
      intro x hx
      have e : (l.filter fun y => y != x) = l.erase x := (List.Nodup.erase_eq_filter nd x).symm
      have p : (x :: l.erase x).Perm l := (List.perm_cons_erase hx).symm
      rw [e]
      refine ⟨p, nd.erase x, ?_⟩
      have q := p.length_eq
      rw [List.length_cons] at q
      omega
    rw [List.mem_flatMap]
    constructor
    · rintro ⟨x, hx, h2⟩
      obtain ⟨r, hr, rfl⟩ := List.mem_map.mp h2
      obtain ⟨k1, k2, k3⟩ := key x hx
      exact (((mem_orders n _ r k2 k3).mp hr).cons x).trans k1
    · intro p
      cases o with
      | nil =>
        have := p.length_eq
        rw [h] at this
        cases this
      | cons x r =>
        have hx : x ∈ l := p.mem_iff.mp (List.mem_cons_self ..)
        obtain ⟨k1, k2, k3⟩ := key x hx
        exact ⟨x, hx, List.mem_map.mpr ⟨r, (mem_orders n _ r k2 k3).mpr (p.trans k1.symm).cons_inv, rfl⟩⟩
/-- each order of the program is one of the specification's, and the other way round -/
theorem allOrders_iff (n : Nat) (o : List Int) : o ∈ allOrders n ↔ ∃ q, q ∈ orders n (List.range n) ∧ o = toI q := by
  rw [mem_allOrders]
  constructor
  · intro h
    have e : toI (o.map Int.toNat) = o := by
      unfold toI
      rw [List.map_map]
      refine (List.map_congr_left fun x hx => ?_).trans (List.map_id o)
      obtain ⟨y, _, rfl⟩ := List.mem_map.mp (h.mem_iff.mp hx)
      show ((Int.toNat ((y : Nat) : Int) : Nat) : Int) = _
      rfl
    refine ⟨o.map Int.toNat, (mem_orders n _ _ List.nodup_range List.length_range).mpr ?_, e.symm⟩
    have p := h.map Int.toNat
    have e2 : (toI (List.range n)).map Int.toNat = List.range n := by
      unfold toI
      rw [List.map_map]
      exact (List.map_congr_left fun x _ => rfl).trans (List.map_id _)
    rw [e2] at p
    exact p
  · rintro ⟨q, h, rfl⟩
    exact ((mem_orders n _ _ List.nodup_range List.length_range).mp h).map _
theorem placeOf_ints (o : List Nat) (b : Nat) : placeOf (toI o) ((b : Nat) : Int) = (o.takeWhile fun c => c != b).length := by
  unfold placeOf toI
  rw [List.takeWhile_map, List.length_map]
  congr 2
  funext c
  show (((c : Nat) : Int) != ((b : Nat) : Int)) = (c != b)
  rw [Bool.eq_iff_iff, bne_iff_ne, bne_iff_ne]
  omega
/-- how many are left out behind one race more -/
def leftNext (s : Series) : Nat := if s.races.length + 1 = s.planned then s.out else 0
theorem leftNext_is {s : Series} (g : Good s) : (if s.races.length + 1 = s.planned then min s.out s.races.length else 0) = leftNext s := by
  unfold leftNext
  have := g.out
  split <;> omega
theorem leftNext_le {s : Series} (g : Good s) : leftNext s ≤ s.races.length := by
  unfold leftNext
  have := g.out
  split <;> omega
theorem sumB_is {s : Series} (g : Good s) (o : List Nat) {b : Nat} (hb : b < s.ratings.length) : sumB (rowsOf s) (toI o) (leftNext s) b = ((s.sumIf o b : Nat) : Int) := by
  unfold sumB
  rw [boatPts_rows s b hb, placeOf_ints]
  have e : toI (s.all_ b) ++ [2 * (((o.takeWhile fun c => c != b).length : Int) + 1)] = toI (s.all_ b ++ [2 * ((o.takeWhile fun c => c != b).length + 1)]) := by
    rw [ints_append]
    congr 1
  have e2 : (s.asIf o).getD b 0 = 2 * ((o.takeWhile fun c => c != b).length + 1) := by
    unfold Series.asIf Series.boats
    rw [List.getD_eq_getElem?_getD, List.getElem?_map, List.getElem?_range hb]
    rfl
  rw [e, sumW_ints _ _ (by rw [List.length_append, all_length]; have := leftNext_le g; omega)]
  unfold Series.sumIf
  rw [e2, leftNext_is g]
theorem sumsB_is {s : Series} (g : Good s) {o : List Nat} (h : o.length = s.ratings.length) : sumsB (rowsOf s) (toI o) (leftNext s) = toI ((List.range s.ratings.length).map fun b => s.sumIf o b) := by
  unfold sumsB
  rw [ints_length, h]
  unfold toI
  rw [List.map_map]
  exact List.map_congr_left fun b hb => sumB_is g o (List.mem_range.mp hb)
/-! ### who wins by some sums -/
theorem sums_get (n : Nat) (f : Nat → Nat) {b : Nat} (hb : b < n) : (toI ((List.range n).map f)).getD b 0 = ((f b : Nat) : Int) := by
  rw [List.getD_eq_getElem?_getD, ints_get?, List.getElem?_map, List.getElem?_range hb]
  rfl
theorem wins_iff (n : Nat) (f : Nat → Nat) {b : Nat} (hb : b < n) : wins (toI ((List.range n).map f)) b = true ↔ ∀ c, c < n → f b ≤ f c := by
  unfold wins
  rw [sums_get n f hb, List.all_eq_true]
  constructor
  · intro h c hc
    have := h ((f c : Nat) : Int) (List.mem_map.mpr ⟨f c, List.mem_map.mpr ⟨c, List.mem_range.mpr hc, rfl⟩, rfl⟩)
    exact Int.ofNat_le.mp (of_decide_eq_true this)
  · intro h x hx
    obtain ⟨y, hy, rfl⟩ := List.mem_map.mp hx
    obtain ⟨c, hc, rfl⟩ := List.mem_map.mp hy
    exact decide_eq_true (Int.ofNat_le.mpr (h c (List.mem_range.mp hc)))
theorem countP_two : ∀ (l : List Nat) (b c : Nat), b ≠ c → l.countP (fun x => x == b || x == c) = l.count b + l.count c
  | [], _, _, _ => rfl
  | x :: l, b, c, h => by
    rw [List.countP_cons, List.count_cons, List.count_cons, countP_two l b c h]
    by_cases e1 : x = b
    · subst e1
      have e2 : (x == c) = false := beq_eq_false_iff_ne.mpr h
      simp [e2]
      omega
    · have e1' : (x == b) = false := beq_eq_false_iff_ne.mpr e1
      by_cases e2 : x = c
      · subst e2
        simp [e1']
        omega
      · have e2' : (x == c) = false := beq_eq_false_iff_ne.mpr e2
        simp [e1', e2']
theorem count_ints (n : Nat) (f : Nat → Nat) (b : Nat) : (toI ((List.range n).map f)).count ((f b : Nat) : Int) = (List.range n).countP (fun c => f c == f b) := by
  unfold toI
  rw [List.map_map]
  unfold List.count
  rw [List.countP_map]
  refine List.countP_congr fun c _ => ?_
  show ((((f c : Nat) : Int) == ((f b : Nat) : Int)) = true) ↔ _
  rw [beq_iff_eq, beq_iff_eq]
  omega
theorem count_range : ∀ {n b : Nat} (hb : b < n), (List.range n).count b = 1
  | 0, b, hb => absurd hb (Nat.not_lt_zero b)
  | n + 1, b, hb => by
    rw [List.range_succ, List.count_append]
    by_cases e : b = n
    · subst e
      have z : (List.range b).count b = 0 := List.count_eq_zero.mpr fun q => Nat.lt_irrefl _ (List.mem_range.mp q)
      rw [z, List.count_singleton, if_pos (beq_self_eq_true _)]
    · rw [count_range (show b < n by omega), List.count_singleton, if_neg (by simp; omega)]
theorem alone_iff (n : Nat) (f : Nat → Nat) {b : Nat} (hb : b < n) : alone (toI ((List.range n).map f)) b = true ↔ ∀ c, c < n → c ≠ b → f b < f c := by
  unfold alone
  rw [Bool.and_eq_true, wins_iff n f hb, sums_get n f hb, decide_eq_true_iff, count_ints]
  constructor
  · rintro ⟨h1, h2⟩ c hc hne
    rcases Nat.lt_or_eq_of_le (h1 c hc) with h | h
    · exact h
    · have q := countP_two (List.range n) b c (Ne.symm hne)
      rw [count_range hb, count_range hc] at q
      have m : (List.range n).countP (fun x => x == b || x == c) ≤ (List.range n).countP (fun c => f c == f b) := List.countP_mono_left fun x _ hx => by
        rcases Bool.or_eq_true_iff.mp hx with e | e
        · rw [eq_of_beq e]
          exact beq_self_eq_true _
        · rw [eq_of_beq e]
          exact beq_iff_eq.mpr h.symm
      omega
  · intro h
    refine ⟨fun c hc => ?_, ?_⟩
    · by_cases e : c = b
      · rw [e]
        exact Nat.le_refl _
      · exact Nat.le_of_lt (h c hc e)
    · have e : (List.range n).countP (fun c => f c == f b) = (List.range n).countP (fun c => c == b) := List.countP_congr fun c hc => by
        rw [beq_iff_eq, beq_iff_eq]
        constructor
        · intro z
          by_cases e : c = b
          · exact e
          · have := h c (List.mem_range.mp hc) e
            omega
        · intro z
          rw [z]
      rw [e]
      exact count_range hb
/-! ### the answer -/
section
variable {s : Series} (g : Good s)
include g
theorem mem_allSums {x : List Int} : x ∈ allSums (rowsOf s) s.ratings.length (leftNext s) ↔ ∃ o, o ∈ orders s.ratings.length s.boats ∧ x = toI ((List.range s.ratings.length).map fun b => s.sumIf o b) := by
  unfold allSums
  rw [List.mem_map]
  constructor
  · rintro ⟨o, h, rfl⟩
    obtain ⟨q, hq, rfl⟩ := (allOrders_iff _ _).mp h
    have hl : q.length = s.ratings.length := by
      have := ((mem_orders _ _ _ List.nodup_range List.length_range).mp hq).length_eq
      rw [List.length_range] at this
      exact this
    exact ⟨q, hq, sumsB_is g hl⟩
  · rintro ⟨q, hq, rfl⟩
    have hl : q.length = s.ratings.length := by
      have := ((mem_orders _ _ _ List.nodup_range List.length_range).mp hq).length_eq
      rw [List.length_range] at this
      exact this
    exact ⟨toI q, (allOrders_iff _ _).mpr ⟨q, hq, rfl⟩, sumsB_is g hl⟩
theorem any_wins {b : Nat} (hb : b < s.ratings.length) : ((allSums (rowsOf s) s.ratings.length (leftNext s)).any fun x => wins x b) = s.mayWin b := by
  rw [Bool.eq_iff_iff, List.any_eq_true]
  unfold Series.mayWin
  rw [List.any_eq_true]
  constructor
  · rintro ⟨x, hx, h⟩
    obtain ⟨o, ho, rfl⟩ := (mem_allSums g).mp hx
    refine ⟨o, ho, List.all_eq_true.mpr fun c hc => decide_eq_true ?_⟩
    exact (wins_iff _ _ hb).mp h c (List.mem_range.mp hc)
  · rintro ⟨o, ho, h⟩
    refine ⟨_, (mem_allSums g).mpr ⟨o, ho, rfl⟩, (wins_iff _ _ hb).mpr fun c hc => ?_⟩
    exact of_decide_eq_true (List.all_eq_true.mp h c (List.mem_range.mpr hc))
theorem all_alone {b : Nat} (hb : b < s.ratings.length) : ((allSums (rowsOf s) s.ratings.length (leftNext s)).all fun x => alone x b) = !s.mayNot b := by
  rw [Bool.eq_iff_iff, List.all_eq_true]
  unfold Series.mayNot
  rw [Bool.not_eq_true', List.any_eq_false]
  constructor
  · intro h o ho z
    obtain ⟨c, hc, q⟩ := List.any_eq_true.mp z
    obtain ⟨q1, q2⟩ := Bool.and_eq_true_iff.mp q
    have l := (alone_iff _ _ hb).mp (h _ ((mem_allSums g).mpr ⟨o, ho, rfl⟩)) c (List.mem_range.mp hc) (by simpa using q1)
    have := of_decide_eq_true q2
    omega
  · intro h x hx
    obtain ⟨o, ho, rfl⟩ := (mem_allSums g).mp hx
    refine (alone_iff _ _ hb).mpr fun c hc hne => ?_
    refine Nat.lt_of_not_le fun z => h o ho (List.any_eq_true.mpr ⟨c, List.mem_range.mpr hc, Bool.and_eq_true_iff.mpr ⟨by simpa using hne, decide_eq_true z⟩⟩)
theorem orders_some : ∃ o, o ∈ orders s.ratings.length s.boats := ⟨List.range s.ratings.length, (mem_orders _ _ _ List.nodup_range List.length_range).mpr (List.Perm.refl _)⟩
/-- who is sure may win -/
theorem sure_may {b : Nat} (hb : b < s.ratings.length) (h : s.mayNot b = false) : s.mayWin b = true := by
  rw [← any_wins g hb]
  have h2 := all_alone g hb
  rw [h] at h2
  have h3 := List.all_eq_true.mp (show _ = true from h2)
  obtain ⟨o, ho⟩ := orders_some g
  have hx := (mem_allSums g).mpr ⟨o, ho, rfl⟩
  have h4 := h3 _ hx
  exact List.any_eq_true.mpr ⟨_, hx, (Bool.and_eq_true_iff.mp (show (wins _ b && _) = true from h4)).1⟩
def told (s : Series) (b : Nat) : Nat := if s.mayWin b = false then 0 else if s.mayNot b = true then 1 else 2
theorem chance_is {b : Nat} (hb : b < s.ratings.length) : chance (allSums (rowsOf s) s.ratings.length (leftNext s)) b = ((told s b : Nat) : Int) := by
  unfold chance told
  rw [all_alone g hb, any_wins g hb]
  cases e : s.mayNot b with
  | false =>
    rw [sure_may g hb e]
    rfl
  | true =>
    cases s.mayWin b with
    | false => rfl
    | true => rfl
theorem told_zero (b : Nat) : told s b ≠ 0 ↔ s.mayWin b = true := by
  unfold told
  cases s.mayWin b with
  | false => simp
  | true => cases s.mayNot b <;> simp
theorem chancesL_is : chancesL (rowsOf s) s.ratings.length (leftNext s) = toI (s.boats.map (told s)) := by
  unfold chancesL toI
  rw [List.map_map]
  exact List.map_congr_left fun b hb => chance_is g (List.mem_range.mp hb)
theorem chancesT_is : chancesT (rowsOf s) s.ratings.length (leftNext s) = (((s.boats.filter s.mayWin).length : Nat) : Int) :: toI (s.boats.map (told s)) := by
  unfold chancesT
  rw [chancesL_is g]
  congr 2
  unfold toI
  rw [List.map_map, List.filter_map, List.length_map]
  refine filter_len_congr fun b _ => ?_
  show decide (((told s b : Nat) : Int) ≠ 0) = s.mayWin b
  rw [Bool.eq_iff_iff, decide_eq_true_iff, ← told_zero g]
  omega
end
end Sail
namespace Sail
/-! # The mathematics, E: the calls, one behind another -/
open Uw33
def many (p : Nat) : Nat := if p = 0 then 2 else if p = 1 then 1 else if p = 3 then 1 else 0
/-- a call without times -/
def calOf (p : Nat) (xs : List Nat) : Call := match p, xs with
  | 0, [a, b] => .begins a b
  | 1, [a] => .boat a
  | 3, [a] => .points a
  | 4, _ => .order
  | _, _ => .chances
def outOf (s : Series) (c : Call) : List Int := Uw33Neutral.out (Uw33.step s c).2
theorem step_good {s : Series} (g : Good s) (c : Call) : Good (Uw33.step s c).1 := by
  cases c with
  | begins n k =>
    show Good (if n < 1 ∨ RACES < n ∨ n ≤ k then (s, ok (-1)) else (⟨[], [], n, k⟩, ok 0)).1
    split
    · exact g
    · rename_i h
      unfold RACES at h
      exact ⟨by show 1 ≤ n; omega, by show n ≤ 8; omega, by show k < n; omega, Nat.zero_le 5, fun r h => (nomatch (show r ∈ ([] : List Nat) from h)), Nat.zero_le _, fun l h => (nomatch (show l ∈ ([] : List (List Result)) from h))⟩
  | boat r =>
    show Good (if r < 1 ∨ RATING < r then (s, ok (-1)) else if s.races ≠ [] then (s, ok (-3)) else if BOATS ≤ s.ratings.length then (s, ok (-5)) else ({ s with ratings := s.ratings ++ [r] }, ok (s.ratings.length : Nat))).1
    split
    · exact g
    · rename_i h1
      split
      · exact g
      · rename_i h2
        split
        · exact g
        · rename_i h3
          unfold RATING at h1
          unfold BOATS at h3
          have e : s.races = [] := Classical.not_not.mp h2
          refine ⟨g.p1, g.p8, g.out, ?_, fun x hx => ?_, g.most, fun l hl => ?_⟩
          · show (s.ratings ++ [r]).length ≤ 5
            rw [List.length_append]
            show s.ratings.length + 1 ≤ 5
            omega
          · rcases List.mem_append.mp (show x ∈ s.ratings ++ [r] from hx) with h | h
            · exact g.rate x h
            · rw [List.mem_singleton.mp h]
              omega
          · have z : l ∈ s.races := hl
            rw [e] at z
            cases z
  | race l =>
    show Good (if l.length ≠ s.ratings.length ∨ (l.all fun t => decide (t ≤ LONG)) = false then (s, ok (-1)) else if s.ratings = [] then (s, ok (-2)) else if s.planned ≤ s.races.length then (s, ok (-5)) else (more s l, ok (s.races.length : Nat))).1
    split
    · exact g
    · rename_i h1
      split
      · exact g
      · split
        · exact g
        · rename_i h3
          exact more_good g (by omega) h3
  | points r =>
    show Good (if s.races.length ≤ r then (s, ok (-2)) else (s, _)).1
    split <;> exact g
  | order => exact g
  | chances =>
    show Good (if s.planned ≤ s.races.length ∨ s.ratings = [] then (s, ok (-6)) else (s, _)).1
    split <;> exact g

abbrev play (s : Series) (cs : List (List (List Int))) : List Int := PyFlat.told (PyFlat.played (fun s c => Uw33Neutral.step s (c.headD [])) s (cs.map PyUw33.whole))
/-- what holds ahead of each turn of the loop over the calls -/
structure Loop (l : List Int) (at_ : Nat) (s : Series) (found : List Int) : Prop where
  le : at_ ≤ l.length
  good : Good s
  ex : ∃ f cs, PyFlat.calls PyUw33.shape f (l.drop at_) = some cs ∧ (∀ c ∈ cs, Uw33Neutral.asked1 ((PyUw33.whole c).headD []) = true) ∧ found ++ play s cs = PyUw33.answers l
theorem loop_start {l : List Int} (h : PyUw33.answers_asked l = true) : Loop l 0 Uw33.init [] ∧ (PyUw33.answers l).length ≤ 10000000 := by
  unfold PyUw33.answers_asked at h
  cases e : PyFlat.calls PyUw33.shape l.length l with
  | none =>
    rw [e] at h
    cases h
  | some raw =>
    rw [e] at h
    have h' : (!raw.isEmpty && PyFlat.atMost 40 raw && PyInside.calls PyUw33.bound raw && Uw33Neutral.asked ((raw.map PyUw33.whole).map fun c => c.headD []) && PyFlat.short 10000000 (PyUw33.answers l)) = true := h
    rw [Bool.and_eq_true, Bool.and_eq_true] at h'
    obtain ⟨⟨_, h2⟩, h3⟩ := h'
    refine ⟨⟨Nat.zero_le _, init_good, l.length, raw, ?_, fun c hc => ?_, ?_⟩, of_decide_eq_true h3⟩
    · rw [List.drop_zero]
      exact e
    · have h4 : (((raw.map PyUw33.whole).map fun c => c.headD []).all Uw33Neutral.asked1) = true := (Bool.and_eq_true_iff.mp (show (_ && _) = true from h2)).1
      refine List.all_eq_true.mp h4 _ ?_
      exact List.mem_map.mpr ⟨PyUw33.whole c, List.mem_map.mpr ⟨c, hc, rfl⟩, rfl⟩
    · rw [List.nil_append]
      unfold PyUw33.answers PyUw33.calls
      rw [e]
      rfl
theorem loop_end {l : List Int} {at_ : Nat} {s : Series} {found : List Int} (L : Loop l at_ s found) (h : ¬ at_ < l.length) : found = PyUw33.answers l := by
  obtain ⟨f, cs, h1, _, h3⟩ := L.ex
  rw [List.drop_eq_nil_of_le (by omega)] at h1
  have e : cs = [] := by
    cases f <;> exact (Option.some.inj h1).symm
  subst e
  rw [← h3]
  exact (List.append_nil found).symm
theorem calls_cons {f : Nat} {p : Int} {r : List Int} {cs : List (List (List Int))} (h : PyFlat.calls PyUw33.shape f (p :: r) = some cs) :
    ∃ f' c t cs', PyFlat.call PyUw33.shape (p :: r) = some (c, t) ∧ PyFlat.calls PyUw33.shape f' t = some cs' ∧ cs = c :: cs' := by
  cases f with
  | zero => cases h
  | succ f =>
    have h' : (match PyFlat.call PyUw33.shape (p :: r) with
      | none => none
      | some (c, t) => match PyFlat.calls PyUw33.shape f t with
        | none => none
        | some cs => some (c :: cs)) = some cs := h
    cases e : PyFlat.call PyUw33.shape (p :: r) with
    | none =>
      rw [e] at h'
      cases h'
    | some q =>
      obtain ⟨c, t⟩ := q
      rw [e] at h'
      have h2 : (match PyFlat.calls PyUw33.shape f t with
        | none => none
        | some cs => some (c :: cs)) = some cs := h'
      cases e2 : PyFlat.calls PyUw33.shape f t with
      | none =>
        rw [e2] at h2
        cases h2
      | some cs' =>
        rw [e2] at h2
        exact ⟨f, c, t, cs', rfl, e2, (Option.some.inj h2).symm⟩
theorem call_shape {p : Int} {r t : List Int} {c : List (List Int)} (h : PyFlat.call PyUw33.shape (p :: r) = some (c, t)) :
    (p = 2 ∧ ∃ (n : Nat) (r' : List Int), r = (n : Int) :: r' ∧ n ≤ r'.length ∧ c = [[2], r'.take n] ∧ t = r'.drop n) ∨
    (∃ q : Nat, p = (q : Int) ∧ (q = 0 ∨ q = 1 ∨ q = 3 ∨ q = 4 ∨ q = 5) ∧ many q ≤ r.length ∧ c = [p :: r.take (many q)] ∧ t = r.drop (many q)) := by
  have h' : (match PyUw33.shape p with
    | none => none
    | some (n, k) => if r.length < n then none else match PyFlat.rows k (r.drop n) with
      | none => none
      | some (xs, t) => some ((p :: r.take n) :: xs, t)) = some (c, t) := h
  have plain : ∀ (n : Nat), PyUw33.shape p = some (n, 0) → n ≤ r.length ∧ c = [p :: r.take n] ∧ t = r.drop n := by
    intro n e
    rw [e] at h'
    have h2 : (if r.length < n then none else some ((p :: r.take n) :: [], r.drop n)) = some (c, t) := h'
    by_cases q : r.length < n
    · rw [if_pos q] at h2
      cases h2
    · rw [if_neg q] at h2
      have z := Option.some.inj h2
      exact ⟨by omega, (congrArg Prod.fst z).symm, (congrArg Prod.snd z).symm⟩
  by_cases p0 : p = 0
  · subst p0
    obtain ⟨a, b, d⟩ := plain 2 rfl
    exact .inr ⟨0, rfl, .inl rfl, a, b, d⟩
  · by_cases p1 : p = 1
    · subst p1
      obtain ⟨a, b, d⟩ := plain 1 rfl
      exact .inr ⟨1, rfl, .inr (.inl rfl), a, b, d⟩
    · by_cases p2 : p = 2
      · subst p2
        have e : PyUw33.shape 2 = some (0, 1) := rfl
        rw [e] at h'
        have h2 : (match PyFlat.rows 1 r with
          | none => none
          | some (xs, t) => some (([2] : List Int) :: xs, t)) = some (c, t) := h'
        cases r with
        | nil => cases h2
        | cons n r' =>
          by_cases q : 0 ≤ n ∧ n.toNat ≤ r'.length
          · have er : PyFlat.row (n :: r') = some (r'.take n.toNat, r'.drop n.toNat) := if_pos q
            have e3 : PyFlat.rows 1 (n :: r') = some ([r'.take n.toNat], r'.drop n.toNat) := by
              show (match PyFlat.row (n :: r') with
                | none => none
                | some (x, s) => match PyFlat.rows 0 s with
                  | none => none
                  | some (xs, t) => some (x :: xs, t)) = _
              rw [er]
              rfl
            rw [e3] at h2
            have z := Option.some.inj (show some (([2] : List Int) :: [r'.take n.toNat], r'.drop n.toNat) = some (c, t) from h2)
            refine .inl ⟨rfl, n.toNat, r', ?_, q.2, (congrArg Prod.fst z).symm, (congrArg Prod.snd z).symm⟩
            rw [Int.toNat_of_nonneg q.1]
          · have er : PyFlat.row (n :: r') = none := if_neg q
            have e3 : PyFlat.rows 1 (n :: r') = none := by
              show (match PyFlat.row (n :: r') with
                | none => none
                | some (x, s) => match PyFlat.rows 0 s with
                  | none => none
                  | some (xs, t) => some (x :: xs, t)) = _
              rw [er]
            rw [e3] at h2
            cases h2
      · by_cases p3 : p = 3
        · subst p3
          obtain ⟨a, b, d⟩ := plain 1 rfl
          exact .inr ⟨3, rfl, .inr (.inr (.inl rfl)), a, b, d⟩
        · by_cases p4 : p = 4
          · subst p4
            obtain ⟨a, b, d⟩ := plain 0 rfl
            exact .inr ⟨4, rfl, .inr (.inr (.inr (.inl rfl))), a, b, d⟩
          · by_cases p5 : p = 5
            · subst p5
              obtain ⟨a, b, d⟩ := plain 0 rfl
              exact .inr ⟨5, rfl, .inr (.inr (.inr (.inr rfl))), a, b, d⟩
            · have e : PyUw33.shape p = none := by
                unfold PyUw33.shape
                rw [if_neg p0, if_neg p1, if_neg p2, if_neg p3, if_neg p4, if_neg p5]
              rw [e] at h'
              cases h'
theorem callOf_some {c : List Int} (h : Uw33Neutral.asked1 c = true) : ∃ x, Uw33Neutral.callOf c = some x ∧ Uw33Neutral.callIn (c.map Int.toNat) = some x := by
  unfold Uw33Neutral.asked1 at h
  cases e : Uw33Neutral.callOf c with
  | none =>
    rw [e] at h
    cases h
  | some x =>
    refine ⟨x, rfl, ?_⟩
    unfold Uw33Neutral.callOf at e
    split at e
    · cases e
    · exact e
theorem step_is {s : Series} {c : List Int} {x : Call} (h : Uw33Neutral.callOf c = some x) : Uw33Neutral.step s c = ((Uw33.step s x).1, outOf s x) := by
  unfold Uw33Neutral.step
  rw [h]
  rfl
theorem play_cons {s : Series} {c : List (List Int)} {cs : List (List (List Int))} {x : Call} (h : Uw33Neutral.callOf ((PyUw33.whole c).headD []) = some x) :
    play s (c :: cs) = ((outOf s x).length : Int) :: (outOf s x ++ play (Uw33.step s x).1 cs) := by
  have e : play s (c :: cs) = ((Uw33Neutral.step s ((PyUw33.whole c).headD [])).2.length : Int) :: ((Uw33Neutral.step s ((PyUw33.whole c).headD [])).2 ++ play (Uw33Neutral.step s ((PyUw33.whole c).headD [])).1 cs) := rfl
  rw [e, step_is h]
/-- one turn of the loop -/
theorem loop_turn {l : List Int} {at_ : Nat} {s : Series} {found : List Int} (L : Loop l at_ s found) (hpos : ∀ x ∈ l, (0 : Int) ≤ x) (h : at_ < l.length) :
    (l[at_]? = some 2 ∧ ∃ (n : Nat) (ts : List Nat), l[at_ + 1]? = some (n : Int) ∧ at_ + 2 + n ≤ l.length ∧ ts.length = n ∧ n ≤ 10 ∧ ((l.drop (at_ + 2)).take n) = toI ts ∧
      Loop l (at_ + 2 + n) (Uw33.step s (.race ts)).1 (found ++ [((outOf s (.race ts)).length : Int)] ++ outOf s (.race ts))) ∨
    (∃ (p : Nat) (xs : List Nat), l[at_]? = some (p : Int) ∧ (p = 0 ∨ p = 1 ∨ p = 3 ∨ p = 4 ∨ p = 5) ∧ at_ + 1 + many p ≤ l.length ∧ xs.length = many p ∧ ((l.drop (at_ + 1)).take (many p)) = toI xs ∧
      Loop l (at_ + 1 + many p) (Uw33.step s (calOf p xs)).1 (found ++ [((outOf s (calOf p xs)).length : Int)] ++ outOf s (calOf p xs))) := by
  obtain ⟨f, cs, h1, h2, h3⟩ := L.ex
  have hd : l.drop at_ = l[at_] :: l.drop (at_ + 1) := List.drop_eq_getElem_cons h
  rw [hd] at h1
  obtain ⟨f', c, t, cs', k1, k2, rfl⟩ := calls_cons h1
  have hc := h2 c (List.mem_cons_self ..)
  obtain ⟨x, x1, x2⟩ := callOf_some hc
  have hrest : ∀ c ∈ cs', Uw33Neutral.asked1 ((PyUw33.whole c).headD []) = true := fun c m => h2 c (List.mem_cons_of_mem _ m)
  have h0 : l[at_]? = some l[at_] := List.getElem?_eq_getElem h
  have joined : found ++ [((outOf s x).length : Int)] ++ outOf s x ++ play (Uw33.step s x).1 cs' = PyUw33.answers l := by
    rw [← h3, play_cons x1, List.append_assoc, List.append_assoc]
    rfl
  have toInts : ∀ (k n : Nat), toI (((l.drop k).take n).map Int.toNat) = (l.drop k).take n := by
    intro k n
    unfold toI
    rw [List.map_map]
    refine (List.map_congr_left fun y hy => ?_).trans (List.map_id _)
    show ((Int.toNat y : Nat) : Int) = y
    exact Int.toNat_of_nonneg (hpos y (List.mem_of_mem_drop (List.mem_of_mem_take hy)))
  rcases call_shape k1 with ⟨e2, n, r', er, hn, rfl, rfl⟩ | ⟨q, eq, hq, hm, rfl, rfl⟩
  · have hlen : at_ + 1 < l.length := by
      have := congrArg List.length er
      rw [List.length_drop, List.length_cons] at this
      omega
    have hd2 : l.drop (at_ + 1) = l[at_ + 1] :: l.drop (at_ + 2) := List.drop_eq_getElem_cons hlen
    rw [hd2] at er
    obtain ⟨e3, rfl⟩ := List.cons.inj er
    have hle : at_ + 2 + n ≤ l.length := by
      rw [List.length_drop] at hn
      omega
    have ew : (PyUw33.whole [[2], (l.drop (at_ + 2)).take n]).headD [] = 2 :: (l.drop (at_ + 2)).take n := rfl
    rw [ew] at x2
    have x2' : (if (((l.drop (at_ + 2)).take n).map Int.toNat).length ≤ 10 then some (Call.race (((l.drop (at_ + 2)).take n).map Int.toNat)) else none) = some x := x2
    have hl : (((l.drop (at_ + 2)).take n).map Int.toNat).length = n := by
      rw [List.length_map, List.length_take, List.length_drop]
      omega
    by_cases h10 : (((l.drop (at_ + 2)).take n).map Int.toNat).length ≤ 10
    · rw [if_pos h10] at x2'
      have ex : x = Call.race (((l.drop (at_ + 2)).take n).map Int.toNat) := (Option.some.inj x2').symm
      refine .inl ⟨by rw [h0, e2], n, ((l.drop (at_ + 2)).take n).map Int.toNat, by rw [List.getElem?_eq_getElem hlen, e3], hle, hl, by omega, (toInts _ _).symm, ?_⟩
      rw [← ex]
      refine ⟨hle, step_good L.good x, f', cs', ?_, hrest, joined⟩
      rw [List.drop_drop] at k2
      exact k2
    · rw [if_neg h10] at x2'
      cases x2'
  · have hle : at_ + 1 + many q ≤ l.length := by
      rw [List.length_drop] at hm
      omega
    have hl : (((l.drop (at_ + 1)).take (many q)).map Int.toNat).length = many q := by
      rw [List.length_map, List.length_take, List.length_drop]
      omega
    refine .inr ⟨q, ((l.drop (at_ + 1)).take (many q)).map Int.toNat, by rw [h0, eq], hq, hle, hl, (toInts _ _).symm, ?_⟩
    have ex : x = calOf q (((l.drop (at_ + 1)).take (many q)).map Int.toNat) := by
      generalize (l.drop (at_ + 1)).take (many q) = ys at *
      rw [List.length_map] at hl
      rw [eq] at x2
      rcases hq with rfl | rfl | rfl | rfl | rfl
      · match ys, hl with
        | [a, b], _ => exact (Option.some.inj x2).symm
      · match ys, hl with
        | [a], _ => exact (Option.some.inj x2).symm
      · match ys, hl with
        | [a], _ => exact (Option.some.inj x2).symm
      · match ys, hl with
        | [], _ => exact (Option.some.inj x2).symm
      · match ys, hl with
        | [], _ => exact (Option.some.inj x2).symm
    rw [← ex]
    refine ⟨hle, step_good L.good x, f', cs', ?_, hrest, joined⟩
    rw [List.drop_drop] at k2
    exact k2
theorem loop_short {l : List Int} {at_ : Nat} {s : Series} {found : List Int} (L : Loop l at_ s found) (h : (PyUw33.answers l).length ≤ 10000000) : found.length ≤ 10000000 := by
  obtain ⟨f, cs, _, _, h3⟩ := L.ex
  have := congrArg List.length h3
  rw [List.length_append] at this
  omega
end Sail
namespace Sail
open PySem PySem.Spec PyProof.Rows L2
/-! # The walk: what all defs share -/
def top (i : Nat) : Stmt := PySem.Challenge.pw_sailraces_s01_answers.main.body.getD i (.Pass ⟨0, 0, 0, 0⟩)
abbrev sPut : Stmt := top 2
abbrev sPof : Stmt := top 3
abbrev sRpt : Stmt := top 4
abbrev sBpt : Stmt := top 5
abbrev sSwo : Stmt := top 6
abbrev sOwi : Stmt := top 11
abbrev sAor : Stmt := top 12
abbrev sSbe : Stmt := top 13
abbrev sDwi : Stmt := top 14
abbrev sIal : Stmt := top 15
abbrev sCof : Stmt := top 16
abbrev sCto : Stmt := top 17
abbrev sRof : Stmt := top 19
abbrev sOto : Stmt := top 20
abbrev sCls : Stmt := top 37
abbrev sIni : Stmt := inClass sCls 0
abbrev sAas : Stmt := inClass sCls 1
abbrev sBeg : Stmt := inClass sCls 2
abbrev sBoa : Stmt := inClass sCls 3
abbrev sRac : Stmt := inClass sCls 4
abbrev sPoi : Stmt := inClass sCls 5
abbrev sOrd : Stmt := inClass sCls 6
abbrev sCha : Stmt := inClass sCls 7
abbrev sAof : Stmt := top 38
abbrev sAns : Stmt := top 39
/-! ### heaps -/
/-- a list of toI -/
abbrev LI (H : Hp) (a : Addr) (ns : List Int) : Prop := H a = some (.lst (ns.map V.int))
structure Rows (H : Hp) (as : List Addr) (rss : List (List Int)) : Prop where
  len : as.length = rss.length
  at_ : ∀ (i : Nat) (a : Addr) (r : List Int), as[i]? = some a → rss[i]? = some r → LI H a r
/-- a list of lists of toI -/
def LR (H : Hp) (a : Addr) (rss : List (List Int)) : Prop := ∃ as : List Addr, H a = some (.lst (as.map V.ref)) ∧ Rows H as rss
theorem Rows.same {H H' : Hp} {as : List Addr} {rss : List (List Int)} (h : Rows H as rss) (e : Same H H') : Rows H' as rss := ⟨h.len, fun i a r h1 h2 => e _ _ (h.at_ i a r h1 h2)⟩
theorem LR.same {H H' : Hp} {a : Addr} {rss : List (List Int)} (h : LR H a rss) (e : Same H H') : LR H' a rss := by
  obtain ⟨as, h1, h2⟩ := h
  exact ⟨as, e _ _ h1, h2.same e⟩
theorem Rows.nil {H : Hp} : Rows H [] [] := ⟨rfl, fun i a r h => by simp at h⟩
theorem Rows.snoc {H : Hp} {as : List Addr} {rss : List (List Int)} {a : Addr} {r : List Int} (h : Rows H as rss) (ha : LI H a r) : Rows H (as ++ [a]) (rss ++ [r]) := by
  refine ⟨by simp [h.len], fun i x y h1 h2 => ?_⟩
  by_cases c : i < as.length
  · rw [List.getElem?_append_left c] at h1
    rw [List.getElem?_append_left (by rw [← h.len]; exact c)] at h2
    exact h.at_ i x y h1 h2
  · rw [List.getElem?_append_right (by omega)] at h1
    rw [List.getElem?_append_right (by rw [← h.len]; omega), ← h.len] at h2
    by_cases z : i - as.length = 0
    · rw [z] at h1 h2
      have e1 : a = x := Option.some.inj h1
      have e2 : r = y := Option.some.inj h2
      rw [← e1, ← e2]
      exact ha
    · rw [List.getElem?_eq_none (by show 1 ≤ i - as.length; omega)] at h1
      cases h1
theorem same_upd {H : Hp} {p : Addr} {o : HO} (h : H p = none) : Same H (upd H p o) := fun b x e => by
  rw [upd_ne (ne_of_none e h)]
  exact e
/-- a list that is new to H1 may be written: what H had stands -/
theorem same_write {H H1 : Hp} {p : Addr} {o : HO} (s : Same H H1) (h : H p = none) : Same H (upd H1 p o) := fun b x e => by
  rw [upd_ne (ne_of_none e h)]
  exact s _ _ e
theorem keep_ne {H : Hp} {p q : Addr} {o o' : HO} (h : H q = some o) (n : H p = none) : (upd H p o') q = some o := by
  rw [upd_ne (ne_of_none h n)]
  exact h
theorem map_int_get {ns : List Int} {i : Nat} {x : V} (h : (ns.map V.int)[i]? = some x) : ∃ z, ns[i]? = some z ∧ x = .int z := by
  rw [List.getElem?_map] at h
  cases e : ns[i]? with
  | none =>
    rw [e] at h
    cases h
  | some z =>
    rw [e] at h
    exact ⟨z, rfl, (Option.some.inj h).symm⟩
theorem map_ref_get {as : List Addr} {i : Nat} {x : V} (h : (as.map V.ref)[i]? = some x) : ∃ a, as[i]? = some a ∧ x = .ref a := by
  rw [List.getElem?_map] at h
  cases e : as[i]? with
  | none =>
    rw [e] at h
    cases h
  | some z =>
    rw [e] at h
    exact ⟨z, rfl, (Option.some.inj h).symm⟩
theorem int_get {ns : List Int} {i : Nat} {z : Int} (h : ns[i]? = some z) : (ns.map V.int)[i]? = some (.int z) := by
  rw [List.getElem?_map, h]
  rfl
theorem ref_get {as : List Addr} {i : Nat} {z : Addr} (h : as[i]? = some z) : (as.map V.ref)[i]? = some (.ref z) := by
  rw [List.getElem?_map, h]
  rfl
theorem if_true_of {c : Bool} {A B : Prop} (hc : c = true) (h : A) : if c = true then A else B := by
  rw [if_pos hc]
  exact h
theorem if_false_of {c : Bool} {A B : Prop} (hc : c = false) (h : B) : if c = true then A else B := by
  rw [hc, if_neg Bool.false_ne_true]
  exact h
theorem cut_take (xs : List V) (j : Nat) (h : j ≤ xs.length) : cutV xs none (some (j : Int)) = xs.take j := by
  unfold cutV
  rw [HT.sIx_none, HT.sIx_nat, Nat.min_eq_left h, List.drop_zero, Nat.sub_zero]
theorem cut_drop (xs : List V) (j : Nat) (h : j ≤ xs.length) : cutV xs (some (j : Int)) none = xs.drop j := by
  unfold cutV
  rw [HT.sIx_none, HT.sIx_nat, Nat.min_eq_left h, ← List.length_drop, List.take_length]
theorem cut_both (xs : List V) (i j : Nat) (hi : i ≤ j) (h : j ≤ xs.length) : cutV xs (some (i : Int)) (some (j : Int)) = (xs.drop i).take (j - i) := by
  unfold cutV
  rw [HT.sIx_nat, HT.sIx_nat, Nat.min_eq_left h, Nat.min_eq_left (Nat.le_trans hi h)]
/-- a module's int -/
theorem pgi {X : Cx} {x : Str} {i : Int} {t : Tok} {pos : Pos} (hm : X.mg x = some (.int i t)) (hg : Gl X x := by rfl) (hd : (x == ("__debug__" : Str)) = false := by decide) : PE X (.Name x pos) (tC (.int i)) := pe_glob (v := .int i) hg hm ⟨_, rfl⟩ hd
theorem ret_eq {Q : VK} {x y : Int} {H : Hp} (e : x = y) (h : Q (.int x) H) : Q (.int y) H := e ▸ h
theorem small {n : Nat} (h : n ≤ 100000) : n < sizeLine := Nat.lt_of_le_of_lt h (by decide)
end Sail
namespace Sail
open PySem PySem.Spec PyProof.Rows L2
section
variable {P : Program} {w : World} {K : PySem.W.Frag} {mg : Str → Option Value} {base : Heap}
/-! ### put_right -/
theorem scPut : FnScope ["ratings", "times", "rating", "time"] ["ratings", "times"] (defScope sPut) := ⟨rfl, rfl, rfl, by decide +kernel, rfl, by decide +kernel, by decide +kernel⟩
def spPut : Sp := fun vs H Q _ => ∃ (a b : Addr) (rs ts : List Int), vs = [.ref a, .ref b] ∧ LI H a rs ∧ LI H b ts ∧ rs.length = ts.length ∧ rs.length ≤ 1000 ∧ (∀ r ∈ rs, 0 ≤ r ∧ r ≤ 2000) ∧
  ∀ H' p, Same H H' → H p = none → LI H' p (putRight rs ts) → Q (.ref p) H'
theorem putRight_take {rs ts : List Int} {i : Nat} {x y : Int} (h1 : rs[i]? = some x) (h2 : ts[i]? = some y) : (putRight rs ts).take (i + 1) = (putRight rs ts).take i ++ [x * y] := by
  rw [List.take_add_one]
  unfold putRight
  rw [List.getElem?_zipWith, h1, h2]
  rfl
theorem ok_put {f : Addr} {fd : FuncData} (F : Fun K "put_right" "put_right" sPut f fd) (mz : mg "zip" = none) : FnOk P w K mg base CX0 1 f fd ["ratings", "times"] spPut := by
  refine F.ok scPut (fun vs H Q E h => ?_) (fun cdv A outer s H vs Q E hr h => ?_)
  · obtain ⟨a, b, rs, ts, rfl, _⟩ := h
    rfl
  · obtain ⟨a, b, rs, ts, rfl, ha, hb, hl, hn, hbd, q⟩ := h
    refine ⟨_, pss_one (ps_ret (pe_lc (own := [("rating", 2), ("time", 3)]) (g := gTup K 2 (gCons (gName 2) (gCons (gName 3) gNil))) (tt := tYes) rfl scPut.nd (pi_zip (by rfl) mz (pa_cons (pv 0) (pa_cons (pv 1) pa_nil)))
      (blkOk_by (N := ["ratings", "times", "rating", "time"]) (sc := defScope sPut) (by decide +kernel))
      (fun _ _ _ _ _ => pg_tup rfl (pgs_cons (pg_name (i := 2) scPut.nd rfl (Or.inl rfl)) (pgs_cons (pg_name (i := 3) scPut.nd rfl (Or.inl rfl)) pgs_nil)))
      (fun _ _ _ _ _ => pts_nil) (fun _ _ _ _ _ => pe_op op_mul (pv 2) (pv 3)))), ?_⟩
    refine ⟨_, rfl, _, rfl, a, b, rs.map V.int, ts.map V.int, rfl, .of ha, .of hb, fun D nD => ?_⟩
    refine lc_it (walk_zip (K := K) (n := rs.length) (xs := rs.map V.int) (ys := ts.map V.int) (by rw [List.length_map, List.length_map, hl, Nat.min_self])) (fun i H' => Same H H' ∧ LI H' D ((putRight rs ts).take i)) ⟨same_upd nD, upd_same⟩
      (fun i H' _ h => ⟨.of (h.1 _ _ ha), .of (h.1 _ _ hb)⟩) ?_ ?_
    · rintro i x H1 H2 hi ⟨s1, hD⟩ ⟨T, x1, x2, rfl, nT, rfl, e1, e2⟩
      obtain ⟨z1, g1, rfl⟩ := map_int_get e1
      obtain ⟨z2, g2, rfl⟩ := map_int_get e2
      have sT : Same H1 (upd H1 T (.tup [.int z1, .int z2])) := same_upd nT
      have hz := hbd z1 (List.mem_of_getElem? g1)
      refine ⟨T, [.int z1, .int z2], rfl, .of upd_same, rfl, _, _, rfl, _, _, rfl, rfl, rfl, ?_⟩
      refine ⟨_, rfl, _, rfl, _, _, rfl, rfl, .inl ⟨by omega, by omega⟩, _, sT _ _ hD, ?_, ?_⟩
      · rw [List.length_map, List.length_take]
        exact small (by omega)
      · refine ⟨same_write (s1.trans sT) nD, ?_⟩
        show (upd _ D _) D = _
        rw [upd_same, putRight_take g1 g2, List.map_append]
        rfl
    · rintro H' ⟨s1, hD⟩
      refine q H' D s1 nD ?_
      rw [List.take_of_length_le (by unfold putRight; rw [List.length_zipWith]; omega)] at hD
      exact hD
end
end Sail
namespace Sail
open PySem PySem.Spec PyProof.Rows L2
theorem take_more {α : Type} {l : List α} {i : Nat} {x : α} (h : l[i]? = some x) : l.take (i + 1) = l.take i ++ [x] := by
  rw [List.take_add_one, h]
  rfl
theorem filter_more {α : Type} {l : List α} {i : Nat} {x : α} {p : α → Bool} (h : l[i]? = some x) (c : p x = true) : (l.take (i + 1)).filter p = (l.take i).filter p ++ [x] := by
  rw [take_more h, List.filter_append, List.filter_cons_of_pos c]
  rfl
theorem filter_less {α : Type} {l : List α} {i : Nat} {x : α} {p : α → Bool} (h : l[i]? = some x) (c : p x = false) : (l.take (i + 1)).filter p = (l.take i).filter p := by
  rw [take_more h, List.filter_append, List.filter_cons_of_neg (by rw [c]; exact Bool.false_ne_true)]
  exact List.append_nil _
theorem filter_small {l : List Int} {i : Nat} {p : Int → Bool} (h : l.length ≤ 1000) : (((l.take i).filter p).map V.int).length < sizeLine := by
  have h1 := List.length_filter_le p (l.take i)
  rw [List.length_map]
  rw [List.length_take] at h1
  exact small (by omega)
section
variable {P : Program} {w : World} {K : PySem.W.Frag} {mg : Str → Option Value} {base : Heap}
/-! ### points_of -/
theorem scPof : FnScope ["right", "boats", "ahead", "alike", "other"] ["right", "boats"] (defScope sPof) := ⟨rfl, rfl, rfl, by decide +kernel, rfl, by decide +kernel, by decide +kernel⟩
def spPof : Sp := fun vs H Q _ => ∃ (r : Int) (a : Addr) (bs : List Int), vs = [.int r, .ref a] ∧ LI H a bs ∧ bs.length ≤ 1000 ∧ ∀ H', Same H H' → Q (.int (ptsOf r bs)) H'
theorem ok_pof {f : Addr} {fd : FuncData} {t0 : Tok} (F : Fun K "points_of" "points_of" sPof f fd) (nf : mg "NOT_FINISHED" = some (.int 0 t0)) (ml : mg "len" = none) : FnOk P w K mg base CX0 1 f fd ["right", "boats"] spPof := by
  refine F.ok scPof (fun vs H Q E h => ?_) (fun cdv A outer s H vs Q E hr h => ?_)
  · obtain ⟨r, a, bs, rfl, _⟩ := h
    rfl
  · obtain ⟨r, a, bs, rfl, ha, hn, q⟩ := h
    refine ⟨_, pss_cons (ps_if (pt_cmpR op_eq (pv 0) (pgi nf) (nomark _))
        (pss_one (ps_ret (pe_op op_mul pe_int (pe_op op_add (pe_callB call_len_seq (by rfl) ml PySem.boot_len (pa_cons (pv 1) pa_nil)) pe_int)))) pss_nil)
      (pss_cons (ps_set (i := 2) scPof.nd rfl (Or.inl rfl) (pe_callB call_len_seq (by rfl) ml PySem.boot_len (pa_cons
        (pe_lc (own := [("other", 4)]) (g := gName 4) (tt := tAnd (tTest (tOp rNe (tVar 4) (tC (.int 0)))) (tTest (tOp (rI0 fun i j => .bl (decide (i < j))) (tVar 4) (tVar 0)))) (te := tVar 4) rfl scPof.nd (pi_list (pv 1))
          (blkOk_by (N := ["right", "boats", "ahead", "alike", "other"]) (sc := defScope sPof) (by decide +kernel)) (fun _ _ _ _ _ => pg_name (i := 4) scPof.nd rfl (Or.inl rfl))
          (fun _ _ _ _ _ => pts_one (PW.pt (pw_and (pt_cmpR op_ne (pv 4) (pgi nf) (nomark _)) (pw_and1 (pt_cmpR op_lt (pv 4) (pv 0) (nomark _)))))) (fun _ _ _ _ _ => pv 4)) pa_nil)))
      (pss_cons (ps_set (i := 3) scPof.nd rfl (Or.inl rfl) (pe_callB call_len_seq (by rfl) ml PySem.boot_len (pa_cons
        (pe_lc (own := [("other", 4)]) (g := gName 4) (tt := tTest (tOp rEq (tVar 4) (tVar 0))) (te := tVar 4) rfl scPof.nd (pi_list (pv 1))
          (blkOk_by (N := ["right", "boats", "ahead", "alike", "other"]) (sc := defScope sPof) (by decide +kernel)) (fun _ _ _ _ _ => pg_name (i := 4) scPof.nd rfl (Or.inl rfl))
          (fun _ _ _ _ _ => pts_one (pt_cmpR op_eq (pv 4) (pv 0) (nomark _))) (fun _ _ _ _ _ => pv 4)) pa_nil)))
      (pss_one (ps_ret (pe_op op_add (pe_op op_add (pe_op op_mul pe_int (pv 2)) (pv 3)) pe_int))))), ?_⟩
    refine ⟨_, rfl, rfl, _, rfl, ite2 (fun c => ?_) (fun c => ?_)⟩
    · have c' : r = 0 := V.int.inj (of_decide_eq_true c)
      refine ⟨_, rfl, a, _, rfl, .inl (.of ha), _, _, rfl, rfl, _, _, rfl, rfl, .inl ⟨by decide, by decide⟩, ?_⟩
      have e : ptsOf r bs = 2 * (((bs.map V.int).length : Int) + 1) := by
        unfold ptsOf
        rw [if_pos c', List.length_map]
      exact ret_eq e (q H (.refl H))
    · have c' : ¬ r = 0 := fun z => c (decide_eq_true (by rw [z]))
      -- ahead
      refine ⟨_, rfl, a, rfl, ⟨_, .of ha⟩, fun D nD => ?_⟩
      refine lc_list (K := K) (a := a) (xs := bs.map V.int) (fun i H' => Same H H' ∧ LI H' D ((bs.take i).filter fun o => decide (o ≠ 0) && decide (o < r))) ⟨same_upd nD, upd_same⟩ (fun i H' _ h => .of (h.1 _ _ ha)) ?_ ?_
      · rintro i x H1 hx ⟨s1, hD⟩
        obtain ⟨z, hz, rfl⟩ := map_int_get hx
        refine ⟨rfl, _, rfl, rfl, _, rfl, ite2 (fun c1 => ?_) (fun c1 => ?_)⟩
        · have c1' : ¬ z = 0 := fun e => by
            rw [e] at c1
            simp at c1
          refine ⟨_, rfl, _, rfl, _, _, rfl, rfl, _, rfl, ite2 (fun c2 => ?_) (fun c2 => ?_)⟩
          · have c2' : z < r := of_decide_eq_true c2
            refine ⟨_, rfl, _, hD, filter_small hn, same_write s1 nD, ?_⟩
            show (upd _ D _) D = _
            rw [upd_same, filter_more hz (by simp [c1', c2']), List.map_append]
            rfl
          · have c2' : ¬ z < r := fun e => c2 (decide_eq_true e)
            refine ⟨s1, ?_⟩
            show H1 D = _
            rw [filter_less hz (by simp [c2']), hD]
        · have c1' : z = 0 := by simpa using c1
          refine if_false_of rfl ⟨s1, ?_⟩
          show H1 D = _
          rw [filter_less hz (by simp [c1']), hD]
      · rintro H1 ⟨s1, hD⟩
        rw [List.length_map, List.take_length] at hD
        refine ⟨D, _, rfl, .inl (.of hD), ?_⟩
        -- alike
        refine ⟨_, rfl, a, rfl, ⟨_, .of (s1 _ _ ha)⟩, fun D2 nD2 => ?_⟩
        have nD2' := s1.free nD2
        refine lc_list (K := K) (a := a) (xs := bs.map V.int) (fun i H' => Same H H' ∧ LI H' D2 ((bs.take i).filter fun o => decide (o = r))) ⟨s1.trans (same_upd nD2), upd_same⟩ (fun i H' _ h => .of (h.1 _ _ ha)) ?_ ?_
        · rintro i x H2 hx ⟨s2, hD2⟩
          obtain ⟨z, hz, rfl⟩ := map_int_get hx
          refine ⟨rfl, _, rfl, _, rfl, rfl, _, rfl, ite2 (fun c1 => ?_) (fun c1 => ?_)⟩
          · have c1' : z = r := V.int.inj (of_decide_eq_true c1)
            refine ⟨_, rfl, _, hD2, filter_small hn, same_write s2 nD2', ?_⟩
            show (upd _ D2 _) D2 = _
            rw [upd_same, filter_more hz (by simp [c1']), List.map_append]
            rfl
          · have c1' : ¬ z = r := fun e => c1 (decide_eq_true (by rw [e]))
            refine ⟨s2, ?_⟩
            show H2 D2 = _
            rw [filter_less hz (by simp [c1']), hD2]
        · rintro H2 ⟨s2, hD2⟩
          rw [List.length_map, List.take_length] at hD2
          refine ⟨D2, _, rfl, .inl (.of hD2), ?_⟩
          refine ⟨_, rfl, _, _, rfl, rfl, .inl ⟨by decide, by decide⟩, _, rfl, _, _, rfl, rfl, _, _, rfl, rfl, ?_⟩
          have e : ptsOf r bs = 2 * ((((bs.filter fun o => decide (o ≠ 0) && decide (o < r)).map V.int).length : Nat) : Int) + ((((bs.filter fun o => decide (o = r)).map V.int).length : Nat) : Int) + 1 := by
            unfold ptsOf
            rw [if_neg c', List.length_map, List.length_map]
          exact ret_eq e (q H2 s2)
/-! ### race_points -/
theorem scRpt : FnScope ["ratings", "times", "boats", "right"] ["ratings", "times"] (defScope sRpt) := ⟨rfl, rfl, rfl, by decide +kernel, rfl, by decide +kernel, by decide +kernel⟩
def spRpt : Sp := fun vs H Q _ => ∃ (a b : Addr) (rs ts : List Int), vs = [.ref a, .ref b] ∧ LI H a rs ∧ LI H b ts ∧ rs.length = ts.length ∧ rs.length ≤ 1000 ∧ (∀ r ∈ rs, 0 ≤ r ∧ r ≤ 2000) ∧
  ∀ H' p, Same H H' → H p = none → LI H' p (racePts rs ts) → Q (.ref p) H'
theorem putRight_length {rs ts : List Int} (h : rs.length = ts.length) : (putRight rs ts).length = rs.length := by
  unfold putRight
  rw [List.length_zipWith]
  omega
theorem ok_rpt {f f1 f2 : Addr} {fd fd1 fd2 : FuncData} (F : Fun K "race_points" "race_points" sRpt f fd) (F1 : Fun K "put_right" "put_right" sPut f1 fd1) (b1 : Binds K fd1 ["ratings", "times"] []) (g1 : mg "put_right" = some (.ref f1))
    (G1 : FnOk P w K mg base CX0 1 f1 fd1 ["ratings", "times"] spPut) (F2 : Fun K "points_of" "points_of" sPof f2 fd2) (b2 : Binds K fd2 ["right", "boats"] []) (g2 : mg "points_of" = some (.ref f2)) (G2 : FnOk P w K mg base CX0 1 f2 fd2 ["right", "boats"] spPof) :
    FnOk P w K mg base CX0 2 f fd ["ratings", "times"] spRpt := by
  refine F.ok scRpt (fun vs H Q E h => ?_) (fun cdv A outer s H vs Q E hr h => ?_)
  · obtain ⟨a, b, rs, ts, rfl, _⟩ := h
    rfl
  · obtain ⟨a, b, rs, ts, rfl, ha, hb, hl, hn, hbd, q⟩ := h
    refine ⟨_, pss_cons (ps_set (i := 2) scRpt.nd rfl (Or.inr rfl) (pe_call G1 hr (by rfl) g1 F1.kp b1 .nil pass0 (pa_cons (pv 0) (pa_cons (pv 1) pa_nil))))
      (pss_one (ps_ret (pe_lc (own := [("right", 3)]) (g := gName 3) (tt := tYes) (te := tCall spPof [] E0 (tCons (tVar 3) (tCons (tVar 2) tNil))) rfl scRpt.nd (pi_list (pv 2))
          (blkOk_by (N := ["ratings", "times", "boats", "right"]) (sc := defScope sRpt) (by decide +kernel)) (fun _ _ _ _ _ => pg_name (i := 3) scRpt.nd rfl (Or.inl rfl))
          (fun _ _ _ _ _ => pts_nil) (fun _ _ _ _ _ => pe_call G2 hr (by rfl) g2 F2.kp b2 .nil pass0 (pa_cons (pv 3) (pa_cons (pv 2) pa_nil)))))), ?_⟩
    refine ⟨_, rfl, _, rfl, a, b, rs, ts, rfl, ha, hb, hl, hn, hbd, fun H1 p s1 np hp => ?_⟩
    have hpl := putRight_length hl
    refine ⟨_, rfl, p, rfl, ⟨_, .of hp⟩, fun D nD => ?_⟩
    have nD' := s1.free nD
    refine lc_list (K := K) (a := p) (xs := (putRight rs ts).map V.int) (fun i H' => Same H1 H' ∧ LI H' D ((racePts rs ts).take i)) ⟨same_upd nD, upd_same⟩ (fun i H' _ h => .of (h.1 _ _ hp)) ?_ ?_
    · rintro i x H2 hx ⟨s2, hD⟩
      obtain ⟨z, hz, rfl⟩ := map_int_get hx
      have hzz : (racePts rs ts)[i]? = some (ptsOf z (putRight rs ts)) := by
        unfold racePts
        rw [List.getElem?_map, hz]
        rfl
      refine ⟨rfl, _, rfl, _, rfl, z, p, putRight rs ts, rfl, s2 _ _ hp, by omega, fun H3 s3 => ⟨_, s3 _ _ hD, ?_, same_write (s2.trans s3) nD, ?_⟩⟩
      · rw [List.length_map, List.length_take]
        have : (racePts rs ts).length = rs.length := by unfold racePts; rw [List.length_map, hpl]
        exact small (by omega)
      · show (upd _ D _) D = _
        rw [upd_same, take_more hzz, List.map_append]
        rfl
    · rintro H2 ⟨s2, hD⟩
      refine q H2 D (s1.trans s2) nD' ?_
      rw [List.length_map, List.take_of_length_le (by unfold racePts; rw [List.length_map]; exact Nat.le_refl _)] at hD
      exact hD
end
end Sail
namespace Sail
open PySem PySem.Spec PyProof.Rows L2
section
variable {P : Program} {w : World} {K : PySem.W.Frag} {mg : Str → Option Value} {base : Heap}
/-! ### boat_points -/
theorem scBpt : FnScope ["races", "boat", "race"] ["races", "boat"] (defScope sBpt) := ⟨rfl, rfl, rfl, by decide +kernel, rfl, by decide +kernel, by decide +kernel⟩
def spBpt : Sp := fun vs H Q _ => ∃ (a : Addr) (rss : List (List Int)) (b : Nat), vs = [.ref a, .int (b : Int)] ∧ LR H a rss ∧ rss.length ≤ 1000 ∧ (∀ r ∈ rss, b < r.length) ∧
  ∀ H' p, Same H H' → H p = none → LI H' p (boatPts rss b) → Q (.ref p) H'
theorem ok_bpt {f : Addr} {fd : FuncData} (F : Fun K "boat_points" "boat_points" sBpt f fd) : FnOk P w K mg base CX0 1 f fd ["races", "boat"] spBpt := by
  refine F.ok scBpt (fun vs H Q E h => ?_) (fun cdv A outer s H vs Q E hr h => ?_)
  · obtain ⟨a, rss, b, rfl, _⟩ := h
    rfl
  · obtain ⟨a, rss, b, rfl, ⟨as, ha, hR⟩, hn, hb, q⟩ := h
    refine ⟨_, pss_one (ps_ret (pe_lc (own := [("race", 2)]) (g := gName 2) (tt := tYes) (te := tOp (rIxL K) (tVar 2) (tVar 1)) rfl scBpt.nd (pi_list (pv 0))
          (blkOk_by (N := ["races", "boat", "race"]) (sc := defScope sBpt) (by decide +kernel)) (fun _ _ _ _ _ => pg_name (i := 2) scBpt.nd rfl (Or.inl rfl))
          (fun _ _ _ _ _ => pts_nil) (fun _ _ _ _ _ => pe_ix ix_list (pv 2) (pv 1) (fun _ _ => rfl)))), ?_⟩
    refine ⟨_, rfl, a, rfl, ⟨_, .of ha⟩, fun D nD => ?_⟩
    refine lc_list (K := K) (a := a) (xs := as.map V.ref) (fun i H' => Same H H' ∧ LI H' D ((boatPts rss b).take i)) ⟨same_upd nD, upd_same⟩ (fun i H' _ h => .of (h.1 _ _ ha)) ?_ ?_
    · rintro i x H1 hx ⟨s1, hD⟩
      obtain ⟨z, hz, rfl⟩ := map_ref_get hx
      have hi : i < rss.length := by
        rw [← hR.len]
        exact (List.getElem?_eq_some_iff.mp hz).1
      have hr : rss[i]? = some rss[i] := List.getElem?_eq_getElem hi
      have hl : b < rss[i].length := hb _ (List.getElem_mem hi)
      have e1 : (boatPts rss b)[i]? = some rss[i][b] := by
        unfold boatPts
        rw [List.getElem?_map, hr]
        show some (rss[i].getD b 0) = _
        rw [List.getD_eq_getElem?_getD, List.getElem?_eq_getElem hl]
        rfl
      refine ⟨rfl, _, rfl, _, rfl, z, _, _, _, rfl, rfl, .of (s1 _ _ (hR.at_ i _ _ hz hr)), atI_nat (int_get (List.getElem?_eq_getElem hl)), _, hD, ?_, same_write s1 nD, ?_⟩
      · rw [List.length_map, List.length_take]
        have : (boatPts rss b).length = rss.length := List.length_map ..
        exact small (by omega)
      · show (upd _ D _) D = _
        rw [upd_same, take_more e1, List.map_append]
        rfl
    · rintro H1 ⟨s1, hD⟩
      refine q H1 D s1 nD ?_
      rw [List.length_map, List.take_of_length_le (by unfold boatPts; rw [List.length_map, hR.len]; exact Nat.le_refl _)] at hD
      exact hD
/-! ### sum_without -/
theorem scSwo : FnScope ["points", "left_out"] ["points", "left_out"] (defScope sSwo) := ⟨rfl, rfl, rfl, by decide +kernel, rfl, by decide +kernel, by decide +kernel⟩
def spSwo : Sp := fun vs H Q _ => ∃ (a : Addr) (ns : List Int) (k : Nat), vs = [.ref a, .int (k : Int)] ∧ LI H a ns ∧ ns.length < 64 ∧ k ≤ ns.length ∧ ∀ H', Same H H' → Q (.int (sumW ns k)) H'
theorem ok_swo {f : Addr} {fd : FuncData} (F : Fun K "sum_without" "sum_without" sSwo f fd) (ml : mg "len" = none) (ms : mg "sum" = none) (mo : mg "sorted" = none) : FnOk P w K mg base CX0 1 f fd ["points", "left_out"] spSwo := by
  refine F.ok scSwo (fun vs H Q E h => ?_) (fun cdv A outer s H vs Q E hr h => ?_)
  · obtain ⟨a, ns, k, rfl, _⟩ := h
    rfl
  · obtain ⟨a, ns, k, rfl, ha, hn, hk, q⟩ := h
    refine ⟨_, pss_one (ps_ret (pe_callB (cr_sum rfl) (by rfl) ms (by decide +kernel) (pa_cons (pe_slice sl_list (pe_callB cr_sorted (by rfl) mo (by decide +kernel) (pa_cons (pv 0) pa_nil)) po_none
        (po_some (pe_op op_sub (pe_callB call_len_seq (by rfl) ml PySem.boot_len (pa_cons (pv 0) pa_nil)) (pv 1)))) pa_nil))), ?_⟩
    refine ⟨_, rfl, a, ns, rfl, .of ha, hn, fun ns' p pm up np => ?_⟩
    have e : ns' = asc ns := asc_is pm up
    subst e
    have s1 : Same H (upd H p (.lst ((asc ns).map V.int))) := same_upd np
    refine ⟨_, rfl, a, _, rfl, .inl (.of (s1 _ _ ha)), _, rfl, _, _, rfl, rfl, _, rfl, p, _, rfl, .of upd_same, fun p2 np2 => ?_⟩
    have e2 : cutV ((asc ns).map V.int) none (some (((ns.map V.int).length : Int) - (k : Int))) = ((asc ns).take (ns.length - k)).map V.int := by
      rw [show ((ns.map V.int).length : Int) - (k : Int) = ((ns.length - k : Nat) : Int) by rw [List.length_map]; omega, cut_take _ _ (by rw [List.length_map, asc_length]; omega), List.map_take]
    refine ⟨p2, (asc ns).take (ns.length - k), rfl, .of (upd_same.trans (congrArg (fun x => some (HO.lst x)) e2)), ?_⟩
    exact q _ (s1.trans (same_upd np2))
end
end Sail
namespace Sail
open PySem PySem.Spec PyProof.Rows L2
/-! ### a list of lists grows -/
theorem rows_ne {H : Hp} {as : List Addr} {rss : List (List Int)} {p : Addr} (hp : H p = some (.lst (as.map V.ref))) (hR : Rows H as rss) {a : Addr} (ha : a ∈ as) : a ≠ p := by
  rintro rfl
  obtain ⟨i, hi, e⟩ := List.getElem_of_mem ha
  have h1 : as[i]? = some a := by rw [List.getElem?_eq_getElem hi, e]
  have hi2 : i < rss.length := by rw [← hR.len]; exact hi
  have h2 := hR.at_ i a _ h1 (List.getElem?_eq_getElem hi2)
  rw [LI, hp] at h2
  have e2 : as.map V.ref = (rss[i]).map V.int := HO.lst.inj (Option.some.inj h2)
  cases as with
  | nil => cases ha
  | cons x r =>
    cases e3 : rss[i] with
    | nil =>
      rw [e3] at e2
      cases e2
    | cons y q =>
      rw [e3] at e2
      cases e2
theorem lr_push {H : Hp} {p q : Addr} {as : List Addr} {rss : List (List Int)} {r : List Int} (hp : H p = some (.lst (as.map V.ref))) (hR : Rows H as rss) (hq : LI H q r) (ne : q ≠ p) :
    LR (upd H p (.lst (as.map V.ref ++ [.ref q]))) p (rss ++ [r]) := by
  refine ⟨as ++ [q], ?_, ?_⟩
  · rw [upd_same, List.map_append]
    rfl
  · refine Rows.snoc ⟨hR.len, fun i a x h1 h2 => ?_⟩ ?_
    · show (upd H p _) a = _
      rw [upd_ne (rows_ne hp hR (List.mem_of_getElem? h1))]
      exact hR.at_ i a x h1 h2
    · show (upd H p _) q = _
      rw [upd_ne ne]
      exact hq
theorem with_more {os : List (List Int)} {b : Int} {i : Nat} {o : List Int} (h : os[i]? = some o) : ordersWith (os.take (i + 1)) b = ordersWith (os.take i) b ++ withIt o b := by
  unfold ordersWith
  rw [take_more h, List.flatMap_append]
  exact congrArg _ (List.flatMap_singleton ..)
theorem with_len (os : List (List Int)) (b : Int) (i : Nat) : (ordersWith (os.take i) b).length ≤ (ordersWith os b).length := by
  have e : ordersWith os b = ordersWith (os.take i) b ++ ordersWith (os.drop i) b := by
    unfold ordersWith
    rw [← List.flatMap_append, List.take_append_drop]
  rw [e, List.length_append]
  omega
theorem withIt_length (o : List Int) (b : Int) : (withIt o b).length = o.length + 1 := by
  unfold withIt
  rw [List.length_map, List.length_range]
section
variable {P : Program} {w : World} {K : PySem.W.Frag} {mg : Str → Option Value} {base : Heap}
/-! ### orders_with -/
theorem scOwi : FnScope ["orders", "boat", "found", "order", "place"] ["orders", "boat"] (defScope sOwi) := ⟨rfl, rfl, rfl, by decide +kernel, rfl, by decide +kernel, by decide +kernel⟩
def spOwi : Sp := fun vs H Q _ => ∃ (a : Addr) (os : List (List Int)) (b : Int), vs = [.ref a, .int b] ∧ LR H a os ∧ (ordersWith os b).length ≤ 1000 ∧ (∀ o ∈ os, o.length ≤ 1000) ∧
  ∀ H' p, Same H H' → H p = none → LR H' p (ordersWith os b) → Q (.ref p) H'
theorem ok_owi {f : Addr} {fd : FuncData} (F : Fun K "orders_with" "orders_with" sOwi f fd) (ml : mg "len" = none) (mr : mg "range" = none) : FnOk P w K mg base CX0 1 f fd ["orders", "boat"] spOwi := by
  refine F.ok scOwi (fun vs H Q E h => ?_) (fun cdv A outer s H vs Q E hr h => ?_)
  · obtain ⟨a, os, b, rfl, _⟩ := h
    rfl
  · obtain ⟨a, os, b, rfl, ⟨aa, ha, hA⟩, hn, ho, q⟩ := h
    refine ⟨_, pss_cons (ps_set (i := 2) scOwi.nd rfl (Or.inl rfl) (pe_lst pa_nil))
      (pss_cons (ps_for PassesOwn.never rfl (pi_list (pv 0)) (pg_name (i := 3) scOwi.nd rfl (Or.inl rfl))
        (pss_one (ps_for PassesOwn.never rfl (pi_range1 rfl mr (pa_cons (pe_op op_add (pe_callB call_len_seq (by rfl) ml PySem.boot_len (pa_cons (pv 3) pa_nil)) pe_int) pa_nil)) (pg_name (i := 4) scOwi.nd rfl (Or.inl rfl))
          (pss_one (ps_expr (pe_bm PySem.F.plainAttrs_list PySem.F.slot_list_append PySem.F.type_list_append mt_append (pv 2) (pa_cons
            (pe_op op_cat (pe_op op_cat (pe_slice sl_list (pv 3) po_none (po_some (pv 4))) (pe_lst (pa_cons (pv 1) pa_nil))) (pe_slice sl_list (pv 3) (po_some (pv 4)) po_none)) pa_nil)))))))
      (pss_one (ps_ret (pv 2)))), ?_⟩
    refine ⟨Nat.zero_le _, fun p np => ?_⟩
    have s1 : Same H (upd H p (.lst [])) := same_upd np
    refine ⟨_, rfl, a, rfl, ⟨_, .of (s1 _ _ ha)⟩, for_list (K := K) (a := a) (xs := aa.map V.ref) (fun i σ H' => ∃ y3 y4, σ = [some (.ref a), some (.int b), some (.ref p), y3, y4] ∧ Same H H' ∧ LR H' p (ordersWith (os.take i) b))
      ⟨none, none, rfl, s1, [], upd_same, Rows.nil⟩ (fun i σ H' _ ⟨_, _, _, s2, _⟩ => .of (s2 _ _ ha)) ?_ ?_⟩
    · rintro i x σ H' hx ⟨y3, y4, rfl, s2, hP⟩
      obtain ⟨oa, hoa, rfl⟩ := map_ref_get hx
      have hi : i < os.length := by
        rw [← hA.len]
        exact (List.getElem?_eq_some_iff.mp hoa).1
      obtain ⟨o, hos⟩ : ∃ o, os[i]? = some o := ⟨_, List.getElem?_eq_getElem hi⟩
      have hol : o.length ≤ 1000 := ho o (List.mem_of_getElem? hos)
      have hO : LI H oa o := hA.at_ i _ _ hoa hos
      have step := with_more (b := b) hos
      have hlen := with_len os b (i + 1)
      rw [step, List.length_append, withIt_length] at hlen
      -- for place in range(len(order) + 1)
      refine ⟨_, rfl, oa, _, rfl, .inl (.of (s2 _ _ hO)), _, _, rfl, rfl, _, rfl, ?_, ?_, ?_⟩
      · show -(2 ^ 62 : Int) ≤ ((o.map V.int).length : Int) + 1
        omega
      · show ((o.map V.int).length : Int) + 1 < 2 ^ 62
        rw [List.length_map]
        omega
      · have en : (((o.map V.int).length : Int) + 1 - 0).toNat = o.length + 1 := by
          rw [List.length_map]
          omega
        refine for_range (lo := 0) (n := _) (fun j σ H' => ∃ y4, σ = [some (.ref a), some (.int b), some (.ref p), some (.ref oa), y4] ∧ Same H H' ∧ LR H' p (ordersWith (os.take i) b ++ (withIt o b).take j)) ⟨y4, rfl, s2, ?_⟩ ?_ ?_
        · rw [List.take_zero, List.append_nil]
          exact hP
        · rintro j σ H3 hj ⟨y4, rfl, s3, as, hp3, hR3⟩
          have hj' : j < o.length + 1 := by
            have hj2 : j < (((o.map V.int).length : Int) + 1).toNat := hj
            rw [List.length_map] at hj2
            omega
          have hO3 := s3 _ _ hO
          have ej : (0 : Int) + (j : Int) = (j : Int) := Int.zero_add _
          have hw : (withIt o b)[j]? = some (putIn o b j) := by
            unfold withIt
            rw [List.getElem?_map, List.getElem?_range hj']
            rfl
          refine ⟨_, rfl, .inl ⟨rfl, _, .of hp3⟩, ?_⟩
          -- order[:place]
          refine ⟨_, rfl, _, rfl, _, rfl, oa, _, rfl, .of hO3, fun q1 n1 => ?_⟩
          rw [ej, cut_take _ _ (by rw [List.length_map]; omega)]
          have t1 := same_upd (o := .lst ((o.map V.int).take j)) n1
          -- [boat]
          refine ⟨_, rfl, (by show 1 ≤ sizeLine; decide), fun q2 n2 => ?_⟩
          have t2 := same_upd (o := .lst [V.int b]) n2
          refine ⟨q1, q2, _, _, rfl, rfl, t2 _ _ upd_same, upd_same, ?_, fun q3 n3 => ?_⟩
          · rw [List.length_take, List.length_map]
            exact Nat.le_of_lt (small (by show min j o.length + 1 ≤ 100000; omega))
          have t3 := same_upd (o := .lst ((o.map V.int).take j ++ [V.int b])) n3
          -- order[place:]
          refine ⟨_, rfl, _, rfl, _, rfl, oa, _, rfl, .of (t3 _ _ (t2 _ _ (t1 _ _ hO3))), fun q4 n4 => ?_⟩
          rw [cut_drop _ _ (by rw [List.length_map]; omega)]
          have t4 := same_upd (o := .lst ((o.map V.int).drop j)) n4
          refine ⟨q3, q4, _, _, rfl, rfl, t4 _ _ upd_same, upd_same, ?_, fun q5 n5 => ?_⟩
          · rw [List.length_append, List.length_take, List.length_drop, List.length_map]
            exact Nat.le_of_lt (small (by show min j o.length + 1 + (o.length - j) ≤ 100000; omega))
          have t5 := same_upd (o := .lst ((o.map V.int).take j ++ [V.int b] ++ (o.map V.int).drop j)) n5
          have tt := ((((t1.trans t2).trans t3).trans t4).trans t5)
          have hp5 := tt _ _ hp3
          have e5 : (o.map V.int).take j ++ [V.int b] ++ (o.map V.int).drop j = (putIn o b j).map V.int := by
            unfold putIn
            rw [List.map_append, List.map_append, List.map_take, List.map_drop]
            rfl
          refine ⟨p, _, _, rfl, rfl, hp5, ?_, ?_⟩
          · rw [List.length_map, hR3.len, List.length_append, List.length_take, withIt_length]
            exact small (by omega)
          · refine ⟨_, rfl, same_write (s3.trans tt) np, ?_⟩
            rw [take_more hw, ← List.append_assoc]
            refine lr_push hp5 (hR3.same tt) ?_ ?_
            · show upd _ q5 _ q5 = _
              rw [upd_same, e5]
            · exact (ne_of_none (t4 _ _ (t3 _ _ (t2 _ _ (t1 _ _ hp3)))) n5).symm
        · rintro σ H3 ⟨y4, rfl, s3, hP3⟩
          refine ⟨_, _, rfl, s3, ?_⟩
          have hle : (withIt o b).length ≤ (((o.map V.int).length : Int) + 1).toNat := by
            rw [withIt_length, List.length_map]
            omega
          rw [List.take_of_length_le hle] at hP3
          rw [step]
          exact hP3
    · rintro σ H' ⟨y3, y4, rfl, s2, hP⟩
      rw [List.length_map, hA.len, List.take_length] at hP
      exact ⟨_, rfl, q H' p s2 np hP⟩
end
end Sail
namespace Sail
open PySem PySem.Spec PyProof.Rows L2
theorem allOrders_len_fin : ∀ n : Fin 6, (allOrders n.val).length ≤ 120 := by decide +kernel
theorem allOrders_len {n : Nat} (h : n ≤ 5) : (allOrders n).length ≤ 120 := allOrders_len_fin ⟨n, by omega⟩
theorem allOrders_each {n : Nat} {o : List Int} (h : o ∈ allOrders n) : o.length = n := by
  have e := ((mem_allOrders n o).mp h).length_eq
  rw [ints_length, List.length_range] at e
  exact e
/-! ### the first place of an item -/
theorem place_at : ∀ (o : List Int) (b : Int), b ∈ o → o[placeOf o b]? = some b
  | [], _, h => by cases h
  | x :: o, b, h => by
    unfold placeOf
    by_cases e : x = b
    · rw [List.takeWhile_cons_of_neg (by simp [e]), e]
      rfl
    · rw [List.takeWhile_cons_of_pos (by simp [e]), List.length_cons, List.getElem?_cons_succ]
      refine place_at o b ?_
      rcases List.mem_cons.mp h with z | z
      · exact absurd z.symm e
      · exact z
theorem place_first : ∀ (o : List Int) (b : Int) (m : Nat) (z : Int), m < placeOf o b → o[m]? = some z → z ≠ b
  | [], _, _, _, h, _ => by cases h
  | x :: o, b, m, z, h, hz => by
    unfold placeOf at h
    by_cases e : x = b
    · rw [List.takeWhile_cons_of_neg (by simp [e])] at h
      cases h
    · rw [List.takeWhile_cons_of_pos (by simp [e]), List.length_cons] at h
      cases m with
      | zero =>
        have e2 : x = z := Option.some.inj hz
        rw [← e2]
        exact e
      | succ m =>
        rw [List.getElem?_cons_succ] at hz
        exact place_first o b m z (by unfold placeOf; omega) hz
section
variable {P : Program} {w : World} {K : PySem.W.Frag} {mg : Str → Option Value} {base : Heap}
/-! ### all_orders -/
theorem scAor : FnScope ["many", "found", "boat"] ["many"] (defScope sAor) := ⟨rfl, rfl, rfl, by decide +kernel, rfl, by decide +kernel, by decide +kernel⟩
def spAor : Sp := fun vs H Q _ => ∃ n : Nat, vs = [.int (n : Int)] ∧ n ≤ 5 ∧ ∀ H' p, Same H H' → H p = none → LR H' p (allOrders n) → Q (.ref p) H'
theorem ok_aor {f f1 : Addr} {fd fd1 : FuncData} (F : Fun K "all_orders" "all_orders" sAor f fd) (mr : mg "range" = none) (F1 : Fun K "orders_with" "orders_with" sOwi f1 fd1) (b1 : Binds K fd1 ["orders", "boat"] []) (g1 : mg "orders_with" = some (.ref f1))
    (G1 : FnOk P w K mg base CX0 1 f1 fd1 ["orders", "boat"] spOwi) : FnOk P w K mg base CX0 2 f fd ["many"] spAor := by
  refine F.ok scAor (fun vs H Q E h => ?_) (fun cdv A outer s H vs Q E hr h => ?_)
  · obtain ⟨n, rfl, _⟩ := h
    rfl
  · obtain ⟨n, rfl, hn, q⟩ := h
    refine ⟨_, pss_cons (ps_set (i := 1) scAor.nd rfl (Or.inl rfl) (pe_lst (pa_cons (pe_lst pa_nil) pa_nil)))
      (pss_cons (ps_for PassesOwn.never rfl (pi_range1 rfl mr (pa_cons (pv 0) pa_nil)) (pg_name (i := 2) scAor.nd rfl (Or.inl rfl))
        (pss_one (ps_set (i := 1) scAor.nd rfl (Or.inl rfl) (pe_call G1 hr (by rfl) g1 F1.kp b1 .nil pass0 (pa_cons (pv 1) (pa_cons (pv 2) pa_nil))))))
      (pss_one (ps_ret (pv 1)))), ?_⟩
    refine ⟨Nat.zero_le _, fun e ne => ?_⟩
    refine ⟨(by show 1 ≤ sizeLine; decide), fun p np => ?_⟩
    have s0 : Same H (upd H e (.lst [])) := same_upd ne
    have s1 := s0.trans (same_upd (o := .lst [V.ref e]) np)
    have np' : H p = none := s0.free np
    refine ⟨_, rfl, _, rfl, by omega, by omega, for_range (lo := 0) (n := _) (fun i σ H' => ∃ r y2, σ = [some (.int (n : Int)), some (.ref r), y2] ∧ Same H H' ∧ H r = none ∧ LR H' r (allOrders i)) ⟨p, none, rfl, s1, np', ?_⟩ ?_ ?_⟩
    · refine ⟨[e], upd_same, rfl, fun i a r h1 h2 => ?_⟩
      cases i with
      | zero =>
        have e1 : e = a := Option.some.inj h1
        have e2 : [] = r := Option.some.inj h2
        subst e1 e2
        exact keep_ne upd_same np
      | succ i => simp at h1
    · rintro i σ H1 hi ⟨r, y2, rfl, s2, nr, hr1⟩
      have hi' : i < n := hi
      have ei : (0 : Int) + (i : Int) = (i : Int) := Int.zero_add _
      refine ⟨_, rfl, _, rfl, r, allOrders i, (i : Int), ?_, hr1, ?_, fun o ho => ?_, fun H2 p2 s3 np2 hp2 => ?_⟩
      · rw [ei]
        rfl
      · rw [← allOrders_succ]
        have := allOrders_len (n := i + 1) (by omega)
        omega
      · rw [allOrders_each ho]
        omega
      · refine ⟨p2, some (.int (0 + (i : Int))), rfl, s2.trans s3, s2.free np2, ?_⟩
        rw [allOrders_succ]
        exact hp2
    · rintro σ H1 ⟨r, y2, rfl, s2, nr, hr1⟩
      exact ⟨_, rfl, q H1 r s2 nr hr1⟩
/-! ### sums_behind -/
theorem scSbe : FnScope ["races", "order", "left_out", "found", "boat", "more"] ["races", "order", "left_out"] (defScope sSbe) := ⟨rfl, rfl, rfl, by decide +kernel, rfl, by decide +kernel, by decide +kernel⟩
def spSbe : Sp := fun vs H Q _ => ∃ (a oa : Addr) (k : Nat) (rss : List (List Int)) (o : List Int), vs = [.ref a, .ref oa, .int (k : Int)] ∧ LR H a rss ∧ LI H oa o ∧ rss.length ≤ 60 ∧ o.length ≤ 1000 ∧ (∀ r ∈ rss, o.length ≤ r.length) ∧
  (∀ b : Nat, b < o.length → (b : Int) ∈ o) ∧ k ≤ rss.length + 1 ∧ ∀ H' p, Same H H' → H p = none → LI H' p (sumsB rss o k) → Q (.ref p) H'
theorem ok_sbe {f f1 f2 : Addr} {fd fd1 fd2 : FuncData} (F : Fun K "sums_behind" "sums_behind" sSbe f fd) (ml : mg "len" = none) (mr : mg "range" = none)
    (F1 : Fun K "boat_points" "boat_points" sBpt f1 fd1) (b1 : Binds K fd1 ["races", "boat"] []) (g1 : mg "boat_points" = some (.ref f1)) (G1 : FnOk P w K mg base CX0 1 f1 fd1 ["races", "boat"] spBpt)
    (F2 : Fun K "sum_without" "sum_without" sSwo f2 fd2) (b2 : Binds K fd2 ["points", "left_out"] []) (g2 : mg "sum_without" = some (.ref f2)) (G2 : FnOk P w K mg base CX0 1 f2 fd2 ["points", "left_out"] spSwo) :
    FnOk P w K mg base CX0 2 f fd ["races", "order", "left_out"] spSbe := by
  refine F.ok scSbe (fun vs H Q E h => ?_) (fun cdv A outer s H vs Q E hr h => ?_)
  · obtain ⟨a, oa, k, rss, o, rfl, _⟩ := h
    rfl
  · obtain ⟨a, oa, k, rss, o, rfl, ha, ho, hn, hl, hrow, hmem, hk, q⟩ := h
    refine ⟨_, pss_cons (ps_set (i := 3) scSbe.nd rfl (Or.inl rfl) (pe_lst pa_nil))
      (pss_cons (ps_for PassesOwn.never rfl (pi_range1 rfl mr (pa_cons (pe_callB call_len_seq (by rfl) ml PySem.boot_len (pa_cons (pv 1) pa_nil)) pa_nil)) (pg_name (i := 4) scSbe.nd rfl (Or.inl rfl))
        (pss_cons (ps_set (i := 5) scSbe.nd rfl (Or.inl rfl) (pe_op op_mul pe_int (pe_op op_add (pe_bm PySem.F.plainAttrs_list PySem.F.slot_list_index PySem.F.type_list_index mt_index (pv 1) (pa_cons (pv 4) pa_nil)) pe_int)))
        (pss_one (ps_expr (pe_bm PySem.F.plainAttrs_list PySem.F.slot_list_append PySem.F.type_list_append mt_append (pv 3) (pa_cons
          (pe_call G2 hr (by rfl) g2 F2.kp b2 .nil pass0 (pa_cons (pe_op op_cat (pe_call G1 hr (by rfl) g1 F1.kp b1 .nil pass0 (pa_cons (pv 0) (pa_cons (pv 4) pa_nil))) (pe_lst (pa_cons (pv 5) pa_nil))) (pa_cons (pv 2) pa_nil))) pa_nil))))))
      (pss_one (ps_ret (pv 3)))), ?_⟩
    refine ⟨Nat.zero_le _, fun p np => ?_⟩
    have s1 : Same H (upd H p (.lst [])) := same_upd np
    have hsl : (sumsB rss o k).length = o.length := by
      unfold sumsB
      rw [List.length_map, List.length_range]
    refine ⟨_, rfl, oa, _, rfl, .inl (.of (s1 _ _ ho)), _, rfl, ?_, ?_, for_range (lo := 0) (n := _) (fun i σ H' => ∃ y4 y5, σ = [some (.ref a), some (.ref oa), some (.int (k : Int)), some (.ref p), y4, y5] ∧ Same H H' ∧ LI H' p ((sumsB rss o k).take i)) ⟨none, none, rfl, s1, upd_same⟩ ?_ ?_⟩
    · omega
    · rw [List.length_map]
      omega
    · rintro i σ H1 hi ⟨y4, y5, rfl, s2, hp⟩
      have hi' : i < o.length := by
        have hi2 : i < (((o.map V.int).length : Int)).toNat := hi
        rw [List.length_map] at hi2
        omega
      have ei : (0 : Int) + (i : Int) = (i : Int) := Int.zero_add _
      have ho1 := s2 _ _ ho
      have hs : (sumsB rss o k)[i]? = some (sumB rss o k i) := by
        unfold sumsB
        rw [List.getElem?_map, List.getElem?_range hi']
        rfl
      rw [ei]
      refine ⟨_, rfl, .inl ⟨rfl, _, .of ho1⟩, _, rfl, oa, o.map V.int, .int (i : Int), placeOf o (i : Int), .int (i : Int), rfl, rfl, .of ho1, rfl, ?_, int_get (place_at o _ (hmem i hi')), ?_, ?_, ?_⟩
      · rw [List.all_map]
        exact List.all_eq_true.mpr fun _ _ => rfl
      · show ((i : Int) == (i : Int)) = true
        exact beq_self_eq_true _
      · intro m z hm hz
        obtain ⟨z', hz', rfl⟩ := map_int_get hz
        show (z' == (i : Int)) = false
        exact beq_eq_false_iff_ne.mpr (place_first o _ m z' hm hz')
      · refine ⟨_, _, rfl, rfl, _, _, rfl, rfl, .inl ⟨by decide, by decide⟩, ?_⟩
        refine ⟨_, rfl, .inl ⟨rfl, _, .of hp⟩, ?_⟩
        refine ⟨_, rfl, _, rfl, a, rss, i, rfl, ha.same s2, by omega, fun r hr => Nat.lt_of_lt_of_le hi' (hrow r hr), fun H2 p2 s3 np2 hp2 => ?_⟩
        refine ⟨_, rfl, (by show 1 ≤ sizeLine; decide), fun p3 np3 => ?_⟩
        have t3 := same_upd (o := .lst [V.int (2 * ((placeOf o (i : Int) : Int) + 1))]) np3
        have hbl : (boatPts rss i).length = rss.length := List.length_map ..
        refine ⟨p2, p3, _, _, rfl, rfl, t3 _ _ hp2, upd_same, ?_, fun p4 np4 => ?_⟩
        · rw [List.length_map, hbl]
          exact Nat.le_of_lt (small (by show rss.length + 1 ≤ 100000; omega))
        have t4 := same_upd (o := .lst ((boatPts rss i).map V.int ++ [V.int (2 * ((placeOf o (i : Int) : Int) + 1))])) np4
        refine ⟨_, rfl, p4, boatPts rss i ++ [2 * ((placeOf o (i : Int) : Int) + 1)], k, rfl, ?_, ?_, ?_, fun H5 s5 => ?_⟩
        · show upd _ p4 _ p4 = _
          rw [upd_same, List.map_append]
          rfl
        · rw [List.length_append, hbl]
          show rss.length + 1 < 64
          omega
        · rw [List.length_append, hbl]
          exact hk
        · have tt : Same H1 H5 := ((s3.trans t3).trans t4).trans s5
          refine ⟨p, _, _, rfl, rfl, tt _ _ hp, ?_, ?_⟩
          · rw [List.length_map, List.length_take]
            exact small (by omega)
          · refine ⟨_, _, rfl, same_write (s2.trans tt) np, ?_⟩
            show upd _ p _ p = _
            rw [upd_same, take_more hs, List.map_append]
            rfl
    · rintro σ H1 ⟨y4, y5, rfl, s2, hp⟩
      refine ⟨_, rfl, q H1 p s2 np ?_⟩
      have hle : (sumsB rss o k).length ≤ (((o.map V.int).length : Int)).toNat := by
        rw [hsl, List.length_map]
        omega
      have hp' : LI H1 p ((sumsB rss o k).take (((o.map V.int).length : Int)).toNat) := hp
      rw [List.take_of_length_le hle] at hp'
      exact hp'
/-! ### does_win, is_alone -/
theorem scDwi : FnScope ["sums", "boat"] ["sums", "boat"] (defScope sDwi) := ⟨rfl, rfl, rfl, by decide +kernel, rfl, by decide +kernel, by decide +kernel⟩
def spDwi : Sp := fun vs H Q _ => ∃ (a : Addr) (ns : List Int) (b : Nat), vs = [.ref a, .int (b : Int)] ∧ LI H a ns ∧ b < ns.length ∧ Q (.bl (wins ns b)) H
theorem get_D {ns : List Int} {b : Nat} (h : b < ns.length) : ns[b]? = some (ns.getD b 0) := by
  rw [List.getD_eq_getElem?_getD, List.getElem?_eq_getElem h]
  rfl
theorem ok_dwi {f : Addr} {fd : FuncData} (F : Fun K "does_win" "does_win" sDwi f fd) (mm : mg "min" = none) : FnOk P w K mg base CX0 1 f fd ["sums", "boat"] spDwi := by
  refine F.ok scDwi (fun vs H Q E h => ?_) (fun cdv A outer s H vs Q E hr h => ?_)
  · obtain ⟨a, ns, b, rfl, _⟩ := h
    rfl
  · obtain ⟨a, ns, b, rfl, ha, hb, q⟩ := h
    refine ⟨_, pss_one (ps_ret (pe_cmpR op_eq (pe_ix ix_list (pv 0) (pv 1) (fun _ _ => rfl)) (pe_callB (cr_min rfl) (by rfl) mm (by decide +kernel) (pa_cons (pv 0) pa_nil)) (nomark _))), ?_⟩
    refine ⟨_, rfl, _, rfl, a, _, _, _, rfl, rfl, .of ha, atI_nat (int_get (get_D hb)), _, rfl, a, ns, rfl, .of ha, by omega, fun m hm hle => ⟨rfl, ?_⟩⟩
    have e : decide (V.int (ns.getD b 0) = V.int m) = wins ns b := by
      unfold wins
      rw [Bool.eq_iff_iff, decide_eq_true_iff, List.all_eq_true]
      constructor
      · intro z x hx
        rw [V.int.inj z]
        exact decide_eq_true (hle x hx)
      · intro z
        have h1 := of_decide_eq_true (z m hm)
        have h2 := hle _ (List.mem_of_getElem? (get_D hb))
        rw [Int.le_antisymm h1 h2]
    show Q (.bl (decide (V.int (ns.getD b 0) = V.int m))) H
    rw [e]
    exact q
theorem scIal : FnScope ["sums", "boat"] ["sums", "boat"] (defScope sIal) := ⟨rfl, rfl, rfl, by decide +kernel, rfl, by decide +kernel, by decide +kernel⟩
def spIal : Sp := fun vs H Q _ => ∃ (a : Addr) (ns : List Int) (b : Nat), vs = [.ref a, .int (b : Int)] ∧ LI H a ns ∧ b < ns.length ∧ Q (.bl (alone ns b)) H
theorem ok_ial {f f1 : Addr} {fd fd1 : FuncData} (F : Fun K "is_alone" "is_alone" sIal f fd) (F1 : Fun K "does_win" "does_win" sDwi f1 fd1) (b1 : Binds K fd1 ["sums", "boat"] []) (g1 : mg "does_win" = some (.ref f1))
    (G1 : FnOk P w K mg base CX0 1 f1 fd1 ["sums", "boat"] spDwi) : FnOk P w K mg base CX0 2 f fd ["sums", "boat"] spIal := by
  refine F.ok scIal (fun vs H Q E h => ?_) (fun cdv A outer s H vs Q E hr h => ?_)
  · obtain ⟨a, ns, b, rfl, _⟩ := h
    rfl
  · obtain ⟨a, ns, b, rfl, ha, hb, q⟩ := h
    refine ⟨_, pss_one (ps_ret (pe_and (pe_call G1 hr (by rfl) g1 F1.kp b1 .nil pass0 (pa_cons (pv 0) (pa_cons (pv 1) pa_nil)))
      (pe_one (pe_cmpR op_eq (pe_bm PySem.F.plainAttrs_list PySem.F.slot_list_count PySem.F.type_list_count mt_lcount (pv 0) (pa_cons (pe_ix ix_list (pv 0) (pv 1) (fun _ _ => rfl)) pa_nil)) pe_int (nomark _))))), ?_⟩
    refine ⟨_, rfl, _, rfl, a, ns, b, rfl, ha, hb, _, rfl, ite2 (fun c => ?_) (fun c => ?_)⟩
    · refine ⟨_, rfl, .inl ⟨rfl, _, .of ha⟩, _, rfl, _, rfl, a, _, _, _, rfl, rfl, .of ha, atI_nat (int_get (get_D hb)), a, ns, ns.getD b 0, rfl, rfl, .of ha, rfl, ?_⟩
      have e : decide (V.int ((ns.count (ns.getD b 0) : Nat) : Int) = V.int 1) = alone ns b := by
        unfold alone
        rw [c, Bool.true_and]
        refine decide_eq_decide.mpr ⟨fun z => ?_, fun z => by rw [z]; rfl⟩
        have := V.int.inj z
        omega
      show Q (.bl (decide (V.int ((ns.count (ns.getD b 0) : Nat) : Int) = V.int 1))) H
      rw [e]
      exact q
    · have e : alone ns b = false := by
        unfold alone
        rw [Bool.eq_false_iff.mpr c, Bool.false_and]
      show Q (.bl false) H
      rw [← e]
      exact q
end
end Sail
namespace Sail
open PySem PySem.Spec PyProof.Rows L2
section
variable {P : Program} {w : World} {K : PySem.W.Frag} {mg : Str → Option Value} {base : Heap}
/-! ### chance_of -/
theorem scCof : FnScope ["all_sums", "boat", "sums"] ["all_sums", "boat"] (defScope sCof) := ⟨rfl, rfl, rfl, by decide +kernel, rfl, by decide +kernel, by decide +kernel⟩
def spCof : Sp := fun vs H Q _ => ∃ (a : Addr) (rss : List (List Int)) (b : Nat), vs = [.ref a, .int (b : Int)] ∧ LR H a rss ∧ rss.length ≤ 1000 ∧ (∀ r ∈ rss, b < r.length) ∧ ∀ H', Same H H' → Q (.int (chance rss b)) H'
theorem ok_cof {f f1 f2 : Addr} {fd fd1 fd2 : FuncData} {t0 t1 t2 : Tok} (F : Fun K "chance_of" "chance_of" sCof f fd) (ma : mg "all" = none) (my : mg "any" = none) (k0 : mg "MAY_NOT" = some (.int 0 t0)) (k1 : mg "MAY" = some (.int 1 t1)) (k2 : mg "SURE" = some (.int 2 t2))
    (F1 : Fun K "does_win" "does_win" sDwi f1 fd1) (b1 : Binds K fd1 ["sums", "boat"] []) (g1 : mg "does_win" = some (.ref f1)) (G1 : FnOk P w K mg base CX0 1 f1 fd1 ["sums", "boat"] spDwi)
    (F2 : Fun K "is_alone" "is_alone" sIal f2 fd2) (b2 : Binds K fd2 ["sums", "boat"] []) (g2 : mg "is_alone" = some (.ref f2)) (G2 : FnOk P w K mg base CX0 2 f2 fd2 ["sums", "boat"] spIal) :
    FnOk P w K mg base CX0 3 f fd ["all_sums", "boat"] spCof := by
  refine F.ok scCof (fun vs H Q E h => ?_) (fun cdv A outer s H vs Q E hr h => ?_)
  · obtain ⟨a, rss, b, rfl, _⟩ := h
    rfl
  · obtain ⟨a, rss, b, rfl, ⟨as, ha, hR⟩, hn, hrow, q⟩ := h
    have hr1 : Room 1 _ := hr.mono (by decide)
    refine ⟨_, pss_cons (ps_if (pt_val (pe_callB (cr_all rfl) (by rfl) ma (by decide +kernel) (pa_cons
        (pe_lc (own := [("sums", 2)]) (g := gName 2) (tt := tYes) (te := tCall spIal [] E0 (tCons (tVar 2) (tCons (tVar 1) tNil))) rfl scCof.nd (pi_list (pv 0))
          (blkOk_by (N := ["all_sums", "boat", "sums"]) (sc := defScope sCof) (by decide +kernel)) (fun _ _ _ _ _ => pg_name (i := 2) scCof.nd rfl (Or.inl rfl))
          (fun _ _ _ _ _ => pts_nil) (fun _ _ _ _ _ => pe_call G2 hr (by rfl) g2 F2.kp b2 .nil pass0 (pa_cons (pv 2) (pa_cons (pv 1) pa_nil)))) pa_nil))) (pss_one (ps_ret (pgi k2))) pss_nil)
      (pss_cons (ps_if (pt_val (pe_callB (cr_any rfl) (by rfl) my (by decide +kernel) (pa_cons
        (pe_lc (own := [("sums", 2)]) (g := gName 2) (tt := tYes) (te := tCall spDwi [] E0 (tCons (tVar 2) (tCons (tVar 1) tNil))) rfl scCof.nd (pi_list (pv 0))
          (blkOk_by (N := ["all_sums", "boat", "sums"]) (sc := defScope sCof) (by decide +kernel)) (fun _ _ _ _ _ => pg_name (i := 2) scCof.nd rfl (Or.inl rfl))
          (fun _ _ _ _ _ => pts_nil) (fun _ _ _ _ _ => pe_call G1 hr1 (by rfl) g1 F1.kp b1 .nil pass0 (pa_cons (pv 2) (pa_cons (pv 1) pa_nil)))) pa_nil))) (pss_one (ps_ret (pgi k1))) pss_nil)
      (pss_one (ps_ret (pgi k0)))), ?_⟩
    have bools : ∀ (t : List Int → Bool) (i : Nat) (r : List Int), rss[i]? = some r → (((rss.map t).take (i + 1)).map V.bl) = ((rss.map t).take i).map V.bl ++ [.bl (t r)] := by
      intro t i r h
      rw [take_more (x := t r) (by rw [List.getElem?_map, h]; rfl), List.map_append]
      rfl
    have short : ∀ (t : List Int → Bool) (i : Nat), (((rss.map t).take i).map V.bl).length < sizeLine := by
      intro t i
      rw [List.length_map, List.length_take, List.length_map]
      exact small (by omega)
    refine ⟨_, rfl, a, rfl, ⟨_, .of ha⟩, fun D nD => ?_⟩
    refine lc_list (K := K) (a := a) (xs := as.map V.ref) (fun i H' => Same H H' ∧ H' D = some (.lst (((rss.map fun x => alone x b).take i).map V.bl))) ⟨same_upd nD, upd_same⟩ (fun i H' _ h => .of (h.1 _ _ ha)) ?_ ?_
    · rintro i x H1 hx ⟨s1, hD⟩
      obtain ⟨z, hz, rfl⟩ := map_ref_get hx
      have hi : i < rss.length := by
        rw [← hR.len]
        exact (List.getElem?_eq_some_iff.mp hz).1
      obtain ⟨r, hr2⟩ : ∃ r, rss[i]? = some r := ⟨_, List.getElem?_eq_getElem hi⟩
      refine ⟨rfl, _, rfl, _, rfl, z, r, b, rfl, s1 _ _ (hR.at_ i _ _ hz hr2), hrow r (List.mem_of_getElem? hr2), _, hD, short _ i, same_write s1 nD, ?_⟩
      rw [upd_same, bools _ i r hr2]
    · rintro H1 ⟨s1, hD⟩
      rw [List.length_map, List.take_of_length_le (by rw [List.length_map, hR.len]; exact Nat.le_refl _)] at hD
      refine ⟨D, _, rfl, .of hD, _, rfl, ite2 (fun c => ?_) (fun c => ?_)⟩
      · have e : chance rss b = 2 := by
          unfold chance
          rw [if_pos]
          rw [List.all_map] at c
          exact c
        exact ret_eq e (q H1 s1)
      · have c' : ¬ (rss.all fun x => alone x b) = true := fun z => c (by rw [List.all_map]; exact z)
        refine ⟨_, rfl, a, rfl, ⟨_, .of (s1 _ _ ha)⟩, fun D2 nD2 => ?_⟩
        have nD2' := s1.free nD2
        refine lc_list (K := K) (a := a) (xs := as.map V.ref) (fun i H' => Same H H' ∧ H' D2 = some (.lst (((rss.map fun x => wins x b).take i).map V.bl))) ⟨s1.trans (same_upd nD2), upd_same⟩ (fun i H' _ h => .of (h.1 _ _ ha)) ?_ ?_
        · rintro i x H2 hx ⟨s2, hD2⟩
          obtain ⟨z, hz, rfl⟩ := map_ref_get hx
          have hi : i < rss.length := by
            rw [← hR.len]
            exact (List.getElem?_eq_some_iff.mp hz).1
          obtain ⟨r, hr2⟩ : ∃ r, rss[i]? = some r := ⟨_, List.getElem?_eq_getElem hi⟩
          refine ⟨rfl, _, rfl, _, rfl, z, r, b, rfl, s2 _ _ (hR.at_ i _ _ hz hr2), hrow r (List.mem_of_getElem? hr2), _, hD2, short _ i, same_write s2 nD2', ?_⟩
          rw [upd_same, bools _ i r hr2]
        · rintro H2 ⟨s2, hD2⟩
          rw [List.length_map, List.take_of_length_le (by rw [List.length_map, hR.len]; exact Nat.le_refl _)] at hD2
          refine ⟨D2, _, rfl, .of hD2, _, rfl, ite2 (fun c2 => ?_) (fun c2 => ?_)⟩
          · have e : chance rss b = 1 := by
              unfold chance
              rw [if_neg c', if_pos]
              rw [List.any_map] at c2
              exact c2
            exact ret_eq e (q H2 s2)
          · have c2' : ¬ (rss.any fun x => wins x b) = true := fun z => c2 (by rw [List.any_map]; exact z)
            have e : chance rss b = 0 := by
              unfold chance
              rw [if_neg c', if_neg c2']
            exact ret_eq e (q H2 s2)
/-! ### chances_told -/
theorem scCto : FnScope ["races", "many", "left_out", "all_sums", "chances", "order", "boat", "chance"] ["races", "many", "left_out"] (defScope sCto) := ⟨rfl, rfl, rfl, by decide +kernel, rfl, by decide +kernel, by decide +kernel⟩
def spCto : Sp := fun vs H Q _ => ∃ (a : Addr) (n k : Nat) (rss : List (List Int)), vs = [.ref a, .int (n : Int), .int (k : Int)] ∧ LR H a rss ∧ rss.length ≤ 60 ∧ n ≤ 5 ∧ (∀ r ∈ rss, r.length = n) ∧ k ≤ rss.length + 1 ∧
  ∀ H' p, Same H H' → H p = none → LI H' p (chancesT rss n k) → Q (.ref p) H'
theorem ok_cto {f f1 f2 f3 : Addr} {fd fd1 fd2 fd3 : FuncData} {t0 : Tok} (F : Fun K "chances_told" "chances_told" sCto f fd) (ml : mg "len" = none) (mr : mg "range" = none) (k0 : mg "MAY_NOT" = some (.int 0 t0))
    (F1 : Fun K "all_orders" "all_orders" sAor f1 fd1) (b1 : Binds K fd1 ["many"] []) (g1 : mg "all_orders" = some (.ref f1)) (G1 : FnOk P w K mg base CX0 2 f1 fd1 ["many"] spAor)
    (F2 : Fun K "sums_behind" "sums_behind" sSbe f2 fd2) (b2 : Binds K fd2 ["races", "order", "left_out"] []) (g2 : mg "sums_behind" = some (.ref f2)) (G2 : FnOk P w K mg base CX0 2 f2 fd2 ["races", "order", "left_out"] spSbe)
    (F3 : Fun K "chance_of" "chance_of" sCof f3 fd3) (b3 : Binds K fd3 ["all_sums", "boat"] []) (g3 : mg "chance_of" = some (.ref f3)) (G3 : FnOk P w K mg base CX0 3 f3 fd3 ["all_sums", "boat"] spCof) :
    FnOk P w K mg base CX0 4 f fd ["races", "many", "left_out"] spCto := by
  refine F.ok scCto (fun vs H Q E h => ?_) (fun cdv A outer s H vs Q E hr h => ?_)
  · obtain ⟨a, n, k, rss, rfl, _⟩ := h
    rfl
  · obtain ⟨a, n, k, rss, rfl, ha, hn, h5, hrow, hk, q⟩ := h
    have hr2 : Room 2 _ := hr.mono (by decide)
    refine ⟨_, pss_cons (ps_set (i := 3) scCto.nd rfl (Or.inr rfl)
        (pe_lc (own := [("order", 5)]) (g := gName 5) (tt := tYes) (te := tCall spSbe [] E0 (tCons (tVar 0) (tCons (tVar 5) (tCons (tVar 2) tNil)))) rfl scCto.nd (pi_list (pe_call G1 hr2 (by rfl) g1 F1.kp b1 .nil pass0 (pa_cons (pv 1) pa_nil)))
          (blkOk_by (N := ["races", "many", "left_out", "all_sums", "chances", "order", "boat", "chance"]) (sc := defScope sCto) (by decide +kernel)) (fun _ _ _ _ _ => pg_name (i := 5) scCto.nd rfl (Or.inl rfl))
          (fun _ _ _ _ _ => pts_nil) (fun _ _ _ _ _ => pe_call G2 hr2 (by rfl) g2 F2.kp b2 .nil pass0 (pa_cons (pv 0) (pa_cons (pv 5) (pa_cons (pv 2) pa_nil))))))
      (pss_cons (ps_setLc (i := 4) (own := [("boat", 6)]) (g := gName 6) (tt := tYes) (te := tCall spCof [] E0 (tCons (tVar 3) (tCons (tVar 6) tNil))) rfl scCto.nd rfl rfl (sw_true rfl rfl rfl (by decide +kernel)) (pi_range1 rfl mr (pa_cons (pv 1) pa_nil))
          (blkOk_by (N := ["races", "many", "left_out", "all_sums", "chances", "order", "boat", "chance"]) (sc := defScope sCto) (by decide +kernel)) (fun _ _ _ _ _ => pg_name (i := 6) scCto.nd rfl (Or.inl rfl))
          (fun _ _ _ _ _ => pts_nil) (fun _ _ _ _ _ => pe_call G3 hr (by rfl) g3 F3.kp b3 .nil pass0 (pa_cons (pv 3) (pa_cons (pv 6) pa_nil))))
      (pss_one (ps_ret (pe_op op_cat (pe_lst (pa_cons (pe_callB call_len_seq (by rfl) ml PySem.boot_len (pa_cons
        (pe_lc (own := [("chance", 7)]) (g := gName 7) (tt := tTest (tOp rNe (tVar 7) (tC (.int 0)))) (te := tVar 7) rfl scCto.nd (pi_list (pv 4))
          (blkOk_by (N := ["races", "many", "left_out", "all_sums", "chances", "order", "boat", "chance"]) (sc := defScope sCto) (by decide +kernel)) (fun _ _ _ _ _ => pg_name (i := 7) scCto.nd rfl (Or.inl rfl))
          (fun _ _ _ _ _ => pts_one (pt_cmpR op_ne (pv 7) (pgi k0) (nomark _))) (fun _ _ _ _ _ => pv 7)) pa_nil)) pa_nil)) (pv 4))))), ?_⟩
    -- all_sums
    have hsl : (allSums rss n k).length ≤ 120 := by
      unfold allSums
      rw [List.length_map]
      exact allOrders_len h5
    have hsr : ∀ r ∈ allSums rss n k, r.length = n := by
      intro r hr
      obtain ⟨o, ho, rfl⟩ := List.mem_map.mp hr
      unfold sumsB
      rw [List.length_map, List.length_range, allOrders_each ho]
    refine ⟨_, rfl, n, rfl, h5, fun H1 p s1 np hp => ?_⟩
    obtain ⟨as, hpl, hR⟩ := hp
    refine ⟨p, rfl, ⟨_, .of hpl⟩, fun D nD => ?_⟩
    have nD' := s1.free nD
    refine lc_list (K := K) (a := p) (xs := as.map V.ref) (fun i H' => Same H1 H' ∧ LR H' D ((allSums rss n k).take i)) ⟨same_upd nD, [], upd_same, Rows.nil⟩ (fun i H' _ h => .of (h.1 _ _ hpl)) ?_ ?_
    · rintro i x H2 hx ⟨s2, ds, hD, hDR⟩
      obtain ⟨oa, hoa, rfl⟩ := map_ref_get hx
      have hi : i < (allOrders n).length := by
        rw [← hR.len]
        exact (List.getElem?_eq_some_iff.mp hoa).1
      obtain ⟨o, ho⟩ : ∃ o, (allOrders n)[i]? = some o := ⟨_, List.getElem?_eq_getElem hi⟩
      have hom := List.mem_of_getElem? ho
      have hol := allOrders_each hom
      have hss : (allSums rss n k)[i]? = some (sumsB rss o k) := by
        unfold allSums
        rw [List.getElem?_map, ho]
        rfl
      refine ⟨rfl, _, rfl, _, rfl, _, rfl, a, oa, k, rss, o, rfl, (ha.same s1).same s2, s2 _ _ (hR.at_ i _ _ hoa ho), hn, by omega, fun r hr => by rw [hrow r hr]; omega, fun b hb => ?_, hk, fun H3 p3 s3 np3 hp3 => ?_⟩
      · exact ((mem_allOrders n o).mp hom).mem_iff.mpr (List.mem_map.mpr ⟨b, List.mem_range.mpr (by omega), rfl⟩)
      · refine ⟨_, s3 _ _ hD, ?_, same_write (s2.trans s3) nD, ?_⟩
        · rw [List.length_map, hDR.len, List.length_take]
          exact small (by omega)
        · rw [take_more hss]
          exact lr_push (s3 _ _ hD) (hDR.same s3) hp3 (ne_of_none hD np3).symm
    · rintro H2 ⟨s2, hD⟩
      rw [List.length_map, hR.len, show (allOrders n).length = (allSums rss n k).length by unfold allSums; rw [List.length_map], List.take_length] at hD
      -- chances
      refine ⟨_, rfl, _, rfl, by omega, by omega, fun D2 nD2 => ?_⟩
      have s12 := s1.trans s2
      have nD2' := s12.free nD2
      have hcl : (chancesL rss n k).length = n := by
        unfold chancesL
        rw [List.length_map, List.length_range]
      refine lc_range (lo := 0) (n := _) (fun i H' => Same H2 H' ∧ LI H' D2 ((chancesL rss n k).take i)) ⟨same_upd nD2, upd_same⟩ ?_ ?_
      · rintro i H3 hi ⟨s3, hD2⟩
        have hi' : i < n := hi
        have ei : (0 : Int) + (i : Int) = (i : Int) := Int.zero_add _
        have hc : (chancesL rss n k)[i]? = some (chance (allSums rss n k) i) := by
          unfold chancesL
          rw [List.getElem?_map, List.getElem?_range hi']
          rfl
        rw [ei]
        refine ⟨rfl, _, rfl, _, rfl, D, allSums rss n k, i, rfl, hD.same s3, by omega, fun r hr => by rw [hsr r hr]; exact hi', fun H4 s4 => ⟨_, s4 _ _ hD2, ?_, same_write (s3.trans s4) nD2, ?_⟩⟩
        · rw [List.length_map, List.length_take]
          exact small (by omega)
        · show upd _ D2 _ D2 = _
          rw [upd_same, take_more hc, List.map_append]
          rfl
      · rintro H3 ⟨s3, hD2⟩
        have hD2 : LI H3 D2 ((chancesL rss n k).take n) := hD2
        rw [List.take_of_length_le (by omega)] at hD2
        -- the count
        refine ⟨_, rfl, D2, rfl, ⟨_, .of hD2⟩, fun D3 nD3 => ?_⟩
        have s13 := s12.trans s3
        refine lc_list (K := K) (a := D2) (xs := (chancesL rss n k).map V.int) (fun i H' => Same H3 H' ∧ LI H' D3 (((chancesL rss n k).take i).filter fun c => decide (c ≠ 0))) ⟨same_upd nD3, upd_same⟩ (fun i H' _ h => .of (h.1 _ _ hD2)) ?_ ?_
        · rintro i x H4 hx ⟨s4, hD3⟩
          obtain ⟨z, hz, rfl⟩ := map_int_get hx
          refine ⟨rfl, _, rfl, rfl, _, rfl, ite2 (fun c1 => ?_) (fun c1 => ?_)⟩
          · have c1' : ¬ z = 0 := fun e => by
              rw [e] at c1
              simp at c1
            refine ⟨_, rfl, _, hD3, filter_small (by omega), same_write s4 nD3, ?_⟩
            show upd _ D3 _ D3 = _
            rw [upd_same, filter_more hz (by simp [c1']), List.map_append]
            rfl
          · have c1' : z = 0 := by simpa using c1
            refine ⟨s4, ?_⟩
            show H4 D3 = _
            rw [filter_less hz (by simp [c1']), hD3]
        · rintro H4 ⟨s4, hD3⟩
          rw [List.length_map, List.take_length] at hD3
          refine ⟨D3, _, rfl, .inl (.of hD3), (by show 1 ≤ sizeLine; decide), fun p5 np5 => ?_⟩
          have t5 := same_upd (o := .lst [V.int ((((chancesL rss n k).filter fun c => decide (c ≠ 0)).map V.int).length : Int)]) np5
          refine ⟨_, rfl, p5, D2, _, _, rfl, rfl, upd_same, t5 _ _ (s4 _ _ hD2), ?_, fun p6 np6 => ?_⟩
          · show 1 + ((chancesL rss n k).map V.int).length ≤ sizeLine
            rw [List.length_map, hcl]
            exact Nat.le_of_lt (small (by omega))
          · have s14 := (s13.trans s4).trans t5
            refine q _ p6 (s14.trans (same_upd np6)) (s14.free np6) ?_
            show upd _ p6 _ p6 = _
            rw [upd_same, List.length_map]
            rfl
end
end Sail
namespace Sail
open PySem PySem.Spec PyProof.Rows L2
open PySem.W (EachIs dataLe dataLt AllAlike Sortable alike alikeAll)
/-! ### sorted of a list of data at addresses -/
def rSortedD (K : PySem.W.Frag) : List V → Hp → VK → Prop := fun vs H Q => ∃ (a : Addr) (bs : List Nat) (t : Nat → Addr) (enc : Nat → PyData), vs = [V.ref a] ∧ SqL K H a (bs.map fun b => V.ref (t b)) ∧ (∀ b ∈ bs, Dp K H (.ref (t b)) (enc b)) ∧
  AllAlike (bs.map enc) ∧ Sortable (bs.map enc) ∧ (∀ b ∈ bs, (enc b).depth ≤ 8) ∧ ∀ p, H p = none → Q (.ref p) (upd H p (.lst ((bs.mergeSort (dataLe false enc)).map fun b => V.ref (t b))))
theorem vals_refs {t : Nat → Addr} : ∀ {bs : List Nat} {us : List Value}, Vals (bs.map fun b => V.ref (t b)) us → us = bs.map fun b => Value.ref (t b)
  | [], _, .nil => rfl
  | b :: bs, _, .cons r q => by
    rw [vals_refs q]
    cases r
    rfl
theorem refs_vals {t : Nat → Addr} : ∀ (bs : List Nat), Vals (bs.map fun b => V.ref (t b)) (bs.map fun b => Value.ref (t b))
  | [] => .nil
  | b :: bs => .cons rfl (refs_vals bs)
theorem each_refs {R : Value → Nat → Prop} {t : Nat → Addr} : ∀ (bs : List Nat), (∀ b ∈ bs, R (Value.ref (t b)) b) → EachIs R (bs.map fun b => Value.ref (t b)) bs
  | [], _ => .nil
  | b :: bs, h => .cons (h b (List.mem_cons_self ..)) (each_refs bs fun c hc => h c (List.mem_cons_of_mem _ hc))
theorem each_back {t : Nat → Addr} : ∀ {bs : List Nat} {us : List Value}, EachIs (fun v b => v = Value.ref (t b)) us bs → us = bs.map fun b => Value.ref (t b)
  | [], _, h => by cases h; rfl
  | b :: bs, _, h => by
    cases h with
    | cons r q =>
      rw [each_back q, r]
      rfl
section
variable {X : Cx}
theorem cr_sortedD (hu : X.A.units + 64 < cLine) : CallR X (.builtin "sorted") (rSortedD X.K) := by
  intro pins s σ H vs us Q I r h
  obtain ⟨a, bs, t, enc, rfl, hs, hd, hal, hk, hdp, q⟩ := h
  obtain ⟨its, rv, hl, hz⟩ := I.list hs
  rw [Vals.ref1 r]
  have ei := vals_refs rv
  subst ei
  rw [List.length_map] at hz
  refine PySem.W.sorted_data (R := fun v b => v = Value.ref (t b)) (enc := enc) (bs := bs) hl.isList (each_refs bs fun _ _ => rfl) (each_refs bs fun b hb => ?_) hal hk hz (fun b hb => ?_) fun out ho he => ?_
  · exact Dp.reads I (enc b) (.ref (t b)) _ (hd b hb) rfl
  · have := hdp b hb
    omega
  · have eo := each_back he
    subst eo
    obtain ⟨ep, he'⟩ := PyProof.Rows.sortedAll_at s.heap (bs.map fun b => Value.ref (t b)) ((bs.mergeSort (dataLe false enc)).map fun b => Value.ref (t b)).toArray
    exact ⟨.ref _, upd H (s.heap.objs.size + 1) (.lst ((bs.mergeSort (dataLe false enc)).map fun b => V.ref (t b))), I.laid (t' := s.toks) (fun _ _ => PyProof.Rows.sortedAll_old) (Nat.le_succ _) ⟨by
      rw [List.length_map, List.length_mergeSort]
      exact hz, _, ep, refs_vals _, he'⟩, rfl, q _ (I.hok.fresh (Nat.le_succ _))⟩
end
/-! ### what a boat stands by, as data -/
def rkD (x : Int) (p u : List Int) (b : Int) : PyData := .tuple [.int x, .list (p.map .int), .list (u.map .int), .int b]
theorem rk_alike (x : Int) (p u : List Int) (b : Int) (x' : Int) (p' u' : List Int) (b' : Int) : alike (rkD x p u b) (rkD x' p' u' b') = true := by
  unfold rkD
  simp only [alike, alikeAll, PySem.W.alike_ints, Bool.and_self]
theorem rk_depth (x : Int) (p u : List Int) (b : Int) : (rkD x p u b).depth ≤ 8 := by
  unfold rkD
  simp only [PyData.depth, PyData.depthAll, PySem.W.depth_ints]
  decide
theorem eqv_ints : ∀ p q : List Int, PyData.eqvAll (p.map .int) (q.map .int) = decide (p = q)
  | [], [] => by simp [PyData.eqvAll]
  | [], _ :: _ => by simp [PyData.eqvAll]
  | _ :: _, [] => by simp [PyData.eqvAll]
  | x :: p, y :: q => by
    rw [List.map_cons, List.map_cons, PySem.W.eqv_all_cons, eqv_ints p q]
    simp only [PyData.eqv]
    rw [Bool.eq_iff_iff]
    simp
theorem rk_lt (x : Int) (p u : List Int) (b : Int) (x' : Int) (p' u' : List Int) (b' : Int) : dataLt (rkD x p u b) (rkD x' p' u' b') = rkLt x p u b x' p' u' b' := by
  have al : alike (.list (p.map PyData.int)) (.list (p'.map PyData.int)) = true := by simp only [alike, PySem.W.alike_ints]
  have al2 : alike (.list (u.map PyData.int)) (.list (u'.map PyData.int)) = true := by simp only [alike, PySem.W.alike_ints]
  have lt : ∀ q q' : List Int, dataLt (.list (q.map PyData.int)) (.list (q'.map PyData.int)) = decide (q < q') := fun q q' => by
    rw [PySem.W.dataLt_list]
    exact PySem.W.dataLt_ints q q'
  have eqi : ∀ y y' : Int, (PyData.eqv (.int y) (.int y') = true) = (y = y') := fun y y' => by
    simp [PyData.eqv]
  have eql : ∀ q q' : List Int, (PyData.eqv (.list (q.map .int)) (.list (q'.map .int)) = true) = (q = q') := fun q q' => by
    rw [PyData.eqv, eqv_ints, decide_eq_true_eq]
  unfold rkD
  rw [PySem.W.dataLt_tuple, PySem.W.dataLt_cons (by simp [alike]), PySem.W.dataLt_cons al, PySem.W.dataLt_cons al2, PySem.W.dataLt_cons (by simp [alike])]
  have e0 : PyProof.Rows.lexLt PyProof.Rows.itemOrd (PySem.W.keyToksAll []) (PySem.W.keyToksAll []) = false := PyProof.Rows.lex_irrefl _
  rw [e0, lt, lt, PySem.W.dataLt_int, PySem.W.dataLt_int]
  simp only [eqi, eql]
  unfold rkLt
  by_cases h1 : x = x'
  · by_cases h2 : p = p'
    · by_cases h3 : u = u'
      · by_cases h4 : b = b'
        · simp [h1, h2, h3, h4]
        · simp [h1, h2, h3, h4]
      · simp [h1, h2, h3]
    · simp [h1, h2]
  · simp [h1]
theorem dp_ints {K : PySem.W.Frag} {H : Hp} : ∀ ns : List Int, DpAll K H (ns.map V.int) (ns.map PyData.int)
  | [] => .nil
  | n :: ns => .cons (.int n) (dp_ints ns)
end Sail
namespace Sail
open PySem PySem.Spec PyProof.Rows L2
open PySem.W (EachIs dataLe dataLt AllAlike Sortable alike alikeAll)
def encB (rss : List (List Int)) (k b : Nat) : PyData := rkD (sumW (boatPts rss b) k) (asc (boatPts rss b)) (boatPts rss b).reverse (b : Int)
def orderB (rss : List (List Int)) (n k : Nat) : List Nat := (List.range n).mergeSort (dataLe false (encB rss k))
def pairB (rss : List (List Int)) (k b : Nat) : List Int := [(b : Int), sumW (boatPts rss b) k]
def orderL (rss : List (List Int)) (n k : Nat) : List Int := (orderB rss n k).flatMap fun b => pairB rss k b
/-- what rank_of hands over, apart from the address D -/
def RankAt (H : Hp) (D t : Addr) (rss : List (List Int)) (k b : Nat) : Prop := ∃ p u, t ≠ D ∧ p ≠ D ∧ u ≠ D ∧ H t = some (.tup [.int (sumW (boatPts rss b) k), .ref p, .ref u, .int (b : Int)]) ∧ LI H p (asc (boatPts rss b)) ∧ LI H u (boatPts rss b).reverse
theorem RankAt.same {H H' : Hp} {D t : Addr} {rss : List (List Int)} {k b : Nat} (h : RankAt H D t rss k b) (e : Same H H') : RankAt H' D t rss k b := by
  obtain ⟨p, u, h1, h2, h3, h4, h5, h6⟩ := h
  exact ⟨p, u, h1, h2, h3, e _ _ h4, e _ _ h5, e _ _ h6⟩
theorem RankAt.write {H : Hp} {D t : Addr} {rss : List (List Int)} {k b : Nat} {o : HO} (h : RankAt H D t rss k b) : RankAt (upd H D o) D t rss k b := by
  obtain ⟨p, u, h1, h2, h3, h4, h5, h6⟩ := h
  refine ⟨p, u, h1, h2, h3, ?_, ?_, ?_⟩
  · rw [upd_ne h1]
    exact h4
  · show upd H D o p = _
    rw [upd_ne h2]
    exact h5
  · show upd H D o u = _
    rw [upd_ne h3]
    exact h6
theorem RankAt.dp {K : PySem.W.Frag} {H : Hp} {D t : Addr} {rss : List (List Int)} {k b : Nat} (h : RankAt H D t rss k b) : Dp K H (.ref t) (encB rss k b) := by
  obtain ⟨p, u, _, _, _, h4, h5, h6⟩ := h
  exact .tup (.of h4) (.cons (.int _) (.cons (.lst (.of h5) (dp_ints _)) (.cons (.lst (.of h6) (dp_ints _)) (.cons (.int _) .nil))))
theorem order_get {rss : List (List Int)} {n k i b : Nat} (h : (orderB rss n k)[i]? = some b) : ((orderB rss n k).take (i + 1)).flatMap (fun b => pairB rss k b) = ((orderB rss n k).take i).flatMap (fun b => pairB rss k b) ++ pairB rss k b := by
  rw [take_more h, List.flatMap_append]
  exact congrArg _ (List.flatMap_singleton ..)
theorem pairs_length (rss : List (List Int)) (k : Nat) : ∀ l : List Nat, (l.flatMap fun b => pairB rss k b).length = 2 * l.length
  | [] => rfl
  | b :: l => by
    rw [List.flatMap_cons, List.length_append, pairs_length rss k l, List.length_cons]
    show 2 + 2 * l.length = _
    omega
theorem refs_range {ts : List Addr} {n : Nat} (h : ts.length = n) : (List.range n).map (fun b => V.ref (ts.getD b 0)) = ts.map V.ref := by
  apply List.ext_getElem?
  intro i
  rw [List.getElem?_map, List.getElem?_map]
  by_cases c : i < n
  · rw [List.getElem?_range c, List.getElem?_eq_getElem (show i < ts.length by omega)]
    show some (V.ref (ts.getD i 0)) = some (V.ref ts[i])
    rw [List.getD_eq_getElem?_getD, List.getElem?_eq_getElem (show i < ts.length by omega)]
    rfl
  · rw [List.getElem?_eq_none (by rw [List.length_range]; omega), List.getElem?_eq_none (by omega)]
    rfl
section
variable {P : Program} {w : World} {K : PySem.W.Frag} {mg : Str → Option Value} {base : Heap}
/-! ### rank_of -/
theorem scRof : FnScope ["races", "boat", "left_out", "points"] ["races", "boat", "left_out"] (defScope sRof) := ⟨rfl, rfl, rfl, by decide +kernel, rfl, by decide +kernel, by decide +kernel⟩
def spRof : Sp := fun vs H Q _ => ∃ (a : Addr) (b k : Nat) (rss : List (List Int)), vs = [.ref a, .int (b : Int), .int (k : Int)] ∧ LR H a rss ∧ rss.length ≤ 60 ∧ (∀ r ∈ rss, b < r.length) ∧ k ≤ rss.length ∧
  ∀ H' t p u, Same H H' → H t = none → H p = none → H u = none → H' t = some (.tup [.int (sumW (boatPts rss b) k), .ref p, .ref u, .int (b : Int)]) → LI H' p (asc (boatPts rss b)) → LI H' u (boatPts rss b).reverse → Q (.ref t) H'
theorem ok_rof {f f1 f2 : Addr} {fd fd1 fd2 : FuncData} (F : Fun K "rank_of" "rank_of" sRof f fd) (mo : mg "sorted" = none)
    (F1 : Fun K "boat_points" "boat_points" sBpt f1 fd1) (b1 : Binds K fd1 ["races", "boat"] []) (g1 : mg "boat_points" = some (.ref f1)) (G1 : FnOk P w K mg base CX0 1 f1 fd1 ["races", "boat"] spBpt)
    (F2 : Fun K "sum_without" "sum_without" sSwo f2 fd2) (b2 : Binds K fd2 ["points", "left_out"] []) (g2 : mg "sum_without" = some (.ref f2)) (G2 : FnOk P w K mg base CX0 1 f2 fd2 ["points", "left_out"] spSwo) :
    FnOk P w K mg base CX0 2 f fd ["races", "boat", "left_out"] spRof := by
  refine F.ok scRof (fun vs H Q E h => ?_) (fun cdv A outer s H vs Q E hr h => ?_)
  · obtain ⟨a, b, k, rss, rfl, _⟩ := h
    rfl
  · obtain ⟨a, b, k, rss, rfl, ha, hn, hrow, hk, q⟩ := h
    refine ⟨_, pss_cons (ps_set (i := 3) scRof.nd rfl (Or.inl rfl) (pe_call G1 hr (by rfl) g1 F1.kp b1 .nil pass0 (pa_cons (pv 0) (pa_cons (pv 1) pa_nil))))
      (pss_one (ps_ret (pe_tup (pa_cons (pe_call G2 hr (by rfl) g2 F2.kp b2 .nil pass0 (pa_cons (pv 3) (pa_cons (pv 2) pa_nil)))
        (pa_cons (pe_callB cr_sorted (by rfl) mo (by decide +kernel) (pa_cons (pv 3) pa_nil)) (pa_cons (pe_revL (pv 3)) (pa_cons (pv 1) pa_nil))))))), ?_⟩
    have hbl : (boatPts rss b).length = rss.length := List.length_map ..
    refine ⟨_, rfl, _, rfl, a, rss, b, rfl, ha, by omega, hrow, fun H1 p1 s1 np1 hp1 => ?_⟩
    refine ⟨_, rfl, _, rfl, p1, boatPts rss b, k, rfl, hp1, by omega, by omega, fun H2 s2 => ?_⟩
    refine ⟨_, rfl, p1, boatPts rss b, rfl, .of (s2 _ _ hp1), by omega, fun ns' p3 pm up np3 => ?_⟩
    have e : ns' = asc (boatPts rss b) := asc_is pm up
    subst e
    have s12 := s1.trans s2
    have t3 := same_upd (o := .lst ((asc (boatPts rss b)).map V.int)) np3
    refine ⟨_, rfl, p1, _, rfl, .of (t3 _ _ (s2 _ _ hp1)), fun p4 np4 => ?_⟩
    have t4 := same_upd (o := .lst ((boatPts rss b).map V.int).reverse) np4
    refine ⟨_, rfl, (by show 4 ≤ sizeLine; decide), fun p5 np5 => ?_⟩
    have t5 := same_upd (o := .tup [V.int (sumW (boatPts rss b) k), .ref p3, .ref p4, .int (b : Int)]) np5
    have s13 := s12.trans t3
    have s14 := s13.trans t4
    refine q _ p5 p3 p4 (s14.trans t5) (s14.free np5) (s12.free np3) (s13.free np4) upd_same ?_ ?_
    · exact t5 _ _ (t4 _ _ upd_same)
    · refine t5 _ _ ?_
      rw [upd_same, List.map_reverse]
/-! ### order_told -/
theorem scOto : FnScope ["races", "many", "left_out", "found", "rank", "boat"] ["races", "many", "left_out"] (defScope sOto) := ⟨rfl, rfl, rfl, by decide +kernel, rfl, by decide +kernel, by decide +kernel⟩
def spOto : Sp := fun vs H Q _ => ∃ (a : Addr) (n k : Nat) (rss : List (List Int)), vs = [.ref a, .int (n : Int), .int (k : Int)] ∧ LR H a rss ∧ rss.length ≤ 60 ∧ n ≤ 5 ∧ (∀ r ∈ rss, r.length = n) ∧ k ≤ rss.length ∧
  ∀ H' p, Same H H' → H p = none → LI H' p (orderL rss n k) → Q (.ref p) H'
theorem ok_oto {f f1 : Addr} {fd fd1 : FuncData} (F : Fun K "order_told" "order_told" sOto f fd) (mo : mg "sorted" = none) (mr : mg "range" = none)
    (F1 : Fun K "rank_of" "rank_of" sRof f1 fd1) (b1 : Binds K fd1 ["races", "boat", "left_out"] []) (g1 : mg "rank_of" = some (.ref f1)) (G1 : FnOk P w K mg base CX0 2 f1 fd1 ["races", "boat", "left_out"] spRof) :
    FnOk P w K mg base CX0 3 f fd ["races", "many", "left_out"] spOto := by
  refine F.ok scOto (fun vs H Q E h => ?_) (fun cdv A outer s H vs Q E hr h => ?_)
  · obtain ⟨a, n, k, rss, rfl, _⟩ := h
    rfl
  · obtain ⟨a, n, k, rss, rfl, ha, hn, h5, hrow, hk, q⟩ := h
    refine ⟨_, pss_cons (ps_set (i := 3) scOto.nd rfl (Or.inl rfl) (pe_lst pa_nil))
      (pss_cons (ps_for PassesOwn.never rfl (pi_list (pe_callB (cr_sortedD hr.units) (by rfl) mo (by decide +kernel) (pa_cons
        (pe_lc (own := [("boat", 5)]) (g := gName 5) (tt := tYes) (te := tCall spRof [] E0 (tCons (tVar 0) (tCons (tVar 5) (tCons (tVar 2) tNil)))) rfl scOto.nd (pi_range1 rfl mr (pa_cons (pv 1) pa_nil))
          (blkOk_by (N := ["races", "many", "left_out", "found", "rank", "boat"]) (sc := defScope sOto) (by decide +kernel)) (fun _ _ _ _ _ => pg_name (i := 5) scOto.nd rfl (Or.inl rfl))
          (fun _ _ _ _ _ => pts_nil) (fun _ _ _ _ _ => pe_call G1 hr (by rfl) g1 F1.kp b1 .nil pass0 (pa_cons (pv 0) (pa_cons (pv 5) (pa_cons (pv 2) pa_nil))))) pa_nil))) (pg_name (i := 4) scOto.nd rfl (Or.inl rfl))
        (pss_one (ps_expr (pe_bm PySem.F.plainAttrs_list PySem.F.slot_list_extend PySem.F.type_list_extend mt_extend (pv 3) (pa_cons
          (pe_lst (pa_cons (pe_ix ix_tup (pv 4) pe_int (fun _ _ => rfl)) (pa_cons (pe_ix ix_tup (pv 4) pe_int (fun _ _ => rfl)) pa_nil))) pa_nil)))))
      (pss_one (ps_ret (pv 3)))), ?_⟩
    refine ⟨Nat.zero_le _, fun p np => ?_⟩
    have s1 : Same H (upd H p (.lst [])) := same_upd np
    -- the ranks
    refine ⟨_, rfl, _, rfl, by omega, by omega, fun D nD => ?_⟩
    have hDp : D ≠ p := (ne_of_none (upd_same (H := H)) nD).symm
    refine lc_range (lo := 0) (n := _) (fun i H' => Same (upd H p (.lst [])) H' ∧ ∃ ts : List Addr, ts.length = i ∧ H' D = some (.lst (ts.map V.ref)) ∧ ∀ (b : Nat) (t : Addr), ts[b]? = some t → RankAt H' D t rss k b) ⟨same_upd nD, [], rfl, upd_same, fun b t h => by simp at h⟩ ?_ ?_
    · rintro i H1 hi ⟨s2, ts, hl, hD, hT⟩
      have hi' : i < n := hi
      have ei : (0 : Int) + (i : Int) = (i : Int) := Int.zero_add _
      rw [ei]
      refine ⟨rfl, _, rfl, _, rfl, _, rfl, a, i, k, rss, rfl, (ha.same s1).same s2, hn, fun r hr => by rw [hrow r hr]; exact hi', hk, fun H2 t pp u s3 nt npp nu ht hpp hu => ?_⟩
      refine ⟨_, s3 _ _ hD, ?_, same_write (s2.trans s3) nD, ts ++ [t], ?_, ?_, fun b t' hb => ?_⟩
      · rw [List.length_map]
        exact small (by omega)
      · rw [List.length_append]
        show ts.length + 1 = i + 1
        omega
      · rw [upd_same, List.map_append]
        rfl
      · refine RankAt.write ?_
        by_cases c : b < ts.length
        · rw [List.getElem?_append_left c] at hb
          exact (hT b t' hb).same s3
        · rw [List.getElem?_append_right (by omega)] at hb
          by_cases z : b - ts.length = 0
          · rw [z] at hb
            have e1 : t = t' := Option.some.inj hb
            have e2 : b = i := by omega
            subst e1 e2
            exact ⟨pp, u, (ne_of_none hD nt).symm, (ne_of_none hD npp).symm, (ne_of_none hD nu).symm, ht, hpp, hu⟩
          · rw [List.getElem?_eq_none (by show 1 ≤ b - ts.length; omega)] at hb
            cases hb
    · rintro H1 ⟨s2, ts, hl, hD, hT⟩
      have hl' : ts.length = n := hl
      have ht : ∀ b, b < n → ts[b]? = some (ts.getD b 0) := fun b hb => by
        rw [List.getD_eq_getElem?_getD, List.getElem?_eq_getElem (show b < ts.length by omega)]
        rfl
      refine ⟨D, List.range n, fun b => ts.getD b 0, encB rss k, rfl, .of ?_, fun b hb => (hT b _ (ht b (List.mem_range.mp hb))).dp, ?_, ?_, fun b _ => rk_depth .., fun S nS => ?_⟩
      · rw [refs_range hl']
        exact hD
      · rintro d hd d' hd'
        obtain ⟨b, _, rfl⟩ := List.mem_map.mp hd
        obtain ⟨b', _, rfl⟩ := List.mem_map.mp hd'
        exact rk_alike ..
      · refine .inl fun d hd => ?_
        obtain ⟨b, _, rfl⟩ := List.mem_map.mp hd
        exact ⟨_, _, rfl⟩
      · have hp1 : H1 p = some (.lst []) := s2 _ _ upd_same
        have hSp : S ≠ p := (ne_of_none hp1 nS).symm
        have t3 := same_upd (o := .lst ((orderB rss n k).map fun b => V.ref (ts.getD b 0))) nS
        have hol : (orderB rss n k).length = n := by
          unfold orderB
          rw [List.length_mergeSort, List.length_range]
        have s13 := (s1.trans s2).trans t3
        -- the loop
        refine ⟨S, rfl, ⟨_, .of upd_same⟩, for_list (K := K) (a := S) (xs := (orderB rss n k).map fun b => V.ref (ts.getD b 0)) (fun i σ H' => ∃ y4 y5, σ = [some (.ref a), some (.int (n : Int)), some (.int (k : Int)), some (.ref p), y4, y5] ∧
            (∀ c o, (upd H1 S (.lst ((orderB rss n k).map fun b => V.ref (ts.getD b 0)))) c = some o → c ≠ p → H' c = some o) ∧ LI H' p (((orderB rss n k).take i).flatMap fun b => pairB rss k b))
          ⟨none, none, rfl, fun c o e _ => e, t3 _ _ hp1⟩ (fun i σ H' _ ⟨_, _, _, kp, _⟩ => .of (kp _ _ upd_same hSp)) ?_ ?_⟩
        · rintro i x σ H2 hx ⟨y4, y5, rfl, kp, hp2⟩
          rw [List.getElem?_map] at hx
          obtain ⟨b, hb, rfl⟩ : ∃ b, (orderB rss n k)[i]? = some b ∧ x = V.ref (ts.getD b 0) := by
            cases e : (orderB rss n k)[i]? with
            | none =>
              rw [e] at hx
              cases hx
            | some b =>
              rw [e] at hx
              exact ⟨b, rfl, (Option.some.inj hx).symm⟩
          have hbn : b < n := by
            have m := List.mem_of_getElem? hb
            unfold orderB at m
            exact List.mem_range.mp (List.mem_mergeSort.mp m)
          obtain ⟨pp, u, n1, _, _, hT4, _, _⟩ := hT b _ (ht b hbn)
          have htp : ts.getD b 0 ≠ p := ne_of hT4 hp1 (by intro z; cases z)
          have hT5 := kp _ _ (t3 _ _ hT4) htp
          refine ⟨_, rfl, .inl ⟨rfl, _, .of hp2⟩, ?_⟩
          refine ⟨_, rfl, _, _, _, _, rfl, rfl, .of hT5, atI_nat (j := 3) rfl, _, rfl, _, _, _, _, rfl, rfl, .of hT5, atI_nat (j := 0) rfl, (by show 2 ≤ sizeLine; decide), fun e ne => ?_⟩
          have t6 := same_upd (o := .lst [V.int (b : Int), V.int (sumW (boatPts rss b) k)]) ne
          refine ⟨p, e, _, _, rfl, rfl, t6 _ _ hp2, upd_same, ?_, ?_⟩
          · rw [List.length_map, pairs_length, List.length_take]
            exact Nat.le_of_lt (small (by show 2 * min i (orderB rss n k).length + 2 ≤ 100000; omega))
          · refine ⟨_, _, rfl, fun c o hc hcp => ?_, ?_⟩
            · rw [upd_ne hcp]
              exact t6 _ _ (kp c o hc hcp)
            · show upd _ p _ p = _
              rw [upd_same, order_get hb, List.map_append]
              rfl
        · rintro σ H2 ⟨y4, y5, rfl, kp, hp2⟩
          rw [List.length_map, List.take_length] at hp2
          refine ⟨_, rfl, q H2 p (fun c o hc => kp _ _ (s13 _ _ hc) (ne_of_none hc np)) np hp2⟩
end
/-! ### and that is the specification's order -/
theorem orderL_is {s : Uw33.Series} (g : Good s) : orderL (rowsOf s) s.ratings.length s.drop = toI (s.order.flatMap fun b => [b, s.sum b]) := by
  have e : orderB (rowsOf s) s.ratings.length s.drop = s.order := by
    rw [← sort_order s]
    unfold orderB
    refine PySem.W.sort_congr fun a ha b hb => ?_
    have ha' := List.mem_range.mp ha
    have hb' := List.mem_range.mp hb
    rw [PySem.W.dataLe_eq]
    show (!dataLt (encB (rowsOf s) s.drop b) (encB (rowsOf s) s.drop a)) = !s.ahead b a
    unfold encB
    rw [rk_lt, sumW_boat g ha', sumW_boat g hb', boatPts_rows s a ha', boatPts_rows s b hb', asc_ints, asc_ints]
    refine congrArg _ ?_
    have h := rk_ahead s b a
    unfold toI at h ⊢
    rw [List.map_reverse, List.map_reverse] at h
    rw [List.map_reverse, List.map_reverse]
    rw [List.map_reverse, List.map_reverse] at h
    exact h
  unfold orderL
  rw [e]
  have hm : ∀ b ∈ s.order, b < s.ratings.length := fun b hb => List.mem_range.mp ((order_perm s).mem_iff.mp hb)
  generalize s.order = l at hm
  induction l with
  | nil => rfl
  | cons b l ih =>
    rw [List.flatMap_cons, List.flatMap_cons, ints_append, ih fun c hc => hm c (List.mem_cons_of_mem _ hc)]
    refine congrArg (· ++ _) ?_
    unfold pairB
    rw [sumW_boat g (hm b (List.mem_cons_self ..))]
    rfl
end Sail
namespace Sail
open PySem PySem.Spec PyProof.Rows L2
open Uw33 (Series Call)
/-! ### a series in the heap -/
def sF (pl ou : Nat) (ra ca : Addr) : List (Str × V) := [("planned", .int (pl : Int)), ("left_out", .int (ou : Int)), ("ratings", .ref ra), ("races", .ref ca)]
/-- the series s stands at x; the address q is none of its parts -/
def SeriesAt (C q : Addr) (H : Hp) (x : Addr) (s : Series) : Prop := ∃ dx ra ca, H x = some (.ins C dx (sF s.planned s.out ra ca)) ∧ LI H ra (toI s.ratings) ∧ ∃ as : List Addr, H ca = some (.lst (as.map V.ref)) ∧ Rows H as (rowsOf s) ∧ ra ≠ q ∧ ca ≠ q ∧ ∀ a ∈ as, a ≠ q
theorem SeriesAt.same {C q : Addr} {H H' : Hp} {x : Addr} {s : Series} (h : SeriesAt C q H x s) (e : Same H H') : SeriesAt C q H' x s := by
  obtain ⟨dx, ra, ca, h1, h2, as, h3, h4, h5⟩ := h
  exact ⟨dx, ra, ca, e _ _ h1, e _ _ h2, as, e _ _ h3, h4.same e, h5⟩
def Kept (x : Addr) (H H' : Hp) : Prop := ∀ b o, H b = some o → b ≠ x → H' b = some o
theorem Same.kept {x : Addr} {H H' : Hp} (s : Same H H') : Kept x H H' := fun b o e _ => s b o e
theorem Kept.trans {x : Addr} {H H1 H2 : Hp} (a : Kept x H H1) (b : Kept x H1 H2) : Kept x H H2 := fun c o e n => b c o (a c o e n) n
theorem Kept.free {x p : Addr} {H H' : Hp} (k : Kept x H H') (n : p ≠ x) (h : H' p = none) : H p = none := by
  cases z : H p with
  | none => rfl
  | some o =>
    rw [k p o z n] at h
    cases h
theorem kept_upd {x : Addr} {H : Hp} {o : HO} : Kept x H (upd H x o) := fun b u e n => by
  rw [upd_ne n]
  exact e
theorem lst_past {H : Hp} {x q C dx : Addr} {fs : List (Str × V)} {o : HO} {l : List V} (h : H x = some (.ins C dx fs)) (hq : H q = some (.lst l)) : upd H x o q = some (.lst l) := by
  rw [upd_ne (ne_of hq h (by intro z; cases z))]
  exact hq
theorem lr_past {H : Hp} {x q C dx : Addr} {fs : List (Str × V)} {o : HO} {rss : List (List Int)} (h : H x = some (.ins C dx fs)) (hq : LR H q rss) : LR (upd H x o) q rss := by
  obtain ⟨as, h1, h2⟩ := hq
  exact ⟨as, lst_past h h1, h2.len, fun i a r e1 e2 => lst_past h (h2.at_ i a r e1 e2)⟩
theorem rows_past {H : Hp} {x C dx : Addr} {fs : List (Str × V)} {o : HO} {as : List Addr} {rss : List (List Int)} (h : H x = some (.ins C dx fs)) (h2 : Rows H as rss) : Rows (upd H x o) as rss := ⟨h2.len, fun i a r e1 e2 => lst_past h (h2.at_ i a r e1 e2)⟩
theorem lk_here {k : Str} {v : V} {r : List (Str × V)} : List.lookup k ((k, v) :: r) = some v := by
  have e : (k == k) = true := beq_self_eq_true k
  simp only [List.lookup, e]
theorem lk_past {k g : Str} {v : V} {r : List (Str × V)} (h : (k == g) = false) : List.lookup k ((g, v) :: r) = List.lookup k r := by
  simp only [List.lookup, h]
theorem put_here {f : Str} {v x : V} {r : List (Str × V)} : putF f v ((f, x) :: r) = (f, v) :: r := if_pos rfl
theorem put_past {f g : Str} {v x : V} {r : List (Str × V)} (h : ¬ g = f) : putF f v ((g, x) :: r) = (g, x) :: putF f v r := if_neg h
section
variable {pl ou : Nat} {ra ca : Addr}
theorem sF_pl : (sF pl ou ra ca).lookup ("planned" : Str) = some (.int (pl : Int)) := lk_here
theorem sF_ou : (sF pl ou ra ca).lookup ("left_out" : Str) = some (.int (ou : Int)) := (lk_past (by decide +kernel)).trans lk_here
theorem sF_ra : (sF pl ou ra ca).lookup ("ratings" : Str) = some (.ref ra) := (lk_past (by decide +kernel)).trans ((lk_past (by decide +kernel)).trans lk_here)
theorem sF_ca : (sF pl ou ra ca).lookup ("races" : Str) = some (.ref ca) := (lk_past (by decide +kernel)).trans ((lk_past (by decide +kernel)).trans ((lk_past (by decide +kernel)).trans lk_here))
theorem sF_no {m : Str} (h1 : (m == ("planned" : Str)) = false) (h2 : (m == ("left_out" : Str)) = false) (h3 : (m == ("ratings" : Str)) = false) (h4 : (m == ("races" : Str)) = false) : (sF pl ou ra ca).lookup m = none :=
  (lk_past h1).trans ((lk_past h2).trans ((lk_past h3).trans ((lk_past h4).trans rfl)))
theorem sF_aas : (sF pl ou ra ca).lookup ("are_all_sailed" : Str) = none := sF_no (by decide +kernel) (by decide +kernel) (by decide +kernel) (by decide +kernel)
theorem sF_beg : (sF pl ou ra ca).lookup ("begins" : Str) = none := sF_no (by decide +kernel) (by decide +kernel) (by decide +kernel) (by decide +kernel)
theorem sF_boa : (sF pl ou ra ca).lookup ("boat" : Str) = none := sF_no (by decide +kernel) (by decide +kernel) (by decide +kernel) (by decide +kernel)
theorem sF_rac : (sF pl ou ra ca).lookup ("race" : Str) = none := sF_no (by decide +kernel) (by decide +kernel) (by decide +kernel) (by decide +kernel)
theorem sF_poi : (sF pl ou ra ca).lookup ("points" : Str) = none := sF_no (by decide +kernel) (by decide +kernel) (by decide +kernel) (by decide +kernel)
theorem sF_ord : (sF pl ou ra ca).lookup ("order" : Str) = none := sF_no (by decide +kernel) (by decide +kernel) (by decide +kernel) (by decide +kernel)
theorem sF_cha : (sF pl ou ra ca).lookup ("chances" : Str) = none := sF_no (by decide +kernel) (by decide +kernel) (by decide +kernel) (by decide +kernel)
theorem put_pl {n : Nat} : putF "planned" (.int (n : Int)) (sF pl ou ra ca) = sF n ou ra ca := put_here
theorem put_ou {n : Nat} : putF "left_out" (.int (n : Int)) (sF pl ou ra ca) = sF pl n ra ca := (put_past (by decide +kernel)).trans (congrArg _ put_here)
theorem put_ra {n : Addr} : putF "ratings" (.ref n) (sF pl ou ra ca) = sF pl ou n ca := (put_past (by decide +kernel)).trans (congrArg _ ((put_past (by decide +kernel)).trans (congrArg _ put_here)))
theorem put_ca {n : Addr} : putF "races" (.ref n) (sF pl ou ra ca) = sF pl ou ra n := (put_past (by decide +kernel)).trans (congrArg _ ((put_past (by decide +kernel)).trans (congrArg _ ((put_past (by decide +kernel)).trans (congrArg _ put_here)))))
end
theorem put_new {ra ca : Addr} : putF "races" (.ref ca) (putF "ratings" (.ref ra) (putF "left_out" (.int 0) (putF "planned" (.int 1) []))) = sF 1 0 ra ca := by
  have e1 : putF "left_out" (.int 0) (putF "planned" (.int 1) []) = ([(("planned" : Str), V.int 1), (("left_out" : Str), V.int 0)] : List (Str × V)) := (put_past (by decide +kernel)).trans rfl
  rw [e1]
  have e2 : putF "ratings" (.ref ra) ([(("planned" : Str), V.int 1), (("left_out" : Str), V.int 0)] : List (Str × V)) = ([(("planned" : Str), V.int 1), (("left_out" : Str), V.int 0), (("ratings" : Str), V.ref ra)] : List (Str × V)) := (put_past (by decide +kernel)).trans (congrArg _ ((put_past (by decide +kernel)).trans rfl))
  rw [e2]
  exact (put_past (by decide +kernel)).trans (congrArg _ ((put_past (by decide +kernel)).trans (congrArg _ ((put_past (by decide +kernel)).trans rfl))))
/-- what a call hands back and leaves -/
def Done (C q x : Addr) (s : Series) (c : Call) (H : Hp) (Q : VK) : Prop := ∀ (H' : Hp) (p : Addr) (s' : Series) (o : List Int), (Uw33.step s c).1 = s' → outOf s c = o → SeriesAt C q H' x s' → Kept x H H' → H p = none → LI H' p o → Q (.ref p) H'
theorem done_no {C q x : Addr} {s : Series} {c : Call} {H H1 : Hp} {Q : VK} {v : Int} (d : Done C q x s c H Q) (S : SeriesAt C q H1 x s) (s1 : Same H H1) (e : Uw33.step s c = (s, Uw33.ok v)) {p : Addr} (np : H1 p = none) : Q (.ref p) (upd H1 p (.lst [.int v])) := by
  refine d _ p s [v] (by rw [e]) (by unfold outOf; rw [e]; rfl) (S.same (same_upd np)) (Same.kept (s1.trans (same_upd np))) (s1.free np) ?_
  exact upd_same
/-- what the top has written of the class -/
structure Txt (K : PySem.W.Frag) (C : Addr) : Prop where
  cl : Cls K C
  nP : NoAttr K C "planned"
  nL : NoAttr K C "left_out"
  nR : NoAttr K C "ratings"
  nC : NoAttr K C "races"
/-! ### data -/
theorem lay_ints : ∀ ns : List Int, PyData.canLayAll0 (ns.map PyData.int) = true
  | [] => by simp [PyData.canLayAll0]
  | n :: ns => by
    rw [List.map_cons, PyData.canLayAll0, lay_ints ns]
    simp [PyData.canLay0]
def rowsD (rss : List (List Int)) : List PyData := rss.map fun r => .list (r.map .int)
theorem lay_rows : ∀ rss : List (List Int), PyData.canLayAll0 (rowsD rss) = true
  | [] => by simp [rowsD, PyData.canLayAll0]
  | r :: rss => by
    show PyData.canLayAll0 (.list (r.map .int) :: rowsD rss) = true
    rw [PyData.canLayAll0, lay_rows rss]
    simp [PyData.canLay0, lay_ints]
theorem depth_rows : ∀ rss : List (List Int), PyData.depthAll (rowsD rss) ≤ 1
  | [] => by simp [rowsD, PyData.depthAll]
  | r :: rss => by
    show PyData.depthAll (.list (r.map .int) :: rowsD rss) ≤ 1
    have := depth_rows rss
    simp only [PyData.depthAll, PyData.depth, PySem.W.depth_ints]
    omega
theorem shaped_ints (ns : List Int) : SeqAt.shaped (.list (ns.map .int)) = true := by
  unfold SeqAt.shaped
  simp [PyData.canLay0, lay_ints, PyData.depth, PySem.W.depth_ints]
theorem shaped_rows (rss : List (List Int)) : SeqAt.shaped (.list (rowsD rss)) = true := by
  unfold SeqAt.shaped
  have := depth_rows rss
  simp [PyData.canLay0, lay_rows, PyData.depth]
  omega
theorem dp_rows {K : PySem.W.Frag} {H : Hp} : ∀ {as : List Addr} {rss : List (List Int)}, Rows H as rss → DpAll K H (as.map V.ref) (rowsD rss)
  | [], [], _ => .nil
  | [], _ :: _, h => absurd h.len (by simp)
  | _ :: _, [], h => absurd h.len (by simp)
  | a :: as, r :: rss, h => .cons (.lst (.of (h.at_ 0 a r rfl rfl)) (dp_ints r)) (dp_rows ⟨by simpa using h.len, fun i x y h1 h2 => h.at_ (i + 1) x y (by simpa using h1) (by simpa using h2)⟩)
theorem eqv_nil (ds : List PyData) : PyData.eqv (.list ds) (.list []) = ds.isEmpty := by
  cases ds with
  | nil => simp [PyData.eqv, PyData.eqvAll]
  | cons d ds => simp [PyData.eqv, PyData.eqvAll]
section
variable {P : Program} {w : World} {K : PySem.W.Frag} {mg : Str → Option Value} {base : Heap} {C : Addr}
/-! ### __init__ -/
theorem scIni : FnScope ["self"] ["self"] (defScope sIni) := ⟨rfl, rfl, rfl, by decide +kernel, rfl, by decide +kernel, by decide +kernel⟩
def spIni (C : Addr) : Sp := fun vs H Q _ => ∃ (x dx : Addr), vs = [.ref x] ∧ H x = some (.ins C dx []) ∧ ∀ H' ra ca, H' x = some (.ins C dx (sF 1 0 ra ca)) → H' ra = some (.lst []) → H' ca = some (.lst []) → Kept x H H' → Q .non H'
theorem ok_ini {f : Addr} {fd : FuncData} (F : Fun K "__init__" "Series.__init__" sIni f fd) (T : Txt K C) : FnOk P w K mg base CX0 1 f fd ["self"] (spIni C) := by
  refine F.ok scIni (fun vs H Q E h => ?_) (fun cdv A outer s H vs Q E hr h => ?_)
  · obtain ⟨x, dx, rfl, _⟩ := h
    rfl
  · obtain ⟨x, dx, rfl, hx, q⟩ := h
    refine ⟨_, pss_cons (ps_fld (pv 0) pe_int rfl) (pss_cons (ps_fld (pv 0) pe_int rfl) (pss_cons (ps_fld (pv 0) (pe_lst pa_nil) rfl) (pss_one (ps_fld (pv 0) (pe_lst pa_nil) rfl)))), ?_⟩
    refine ⟨_, rfl, x, C, dx, [], rfl, hx, T.cl, T.nP, (by show 0 < 1000; decide), ?_⟩
    refine ⟨_, rfl, x, C, dx, _, rfl, upd_same, T.cl, T.nL, (by show 1 < 1000; decide), ?_⟩
    have k1 : Kept x H (upd (upd H x (.ins C dx (putF "planned" (.int 1) []))) x (.ins C dx (putF "left_out" (.int 0) (putF "planned" (.int 1) [])))) := kept_upd.trans kept_upd
    refine ⟨Nat.zero_le _, fun ra nra => ?_⟩
    have t1 := same_upd (o := .lst []) nra
    refine ⟨_, rfl, x, C, dx, _, rfl, t1 _ _ upd_same, T.cl, T.nR, (by show 2 < 1000; decide), ?_⟩
    refine ⟨Nat.zero_le _, fun ca nca => ?_⟩
    have t2 := same_upd (o := .lst []) nca
    refine ⟨_, rfl, x, C, dx, _, rfl, t2 _ _ upd_same, T.cl, T.nC, (by show 3 < 1000; decide), ?_⟩
    refine q _ ra ca ?_ ?_ ?_ ?_
    · exact upd_same.trans (congrArg (fun z => some (HO.ins C dx z)) put_new)
    · refine lst_past (t2 _ _ upd_same) (t2 _ _ (lst_past (t1 _ _ upd_same) upd_same))
    · exact lst_past (t2 _ _ upd_same) upd_same
    · exact (((k1.trans (Same.kept t1)).trans kept_upd).trans (Same.kept t2)).trans kept_upd
/-! ### are_all_sailed -/
theorem scAas : FnScope ["self"] ["self"] (defScope sAas) := ⟨rfl, rfl, rfl, by decide +kernel, rfl, by decide +kernel, by decide +kernel⟩
def spAas (C : Addr) : Sp := fun vs H Q _ => ∃ (x q : Addr) (s : Series), vs = [.ref x] ∧ SeriesAt C q H x s ∧ Q (.bl (decide (s.races.length = s.planned))) H
theorem rows_len {H : Hp} {as : List Addr} {s : Series} (h : Rows H as (rowsOf s)) : (as.map V.ref).length = s.races.length := by
  rw [List.length_map, h.len, rowsOf_length]
theorem ok_aas {f : Addr} {fd : FuncData} (F : Fun K "are_all_sailed" "Series.are_all_sailed" sAas f fd) (T : Txt K C) (ml : mg "len" = none) : FnOk P w K mg base CX0 1 f fd ["self"] (spAas C) := by
  refine F.ok scAas (fun vs H Q E h => ?_) (fun cdv A outer s H vs Q E hr h => ?_)
  · obtain ⟨x, _, s, rfl, _⟩ := h
    rfl
  · obtain ⟨x, _, s, rfl, ⟨dx, ra, ca, hx, hra, as, hca, hR, _⟩, q⟩ := h
    refine ⟨_, pss_one (ps_ret (pe_cmpR op_eq (pe_callB call_len_seq (by rfl) ml PySem.boot_len (pa_cons (pe_fld (pv 0) rfl) pa_nil)) (pe_fld (pv 0) rfl) (nomark _))), ?_⟩
    refine ⟨_, rfl, x, C, dx, _, _, rfl, hx, T.cl, T.nC, sF_ca, ca, _, rfl, .inl (.of hca), _, rfl, x, C, dx, _, _, rfl, hx, T.cl, T.nP, sF_pl, rfl, ?_⟩
    have e : decide (V.int ((as.map V.ref).length : Int) = V.int (s.planned : Int)) = decide (s.races.length = s.planned) := by
      rw [rows_len hR]
      refine decide_eq_decide.mpr ⟨fun z => ?_, fun z => by rw [z]⟩
      have := V.int.inj z
      omega
    show Q (.bl (decide (V.int ((as.map V.ref).length : Int) = V.int (s.planned : Int)))) H
    rw [e]
    exact q
/-! ### begins -/
theorem scBeg : FnScope ["self", "planned", "left_out"] ["self", "planned", "left_out"] (defScope sBeg) := ⟨rfl, rfl, rfl, by decide +kernel, rfl, by decide +kernel, by decide +kernel⟩
def spBeg (C : Addr) : Sp := fun vs H Q _ => ∃ (x qa : Addr) (lq : List V) (s : Series) (n k : Nat), vs = [.ref x, .int (n : Int), .int (k : Int)] ∧ SeriesAt C qa H x s ∧ H qa = some (.lst lq) ∧ Good s ∧ Done C qa x s (.begins n k) H Q
theorem ok_beg {f : Addr} {fd : FuncData} {t1 t2 : Tok} (F : Fun K "begins" "Series.begins" sBeg f fd) (T : Txt K C) (c1 : mg "MOST_RACES" = some (.int 8 t1)) (c2 : mg "NOT_AS_TOLD" = some (.int (-1) t2)) : FnOk P w K mg base CX0 1 f fd ["self", "planned", "left_out"] (spBeg C) := by
  refine F.ok scBeg (fun vs H Q E h => ?_) (fun cdv A outer s H vs Q E hr h => ?_)
  · obtain ⟨x, _, _, s, n, k, rfl, _⟩ := h
    rfl
  · obtain ⟨x, qa, lq, s, n, k, rfl, S, hqa, g, q⟩ := h
    refine ⟨_, pss_cons (ps_if (PW.pt (pw_or (pt_cmpR op_lt (pv 1) pe_int (nomark _)) (pw_or (pt_cmpR op_gt (pv 1) (pgi c1) (nomark _)) (pw_or1 (pt_cmpR op_ge (pv 2) (pv 1) (nomark _)))))) (pss_one (ps_ret (pe_lst (pa_cons (pgi c2) pa_nil)))) pss_nil)
      (pss_cons (ps_fld (pv 0) (pv 1) rfl) (pss_cons (ps_fld (pv 0) (pv 2) rfl) (pss_cons (ps_fld (pv 0) (pe_lst pa_nil) rfl) (pss_cons (ps_fld (pv 0) (pe_lst pa_nil) rfl) (pss_one (ps_ret (pe_lst (pa_cons pe_int pa_nil)))))))), ?_⟩
    have no : (n < 1 ∨ 8 < n ∨ n ≤ k) → ∀ p, H p = none → Q (.ref p) (upd H p (.lst [.int (-1)])) := fun c p np => done_no q S (.refl H) (if_pos c) np
    refine ⟨_, rfl, _, _, rfl, rfl, _, rfl, ite2 (fun a => ?_) (fun a => ?_)⟩
    · have a' := of_decide_eq_true a
      exact iteT ⟨(by show 1 ≤ sizeLine; decide), no (by omega)⟩
    · have a' : ¬ (n : Int) < 1 := fun z => a (decide_eq_true z)
      refine ⟨_, rfl, _, _, rfl, rfl, _, rfl, ite2 (fun b => ?_) (fun b => ?_)⟩
      · have b' := of_decide_eq_true b
        exact iteT ⟨(by show 1 ≤ sizeLine; decide), no (by omega)⟩
      · have b' : ¬ (8 : Int) < (n : Int) := fun z => b (decide_eq_true z)
        refine ⟨_, rfl, _, rfl, _, _, rfl, rfl, _, rfl, ite2 (fun c => ?_) (fun c => ?_)⟩
        · have c' := of_decide_eq_true c
          exact ⟨(by show 1 ≤ sizeLine; decide), no (by omega)⟩
        · have c' : ¬ (n : Int) ≤ (k : Int) := fun z => c (decide_eq_true z)
          have e : Uw33.step s (.begins n k) = (⟨[], [], n, k⟩, Uw33.ok 0) := if_neg (by show ¬ (n < 1 ∨ 8 < n ∨ n ≤ k); omega)
          obtain ⟨dx, ra, ca, hx, _⟩ := S
          refine ⟨_, rfl, _, rfl, x, C, dx, _, rfl, hx, T.cl, T.nP, (by show 4 < 1000; decide), ?_⟩
          rw [put_pl]
          refine ⟨_, rfl, _, rfl, x, C, dx, _, rfl, upd_same, T.cl, T.nL, (by show 4 < 1000; decide), ?_⟩
          rw [put_ou, upd_upd]
          refine ⟨Nat.zero_le _, fun ra' nra => ?_⟩
          have t1 := same_upd (o := .lst []) nra
          have q1 : upd H x (.ins C dx (sF n k ra ca)) qa = some (.lst lq) := lst_past hx hqa
          refine ⟨_, rfl, x, C, dx, _, rfl, t1 _ _ upd_same, T.cl, T.nR, (by show 4 < 1000; decide), ?_⟩
          rw [put_ra]
          refine ⟨Nat.zero_le _, fun ca' nca => ?_⟩
          have t2 := same_upd (o := .lst []) nca
          have q2 := lst_past (o := .ins C dx (sF n k ra' ca)) (t1 _ _ upd_same) (t1 _ _ q1)
          refine ⟨_, rfl, x, C, dx, _, rfl, t2 _ _ upd_same, T.cl, T.nC, (by show 4 < 1000; decide), ?_⟩
          rw [put_ca]
          refine ⟨(by show 1 ≤ sizeLine; decide), fun p np => ?_⟩
          have t3 := same_upd (o := .lst [.int 0]) np
          have kk := ((((kept_upd (x := x) (H := H)).trans (Same.kept t1)).trans kept_upd).trans (Same.kept t2)).trans (kept_upd (o := HO.ins C dx (sF n k ra' ca')))
          have np' : H p = none := kk.free (ne_of_none upd_same np).symm np
          refine q _ p ⟨[], [], n, k⟩ [0] (by rw [e]) (by unfold outOf; rw [e]; rfl) ⟨dx, ra', ca', ?_, ?_, [], ?_, Rows.nil, (ne_of_none q1 nra).symm, (ne_of_none q2 nca).symm, fun a h => nomatch h⟩ (kk.trans (Same.kept t3)) np' upd_same
          · exact t3 _ _ upd_same
          · exact t3 _ _ (lst_past (t2 _ _ upd_same) (t2 _ _ (lst_past (t1 _ _ upd_same) upd_same)))
          · exact t3 _ _ (lst_past (t2 _ _ upd_same) upd_same)
end
end Sail
namespace Sail
open PySem PySem.Spec PyProof.Rows L2
open Uw33 (Series Call)
theorem rowsD_empty {s : Series} : (rowsD (rowsOf s)).isEmpty = decide (s.races = []) := by
  rw [Bool.eq_iff_iff, List.isEmpty_iff, decide_eq_true_iff, ← rowsOf_nil]
  unfold rowsD
  exact List.map_eq_nil_iff
theorem ratD_empty {s : Series} : ((toI s.ratings).map PyData.int).isEmpty = decide (s.ratings = []) := by
  rw [Bool.eq_iff_iff, List.isEmpty_iff, decide_eq_true_iff, List.map_eq_nil_iff]
  exact ⟨ints_nil, fun h => by rw [h]; rfl⟩
theorem rowsOf_rat {s : Series} (h : s.races = []) (l : List Nat) : rowsOf { s with ratings := l } = rowsOf s := by
  unfold rowsOf
  show (List.range s.races.length).map _ = (List.range s.races.length).map _
  rw [h]
  rfl
section
variable {P : Program} {w : World} {K : PySem.W.Frag} {mg : Str → Option Value} {base : Heap} {C : Addr}
/-! ### boat -/
theorem scBoa : FnScope ["self", "rating"] ["self", "rating"] (defScope sBoa) := ⟨rfl, rfl, rfl, by decide +kernel, rfl, by decide +kernel, by decide +kernel⟩
def spBoa (C : Addr) : Sp := fun vs H Q _ => ∃ (x qa : Addr) (lq : List V) (s : Series) (n : Nat), vs = [.ref x, .int (n : Int)] ∧ SeriesAt C qa H x s ∧ H qa = some (.lst lq) ∧ Good s ∧ Done C qa x s (.boat n) H Q
theorem ok_boa {f : Addr} {fd : FuncData} {t1 t2 t3 t4 t5 : Tok} (F : Fun K "boat" "Series.boat" sBoa f fd) (T : Txt K C) (ml : mg "len" = none) (c1 : mg "MOST_RATING" = some (.int 2000 t1)) (c2 : mg "NOT_AS_TOLD" = some (.int (-1) t2))
    (c3 : mg "RACE_SAILED" = some (.int (-3) t3)) (c4 : mg "MOST_BOATS" = some (.int 5 t4)) (c5 : mg "NO_MORE" = some (.int (-5) t5)) : FnOk P w K mg base CX0 1 f fd ["self", "rating"] (spBoa C) := by
  refine F.ok scBoa (fun vs H Q E h => ?_) (fun cdv A outer s H vs Q E hr h => ?_)
  · obtain ⟨x, _, _, s, n, rfl, _⟩ := h
    rfl
  · obtain ⟨x, qa, lq, s, n, rfl, S, hqa, g, q⟩ := h
    refine ⟨_, pss_cons (ps_if (PW.pt (pw_or (pt_cmpR op_lt (pv 1) pe_int (nomark _)) (pw_or1 (pt_cmpR op_gt (pv 1) (pgi c1) (nomark _))))) (pss_one (ps_ret (pe_lst (pa_cons (pgi c2) pa_nil)))) pss_nil)
      (pss_cons (ps_if (pt_cmpR (op_neD hr.units) (pe_fld (pv 0) rfl) (pe_lst pa_nil) (nomark _)) (pss_one (ps_ret (pe_lst (pa_cons (pgi c3) pa_nil)))) pss_nil)
      (pss_cons (ps_if (pt_cmpR op_ge (pe_callB call_len_seq (by rfl) ml PySem.boot_len (pa_cons (pe_fld (pv 0) rfl) pa_nil)) (pgi c4) (nomark _)) (pss_one (ps_ret (pe_lst (pa_cons (pgi c5) pa_nil)))) pss_nil)
      (pss_cons (ps_fld (pv 0) (pe_op op_cat (pe_fld (pv 0) rfl) (pe_lst (pa_cons (pv 1) pa_nil))) rfl)
      (pss_one (ps_ret (pe_lst (pa_cons (pe_op op_sub (pe_callB call_len_seq (by rfl) ml PySem.boot_len (pa_cons (pe_fld (pv 0) rfl) pa_nil)) pe_int) pa_nil))))))), ?_⟩
    have estep : Uw33.step s (.boat n) = if n < 1 ∨ 2000 < n then (s, Uw33.ok (-1)) else if s.races ≠ [] then (s, Uw33.ok (-3)) else if 5 ≤ s.ratings.length then (s, Uw33.ok (-5)) else ({ s with ratings := s.ratings ++ [n] }, Uw33.ok (s.ratings.length : Nat)) := rfl
    have no : (n < 1 ∨ 2000 < n) → ∀ p, H p = none → Q (.ref p) (upd H p (.lst [.int (-1)])) := fun c p np => done_no q S (.refl H) (by rw [estep, if_pos c]) np
    refine ⟨_, rfl, _, _, rfl, rfl, _, rfl, ite2 (fun a => ?_) (fun a => ?_)⟩
    · have a' := of_decide_eq_true a
      exact iteT ⟨(by show 1 ≤ sizeLine; decide), no (by omega)⟩
    · have a' : ¬ (n : Int) < 1 := fun z => a (decide_eq_true z)
      refine ⟨_, rfl, _, _, rfl, rfl, _, rfl, ite2 (fun b => ?_) (fun b => ?_)⟩
      · have b' := of_decide_eq_true b
        exact ⟨(by show 1 ≤ sizeLine; decide), no (by omega)⟩
      · have b' : ¬ (2000 : Int) < (n : Int) := fun z => b (decide_eq_true z)
        have n1 : ¬ (n < 1 ∨ 2000 < n) := by omega
        obtain ⟨dx, ra, ca, hx, hra, as, hca, hR, hap⟩ := S
        have S : SeriesAt C qa H x s := ⟨dx, ra, ca, hx, hra, as, hca, hR, hap⟩
        refine ⟨_, rfl, x, C, dx, _, _, rfl, hx, T.cl, T.nC, sF_ca, Nat.zero_le _, fun e1 ne1 => ?_⟩
        have u1 := same_upd (o := .lst []) ne1
        refine ⟨.list (rowsD (rowsOf s)), .list [], .lst (.of (u1 _ _ hca)) (dp_rows (hR.same u1)), .lst (.of upd_same) .nil, shaped_rows _, shaped_ints [], _, rfl, ite2 (fun c => ?_) (fun c => ?_)⟩
        · have c' : s.races ≠ [] := by
            rw [eqv_nil, rowsD_empty] at c
            simpa using c
          exact ⟨(by show 1 ≤ sizeLine; decide), fun p np => done_no q (S.same u1) u1 (by rw [estep, if_neg n1, if_pos c']) np⟩
        · have c' : ¬ s.races ≠ [] := fun z => c (by rw [eqv_nil, rowsD_empty, decide_eq_false z]; rfl)
          refine ⟨_, rfl, x, C, dx, _, _, rfl, u1 _ _ hx, T.cl, T.nR, sF_ra, ra, _, rfl, .inl (.of (u1 _ _ hra)), _, _, rfl, rfl, _, rfl, ite2 (fun d => ?_) (fun d => ?_)⟩
          · have d' := of_decide_eq_true d
            rw [List.length_map, ints_length] at d'
            exact ⟨(by show 1 ≤ sizeLine; decide), fun p np => done_no q (S.same u1) u1 (by rw [estep, if_neg n1, if_neg c', if_pos (by omega)]) np⟩
          · have d' : ¬ 5 ≤ s.ratings.length := fun z => d (decide_eq_true (by rw [List.length_map, ints_length]; omega))
            have e : Uw33.step s (.boat n) = ({ s with ratings := s.ratings ++ [n] }, Uw33.ok (s.ratings.length : Nat)) := by rw [estep, if_neg n1, if_neg c', if_neg d']
            refine ⟨_, rfl, x, C, dx, _, _, rfl, u1 _ _ hx, T.cl, T.nR, sF_ra, _, rfl, (by show 1 ≤ sizeLine; decide), fun e2 ne2 => ?_⟩
            have u2 := same_upd (o := .lst [V.int (n : Int)]) ne2
            refine ⟨ra, e2, _, _, rfl, rfl, u2 _ _ (u1 _ _ hra), upd_same, ?_, fun e3 ne3 => ?_⟩
            · rw [List.length_map, ints_length]
              exact Nat.le_of_lt (small (by show s.ratings.length + 1 ≤ 100000; omega))
            have u3 := same_upd (o := .lst ((toI s.ratings).map V.int ++ [V.int (n : Int)])) ne3
            have u13 := (u1.trans u2).trans u3
            refine ⟨_, rfl, x, C, dx, _, rfl, u13 _ _ hx, T.cl, T.nR, (by show 4 < 1000; decide), ?_⟩
            rw [put_ra]
            have hx3 := u13 _ _ hx
            refine ⟨_, rfl, x, C, dx, _, _, rfl, upd_same, T.cl, T.nR, sF_ra, e3, _, rfl, .inl (.of (lst_past hx3 upd_same)), _, _, rfl, rfl, (by show 1 ≤ sizeLine; decide), fun p np => ?_⟩
            have kk := (Same.kept (x := x) u13).trans (kept_upd (o := HO.ins C dx (sF s.planned s.out e3 ca)))
            have u4 := same_upd (o := .lst [V.int ((((toI s.ratings).map V.int ++ [V.int (n : Int)]).length : Int) - 1)]) np
            have er : (toI s.ratings).map V.int ++ [V.int (n : Int)] = (toI (s.ratings ++ [n])).map V.int := by
              rw [ints_append, List.map_append]
              rfl
            refine q _ p { s with ratings := s.ratings ++ [n] } [(s.ratings.length : Int)] (by rw [e]) (by unfold outOf; rw [e]; rfl) ⟨dx, e3, ca, ?_, ?_, as, ?_, ?_, (ne_of_none (u2 _ _ (u1 _ _ hqa)) ne3).symm, hap.2⟩ (kk.trans (Same.kept u4)) (kk.free (ne_of_none upd_same np).symm np) ?_
            · exact u4 _ _ upd_same
            · refine u4 _ _ (lst_past hx3 ?_)
              rw [upd_same, er]
            · exact u4 _ _ (lst_past hx3 (u13 _ _ hca))
            · rw [rowsOf_rat (Classical.not_not.mp c')]
              exact Rows.same (rows_past hx3 (hR.same u13)) u4
            · show upd _ p _ p = _
              rw [upd_same, List.length_append, List.length_map, ints_length]
              show some (HO.lst [V.int (((s.ratings.length + 1 : Nat) : Int) - 1)]) = some (HO.lst [V.int (s.ratings.length : Int)])
              rw [show ((s.ratings.length + 1 : Nat) : Int) - 1 = (s.ratings.length : Int) by omega]
/-! ### race -/
theorem scRac : FnScope ["self", "times", "time"] ["self", "times"] (defScope sRac) := ⟨rfl, rfl, rfl, by decide +kernel, rfl, by decide +kernel, by decide +kernel⟩
def spRac (C : Addr) : Sp := fun vs H Q _ => ∃ (x a qa : Addr) (lq : List V) (s : Series) (ts : List Nat), vs = [.ref x, .ref a] ∧ SeriesAt C qa H x s ∧ H qa = some (.lst lq) ∧ Good s ∧ LI H a (toI ts) ∧ ts.length ≤ 1000 ∧ Done C qa x s (.race ts) H Q
theorem ok_rac {f f1 f2 : Addr} {fd fd1 fd2 : FuncData} {t1 t2 t3 t5 : Tok} (F : Fun K "race" "Series.race" sRac f fd) (T : Txt K C) (ml : mg "len" = none) (my : mg "any" = none) (c1 : mg "MOST_TIME" = some (.int 100000 t1)) (c2 : mg "NOT_AS_TOLD" = some (.int (-1) t2))
    (c3 : mg "NONE_THERE" = some (.int (-2) t3)) (c5 : mg "NO_MORE" = some (.int (-5) t5))
    (m1 : Meth K C "are_all_sailed" f1) (b1 : Binds K fd1 ["self"] []) (G1 : FnOk P w K mg base CX0 1 f1 fd1 ["self"] (spAas C))
    (F2 : Fun K "race_points" "race_points" sRpt f2 fd2) (b2 : Binds K fd2 ["ratings", "times"] []) (g2 : mg "race_points" = some (.ref f2)) (G2 : FnOk P w K mg base CX0 2 f2 fd2 ["ratings", "times"] spRpt) :
    FnOk P w K mg base CX0 3 f fd ["self", "times"] (spRac C) := by
  refine F.ok scRac (fun vs H Q E h => ?_) (fun cdv A outer s H vs Q E hr h => ?_)
  · obtain ⟨x, a, _, _, s, ts, rfl, _⟩ := h
    rfl
  · obtain ⟨x, a, qa, lq, s, ts, rfl, S, hqa, g, ha, hn, q⟩ := h
    have hr1 : Room 1 _ := hr.mono (by decide)
    refine ⟨_, pss_cons (ps_if (PW.pt (pw_or (pt_cmpR op_ne (pe_callB call_len_seq (by rfl) ml PySem.boot_len (pa_cons (pv 1) pa_nil)) (pe_callB call_len_seq (by rfl) ml PySem.boot_len (pa_cons (pe_fld (pv 0) rfl) pa_nil)) (nomark _))
        (pw_or1 (pt_val (pe_callB (cr_any rfl) (by rfl) my (by decide +kernel) (pa_cons
          (pe_lc (own := [("time", 2)]) (g := gName 2) (tt := tYes) (te := tOp (rI0 fun i j => .bl (decide (j < i))) (tVar 2) (tC (.int 100000))) rfl scRac.nd (pi_list (pv 1))
            (blkOk_by (N := ["self", "times", "time"]) (sc := defScope sRac) (by decide +kernel)) (fun _ _ _ _ _ => pg_name (i := 2) scRac.nd rfl (Or.inl rfl))
            (fun _ _ _ _ _ => pts_nil) (fun _ _ _ _ _ => pe_cmpR op_gt (pv 2) (pgi c1) (nomark _))) pa_nil)))))) (pss_one (ps_ret (pe_lst (pa_cons (pgi c2) pa_nil)))) pss_nil)
      (pss_cons (ps_if (pt_cmpR (op_eqD hr.units) (pe_fld (pv 0) rfl) (pe_lst pa_nil) (nomark _)) (pss_one (ps_ret (pe_lst (pa_cons (pgi c3) pa_nil)))) pss_nil)
      (pss_cons (ps_if (pt_val (pe_meth0 (pv 0) T.cl m1 G1 hr1 b1 .nil pass0)) (pss_one (ps_ret (pe_lst (pa_cons (pgi c5) pa_nil)))) pss_nil)
      (pss_cons (ps_fld (pv 0) (pe_op op_cat (pe_fld (pv 0) rfl) (pe_lst (pa_cons (pe_call G2 hr (by rfl) g2 F2.kp b2 .nil pass0 (pa_cons (pe_fld (pv 0) rfl) (pa_cons (pv 1) pa_nil))) pa_nil))) rfl)
      (pss_one (ps_ret (pe_lst (pa_cons (pe_op op_sub (pe_callB call_len_seq (by rfl) ml PySem.boot_len (pa_cons (pe_fld (pv 0) rfl) pa_nil)) pe_int) pa_nil))))))), ?_⟩
    have estep : Uw33.step s (.race ts) = if ts.length ≠ s.ratings.length ∨ (ts.all fun t => decide (t ≤ 100000)) = false then (s, Uw33.ok (-1)) else if s.ratings = [] then (s, Uw33.ok (-2)) else if s.planned ≤ s.races.length then (s, Uw33.ok (-5)) else (more s ts, Uw33.ok (s.races.length : Nat)) := rfl
    obtain ⟨dx, ra, ca, hx, hra, as, hca, hR, hap⟩ := S
    have S : SeriesAt C qa H x s := ⟨dx, ra, ca, hx, hra, as, hca, hR, hap⟩
    refine ⟨_, rfl, a, _, rfl, .inl (.of ha), _, rfl, x, C, dx, _, _, rfl, hx, T.cl, T.nR, sF_ra, ra, _, rfl, .inl (.of hra), rfl, _, rfl, ite2 (fun c => ?_) (fun c => ?_)⟩
    · have c' : ts.length ≠ s.ratings.length := fun z => by
        rw [List.length_map, List.length_map, ints_length, ints_length, z] at c
        simp at c
      exact iteT ⟨(by show 1 ≤ sizeLine; decide), fun p np => done_no q S (.refl H) (by rw [estep, if_pos (.inl c')]) np⟩
    · have c' : ts.length = s.ratings.length := by
        rw [List.length_map, List.length_map, ints_length, ints_length] at c
        have z : V.int ((ts.length : Nat) : Int) = V.int ((s.ratings.length : Nat) : Int) := by simpa using c
        have := V.int.inj z
        omega
      -- any(..)
      refine ⟨_, rfl, a, rfl, ⟨_, .of ha⟩, fun D nD => ?_⟩
      refine lc_list (K := K) (a := a) (xs := (toI ts).map V.int) (fun i H' => Same H H' ∧ H' D = some (.lst (((ts.map fun t => decide (100000 < t)).take i).map V.bl))) ⟨same_upd nD, upd_same⟩ (fun i H' _ h => .of (h.1 _ _ ha)) ?_ ?_
      · rintro i y H1 hy ⟨s1, hD⟩
        obtain ⟨z, hz, rfl⟩ := map_int_get hy
        rw [ints_get?] at hz
        obtain ⟨t, ht, rfl⟩ : ∃ t, ts[i]? = some t ∧ z = (t : Int) := by
          cases e : ts[i]? with
          | none =>
            rw [e] at hz
            cases hz
          | some t =>
            rw [e] at hz
            exact ⟨t, rfl, (Option.some.inj hz).symm⟩
        refine ⟨rfl, _, rfl, _, _, rfl, rfl, _, hD, ?_, same_write s1 nD, ?_⟩
        · rw [List.length_map, List.length_take, List.length_map]
          exact small (by omega)
        · rw [upd_same, take_more (x := decide (100000 < t)) (by rw [List.getElem?_map, ht]; rfl), List.map_append]
          have e : decide ((100000 : Int) < (t : Int)) = decide (100000 < t) := decide_eq_decide.mpr (by omega)
          show some (HO.lst (_ ++ [V.bl (decide ((100000 : Int) < (t : Int)))])) = _
          rw [e]
          rfl
      · rintro H1 ⟨s1, hD⟩
        rw [List.length_map, ints_length, List.take_of_length_le (by rw [List.length_map]; exact Nat.le_refl _)] at hD
        have eany : ((ts.map fun t => decide (100000 < t)).any id) = !(ts.all fun t => decide (t ≤ 100000)) := by
          rw [List.any_map, List.not_all_eq_any_not]
          refine congrArg (fun p => ts.any p) (funext fun t => ?_)
          show decide (100000 < t) = !decide (t ≤ 100000)
          by_cases h : t ≤ 100000
          · rw [decide_eq_true h, decide_eq_false (by omega)]
            rfl
          · rw [decide_eq_false h, decide_eq_true (by omega)]
            rfl
        refine ⟨D, _, rfl, .of hD, _, rfl, ite2 (fun d => ?_) (fun d => ?_)⟩
        · have d' : (ts.all fun t => decide (t ≤ 100000)) = false := by
            rw [eany] at d
            simpa using d
          exact ⟨(by show 1 ≤ sizeLine; decide), fun p np => done_no q (S.same s1) s1 (by rw [estep, if_pos (.inr d')]) np⟩
        · have d' : ¬ (ts.all fun t => decide (t ≤ 100000)) = false := fun z => d (by rw [eany, z]; rfl)
          have n1 : ¬ (ts.length ≠ s.ratings.length ∨ (ts.all fun t => decide (t ≤ 100000)) = false) := fun z => z.elim (fun z => z c') d'
          -- ratings == []
          refine ⟨_, rfl, x, C, dx, _, _, rfl, s1 _ _ hx, T.cl, T.nR, sF_ra, Nat.zero_le _, fun e1 ne1 => ?_⟩
          have u1 := s1.trans (same_upd (o := .lst []) ne1)
          refine ⟨.list ((toI s.ratings).map .int), .list [], .lst (.of (u1 _ _ hra)) (dp_ints _), .lst (.of upd_same) .nil, shaped_ints _, shaped_ints [], _, rfl, ite2 (fun e => ?_) (fun e => ?_)⟩
          · have e' : s.ratings = [] := by
              rw [eqv_nil, ratD_empty] at e
              exact of_decide_eq_true e
            exact ⟨(by show 1 ≤ sizeLine; decide), fun p np => done_no q (S.same u1) u1 (by rw [estep, if_neg n1, if_pos e']) np⟩
          · have e' : ¬ s.ratings = [] := fun z => e (by rw [eqv_nil, ratD_empty, decide_eq_true z])
            -- are_all_sailed
            refine ⟨_, rfl, x, dx, _, rfl, u1 _ _ hx, sF_aas, x, qa, s, rfl, S.same u1, _, rfl, ite2 (fun f => ?_) (fun f => ?_)⟩
            · have f' := of_decide_eq_true f
              exact ⟨(by show 1 ≤ sizeLine; decide), fun p np => done_no q (S.same u1) u1 (by rw [estep, if_neg n1, if_neg e', if_pos (by omega)]) np⟩
            · have f' : ¬ s.planned ≤ s.races.length := fun z => f (decide_eq_true (by have := g.most; omega))
              have ee : Uw33.step s (.race ts) = (more s ts, Uw33.ok (s.races.length : Nat)) := by rw [estep, if_neg n1, if_neg e', if_neg f']
              refine ⟨_, rfl, x, C, dx, _, _, rfl, u1 _ _ hx, T.cl, T.nC, sF_ca, ?_⟩
              have hrate : ∀ r ∈ toI s.ratings, 0 ≤ r ∧ r ≤ 2000 := fun r hr => by
                obtain ⟨y, hy, rfl⟩ := List.mem_map.mp hr
                have := g.rate y hy
                omega
              refine ⟨_, rfl, x, C, dx, _, _, rfl, u1 _ _ hx, T.cl, T.nR, sF_ra, _, rfl, ra, a, toI s.ratings, toI ts, rfl, u1 _ _ hra, u1 _ _ ha, by rw [ints_length, ints_length]; omega, by rw [ints_length]; have := g.five; omega, hrate, fun H2 p2 s2 np2 hp2 => ?_⟩
              refine ⟨(by show 1 ≤ sizeLine; decide), fun e2 ne2 => ?_⟩
              have u2 := (u1.trans s2).trans (same_upd (o := .lst [V.ref p2]) ne2)
              have hm := g.most
              have h8 := g.p8
              refine ⟨ca, e2, _, _, rfl, rfl, u2 _ _ hca, upd_same, ?_, fun e3 ne3 => ?_⟩
              · rw [rows_len hR]
                exact Nat.le_of_lt (small (by show s.races.length + 1 ≤ 100000; omega))
              have u3 := same_upd (o := .lst (as.map V.ref ++ [V.ref p2])) ne3
              have u13 := u2.trans u3
              have hx3 := u13 _ _ hx
              refine ⟨_, rfl, x, C, dx, _, rfl, hx3, T.cl, T.nC, (by show 4 < 1000; decide), ?_⟩
              rw [put_ca]
              refine ⟨_, rfl, x, C, dx, _, _, rfl, upd_same, T.cl, T.nC, sF_ca, e3, _, rfl, .inl (.of (lst_past hx3 upd_same)), _, _, rfl, rfl, (by show 1 ≤ sizeLine; decide), fun p np => ?_⟩
              have kk := (Same.kept (x := x) u13).trans (kept_upd (o := HO.ins C dx (sF s.planned s.out ra e3)))
              have u4 := same_upd (o := .lst [V.int (((as.map V.ref ++ [V.ref p2]).length : Int) - 1)]) np
              refine q _ p (more s ts) [(s.races.length : Int)] (by rw [ee]) (by unfold outOf; rw [ee]; rfl) ⟨dx, ra, e3, ?_, ?_, as ++ [p2], ?_, ?_, hap.1, (ne_of_none (u2 _ _ hqa) ne3).symm, fun b hb => ?_⟩ (kk.trans (Same.kept u4)) (kk.free (ne_of_none upd_same np).symm np) ?_
              · exact u4 _ _ upd_same
              · exact u4 _ _ (lst_past hx3 (u13 _ _ hra))
              · refine u4 _ _ (lst_past hx3 ?_)
                rw [upd_same, List.map_append]
                rfl
              · rw [rows_more (fun r hr => (g.rate r hr).1) c']
                exact Rows.same (rows_past hx3 (Rows.snoc (hR.same u13) (u3 _ _ (same_upd ne2 _ _ hp2)))) u4
              · rcases List.mem_append.mp hb with hb | hb
                · exact hap.2.2 b hb
                · rw [List.mem_singleton.mp hb]
                  exact (ne_of_none (u1 _ _ hqa) np2).symm
              · show upd _ p _ p = _
                rw [upd_same, List.length_append, rows_len hR]
                show some (HO.lst [V.int (((s.races.length + 1 : Nat) : Int) - 1)]) = some (HO.lst [V.int (s.races.length : Int)])
                rw [show ((s.races.length + 1 : Nat) : Int) - 1 = (s.races.length : Int) by omega]
end
end Sail
namespace Sail
open PySem PySem.Spec PyProof.Rows L2
open Uw33 (Series Call)
/-- a call that changes nothing hands back a list that is new -/
theorem done_yes {C q x : Addr} {s : Series} {c : Call} {H H1 : Hp} {Q : VK} {a : Uw33.Ans} {o : List Int} (d : Done C q x s c H Q) (S : SeriesAt C q H1 x s) (s1 : Same H H1) (e : Uw33.step s c = (s, a)) (eo : Uw33Neutral.out a = o) {p : Addr} (np : H p = none) (hp : LI H1 p o) : Q (.ref p) H1 :=
  d _ p s o (by rw [e]) (by unfold outOf; rw [e]; exact eo) S (Same.kept s1) np hp
section
variable {P : Program} {w : World} {K : PySem.W.Frag} {mg : Str → Option Value} {base : Heap} {C : Addr}
/-! ### points -/
theorem scPoi : FnScope ["self", "number"] ["self", "number"] (defScope sPoi) := ⟨rfl, rfl, rfl, by decide +kernel, rfl, by decide +kernel, by decide +kernel⟩
def spPoi (C : Addr) : Sp := fun vs H Q _ => ∃ (x qa : Addr) (s : Series) (n : Nat), vs = [.ref x, .int (n : Int)] ∧ SeriesAt C qa H x s ∧ Good s ∧ Done C qa x s (.points n) H Q
theorem ok_poi {f : Addr} {fd : FuncData} {t1 : Tok} (F : Fun K "points" "Series.points" sPoi f fd) (T : Txt K C) (ml : mg "len" = none) (c1 : mg "NONE_THERE" = some (.int (-2) t1)) : FnOk P w K mg base CX0 1 f fd ["self", "number"] (spPoi C) := by
  refine F.ok scPoi (fun vs H Q E h => ?_) (fun cdv A outer s H vs Q E hr h => ?_)
  · obtain ⟨x, _, s, n, rfl, _⟩ := h
    rfl
  · obtain ⟨x, qa, s, n, rfl, S, g, q⟩ := h
    refine ⟨_, pss_cons (ps_if (pt_cmpR op_ge (pv 1) (pe_callB call_len_seq (by rfl) ml PySem.boot_len (pa_cons (pe_fld (pv 0) rfl) pa_nil)) (nomark _)) (pss_one (ps_ret (pe_lst (pa_cons (pgi c1) pa_nil)))) pss_nil)
      (pss_one (ps_ret (pe_op op_cat (pe_lst (pa_cons pe_int pa_nil)) (pe_ix ix_list (pe_fld (pv 0) rfl) (pv 1) (fun _ _ => rfl))))), ?_⟩
    have estep : Uw33.step s (.points n) = if s.races.length ≤ n then (s, Uw33.ok (-2)) else (s, ⟨0, s.boats.map fun b => s.points n b⟩) := rfl
    obtain ⟨dx, ra, ca, hx, hra, as, hca, hR, hap⟩ := S
    have S : SeriesAt C qa H x s := ⟨dx, ra, ca, hx, hra, as, hca, hR, hap⟩
    refine ⟨_, rfl, _, rfl, x, C, dx, _, _, rfl, hx, T.cl, T.nC, sF_ca, ca, _, rfl, .inl (.of hca), _, _, rfl, rfl, _, rfl, ite2 (fun c => ?_) (fun c => ?_)⟩
    · have c' := of_decide_eq_true c
      rw [rows_len hR] at c'
      exact ⟨(by show 1 ≤ sizeLine; decide), fun p np => done_no q S (.refl H) (by rw [estep, if_pos (by omega)]) np⟩
    · have c' : ¬ s.races.length ≤ n := fun z => c (decide_eq_true (by rw [rows_len hR]; omega))
      have hlt : n < s.races.length := by omega
      have ha : as[n]? = some (as.getD n 0) := by
        have : n < as.length := by
          rw [hR.len, rowsOf_length]
          exact hlt
        rw [List.getD_eq_getElem?_getD, List.getElem?_eq_getElem this]
        rfl
      have hrow := hR.at_ n _ _ ha (rowsOf_get hlt)
      refine ⟨(by show 1 ≤ sizeLine; decide), fun e1 ne1 => ?_⟩
      have u1 := same_upd (o := .lst [V.int 0]) ne1
      refine ⟨_, rfl, x, C, dx, _, _, rfl, u1 _ _ hx, T.cl, T.nC, sF_ca, _, rfl, ca, _, _, _, rfl, rfl, .of (u1 _ _ hca), atI_nat (ref_get ha), ?_⟩
      refine ⟨e1, as.getD n 0, _, _, rfl, rfl, upd_same, u1 _ _ hrow, ?_, fun p np => ?_⟩
      · show 1 + _ ≤ sizeLine
        rw [List.length_map, ints_length, List.length_map, boats_length]
        have := g.five
        exact Nat.le_of_lt (small (by omega))
      · refine done_yes q (S.same (u1.trans (same_upd np))) (u1.trans (same_upd np)) (by rw [estep, if_neg c']) (o := 0 :: toI (s.boats.map fun b => s.points n b)) rfl (u1.free np) ?_
        exact upd_same
/-! ### order -/
theorem scOrd : FnScope ["self", "left_out"] ["self"] (defScope sOrd) := ⟨rfl, rfl, rfl, by decide +kernel, rfl, by decide +kernel, by decide +kernel⟩
def spOrd (C : Addr) : Sp := fun vs H Q _ => ∃ (x qa : Addr) (s : Series), vs = [.ref x] ∧ SeriesAt C qa H x s ∧ Good s ∧ Done C qa x s .order H Q
theorem ok_ord {f f1 f2 : Addr} {fd fd1 fd2 : FuncData} (F : Fun K "order" "Series.order" sOrd f fd) (T : Txt K C) (ml : mg "len" = none)
    (m1 : Meth K C "are_all_sailed" f1) (b1 : Binds K fd1 ["self"] []) (G1 : FnOk P w K mg base CX0 1 f1 fd1 ["self"] (spAas C))
    (F2 : Fun K "order_told" "order_told" sOto f2 fd2) (b2 : Binds K fd2 ["races", "many", "left_out"] []) (g2 : mg "order_told" = some (.ref f2)) (G2 : FnOk P w K mg base CX0 3 f2 fd2 ["races", "many", "left_out"] spOto) :
    FnOk P w K mg base CX0 4 f fd ["self"] (spOrd C) := by
  refine F.ok scOrd (fun vs H Q E h => ?_) (fun cdv A outer s H vs Q E hr h => ?_)
  · obtain ⟨x, _, s, rfl, _⟩ := h
    rfl
  · obtain ⟨x, qa, s, rfl, S, g, q⟩ := h
    have hr1 : Room 1 _ := hr.mono (by decide)
    refine ⟨_, pss_cons (ps_set (i := 1) scOrd.nd rfl (Or.inl rfl) (pe_ifExp (pt_val (pe_meth0 (pv 0) T.cl m1 G1 hr1 b1 .nil pass0)) (pe_fld (pv 0) rfl) pe_int))
      (pss_one (ps_ret (pe_op op_cat (pe_lst (pa_cons (pv 1) pa_nil)) (pe_call G2 hr (by rfl) g2 F2.kp b2 .nil pass0
        (pa_cons (pe_fld (pv 0) rfl) (pa_cons (pe_callB call_len_seq (by rfl) ml PySem.boot_len (pa_cons (pe_fld (pv 0) rfl) pa_nil)) (pa_cons (pv 1) pa_nil))))))), ?_⟩
    obtain ⟨dx, ra, ca, hx, hra, as, hca, hR, hap⟩ := S
    have S : SeriesAt C qa H x s := ⟨dx, ra, ca, hx, hra, as, hca, hR, hap⟩
    have rest : ∀ d : Nat, d = s.drop → tRet (tOp rCat (tLst (tCons (tVar 1) tNil)) (tCall spOto [] E0 (tCons (tFld K (tVar 0) "races") (tCons (tCB (fun xs H Q => ∃ p ys, xs = [.ref p] ∧ (SqL K H p ys ∨ SqT K H p ys) ∧ Q (.int ys.length) H) (tCons (tFld K (tVar 0) "ratings") tNil)) (tCons (tVar 1) tNil)))))
        { nx := fun _ H' => Q .non H', rt := Q } [some (.ref x), some (.int (d : Int))] H := by
      intro d hd
      refine ⟨_, rfl, (by show 1 ≤ sizeLine; decide), fun e1 ne1 => ?_⟩
      have u1 := same_upd (o := .lst [V.int (d : Int)]) ne1
      refine ⟨_, rfl, x, C, dx, _, _, rfl, u1 _ _ hx, T.cl, T.nC, sF_ca, ?_⟩
      refine ⟨_, rfl, x, C, dx, _, _, rfl, u1 _ _ hx, T.cl, T.nR, sF_ra, ra, _, rfl, .inl (.of (u1 _ _ hra)), _, rfl, ?_⟩
      have hm := g.most
      have h8 := g.p8
      have h5 := g.five
      have ho := drop_le g
      refine ⟨ca, s.ratings.length, s.drop, rowsOf s, ?_, LR.same ⟨as, hca, hR⟩ u1, by rw [rowsOf_length]; omega, g.five, fun r hr => rowsOf_row hr, by rw [rowsOf_length]; exact ho, fun H2 p2 s2 np2 hp2 => ?_⟩
      · rw [List.length_map, ints_length, hd]
        rfl
      · have hol : (orderL (rowsOf s) s.ratings.length s.drop).length ≤ 10 := by
          unfold orderL
          rw [pairs_length]
          unfold orderB
          rw [List.length_mergeSort, List.length_range]
          omega
        refine ⟨e1, p2, _, _, rfl, rfl, s2 _ _ upd_same, hp2, ?_, fun p np => ?_⟩
        · show 1 + _ ≤ sizeLine
          rw [List.length_map]
          exact Nat.le_of_lt (small (by omega))
        · have u3 := (u1.trans s2).trans (same_upd (o := .lst ([V.int (d : Int)] ++ (orderL (rowsOf s) s.ratings.length s.drop).map V.int)) np)
          refine done_yes q (S.same u3) u3 (a := ⟨(s.drop : Nat), s.order.flatMap fun b => [b, s.sum b]⟩) (o := (s.drop : Int) :: toI (s.order.flatMap fun b => [b, s.sum b])) rfl rfl ((u1.trans s2).free np) ?_
          show upd _ p _ p = _
          rw [upd_same, orderL_is g, hd]
          rfl
    refine ⟨_, rfl, x, dx, _, rfl, hx, sF_aas, x, qa, s, rfl, S, _, rfl, ite2 (fun c => ?_) (fun c => ?_)⟩
    · have c' := of_decide_eq_true c
      refine ⟨_, rfl, x, C, dx, _, _, rfl, hx, T.cl, T.nL, sF_ou, ?_⟩
      exact rest s.out (by rw [drop_is g, if_pos c'])
    · have c' : ¬ s.races.length = s.planned := fun z => c (decide_eq_true z)
      exact rest 0 (by rw [drop_is g, if_neg c'])
/-! ### chances -/
theorem scCha : FnScope ["self", "left_out"] ["self"] (defScope sCha) := ⟨rfl, rfl, rfl, by decide +kernel, rfl, by decide +kernel, by decide +kernel⟩
def spCha (C : Addr) : Sp := fun vs H Q _ => ∃ (x qa : Addr) (s : Series), vs = [.ref x] ∧ SeriesAt C qa H x s ∧ Good s ∧ Done C qa x s .chances H Q
theorem ok_cha {f f1 f2 : Addr} {fd fd1 fd2 : FuncData} {t1 : Tok} (F : Fun K "chances" "Series.chances" sCha f fd) (T : Txt K C) (ml : mg "len" = none) (c1 : mg "NO_CHANCES" = some (.int (-6) t1))
    (m1 : Meth K C "are_all_sailed" f1) (b1 : Binds K fd1 ["self"] []) (G1 : FnOk P w K mg base CX0 1 f1 fd1 ["self"] (spAas C))
    (F2 : Fun K "chances_told" "chances_told" sCto f2 fd2) (b2 : Binds K fd2 ["races", "many", "left_out"] []) (g2 : mg "chances_told" = some (.ref f2)) (G2 : FnOk P w K mg base CX0 4 f2 fd2 ["races", "many", "left_out"] spCto) :
    FnOk P w K mg base CX0 5 f fd ["self"] (spCha C) := by
  refine F.ok scCha (fun vs H Q E h => ?_) (fun cdv A outer s H vs Q E hr h => ?_)
  · obtain ⟨x, _, s, rfl, _⟩ := h
    rfl
  · obtain ⟨x, qa, s, rfl, S, g, q⟩ := h
    have hr1 : Room 1 _ := hr.mono (by decide)
    refine ⟨_, pss_cons (ps_if (PW.pt (pw_or (pt_val (pe_meth0 (pv 0) T.cl m1 G1 hr1 b1 .nil pass0)) (pw_or1 (pt_cmpR (op_eqD hr.units) (pe_fld (pv 0) rfl) (pe_lst pa_nil) (nomark _))))) (pss_one (ps_ret (pe_lst (pa_cons (pgi c1) pa_nil)))) pss_nil)
      (pss_cons (ps_set (i := 1) scCha.nd rfl (Or.inl rfl) (pe_ifExp (pt_cmpR op_eq (pe_op op_add (pe_callB call_len_seq (by rfl) ml PySem.boot_len (pa_cons (pe_fld (pv 0) rfl) pa_nil)) pe_int) (pe_fld (pv 0) rfl) (nomark _)) (pe_fld (pv 0) rfl) pe_int))
      (pss_one (ps_ret (pe_call G2 hr (by rfl) g2 F2.kp b2 .nil pass0
        (pa_cons (pe_fld (pv 0) rfl) (pa_cons (pe_callB call_len_seq (by rfl) ml PySem.boot_len (pa_cons (pe_fld (pv 0) rfl) pa_nil)) (pa_cons (pv 1) pa_nil))))))), ?_⟩
    have estep : Uw33.step s .chances = if s.planned ≤ s.races.length ∨ s.ratings = [] then (s, Uw33.ok (-6)) else (s, ⟨((s.boats.filter s.mayWin).length : Nat), s.boats.map (told s)⟩) := rfl
    obtain ⟨dx, ra, ca, hx, hra, as, hca, hR, hap⟩ := S
    have S : SeriesAt C qa H x s := ⟨dx, ra, ca, hx, hra, as, hca, hR, hap⟩
    have hm := g.most
    refine ⟨_, rfl, x, dx, _, rfl, hx, sF_aas, x, qa, s, rfl, S, _, rfl, ite2 (fun c => ?_) (fun c => ?_)⟩
    · have c' := of_decide_eq_true c
      exact iteT ⟨(by show 1 ≤ sizeLine; decide), fun p np => done_no q S (.refl H) (by rw [estep, if_pos (.inl (by omega))]) np⟩
    · have c' : ¬ s.races.length = s.planned := fun z => c (decide_eq_true z)
      refine ⟨_, rfl, x, C, dx, _, _, rfl, hx, T.cl, T.nR, sF_ra, Nat.zero_le _, fun e1 ne1 => ?_⟩
      have u1 := same_upd (o := .lst []) ne1
      refine ⟨.list ((toI s.ratings).map .int), .list [], .lst (.of (u1 _ _ hra)) (dp_ints _), .lst (.of upd_same) .nil, shaped_ints _, shaped_ints [], _, rfl, ite2 (fun e => ?_) (fun e => ?_)⟩
      · have e' : s.ratings = [] := by
          rw [eqv_nil, ratD_empty] at e
          exact of_decide_eq_true e
        exact ⟨(by show 1 ≤ sizeLine; decide), fun p np => done_no q (S.same u1) u1 (by rw [estep, if_pos (.inr e')]) np⟩
      · have e' : ¬ s.ratings = [] := fun z => e (by rw [eqv_nil, ratD_empty, decide_eq_true z])
        have n1 : ¬ (s.planned ≤ s.races.length ∨ s.ratings = []) := by
          rintro (z | z)
          · omega
          · exact e' z
        have rest : ∀ d : Nat, d = leftNext s → tRet (tCall spCto [] E0 (tCons (tFld K (tVar 0) "races") (tCons (tCB (fun xs H Q => ∃ p ys, xs = [.ref p] ∧ (SqL K H p ys ∨ SqT K H p ys) ∧ Q (.int ys.length) H) (tCons (tFld K (tVar 0) "ratings") tNil)) (tCons (tVar 1) tNil))))
            { nx := fun _ H' => Q .non H', rt := Q } [some (.ref x), some (.int (d : Int))] (upd H e1 (.lst [])) := by
          intro d hd
          refine ⟨_, rfl, x, C, dx, _, _, rfl, u1 _ _ hx, T.cl, T.nC, sF_ca, ?_⟩
          refine ⟨_, rfl, x, C, dx, _, _, rfl, u1 _ _ hx, T.cl, T.nR, sF_ra, ra, _, rfl, .inl (.of (u1 _ _ hra)), _, rfl, ?_⟩
          have h8 := g.p8
          have h5 := g.five
          have ho := leftNext_le g
          refine ⟨ca, s.ratings.length, leftNext s, rowsOf s, ?_, LR.same ⟨as, hca, hR⟩ u1, by rw [rowsOf_length]; omega, g.five, fun r hr => rowsOf_row hr, by rw [rowsOf_length]; omega, fun H2 p2 s2 np2 hp2 => ?_⟩
          · rw [List.length_map, ints_length, hd]
            rfl
          · rw [chancesT_is g] at hp2
            exact done_yes q (S.same (u1.trans s2)) (u1.trans s2) (a := ⟨((s.boats.filter s.mayWin).length : Nat), s.boats.map (told s)⟩) (o := (((s.boats.filter s.mayWin).length : Nat) : Int) :: toI (s.boats.map (told s))) (by rw [estep, if_neg n1]) rfl (u1.free np2) hp2
        refine ⟨_, rfl, x, C, dx, _, _, rfl, u1 _ _ hx, T.cl, T.nC, sF_ca, ca, _, rfl, .inl (.of (u1 _ _ hca)), _, _, rfl, rfl, _, rfl, x, C, dx, _, _, rfl, u1 _ _ hx, T.cl, T.nP, sF_pl, rfl, _, rfl, ite2 (fun f => ?_) (fun f => ?_)⟩
        · have f' : s.races.length + 1 = s.planned := by
            have z := V.int.inj (of_decide_eq_true f)
            rw [rows_len hR] at z
            omega
          refine ⟨_, rfl, x, C, dx, _, _, rfl, u1 _ _ hx, T.cl, T.nL, sF_ou, ?_⟩
          exact rest s.out (by unfold leftNext; rw [if_pos f'])
        · have f' : ¬ s.races.length + 1 = s.planned := fun z => f (decide_eq_true (by
            rw [rows_len hR, ← z]
            rfl))
          exact rest 0 (by unfold leftNext; rw [if_neg f'])
end
end Sail
namespace Sail
open PySem PySem.Spec PyProof.Rows L2
open Uw33 (Series Call)
section
variable {P : Program} {w : World} {K : PySem.W.Frag} {mg : Str → Option Value} {base : Heap} {C : Addr}
/-! ### answer_of -/
theorem scAof : FnScope ["series", "call", "numbers"] ["series", "call", "numbers"] (defScope sAof) := ⟨rfl, rfl, rfl, by decide +kernel, rfl, by decide +kernel, by decide +kernel⟩
def spAof (C : Addr) : Sp := fun vs H Q _ => ∃ (x a qa : Addr) (lq : List V) (s : Series) (p : Nat) (xs : List Nat), vs = [.ref x, .int (p : Int), .ref a] ∧ SeriesAt C qa H x s ∧ H qa = some (.lst lq) ∧ Good s ∧ (p = 0 ∨ p = 1 ∨ p = 3 ∨ p = 4 ∨ p = 5) ∧ xs.length = many p ∧
  LI H a (toI xs) ∧ Done C qa x s (calOf p xs) H Q
theorem ok_aof {f f1 f2 f3 f4 f5 : Addr} {fd fd1 fd2 fd3 fd4 fd5 : FuncData} {t1 t2 t3 t4 : Tok} (F : Fun K "answer_of" "answer_of" sAof f fd) (T : Txt K C)
    (c0 : mg "BEGINS" = some (.int 0 t1)) (c1 : mg "BOAT" = some (.int 1 t2)) (c3 : mg "POINTS" = some (.int 3 t3)) (c4 : mg "ORDER" = some (.int 4 t4))
    (m1 : Meth K C "begins" f1) (b1 : Binds K fd1 ["self", "planned", "left_out"] []) (G1 : FnOk P w K mg base CX0 1 f1 fd1 ["self", "planned", "left_out"] (spBeg C))
    (m2 : Meth K C "boat" f2) (b2 : Binds K fd2 ["self", "rating"] []) (G2 : FnOk P w K mg base CX0 1 f2 fd2 ["self", "rating"] (spBoa C))
    (m3 : Meth K C "points" f3) (b3 : Binds K fd3 ["self", "number"] []) (G3 : FnOk P w K mg base CX0 1 f3 fd3 ["self", "number"] (spPoi C))
    (m4 : Meth K C "order" f4) (b4 : Binds K fd4 ["self"] []) (G4 : FnOk P w K mg base CX0 4 f4 fd4 ["self"] (spOrd C))
    (m5 : Meth K C "chances" f5) (b5 : Binds K fd5 ["self"] []) (G5 : FnOk P w K mg base CX0 5 f5 fd5 ["self"] (spCha C)) :
    FnOk P w K mg base CX0 6 f fd ["series", "call", "numbers"] (spAof C) := by
  refine F.ok scAof (fun vs H Q E h => ?_) (fun cdv A outer s H vs Q E hr h => ?_)
  · obtain ⟨x, a, qa, lq, s, p, xs, rfl, _⟩ := h
    rfl
  · obtain ⟨x, a, qa, lq, s, p, xs, rfl, S, hqa, g, hp, hl, ha, q⟩ := h
    have hr1 : Room 1 _ := hr.mono (by decide)
    have hr4 : Room 4 _ := hr.mono (by decide)
    refine ⟨_, pss_cons (ps_if (pt_cmpR op_eq (pv 1) (pgi c0) (nomark _)) (pss_one (ps_ret (pe_meth (pv 0) T.cl m1 G1 hr1 b1 .nil pass0 (pa_cons (pe_ix ix_list (pv 2) pe_int (fun _ _ => rfl)) (pa_cons (pe_ix ix_list (pv 2) pe_int (fun _ _ => rfl)) pa_nil))))) pss_nil)
      (pss_cons (ps_if (pt_cmpR op_eq (pv 1) (pgi c1) (nomark _)) (pss_one (ps_ret (pe_meth (pv 0) T.cl m2 G2 hr1 b2 .nil pass0 (pa_cons (pe_ix ix_list (pv 2) pe_int (fun _ _ => rfl)) pa_nil)))) pss_nil)
      (pss_cons (ps_if (pt_cmpR op_eq (pv 1) (pgi c3) (nomark _)) (pss_one (ps_ret (pe_meth (pv 0) T.cl m3 G3 hr1 b3 .nil pass0 (pa_cons (pe_ix ix_list (pv 2) pe_int (fun _ _ => rfl)) pa_nil)))) pss_nil)
      (pss_cons (ps_if (pt_cmpR op_eq (pv 1) (pgi c4) (nomark _)) (pss_one (ps_ret (pe_meth0 (pv 0) T.cl m4 G4 hr4 b4 .nil pass0))) pss_nil)
      (pss_one (ps_ret (pe_meth0 (pv 0) T.cl m5 G5 hr b5 .nil pass0)))))), ?_⟩
    obtain ⟨dx, ra, ca, hx, hrest⟩ := S
    have S : SeriesAt C qa H x s := ⟨dx, ra, ca, hx, hrest⟩
    rcases hp with rfl | rfl | rfl | rfl | rfl
    · match xs, hl with
      | [n, k], _ =>
        refine ⟨_, rfl, rfl, _, rfl, if_true_of (decide_eq_true rfl) ?_⟩
        exact ⟨_, rfl, x, dx, _, rfl, hx, sF_beg, _, rfl, a, _, _, _, rfl, rfl, .of ha, atI_nat (j := 0) rfl, _, rfl, a, _, _, _, rfl, rfl, .of ha, atI_nat (j := 1) rfl, x, qa, lq, s, n, k, rfl, S, hqa, g, q⟩
    · match xs, hl with
      | [n], _ =>
        refine ⟨_, rfl, rfl, _, rfl, if_false_of (decide_eq_false (by intro z; cases z)) ?_⟩
        refine ⟨_, rfl, rfl, _, rfl, if_true_of (decide_eq_true rfl) ?_⟩
        exact ⟨_, rfl, x, dx, _, rfl, hx, sF_boa, _, rfl, a, _, _, _, rfl, rfl, .of ha, atI_nat (j := 0) rfl, x, qa, lq, s, n, rfl, S, hqa, g, q⟩
    · match xs, hl with
      | [n], _ =>
        refine ⟨_, rfl, rfl, _, rfl, if_false_of (decide_eq_false (by intro z; cases z)) ?_⟩
        refine ⟨_, rfl, rfl, _, rfl, if_false_of (decide_eq_false (by intro z; cases z)) ?_⟩
        refine ⟨_, rfl, rfl, _, rfl, if_true_of (decide_eq_true rfl) ?_⟩
        exact ⟨_, rfl, x, dx, _, rfl, hx, sF_poi, _, rfl, a, _, _, _, rfl, rfl, .of ha, atI_nat (j := 0) rfl, x, qa, s, n, rfl, S, g, q⟩
    · refine ⟨_, rfl, rfl, _, rfl, if_false_of (decide_eq_false (by intro z; cases z)) ?_⟩
      refine ⟨_, rfl, rfl, _, rfl, if_false_of (decide_eq_false (by intro z; cases z)) ?_⟩
      refine ⟨_, rfl, rfl, _, rfl, if_false_of (decide_eq_false (by intro z; cases z)) ?_⟩
      refine ⟨_, rfl, rfl, _, rfl, if_true_of (decide_eq_true rfl) ?_⟩
      exact ⟨_, rfl, x, dx, _, rfl, hx, sF_ord, x, qa, s, rfl, S, g, q⟩
    · refine ⟨_, rfl, rfl, _, rfl, if_false_of (decide_eq_false (by intro z; cases z)) ?_⟩
      refine ⟨_, rfl, rfl, _, rfl, if_false_of (decide_eq_false (by intro z; cases z)) ?_⟩
      refine ⟨_, rfl, rfl, _, rfl, if_false_of (decide_eq_false (by intro z; cases z)) ?_⟩
      refine ⟨_, rfl, rfl, _, rfl, if_false_of (decide_eq_false (by intro z; cases z)) ?_⟩
      exact ⟨_, rfl, x, dx, _, rfl, hx, sF_cha, x, qa, s, rfl, S, g, q⟩
/-! ### answers -/
theorem scAns : FnScope ["calls", "series", "found", "at", "call", "begin", "answer"] ["calls"] (defScope sAns) := ⟨rfl, rfl, rfl, by decide +kernel, rfl, by decide +kernel, by decide +kernel⟩
def spAns (K : PySem.W.Frag) : Sp := fun vs H Q _ => ∃ (a : Addr) (l : List Int), vs = [.ref a] ∧ SqL K H a (l.map V.int) ∧ (∀ z ∈ l, 0 ≤ z) ∧ PyUw33.answers_asked l = true ∧
  ∀ (H' : Hp) (p : Addr), H' p = some (.lst ((PyUw33.answers l).map V.int)) → Q (.ref p) H'
/-- found.append(len(answer)); found.extend(answer) -/
def tTail (K : PySem.W.Frag) : TS := tSeq (tDrop (tBM K "list" rAppend (tVar 2) (tCons (tCB (fun xs H Q => ∃ p ys, xs = [.ref p] ∧ (SqL K H p ys ∨ SqT K H p ys) ∧ Q (.int ys.length) H) (tCons (tVar 6) tNil)) tNil)))
  (tDrop (tBM K "list" rExtend (tVar 2) (tCons (tVar 6) tNil)))
theorem same_kept {H H1 H2 : Hp} {x : Addr} (s : Same H H1) (k : Kept x H1 H2) (nx : H x = none) : Same H H2 := fun b o e => k b o (s b o e) (ne_of_none e nx)
theorem series_past {q x : Addr} {H : Hp} {s : Series} {o : HO} {l : List V} (S : SeriesAt C q H x s) (hq : H q = some (.lst l)) : SeriesAt C q (upd H q o) x s := by
  obtain ⟨dx, ra, ca, hx, hra, as, hca, hR, n1, n2, n3⟩ := S
  refine ⟨dx, ra, ca, ?_, ?_, as, ?_, ⟨hR.len, fun i a r e1 e2 => ?_⟩, n1, n2, n3⟩
  · rw [upd_ne (ne_of hx hq (by intro z; cases z))]
    exact hx
  · show upd H q o ra = _
    rw [upd_ne n1]
    exact hra
  · rw [upd_ne n2]
    exact hca
  · show upd H q o a = _
    rw [upd_ne (n3 a (List.mem_of_getElem? e1))]
    exact hR.at_ i a r e1 e2
theorem tail_ok {H H3 : Hp} {D : Ends} {σ : L2.St} {x p pa : Addr} {s : Series} {found o : List Int} (h2 : σ[2]? = some (some (.ref p))) (h6 : σ[6]? = some (some (.ref pa))) (s3 : Same H H3) (np : H p = none) (S : SeriesAt C p H3 x s) (hp : LI H3 p found) (hpa : LI H3 pa o) (ne : pa ≠ p)
    (hz : found.length + 1 + o.length ≤ 10000000) (k : ∀ H', Same H H' → SeriesAt C p H' x s → LI H' p (found ++ [(o.length : Int)] ++ o) → D.nx σ H') : tTail K D σ H3 := by
  refine ⟨_, h2, .inl ⟨rfl, _, .of hp⟩, _, h6, pa, _, rfl, .inl (.of hpa), p, _, _, rfl, rfl, hp, ?_, ?_⟩
  · rw [List.length_map]
    exact Nat.lt_of_le_of_lt (show found.length ≤ 10000000 by omega) (by decide)
  · have hp4 : upd H3 p (.lst (found.map V.int ++ [V.int ((o.map V.int).length : Int)])) p = some (.lst (found.map V.int ++ [V.int ((o.map V.int).length : Int)])) := upd_same
    have hpa4 : upd H3 p (.lst (found.map V.int ++ [V.int ((o.map V.int).length : Int)])) pa = some (.lst (o.map V.int)) := by
      rw [upd_ne ne]
      exact hpa
    refine ⟨_, h2, .inl ⟨rfl, _, .of hp4⟩, _, h6, p, pa, _, _, rfl, rfl, hp4, hpa4, ?_, ?_⟩
    · rw [List.length_append, List.length_map, List.length_map]
      exact Nat.le_trans (show found.length + 1 + o.length ≤ 10000000 from hz) (by decide)
    · refine k _ ?_ ?_ ?_
      · exact same_write (same_write s3 np) np
      · exact series_past (series_past S hp) hp4
      · show upd _ p _ p = _
        rw [upd_same, List.length_map, List.map_append, List.map_append]
        rfl
theorem loop_sum {l : List Int} {i : Nat} {s : Series} {found o : List Int} (L : Loop l i s (found ++ [(o.length : Int)] ++ o)) (h : (PyUw33.answers l).length ≤ 10000000) : found.length + 1 + o.length ≤ 10000000 := by
  have e := loop_short L h
  rw [List.length_append, List.length_append] at e
  exact e
theorem ok_ans {f fI fR fA aM : Addr} {fd fdI fdR fdA : FuncData} {t1 : Tok} (F : Fun K "answers" "answers" sAns f fd) (T : Txt K C) (ml : mg "len" = none) (c2 : mg "RACE" = some (.int 2 t1))
    (gM : mg "MANY_NUMBERS" = some (.ref aM)) (hM : ∀ H : Hp, SqT K H aM [.int 2, .int 1, .int 0, .int 1, .int 0, .int 0])
    (gC : mg "Series" = some (.ref C)) (M : Mk K C fI) (bI : Binds K fdI ["self"] []) (GI : FnOk P w K mg base CX0 1 fI fdI ["self"] (spIni C))
    (mR : Meth K C "race" fR) (bR : Binds K fdR ["self", "times"] []) (GR : FnOk P w K mg base CX0 3 fR fdR ["self", "times"] (spRac C))
    (FA : Fun K "answer_of" "answer_of" sAof fA fdA) (bA : Binds K fdA ["series", "call", "numbers"] []) (gA : mg "answer_of" = some (.ref fA)) (GA : FnOk P w K mg base CX0 6 fA fdA ["series", "call", "numbers"] (spAof C)) :
    FnOk P w K mg base CX0 7 f fd ["calls"] (spAns K) := by
  refine F.ok scAns (fun vs H Q E h => ?_) (fun cdv A outer s H vs Q E hr h => ?_)
  · obtain ⟨a, l, rfl, _⟩ := h
    rfl
  · obtain ⟨a, l, rfl, hS, hpos, hask, q⟩ := h
    have hr2 : Room 2 _ := hr.mono (by decide)
    have hr3 : Room 3 _ := hr.mono (by decide)
    refine ⟨_, pss_cons (ps_set (i := 1) scAns.nd rfl (Or.inl rfl) (pe_make0 M GI hr2 rfl gC bI .nil pass0))
      (pss_cons (ps_set (i := 2) scAns.nd rfl (Or.inl rfl) (pe_lst pa_nil))
      (pss_cons (ps_set (i := 3) scAns.nd rfl (Or.inl rfl) pe_int)
      (pss_cons (ps_while PassesOwn.never (pt_cmpR op_lt (pv 3) (pe_callB call_len_seq (by rfl) ml PySem.boot_len (pa_cons (pv 0) pa_nil)) (nomark _))
        (pss_cons (ps_set (i := 4) scAns.nd rfl (Or.inl rfl) (pe_ix ix_list (pv 0) (pv 3) (fun _ _ => rfl)))
        (pss_cons (ps_if (pt_cmpR op_eq (pv 4) (pgi c2) (nomark _))
          (pss_cons (ps_set (i := 5) scAns.nd rfl (Or.inl rfl) (pe_op op_add (pv 3) pe_int))
          (pss_cons (ps_set (i := 3) scAns.nd rfl (Or.inl rfl) (pe_op op_add (pv 5) (pe_ix ix_list (pv 0) (pe_op op_add (pv 3) pe_int) (fun _ _ => rfl))))
          (pss_one (ps_set (i := 6) scAns.nd rfl (Or.inl rfl) (pe_meth (pv 1) T.cl mR GR hr3 bR .nil pass0 (pa_cons (pe_slice sl_list (pv 0) (po_some (pv 5)) (po_some (pv 3))) pa_nil))))))
          (pss_cons (ps_set (i := 5) scAns.nd rfl (Or.inl rfl) (pe_op op_add (pv 3) pe_int))
          (pss_cons (ps_set (i := 3) scAns.nd rfl (Or.inl rfl) (pe_op op_add (pv 5) (pe_ix ix_tup (pe_glob (v := .ref aM) rfl gM rfl) (pv 4) (fun _ _ => rfl))))
          (pss_one (ps_set (i := 6) scAns.nd rfl (Or.inl rfl) (pe_call GA hr (by rfl) gA FA.kp bA .nil pass0 (pa_cons (pv 1) (pa_cons (pv 4) (pa_cons (pe_slice sl_list (pv 0) (po_some (pv 5)) (po_some (pv 3))) pa_nil))))))) ))
        (pss_cons (ps_expr (pe_bm PySem.F.plainAttrs_list PySem.F.slot_list_append PySem.F.type_list_append mt_append (pv 2) (pa_cons (pe_callB call_len_seq (by rfl) ml PySem.boot_len (pa_cons (pv 6) pa_nil)) pa_nil)))
        (pss_one (ps_expr (pe_bm PySem.F.plainAttrs_list PySem.F.slot_list_extend PySem.F.type_list_extend mt_extend (pv 2) (pa_cons (pv 6) pa_nil)))))))) 
      (pss_one (ps_ret (pv 2)))))), ?_⟩
    obtain ⟨L0, hshort⟩ := loop_start hask
    -- series = Series()
    intro x dx nx nd ne
    refine ⟨x, dx, rfl, upd_same, fun H1 ra ca h1 h2 h3 kp => ⟨rfl, ?_⟩⟩
    have s1 : Same H H1 := Same.made nx nd kp
    -- found = []; at = 0
    refine ⟨Nat.zero_le _, fun p np1 => ?_⟩
    have np : H p = none := s1.free np1
    have t1 := same_upd (o := .lst []) np1
    -- the loop
    refine ⟨fun m σ H' => ∃ (z : Int) (i : Nat) (s : Series) (found : List Int) (y4 y5 y6 : Option V), σ = [some (.ref a), some (.ref x), some (.ref p), some (.int z), y4, y5, y6] ∧ z = (i : Int) ∧ m = l.length - i ∧ Same H H' ∧ SeriesAt C p H' x s ∧ LI H' p found ∧ Loop l i s found,
      ⟨l.length, 0, 0, Uw33.init, [], none, none, none, rfl, rfl, rfl, s1.trans t1, ?_, upd_same, L0⟩, ?_⟩
    · refine ⟨dx, ra, ca, t1 _ _ h1, t1 _ _ h2, [], t1 _ _ h3, Rows.nil, ne_of_none h2 np1, ne_of_none h3 np1, fun a h => nomatch h⟩
    · rintro m σ H2 ⟨z, i, s, found, y4, y5, y6, rfl, ez, rfl, s2, S, hp, L⟩
      have hA := s2.seq hS
      refine ⟨_, rfl, _, rfl, a, _, rfl, .inl hA, _, _, rfl, rfl, _, rfl, ite2 (fun c => ?_) (fun c => ?_)⟩
      · have c' := of_decide_eq_true c
        rw [List.length_map] at c'
        have hlt : i < l.length := by omega
        obtain ⟨dx2, ra2, ca2, hx2, hrest⟩ := S
        have S : SeriesAt C p H2 x s := ⟨dx2, ra2, ca2, hx2, hrest⟩
        have hpx : p ≠ x := ne_of hp hx2 (by intro z; cases z)
        refine ⟨fun σ' H' => ∃ (z : Int) (j : Nat) (s : Series) (found : List Int) (y4 y5 y6 : Option V), σ' = [some (.ref a), some (.ref x), some (.ref p), some (.int z), y4, y5, y6] ∧ z = (j : Int) ∧ i < j ∧ Same H H' ∧ SeriesAt C p H' x s ∧ LI H' p found ∧ Loop l j s found, ?_, ?_⟩
        · rintro σ' H' ⟨z, j, s, found, y4, y5, y6, rfl, ez, hij, a1, a2, a3, a4⟩
          exact ⟨l.length - j, by have := a4.le; omega, z, j, s, found, y4, y5, y6, rfl, ez, rfl, a1, a2, a3, a4⟩
        · rcases loop_turn L hpos hlt with ⟨e0, n, ts, e1, hle, htl, h10, ecut, L'⟩ | ⟨p', xs, e0, hp', hle, hxl, ecut, L'⟩
          · -- race
            refine ⟨_, rfl, _, rfl, a, _, _, _, rfl, rfl, hA, at_of ez (int_get e0), ?_⟩
            refine ⟨_, rfl, rfl, _, rfl, if_true_of (decide_eq_true rfl) ?_⟩
            refine ⟨_, rfl, _, _, rfl, rfl, ?_⟩
            refine ⟨_, rfl, _, rfl, _, rfl, _, _, rfl, rfl, a, _, _, _, rfl, rfl, hA, at_of (j := i + 1) (by omega) (int_get e1), _, _, rfl, rfl, ?_⟩
            have eS : cutV (l.map V.int) (some (z + 2)) (some (z + 2 + (n : Int))) = (toI ts).map V.int := by
              rw [show z + 2 = ((i + 2 : Nat) : Int) by omega, show ((i + 2 : Nat) : Int) + (n : Int) = ((i + 2 + n : Nat) : Int) by omega, cut_both _ _ _ (by omega) (by rw [List.length_map]; omega), show i + 2 + n - (i + 2) = n by omega, ← ecut, List.map_take, List.map_drop]
            refine ⟨_, rfl, x, dx2, _, rfl, hx2, sF_rac, _, rfl, _, rfl, _, rfl, _, rfl, _, rfl, a, _, rfl, hA, fun p1 np1 => ?_⟩
            have t2 := same_upd (o := .lst (cutV (l.map V.int) (some (z + 2)) (some (z + 2 + (n : Int))))) np1
            refine ⟨x, p1, p, _, s, ts, rfl, S.same t2, t2 _ _ hp, L.good, upd_same.trans (congrArg (fun y => some (HO.lst y)) eS), by omega, fun H3 pa s' o es eo S3 kp3 npa hpa => ?_⟩
            subst es eo
            refine tail_ok rfl rfl (same_kept (s2.trans t2) kp3 nx) np S3 (kp3 _ _ (t2 _ _ hp) hpx) hpa (ne_of_none (t2 _ _ hp) npa).symm (loop_sum L' hshort) fun H4 s4 S4 hp4 => ?_
            exact ⟨z + 2 + (n : Int), i + 2 + n, _, _, _, _, _, rfl, by omega, by omega, s4, S4, hp4, L'⟩
          · -- another call
            have ne2 : ¬ V.int (p' : Int) = V.int 2 := fun h => by
              have := V.int.inj h
              omega
            have hMn : atI [V.int 2, .int 1, .int 0, .int 1, .int 0, .int 0] (p' : Int) = some (.int ((many p' : Nat) : Int)) := by
              rcases hp' with rfl | rfl | rfl | rfl | rfl
              · exact atI_nat (j := 0) rfl
              · exact atI_nat (j := 1) rfl
              · exact atI_nat (j := 3) rfl
              · exact atI_nat (j := 4) rfl
              · exact atI_nat (j := 5) rfl
            refine ⟨_, rfl, _, rfl, a, _, _, _, rfl, rfl, hA, at_of ez (int_get e0), ?_⟩
            refine ⟨_, rfl, rfl, _, rfl, if_false_of (decide_eq_false ne2) ?_⟩
            refine ⟨_, rfl, _, _, rfl, rfl, ?_⟩
            refine ⟨_, rfl, _, rfl, aM, _, _, _, rfl, rfl, hM _, hMn, _, _, rfl, rfl, ?_⟩
            have eS : cutV (l.map V.int) (some (z + 1)) (some (z + 1 + ((many p' : Nat) : Int))) = (toI xs).map V.int := by
              rw [show z + 1 = ((i + 1 : Nat) : Int) by omega, show ((i + 1 : Nat) : Int) + ((many p' : Nat) : Int) = ((i + 1 + many p' : Nat) : Int) by omega, cut_both _ _ _ (by omega) (by rw [List.length_map]; omega), show i + 1 + many p' - (i + 1) = many p' by omega, ← ecut, List.map_take, List.map_drop]
            refine ⟨_, rfl, _, rfl, _, rfl, _, rfl, _, rfl, _, rfl, _, rfl, a, _, rfl, hA, fun p1 np1 => ?_⟩
            have t2 := same_upd (o := .lst (cutV (l.map V.int) (some (z + 1)) (some (z + 1 + ((many p' : Nat) : Int))))) np1
            refine ⟨x, p1, p, _, s, p', xs, rfl, S.same t2, t2 _ _ hp, L.good, hp', hxl, upd_same.trans (congrArg (fun y => some (HO.lst y)) eS), fun H3 pa s' o es eo S3 kp3 npa hpa => ?_⟩
            subst es eo
            refine tail_ok rfl rfl (same_kept (s2.trans t2) kp3 nx) np S3 (kp3 _ _ (t2 _ _ hp) hpx) hpa (ne_of_none (t2 _ _ hp) npa).symm (loop_sum L' hshort) fun H4 s4 S4 hp4 => ?_
            exact ⟨z + 1 + ((many p' : Nat) : Int), i + 1 + many p', _, _, _, _, _, rfl, by omega, by omega, s4, S4, hp4, L'⟩
      · have c' : ¬ i < l.length := fun h => c (decide_eq_true (by rw [List.length_map]; omega))
        have e := loop_end L c'
        subst e
        exact ⟨_, rfl, q H2 p hp⟩
end
end Sail
namespace Sail
open PySem PySem.Spec PyProof.Rows L2
open Uw33 (Series Call)
/-! ### the end: what the top has written -/
theorem all_mk {P : Program} {w : World} {K : PySem.W.Frag} {h : Heap} {mg : Str → Option Value} {fa C aM f0 f1 f2 f3 f4 f5 f6 f7 f8 f9 f10 f11 f12 f13 f14 f15 f16 f17 f18 f19 f20 f21 f22 f23 : Addr} (X : K.In h) (G : h.Ns mainGlobals mg) (hfa : mg "answers" = some (.ref fa))
    {od0 an0 od1 an1 od2 an2 od3 an3 od4 an4 od5 an5 od6 an6 od7 an7 od8 an8 od9 an9 od10 an10 od11 an11 od12 an12 od13 an13 od14 an14 od15 an15 od16 an16 od17 an17 od18 an18 od19 an19 od20 an20 od21 an21 od22 an22 od23 an23 odM : Option Addr} {sl0 sl1 sl2 sl3 sl4 sl5 sl6 sl7 sl8 sl9 sl10 sl11 sl12 sl13 sl14 sl15 sl16 sl17 sl18 sl19 sl20 sl21 sl22 sl23 slM : Array (Option Value)}
    {oc0 kV0 dc0 pm0 cd0 ct0 oc1 kV1 dc1 pm1 cd1 ct1 oc2 kV2 dc2 pm2 cd2 ct2 oc3 kV3 dc3 pm3 cd3 ct3 oc4 kV4 dc4 pm4 cd4 ct4 oc5 kV5 dc5 pm5 cd5 ct5 oc6 kV6 dc6 pm6 cd6 ct6 oc7 kV7 dc7 pm7 cd7 ct7 oc8 kV8 dc8 pm8 cd8 ct8 oc9 kV9 dc9 pm9 cd9 ct9 oc10 kV10 dc10 pm10 cd10 ct10 oc11 kV11 dc11 pm11 cd11 ct11 oc12 kV12 dc12 pm12 cd12 ct12 oc13 kV13 dc13 pm13 cd13 ct13 oc14 kV14 dc14 pm14 cd14 ct14 oc15 kV15 dc15 pm15 cd15 ct15 oc16 kV16 dc16 pm16 cd16 ct16 oc17 kV17 dc17 pm17 cd17 ct17 oc18 kV18 dc18 pm18 cd18 ct18 oc19 kV19 dc19 pm19 cd19 ct19 oc20 kV20 dc20 pm20 cd20 ct20 oc21 kV21 dc21 pm21 cd21 ct21 oc22 kV22 dc22 pm22 cd22 ct22 oc23 kV23 dc23 pm23 cd23 ct23 : Value}
    {t0 t1 t2 t3 t4 t5 t6 t7 t8 t9 t10 t11 t12 t13 t14 t15 t16 t17 u0 u1 u2 u3 u4 u5 : Tok} {nM : Nat}
    (aC : PySem.W.nsIn K mainGlobals "Series" = some (some (.ref C)))
    (a0 : PySem.W.nsIn K mainGlobals "put_right" = some (some (.ref f0)))
    (l0 : K.lookup f0 = some ⟨oc0, od0, .func (PySem.W.fnOf "put_right" "put_right" (defArgs sPut) (defBody sPut) (defScope sPut) .none kV0 dc0 pm0 an0 cd0 ct0), sl0⟩)
    (c0 : PySem.W.codeIn K cd0 "put_right" = true)
    (k0 : PySem.W.keepIn K (.ref f0) = true)
    (a1 : PySem.W.nsIn K mainGlobals "points_of" = some (some (.ref f1)))
    (l1 : K.lookup f1 = some ⟨oc1, od1, .func (PySem.W.fnOf "points_of" "points_of" (defArgs sPof) (defBody sPof) (defScope sPof) .none kV1 dc1 pm1 an1 cd1 ct1), sl1⟩)
    (c1 : PySem.W.codeIn K cd1 "points_of" = true)
    (k1 : PySem.W.keepIn K (.ref f1) = true)
    (a2 : PySem.W.nsIn K mainGlobals "race_points" = some (some (.ref f2)))
    (l2 : K.lookup f2 = some ⟨oc2, od2, .func (PySem.W.fnOf "race_points" "race_points" (defArgs sRpt) (defBody sRpt) (defScope sRpt) .none kV2 dc2 pm2 an2 cd2 ct2), sl2⟩)
    (c2 : PySem.W.codeIn K cd2 "race_points" = true)
    (k2 : PySem.W.keepIn K (.ref f2) = true)
    (a3 : PySem.W.nsIn K mainGlobals "boat_points" = some (some (.ref f3)))
    (l3 : K.lookup f3 = some ⟨oc3, od3, .func (PySem.W.fnOf "boat_points" "boat_points" (defArgs sBpt) (defBody sBpt) (defScope sBpt) .none kV3 dc3 pm3 an3 cd3 ct3), sl3⟩)
    (c3 : PySem.W.codeIn K cd3 "boat_points" = true)
    (k3 : PySem.W.keepIn K (.ref f3) = true)
    (a4 : PySem.W.nsIn K mainGlobals "sum_without" = some (some (.ref f4)))
    (l4 : K.lookup f4 = some ⟨oc4, od4, .func (PySem.W.fnOf "sum_without" "sum_without" (defArgs sSwo) (defBody sSwo) (defScope sSwo) .none kV4 dc4 pm4 an4 cd4 ct4), sl4⟩)
    (c4 : PySem.W.codeIn K cd4 "sum_without" = true)
    (k4 : PySem.W.keepIn K (.ref f4) = true)
    (a5 : PySem.W.nsIn K mainGlobals "orders_with" = some (some (.ref f5)))
    (l5 : K.lookup f5 = some ⟨oc5, od5, .func (PySem.W.fnOf "orders_with" "orders_with" (defArgs sOwi) (defBody sOwi) (defScope sOwi) .none kV5 dc5 pm5 an5 cd5 ct5), sl5⟩)
    (c5 : PySem.W.codeIn K cd5 "orders_with" = true)
    (k5 : PySem.W.keepIn K (.ref f5) = true)
    (a6 : PySem.W.nsIn K mainGlobals "all_orders" = some (some (.ref f6)))
    (l6 : K.lookup f6 = some ⟨oc6, od6, .func (PySem.W.fnOf "all_orders" "all_orders" (defArgs sAor) (defBody sAor) (defScope sAor) .none kV6 dc6 pm6 an6 cd6 ct6), sl6⟩)
    (c6 : PySem.W.codeIn K cd6 "all_orders" = true)
    (k6 : PySem.W.keepIn K (.ref f6) = true)
    (a7 : PySem.W.nsIn K mainGlobals "sums_behind" = some (some (.ref f7)))
    (l7 : K.lookup f7 = some ⟨oc7, od7, .func (PySem.W.fnOf "sums_behind" "sums_behind" (defArgs sSbe) (defBody sSbe) (defScope sSbe) .none kV7 dc7 pm7 an7 cd7 ct7), sl7⟩)
    (c7 : PySem.W.codeIn K cd7 "sums_behind" = true)
    (k7 : PySem.W.keepIn K (.ref f7) = true)
    (a8 : PySem.W.nsIn K mainGlobals "does_win" = some (some (.ref f8)))
    (l8 : K.lookup f8 = some ⟨oc8, od8, .func (PySem.W.fnOf "does_win" "does_win" (defArgs sDwi) (defBody sDwi) (defScope sDwi) .none kV8 dc8 pm8 an8 cd8 ct8), sl8⟩)
    (c8 : PySem.W.codeIn K cd8 "does_win" = true)
    (k8 : PySem.W.keepIn K (.ref f8) = true)
    (a9 : PySem.W.nsIn K mainGlobals "is_alone" = some (some (.ref f9)))
    (l9 : K.lookup f9 = some ⟨oc9, od9, .func (PySem.W.fnOf "is_alone" "is_alone" (defArgs sIal) (defBody sIal) (defScope sIal) .none kV9 dc9 pm9 an9 cd9 ct9), sl9⟩)
    (c9 : PySem.W.codeIn K cd9 "is_alone" = true)
    (k9 : PySem.W.keepIn K (.ref f9) = true)
    (a10 : PySem.W.nsIn K mainGlobals "chance_of" = some (some (.ref f10)))
    (l10 : K.lookup f10 = some ⟨oc10, od10, .func (PySem.W.fnOf "chance_of" "chance_of" (defArgs sCof) (defBody sCof) (defScope sCof) .none kV10 dc10 pm10 an10 cd10 ct10), sl10⟩)
    (c10 : PySem.W.codeIn K cd10 "chance_of" = true)
    (k10 : PySem.W.keepIn K (.ref f10) = true)
    (a11 : PySem.W.nsIn K mainGlobals "chances_told" = some (some (.ref f11)))
    (l11 : K.lookup f11 = some ⟨oc11, od11, .func (PySem.W.fnOf "chances_told" "chances_told" (defArgs sCto) (defBody sCto) (defScope sCto) .none kV11 dc11 pm11 an11 cd11 ct11), sl11⟩)
    (c11 : PySem.W.codeIn K cd11 "chances_told" = true)
    (k11 : PySem.W.keepIn K (.ref f11) = true)
    (a12 : PySem.W.nsIn K mainGlobals "rank_of" = some (some (.ref f12)))
    (l12 : K.lookup f12 = some ⟨oc12, od12, .func (PySem.W.fnOf "rank_of" "rank_of" (defArgs sRof) (defBody sRof) (defScope sRof) .none kV12 dc12 pm12 an12 cd12 ct12), sl12⟩)
    (c12 : PySem.W.codeIn K cd12 "rank_of" = true)
    (k12 : PySem.W.keepIn K (.ref f12) = true)
    (a13 : PySem.W.nsIn K mainGlobals "order_told" = some (some (.ref f13)))
    (l13 : K.lookup f13 = some ⟨oc13, od13, .func (PySem.W.fnOf "order_told" "order_told" (defArgs sOto) (defBody sOto) (defScope sOto) .none kV13 dc13 pm13 an13 cd13 ct13), sl13⟩)
    (c13 : PySem.W.codeIn K cd13 "order_told" = true)
    (k13 : PySem.W.keepIn K (.ref f13) = true)
    (a14 : PySem.W.nsIn K mainGlobals "answer_of" = some (some (.ref f14)))
    (l14 : K.lookup f14 = some ⟨oc14, od14, .func (PySem.W.fnOf "answer_of" "answer_of" (defArgs sAof) (defBody sAof) (defScope sAof) .none kV14 dc14 pm14 an14 cd14 ct14), sl14⟩)
    (c14 : PySem.W.codeIn K cd14 "answer_of" = true)
    (k14 : PySem.W.keepIn K (.ref f14) = true)
    (a15 : PySem.W.nsIn K mainGlobals "answers" = some (some (.ref f15)))
    (l15 : K.lookup f15 = some ⟨oc15, od15, .func (PySem.W.fnOf "answers" "answers" (defArgs sAns) (defBody sAns) (defScope sAns) .none kV15 dc15 pm15 an15 cd15 ct15), sl15⟩)
    (c15 : PySem.W.codeIn K cd15 "answers" = true)
    (k15 : PySem.W.keepIn K (.ref f15) = true)
    (a16 : PySem.W.findIn K (.ref C) "__init__" = some (some (.ref f16)))
    (i16 : PySem.W.isFn K (.ref f16) = true)
    (l16 : K.lookup f16 = some ⟨oc16, od16, .func (PySem.W.fnOf "__init__" "Series.__init__" (defArgs sIni) (defBody sIni) (defScope sIni) .none kV16 dc16 pm16 an16 cd16 ct16), sl16⟩)
    (c16 : PySem.W.codeIn K cd16 "Series.__init__" = true)
    (k16 : PySem.W.keepIn K (.ref f16) = true)
    (a17 : PySem.W.findIn K (.ref C) "are_all_sailed" = some (some (.ref f17)))
    (i17 : PySem.W.isFn K (.ref f17) = true)
    (l17 : K.lookup f17 = some ⟨oc17, od17, .func (PySem.W.fnOf "are_all_sailed" "Series.are_all_sailed" (defArgs sAas) (defBody sAas) (defScope sAas) .none kV17 dc17 pm17 an17 cd17 ct17), sl17⟩)
    (c17 : PySem.W.codeIn K cd17 "Series.are_all_sailed" = true)
    (k17 : PySem.W.keepIn K (.ref f17) = true)
    (a18 : PySem.W.findIn K (.ref C) "begins" = some (some (.ref f18)))
    (i18 : PySem.W.isFn K (.ref f18) = true)
    (l18 : K.lookup f18 = some ⟨oc18, od18, .func (PySem.W.fnOf "begins" "Series.begins" (defArgs sBeg) (defBody sBeg) (defScope sBeg) .none kV18 dc18 pm18 an18 cd18 ct18), sl18⟩)
    (c18 : PySem.W.codeIn K cd18 "Series.begins" = true)
    (k18 : PySem.W.keepIn K (.ref f18) = true)
    (a19 : PySem.W.findIn K (.ref C) "boat" = some (some (.ref f19)))
    (i19 : PySem.W.isFn K (.ref f19) = true)
    (l19 : K.lookup f19 = some ⟨oc19, od19, .func (PySem.W.fnOf "boat" "Series.boat" (defArgs sBoa) (defBody sBoa) (defScope sBoa) .none kV19 dc19 pm19 an19 cd19 ct19), sl19⟩)
    (c19 : PySem.W.codeIn K cd19 "Series.boat" = true)
    (k19 : PySem.W.keepIn K (.ref f19) = true)
    (a20 : PySem.W.findIn K (.ref C) "race" = some (some (.ref f20)))
    (i20 : PySem.W.isFn K (.ref f20) = true)
    (l20 : K.lookup f20 = some ⟨oc20, od20, .func (PySem.W.fnOf "race" "Series.race" (defArgs sRac) (defBody sRac) (defScope sRac) .none kV20 dc20 pm20 an20 cd20 ct20), sl20⟩)
    (c20 : PySem.W.codeIn K cd20 "Series.race" = true)
    (k20 : PySem.W.keepIn K (.ref f20) = true)
    (a21 : PySem.W.findIn K (.ref C) "points" = some (some (.ref f21)))
    (i21 : PySem.W.isFn K (.ref f21) = true)
    (l21 : K.lookup f21 = some ⟨oc21, od21, .func (PySem.W.fnOf "points" "Series.points" (defArgs sPoi) (defBody sPoi) (defScope sPoi) .none kV21 dc21 pm21 an21 cd21 ct21), sl21⟩)
    (c21 : PySem.W.codeIn K cd21 "Series.points" = true)
    (k21 : PySem.W.keepIn K (.ref f21) = true)
    (a22 : PySem.W.findIn K (.ref C) "order" = some (some (.ref f22)))
    (i22 : PySem.W.isFn K (.ref f22) = true)
    (l22 : K.lookup f22 = some ⟨oc22, od22, .func (PySem.W.fnOf "order" "Series.order" (defArgs sOrd) (defBody sOrd) (defScope sOrd) .none kV22 dc22 pm22 an22 cd22 ct22), sl22⟩)
    (c22 : PySem.W.codeIn K cd22 "Series.order" = true)
    (k22 : PySem.W.keepIn K (.ref f22) = true)
    (a23 : PySem.W.findIn K (.ref C) "chances" = some (some (.ref f23)))
    (i23 : PySem.W.isFn K (.ref f23) = true)
    (l23 : K.lookup f23 = some ⟨oc23, od23, .func (PySem.W.fnOf "chances" "Series.chances" (defArgs sCha) (defBody sCha) (defScope sCha) .none kV23 dc23 pm23 an23 cd23 ct23), sl23⟩)
    (c23 : PySem.W.codeIn K cd23 "Series.chances" = true)
    (k23 : PySem.W.keepIn K (.ref f23) = true)
    (pg : PySem.W.plainGet K C Str.empty = true)
    (hd : PySem.W.hasDictIn K C = true)
    (po : PySem.W.plainOver K C = true)
    (sa : PySem.W.findIn K (.ref C) "__setattr__" = some (some (.builtin "object.__setattr__")))
    (mk : PySem.W.makesIn K C = true)
    (kc : PySem.W.keepIn K (.ref C) = true)
    (nP : PySem.W.findIn K (.ref C) "planned" = some none)
    (nL : PySem.W.findIn K (.ref C) "left_out" = some none)
    (nR : PySem.W.findIn K (.ref C) "ratings" = some none)
    (nC : PySem.W.findIn K (.ref C) "races" = some none)
    (z0 : PySem.W.nsIn K mainGlobals "zip" = some none)
    (z1 : PySem.W.nsIn K mainGlobals "len" = some none)
    (z2 : PySem.W.nsIn K mainGlobals "sum" = some none)
    (z3 : PySem.W.nsIn K mainGlobals "sorted" = some none)
    (z4 : PySem.W.nsIn K mainGlobals "range" = some none)
    (z5 : PySem.W.nsIn K mainGlobals "min" = some none)
    (z6 : PySem.W.nsIn K mainGlobals "all" = some none)
    (z7 : PySem.W.nsIn K mainGlobals "any" = some none)
    (v0 : PySem.W.nsIn K mainGlobals "NOT_FINISHED" = some (some (.int 0 t0)))
    (v1 : PySem.W.nsIn K mainGlobals "MAY_NOT" = some (some (.int 0 t1)))
    (v2 : PySem.W.nsIn K mainGlobals "MAY" = some (some (.int 1 t2)))
    (v3 : PySem.W.nsIn K mainGlobals "SURE" = some (some (.int 2 t3)))
    (v4 : PySem.W.nsIn K mainGlobals "MOST_BOATS" = some (some (.int 5 t4)))
    (v5 : PySem.W.nsIn K mainGlobals "MOST_RATING" = some (some (.int 2000 t5)))
    (v6 : PySem.W.nsIn K mainGlobals "MOST_RACES" = some (some (.int 8 t6)))
    (v7 : PySem.W.nsIn K mainGlobals "MOST_TIME" = some (some (.int 100000 t7)))
    (v8 : PySem.W.nsIn K mainGlobals "NOT_AS_TOLD" = some (some (.int (-1) t8)))
    (v9 : PySem.W.nsIn K mainGlobals "NONE_THERE" = some (some (.int (-2) t9)))
    (v10 : PySem.W.nsIn K mainGlobals "RACE_SAILED" = some (some (.int (-3) t10)))
    (v11 : PySem.W.nsIn K mainGlobals "NO_MORE" = some (some (.int (-5) t11)))
    (v12 : PySem.W.nsIn K mainGlobals "NO_CHANCES" = some (some (.int (-6) t12)))
    (v13 : PySem.W.nsIn K mainGlobals "BEGINS" = some (some (.int 0 t13)))
    (v14 : PySem.W.nsIn K mainGlobals "BOAT" = some (some (.int 1 t14)))
    (v15 : PySem.W.nsIn K mainGlobals "RACE" = some (some (.int 2 t15)))
    (v16 : PySem.W.nsIn K mainGlobals "POINTS" = some (some (.int 3 t16)))
    (v17 : PySem.W.nsIn K mainGlobals "ORDER" = some (some (.int 4 t17)))
    (aMn : PySem.W.nsIn K mainGlobals "MANY_NUMBERS" = some (some (.ref aM)))
    (lMn : K.lookup aM = some ⟨.type "tuple", odM, .seq #[.int 2 u0, .int 1 u1, .int 0 u2, .int 1 u3, .int 0 u4, .int 0 u5] nM, slM⟩)
    : ∃ fd : FuncData, (∀ (s : Shared) (us : List Value), us.length = (["calls"] : List Str).length → BindsTo s fd ⟨us, []⟩ ((["calls"] : List Str).zip us)) ∧ ∀ base : Heap, K.In base → base.Ns mainGlobals mg → FnOk P w K mg base CX0 7 fa fd ["calls"] (spAns K) := by
  have e := hfa.symm.trans (PySem.W.mg_of X G a15)
  cases e
  have T : Txt K C := ⟨⟨pg, hd, po, sa⟩, nP, nL, nR, nC⟩
  have F0 := fun_mk (st := sPut) l0 c0 k0
  have b0 := F0.binds (ps := ["ratings", "times"]) fun _ _ _ _ _ _ us hl => match us, hl with | [_, _], _ => rfl
  have F1 := fun_mk (st := sPof) l1 c1 k1
  have b1 := F1.binds (ps := ["right", "boats"]) fun _ _ _ _ _ _ us hl => match us, hl with | [_, _], _ => rfl
  have F2 := fun_mk (st := sRpt) l2 c2 k2
  have b2 := F2.binds (ps := ["ratings", "times"]) fun _ _ _ _ _ _ us hl => match us, hl with | [_, _], _ => rfl
  have F3 := fun_mk (st := sBpt) l3 c3 k3
  have b3 := F3.binds (ps := ["races", "boat"]) fun _ _ _ _ _ _ us hl => match us, hl with | [_, _], _ => rfl
  have F4 := fun_mk (st := sSwo) l4 c4 k4
  have b4 := F4.binds (ps := ["points", "left_out"]) fun _ _ _ _ _ _ us hl => match us, hl with | [_, _], _ => rfl
  have F5 := fun_mk (st := sOwi) l5 c5 k5
  have b5 := F5.binds (ps := ["orders", "boat"]) fun _ _ _ _ _ _ us hl => match us, hl with | [_, _], _ => rfl
  have F6 := fun_mk (st := sAor) l6 c6 k6
  have b6 := F6.binds (ps := ["many"]) fun _ _ _ _ _ _ us hl => match us, hl with | [_], _ => rfl
  have F7 := fun_mk (st := sSbe) l7 c7 k7
  have b7 := F7.binds (ps := ["races", "order", "left_out"]) fun _ _ _ _ _ _ us hl => match us, hl with | [_, _, _], _ => rfl
  have F8 := fun_mk (st := sDwi) l8 c8 k8
  have b8 := F8.binds (ps := ["sums", "boat"]) fun _ _ _ _ _ _ us hl => match us, hl with | [_, _], _ => rfl
  have F9 := fun_mk (st := sIal) l9 c9 k9
  have b9 := F9.binds (ps := ["sums", "boat"]) fun _ _ _ _ _ _ us hl => match us, hl with | [_, _], _ => rfl
  have F10 := fun_mk (st := sCof) l10 c10 k10
  have b10 := F10.binds (ps := ["all_sums", "boat"]) fun _ _ _ _ _ _ us hl => match us, hl with | [_, _], _ => rfl
  have F11 := fun_mk (st := sCto) l11 c11 k11
  have b11 := F11.binds (ps := ["races", "many", "left_out"]) fun _ _ _ _ _ _ us hl => match us, hl with | [_, _, _], _ => rfl
  have F12 := fun_mk (st := sRof) l12 c12 k12
  have b12 := F12.binds (ps := ["races", "boat", "left_out"]) fun _ _ _ _ _ _ us hl => match us, hl with | [_, _, _], _ => rfl
  have F13 := fun_mk (st := sOto) l13 c13 k13
  have b13 := F13.binds (ps := ["races", "many", "left_out"]) fun _ _ _ _ _ _ us hl => match us, hl with | [_, _, _], _ => rfl
  have F14 := fun_mk (st := sAof) l14 c14 k14
  have b14 := F14.binds (ps := ["series", "call", "numbers"]) fun _ _ _ _ _ _ us hl => match us, hl with | [_, _, _], _ => rfl
  have F15 := fun_mk (st := sAns) l15 c15 k15
  have F16 := fun_mk (st := sIni) l16 c16 k16
  have b16 := F16.binds (ps := ["self"]) fun _ _ _ _ _ _ us hl => match us, hl with | [_], _ => rfl
  have F17 := fun_mk (st := sAas) l17 c17 k17
  have b17 := F17.binds (ps := ["self"]) fun _ _ _ _ _ _ us hl => match us, hl with | [_], _ => rfl
  have F18 := fun_mk (st := sBeg) l18 c18 k18
  have b18 := F18.binds (ps := ["self", "planned", "left_out"]) fun _ _ _ _ _ _ us hl => match us, hl with | [_, _, _], _ => rfl
  have F19 := fun_mk (st := sBoa) l19 c19 k19
  have b19 := F19.binds (ps := ["self", "rating"]) fun _ _ _ _ _ _ us hl => match us, hl with | [_, _], _ => rfl
  have F20 := fun_mk (st := sRac) l20 c20 k20
  have b20 := F20.binds (ps := ["self", "times"]) fun _ _ _ _ _ _ us hl => match us, hl with | [_, _], _ => rfl
  have F21 := fun_mk (st := sPoi) l21 c21 k21
  have b21 := F21.binds (ps := ["self", "number"]) fun _ _ _ _ _ _ us hl => match us, hl with | [_, _], _ => rfl
  have F22 := fun_mk (st := sOrd) l22 c22 k22
  have b22 := F22.binds (ps := ["self"]) fun _ _ _ _ _ _ us hl => match us, hl with | [_], _ => rfl
  have F23 := fun_mk (st := sCha) l23 c23 k23
  have b23 := F23.binds (ps := ["self"]) fun _ _ _ _ _ _ us hl => match us, hl with | [_], _ => rfl
  have m_zip := PySem.W.mg_none_of X G z0
  have m_len := PySem.W.mg_none_of X G z1
  have m_sum := PySem.W.mg_none_of X G z2
  have m_sorted := PySem.W.mg_none_of X G z3
  have m_range := PySem.W.mg_none_of X G z4
  have m_min := PySem.W.mg_none_of X G z5
  have m_all := PySem.W.mg_none_of X G z6
  have m_any := PySem.W.mg_none_of X G z7
  have g_NOT_FINISHED := PySem.W.mg_of X G v0
  have g_MAY_NOT := PySem.W.mg_of X G v1
  have g_MAY := PySem.W.mg_of X G v2
  have g_SURE := PySem.W.mg_of X G v3
  have g_MOST_BOATS := PySem.W.mg_of X G v4
  have g_MOST_RATING := PySem.W.mg_of X G v5
  have g_MOST_RACES := PySem.W.mg_of X G v6
  have g_MOST_TIME := PySem.W.mg_of X G v7
  have g_NOT_AS_TOLD := PySem.W.mg_of X G v8
  have g_NONE_THERE := PySem.W.mg_of X G v9
  have g_RACE_SAILED := PySem.W.mg_of X G v10
  have g_NO_MORE := PySem.W.mg_of X G v11
  have g_NO_CHANCES := PySem.W.mg_of X G v12
  have g_BEGINS := PySem.W.mg_of X G v13
  have g_BOAT := PySem.W.mg_of X G v14
  have g_RACE := PySem.W.mg_of X G v15
  have g_POINTS := PySem.W.mg_of X G v16
  have g_ORDER := PySem.W.mg_of X G v17
  have g0 := PySem.W.mg_of X G a0
  have g1 := PySem.W.mg_of X G a1
  have g2 := PySem.W.mg_of X G a2
  have g3 := PySem.W.mg_of X G a3
  have g4 := PySem.W.mg_of X G a4
  have g5 := PySem.W.mg_of X G a5
  have g6 := PySem.W.mg_of X G a6
  have g7 := PySem.W.mg_of X G a7
  have g8 := PySem.W.mg_of X G a8
  have g9 := PySem.W.mg_of X G a9
  have g10 := PySem.W.mg_of X G a10
  have g11 := PySem.W.mg_of X G a11
  have g12 := PySem.W.mg_of X G a12
  have g13 := PySem.W.mg_of X G a13
  have g14 := PySem.W.mg_of X G a14
  have g15 := PySem.W.mg_of X G a15
  have m16 : Meth K C "__init__" f16 := ⟨a16, i16, k16⟩
  have m17 : Meth K C "are_all_sailed" f17 := ⟨a17, i17, k17⟩
  have m18 : Meth K C "begins" f18 := ⟨a18, i18, k18⟩
  have m19 : Meth K C "boat" f19 := ⟨a19, i19, k19⟩
  have m20 : Meth K C "race" f20 := ⟨a20, i20, k20⟩
  have m21 : Meth K C "points" f21 := ⟨a21, i21, k21⟩
  have m22 : Meth K C "order" f22 := ⟨a22, i22, k22⟩
  have m23 : Meth K C "chances" f23 := ⟨a23, i23, k23⟩
  have hM : ∀ H : Hp, SqT K H aM [.int 2, .int 1, .int 0, .int 1, .int 0, .int 0] := fun H => .inr ⟨_, _, _, lMn, rfl, rfl, (by show 6 ≤ sizeLine; decide), .cons ⟨_, rfl⟩ (.cons ⟨_, rfl⟩ (.cons ⟨_, rfl⟩ (.cons ⟨_, rfl⟩ (.cons ⟨_, rfl⟩ (.cons ⟨_, rfl⟩ .nil)))))⟩
  refine ⟨PySem.W.fnOf "answers" "answers" (defArgs sAns) (defBody sAns) (defScope sAns) .none kV15 dc15 pm15 an15 cd15 ct15, fun s us hu => match us, hu with | [_], _ => .of_eq rfl, fun base _ _ => ?_⟩
  have Q_put : FnOk P w K mg base CX0 1 f0 (PySem.W.fnOf "put_right" "put_right" (defArgs sPut) (defBody sPut) (defScope sPut) .none kV0 dc0 pm0 an0 cd0 ct0) ["ratings", "times"] spPut := ok_put F0 m_zip
  have Q_pof : FnOk P w K mg base CX0 1 f1 (PySem.W.fnOf "points_of" "points_of" (defArgs sPof) (defBody sPof) (defScope sPof) .none kV1 dc1 pm1 an1 cd1 ct1) ["right", "boats"] spPof := ok_pof F1 g_NOT_FINISHED m_len
  have Q_rpt : FnOk P w K mg base CX0 2 f2 (PySem.W.fnOf "race_points" "race_points" (defArgs sRpt) (defBody sRpt) (defScope sRpt) .none kV2 dc2 pm2 an2 cd2 ct2) ["ratings", "times"] spRpt := ok_rpt F2 F0 b0 g0 Q_put F1 b1 g1 Q_pof
  have Q_bpt : FnOk P w K mg base CX0 1 f3 (PySem.W.fnOf "boat_points" "boat_points" (defArgs sBpt) (defBody sBpt) (defScope sBpt) .none kV3 dc3 pm3 an3 cd3 ct3) ["races", "boat"] spBpt := ok_bpt F3
  have Q_swo : FnOk P w K mg base CX0 1 f4 (PySem.W.fnOf "sum_without" "sum_without" (defArgs sSwo) (defBody sSwo) (defScope sSwo) .none kV4 dc4 pm4 an4 cd4 ct4) ["points", "left_out"] spSwo := ok_swo F4 m_len m_sum m_sorted
  have Q_owi : FnOk P w K mg base CX0 1 f5 (PySem.W.fnOf "orders_with" "orders_with" (defArgs sOwi) (defBody sOwi) (defScope sOwi) .none kV5 dc5 pm5 an5 cd5 ct5) ["orders", "boat"] spOwi := ok_owi F5 m_len m_range
  have Q_aor : FnOk P w K mg base CX0 2 f6 (PySem.W.fnOf "all_orders" "all_orders" (defArgs sAor) (defBody sAor) (defScope sAor) .none kV6 dc6 pm6 an6 cd6 ct6) ["many"] spAor := ok_aor F6 m_range F5 b5 g5 Q_owi
  have Q_sbe : FnOk P w K mg base CX0 2 f7 (PySem.W.fnOf "sums_behind" "sums_behind" (defArgs sSbe) (defBody sSbe) (defScope sSbe) .none kV7 dc7 pm7 an7 cd7 ct7) ["races", "order", "left_out"] spSbe := ok_sbe F7 m_len m_range F3 b3 g3 Q_bpt F4 b4 g4 Q_swo
  have Q_dwi : FnOk P w K mg base CX0 1 f8 (PySem.W.fnOf "does_win" "does_win" (defArgs sDwi) (defBody sDwi) (defScope sDwi) .none kV8 dc8 pm8 an8 cd8 ct8) ["sums", "boat"] spDwi := ok_dwi F8 m_min
  have Q_ial : FnOk P w K mg base CX0 2 f9 (PySem.W.fnOf "is_alone" "is_alone" (defArgs sIal) (defBody sIal) (defScope sIal) .none kV9 dc9 pm9 an9 cd9 ct9) ["sums", "boat"] spIal := ok_ial F9 F8 b8 g8 Q_dwi
  have Q_cof : FnOk P w K mg base CX0 3 f10 (PySem.W.fnOf "chance_of" "chance_of" (defArgs sCof) (defBody sCof) (defScope sCof) .none kV10 dc10 pm10 an10 cd10 ct10) ["all_sums", "boat"] spCof := ok_cof F10 m_all m_any g_MAY_NOT g_MAY g_SURE F8 b8 g8 Q_dwi F9 b9 g9 Q_ial
  have Q_cto : FnOk P w K mg base CX0 4 f11 (PySem.W.fnOf "chances_told" "chances_told" (defArgs sCto) (defBody sCto) (defScope sCto) .none kV11 dc11 pm11 an11 cd11 ct11) ["races", "many", "left_out"] spCto := ok_cto F11 m_len m_range g_MAY_NOT F6 b6 g6 Q_aor F7 b7 g7 Q_sbe F10 b10 g10 Q_cof
  have Q_rof : FnOk P w K mg base CX0 2 f12 (PySem.W.fnOf "rank_of" "rank_of" (defArgs sRof) (defBody sRof) (defScope sRof) .none kV12 dc12 pm12 an12 cd12 ct12) ["races", "boat", "left_out"] spRof := ok_rof F12 m_sorted F3 b3 g3 Q_bpt F4 b4 g4 Q_swo
  have Q_oto : FnOk P w K mg base CX0 3 f13 (PySem.W.fnOf "order_told" "order_told" (defArgs sOto) (defBody sOto) (defScope sOto) .none kV13 dc13 pm13 an13 cd13 ct13) ["races", "many", "left_out"] spOto := ok_oto F13 m_sorted m_range F12 b12 g12 Q_rof
  have Q_ini : FnOk P w K mg base CX0 1 f16 (PySem.W.fnOf "__init__" "Series.__init__" (defArgs sIni) (defBody sIni) (defScope sIni) .none kV16 dc16 pm16 an16 cd16 ct16) ["self"] (spIni C) := ok_ini F16 T
  have Q_aas : FnOk P w K mg base CX0 1 f17 (PySem.W.fnOf "are_all_sailed" "Series.are_all_sailed" (defArgs sAas) (defBody sAas) (defScope sAas) .none kV17 dc17 pm17 an17 cd17 ct17) ["self"] (spAas C) := ok_aas F17 T m_len
  have Q_beg : FnOk P w K mg base CX0 1 f18 (PySem.W.fnOf "begins" "Series.begins" (defArgs sBeg) (defBody sBeg) (defScope sBeg) .none kV18 dc18 pm18 an18 cd18 ct18) ["self", "planned", "left_out"] (spBeg C) := ok_beg F18 T g_MOST_RACES g_NOT_AS_TOLD
  have Q_boa : FnOk P w K mg base CX0 1 f19 (PySem.W.fnOf "boat" "Series.boat" (defArgs sBoa) (defBody sBoa) (defScope sBoa) .none kV19 dc19 pm19 an19 cd19 ct19) ["self", "rating"] (spBoa C) := ok_boa F19 T m_len g_MOST_RATING g_NOT_AS_TOLD g_RACE_SAILED g_MOST_BOATS g_NO_MORE
  have Q_rac : FnOk P w K mg base CX0 3 f20 (PySem.W.fnOf "race" "Series.race" (defArgs sRac) (defBody sRac) (defScope sRac) .none kV20 dc20 pm20 an20 cd20 ct20) ["self", "times"] (spRac C) := ok_rac F20 T m_len m_any g_MOST_TIME g_NOT_AS_TOLD g_NONE_THERE g_NO_MORE m17 b17 Q_aas F2 b2 g2 Q_rpt
  have Q_poi : FnOk P w K mg base CX0 1 f21 (PySem.W.fnOf "points" "Series.points" (defArgs sPoi) (defBody sPoi) (defScope sPoi) .none kV21 dc21 pm21 an21 cd21 ct21) ["self", "number"] (spPoi C) := ok_poi F21 T m_len g_NONE_THERE
  have Q_ord : FnOk P w K mg base CX0 4 f22 (PySem.W.fnOf "order" "Series.order" (defArgs sOrd) (defBody sOrd) (defScope sOrd) .none kV22 dc22 pm22 an22 cd22 ct22) ["self"] (spOrd C) := ok_ord F22 T m_len m17 b17 Q_aas F13 b13 g13 Q_oto
  have Q_cha : FnOk P w K mg base CX0 5 f23 (PySem.W.fnOf "chances" "Series.chances" (defArgs sCha) (defBody sCha) (defScope sCha) .none kV23 dc23 pm23 an23 cd23 ct23) ["self"] (spCha C) := ok_cha F23 T m_len g_NO_CHANCES m17 b17 Q_aas F11 b11 g11 Q_cto
  have Q_aof : FnOk P w K mg base CX0 6 f14 (PySem.W.fnOf "answer_of" "answer_of" (defArgs sAof) (defBody sAof) (defScope sAof) .none kV14 dc14 pm14 an14 cd14 ct14) ["series", "call", "numbers"] (spAof C) := ok_aof F14 T g_BEGINS g_BOAT g_POINTS g_ORDER m18 b18 Q_beg m19 b19 Q_boa m21 b21 Q_poi m22 b22 Q_ord m23 b23 Q_cha
  exact ok_ans F15 T m_len g_RACE (PySem.W.mg_of X G aMn) hM (PySem.W.mg_of X G aC) ⟨mk, a16, i16, kc⟩ b16 Q_ini m20 b20 Q_rac F14 b14 g14 Q_aof
end Sail
open PySem PySem.W PyProof.Rows
set_option maxRecDepth 100000 in
set_option maxHeartbeats 8000000 in
theorem PySem.Challenge.cw_sailraces_s01_answers_holds : PySem.Challenge.rw_sailraces_s01_answers.Holds := by
  w_on; k_headS; (case hw => exact ⟨[.list [.int 4]], by decide +kernel, by decide +kernel⟩)
  k_fillS
  refine L2.walk_specK (r := PySem.Challenge.rw_sailraces_s01_answers) (k := 7) (CX := L2.CX0) (ps := ["calls"]) (sp := Sail.spAns) (by decide +kernel) rfl rfl ⟨rfl, by decide, by decide⟩ (fun w h Y => PySem.W.kIn_of Y) ?F ?S (fun _ _ _ _ z => z)
  case F =>
    intro w mg fa h Y KX G hmg
    refine' Sail.all_mk KX G hmg ?aC ?a0 ?l0 ?c0 ?k0 ?a1 ?l1 ?c1 ?k1 ?a2 ?l2 ?c2 ?k2 ?a3 ?l3 ?c3 ?k3 ?a4 ?l4 ?c4 ?k4 ?a5 ?l5 ?c5 ?k5 ?a6 ?l6 ?c6 ?k6 ?a7 ?l7 ?c7 ?k7 ?a8 ?l8 ?c8 ?k8 ?a9 ?l9 ?c9 ?k9 ?a10 ?l10 ?c10 ?k10 ?a11 ?l11 ?c11 ?k11 ?a12 ?l12 ?c12 ?k12 ?a13 ?l13 ?c13 ?k13 ?a14 ?l14 ?c14 ?k14 ?a15 ?l15 ?c15 ?k15 ?a16 ?i16 ?l16 ?c16 ?k16 ?a17 ?i17 ?l17 ?c17 ?k17 ?a18 ?i18 ?l18 ?c18 ?k18 ?a19 ?i19 ?l19 ?c19 ?k19 ?a20 ?i20 ?l20 ?c20 ?k20 ?a21 ?i21 ?l21 ?c21 ?k21 ?a22 ?i22 ?l22 ?c22 ?k22 ?a23 ?i23 ?l23 ?c23 ?k23 ?pg ?hd ?po ?sa ?mk ?kc ?nP ?nL ?nR ?nC ?z0 ?z1 ?z2 ?z3 ?z4 ?z5 ?z6 ?z7 ?v0 ?v1 ?v2 ?v3 ?v4 ?v5 ?v6 ?v7 ?v8 ?v9 ?v10 ?v11 ?v12 ?v13 ?v14 ?v15 ?v16 ?v17 ?aMn ?lMn
    (case aC => k_is); (case a0 => k_is); (case l0 => k_is); (case c0 => k_is); (case k0 => k_is); (case a1 => k_is)
    (case l1 => k_is); (case c1 => k_is); (case k1 => k_is); (case a2 => k_is); (case l2 => k_is); (case c2 => k_is)
    (case k2 => k_is); (case a3 => k_is); (case l3 => k_is); (case c3 => k_is); (case k3 => k_is); (case a4 => k_is)
    (case l4 => k_is); (case c4 => k_is); (case k4 => k_is); (case a5 => k_is); (case l5 => k_is); (case c5 => k_is)
    (case k5 => k_is); (case a6 => k_is); (case l6 => k_is); (case c6 => k_is); (case k6 => k_is); (case a7 => k_is)
    (case l7 => k_is); (case c7 => k_is); (case k7 => k_is); (case a8 => k_is); (case l8 => k_is); (case c8 => k_is)
    (case k8 => k_is); (case a9 => k_is); (case l9 => k_is); (case c9 => k_is); (case k9 => k_is); (case a10 => k_is)
    (case l10 => k_is); (case c10 => k_is); (case k10 => k_is); (case a11 => k_is); (case l11 => k_is); (case c11 => k_is)
    (case k11 => k_is); (case a12 => k_is); (case l12 => k_is); (case c12 => k_is); (case k12 => k_is); (case a13 => k_is)
    (case l13 => k_is); (case c13 => k_is); (case k13 => k_is); (case a14 => k_is); (case l14 => k_is); (case c14 => k_is)
    (case k14 => k_is); (case a15 => k_is); (case l15 => k_is); (case c15 => k_is); (case k15 => k_is); (case a16 => k_is)
    (case i16 => k_is); (case l16 => k_is); (case c16 => k_is); (case k16 => k_is); (case a17 => k_is); (case i17 => k_is)
    (case l17 => k_is); (case c17 => k_is); (case k17 => k_is); (case a18 => k_is); (case i18 => k_is); (case l18 => k_is)
    (case c18 => k_is); (case k18 => k_is); (case a19 => k_is); (case i19 => k_is); (case l19 => k_is); (case c19 => k_is)
    (case k19 => k_is); (case a20 => k_is); (case i20 => k_is); (case l20 => k_is); (case c20 => k_is); (case k20 => k_is)
    (case a21 => k_is); (case i21 => k_is); (case l21 => k_is); (case c21 => k_is); (case k21 => k_is); (case a22 => k_is)
    (case i22 => k_is); (case l22 => k_is); (case c22 => k_is); (case k22 => k_is); (case a23 => k_is); (case i23 => k_is)
    (case l23 => k_is); (case c23 => k_is); (case k23 => k_is); (case pg => k_is); (case hd => k_is); (case po => k_is)
    (case sa => k_is); (case mk => k_is); (case kc => k_is); (case nP => k_is); (case nL => k_is); (case nR => k_is)
    (case nC => k_is); (case z0 => k_is); (case z1 => k_is); (case z2 => k_is); (case z3 => k_is); (case z4 => k_is)
    (case z5 => k_is); (case z6 => k_is); (case z7 => k_is); (case v0 => k_is); (case v1 => k_is); (case v2 => k_is)
    (case v3 => k_is); (case v4 => k_is); (case v5 => k_is); (case v6 => k_is); (case v7 => k_is); (case v8 => k_is)
    (case v9 => k_is); (case v10 => k_is); (case v11 => k_is); (case v12 => k_is); (case v13 => k_is); (case v14 => k_is)
    (case v15 => k_is); (case v16 => k_is); (case v17 => k_is); (case aMn => k_is); (case lMn => k_is)
  case S =>
    intro K H xs a hO hwi hask hx
    cases hx with
    | cons h1 h2 =>
      cases h2
      cases h1 with
      | lst hs ha =>
        have e := L2.ints_dw a.1 _ ha
        subst e
        have q : ((Codec.inLen 0 2000 a.1 && a.1.all (Codec.inInt 0 4294967295)) && true) = true := hwi
        rw [Bool.and_eq_true, Bool.and_eq_true] at q
        have hpos : ∀ z ∈ a.1, (0 : Int) ≤ z := fun z hz => (Codec.inInt_iff.mp (List.all_eq_true.mp q.1.2 z hz)).1
        exact ⟨_, a.1, rfl, hs, hpos, hask, fun H' p hp => .lst (L2.SqL.of hp) (L2.dw_ints _)⟩
#print axioms PySem.Challenge.cw_sailraces_s01_answers_holds
