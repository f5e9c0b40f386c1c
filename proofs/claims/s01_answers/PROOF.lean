import PyProof.Rows.All
import Wide.All
import OpenK.AllK
import Wide.FinOn
import Open.SpecLaws
import KE.OsGo
import HandS.ForSpec
import HandS.Comp
import PySem.Challenge.RW_sievecuts_s01_answers
set_option Elab.async false
set_option maxRecDepth 100000
set_option maxHeartbeats 4000000
/-! # Plain laws: the specification's functions against plain loops (no program in sight) -/
namespace Sv
open Kp409 (SizeFraction Sifter)

/-! ### lists -/
theorem drop_range (n k : Nat) : (List.range n).drop k = List.range' k (n - k) := by
  rw [List.range_eq_range', List.drop_range']
  simp

/-! ### valid positions -/
/-- a strictly increasing list of positions -/
def Good (n : Nat) (l : List Nat) : Prop := l.Pairwise (· < ·) ∧ ∀ p ∈ l, 1 ≤ p ∧ p < n
theorem good_nil (n : Nat) : Good n [] := ⟨List.Pairwise.nil, fun p h => by simp at h⟩

/-- the program's look at a list of positions, from the one before -/
def areFrom (n : Nat) : Nat → List Nat → Bool
  | _, [] => true
  | b, x :: r => if x ≤ b ∨ ¬ (1 ≤ x ∧ x < n) then false else areFrom n x r
theorem areFrom_iff (n : Nat) : ∀ (l : List Nat) (b : Nat), areFrom n b l = true ↔ (∀ p ∈ l, b < p) ∧ Good n l
  | [], b => by simp [areFrom, good_nil]
  | x :: r, b => by
    unfold areFrom
    by_cases c : x ≤ b ∨ ¬ (1 ≤ x ∧ x < n)
    · rw [if_pos c]
      constructor
      · intro h; cases h
      · rintro ⟨h1, h2⟩
        have a1 := h1 x (by simp)
        have a2 := h2.2 x (by simp)
        omega
    · rw [if_neg c, areFrom_iff n r x]
      constructor
      · rintro ⟨h1, h2, h3⟩
        refine ⟨fun p hp => ?_, List.pairwise_cons.mpr ⟨h1, h2⟩, fun p hp => ?_⟩
        · rcases List.mem_cons.mp hp with e | m
          · omega
          · have := h1 p m; omega
        · rcases List.mem_cons.mp hp with e | m
          · omega
          · exact h3 p m
      · rintro ⟨h1, h2, h3⟩
        rw [List.pairwise_cons] at h2
        exact ⟨h2.1, h2.2, fun p hp => h3 p (List.mem_cons_of_mem _ hp)⟩
theorem adj_iff : ∀ (l : List Nat), ((List.range (l.length - 1)).all fun i => decide (l.getD i 0 < l.getD (i + 1) 0)) = true ↔ l.Pairwise (· < ·)
  | [] => by simp
  | [x] => by simp
  | x :: y :: r => by
    have ih := adj_iff (y :: r)
    rw [List.all_eq_true] at ih ⊢
    constructor
    · intro h
      have h0 : x < y := by simpa using h 0 (by simp)
      have hr : (y :: r).Pairwise (· < ·) := ih.mp fun i hi => by
        have q := h (i + 1) (by simp at hi ⊢; omega)
        simpa using q
      rw [List.pairwise_cons]
      refine ⟨fun p hp => ?_, hr⟩
      rcases List.mem_cons.mp hp with e | m
      · omega
      · have := (List.pairwise_cons.mp hr).1 p m; omega
    · intro h i hi
      rw [List.pairwise_cons] at h
      cases i with
      | zero => simpa using h.1 y (by simp)
      | succ i =>
        have q := ih.mpr h.2 i (by simp at hi ⊢; omega)
        simpa using q
theorem valid_iff (s : Sifter) (l : List Nat) : Kp409.validSieves s l = true ↔ Good s.sizes.length l := by
  unfold Kp409.validSieves Good
  rw [Bool.and_eq_true, adj_iff, List.all_eq_true]
  constructor
  · rintro ⟨h1, h2⟩
    refine ⟨h2, fun p hp => ?_⟩
    have := h1 p hp
    simpa using this
  · rintro ⟨h1, h2⟩
    refine ⟨fun p hp => ?_, h1⟩
    have := h2 p hp
    simpa using this
theorem areFrom_valid (s : Sifter) (l : List Nat) : areFrom s.sizes.length 0 l = Kp409.validSieves s l := by
  have e : areFrom s.sizes.length 0 l = true ↔ Kp409.validSieves s l = true := by
    rw [areFrom_iff, valid_iff]
    exact ⟨fun h => h.2, fun h => ⟨fun p hp => by have := h.2 p hp; omega, h⟩⟩
  rw [Bool.eq_iff_iff]
  exact e
theorem pos_len : ∀ (l : List Nat) (f n : Nat), l.Pairwise (· < ·) → (∀ p ∈ l, f ≤ p ∧ p < n) → l.length ≤ n - f
  | [], _, _, _, _ => by simp
  | x :: r, f, n, h1, h2 => by
    rw [List.pairwise_cons] at h1
    have hx := h2 x (by simp)
    have ih := pos_len r (x + 1) n h1.2 fun p hp => ⟨h1.1 p hp, (h2 p (List.mem_cons_of_mem _ hp)).2⟩
    rw [List.length_cons]
    omega
theorem Good.len {n : Nat} {l : List Nat} (h : Good n l) : l.length ≤ n - 1 := pos_len l 1 n h.1 h.2

/-! ### classes -/
/-- the classes that end at the given places, the first one from b on -/
def clsFrom (l : List SizeFraction) : Nat → List Nat → List (List SizeFraction)
  | _, [] => []
  | b, e :: r => (l.take e).drop b :: clsFrom l e r
theorem classes_from (l : List SizeFraction) (n : Nat) : ∀ (pos : List Nat) (b : Nat), ((pos ++ [n]).zip (b :: pos)).map (fun x => (l.take x.1).drop x.2) = clsFrom l b (pos ++ [n])
  | [], b => rfl
  | p :: r, b => by
    have ih := classes_from l n r p
    show (l.take p).drop b :: ((r ++ [n]).zip (p :: r)).map (fun x => (l.take x.1).drop x.2) = (l.take p).drop b :: clsFrom l p (r ++ [n])
    rw [ih]
theorem classes_is (s : Sifter) (pos : List Nat) : Kp409.classes s pos = clsFrom s.sizes 0 (pos ++ [s.sizes.length]) := classes_from s.sizes s.sizes.length pos 0
/-- places that never fall, none above n -/
def Up (n : Nat) : Nat → List Nat → Prop
  | _, [] => True
  | b, e :: r => b ≤ e ∧ e ≤ n ∧ Up n e r
theorem up_of (n : Nat) : ∀ (pos : List Nat) (b : Nat), b ≤ n → pos.Pairwise (· < ·) → (∀ p ∈ pos, b ≤ p ∧ p < n) → Up n b (pos ++ [n])
  | [], b, hb, _, _ => ⟨hb, Nat.le_refl _, trivial⟩
  | p :: r, b, hb, h1, h2 => by
    rw [List.pairwise_cons] at h1
    have hp := h2 p (by simp)
    exact ⟨hp.1, by omega, up_of n r p (by omega) h1.2 fun q hq => ⟨Nat.le_of_lt (h1.1 q hq), (h2 q (List.mem_cons_of_mem _ hq)).2⟩⟩
theorem Good.up {n : Nat} {pos : List Nat} (h : Good n pos) : Up n 0 (pos ++ [n]) := up_of n pos 0 (Nat.zero_le _) h.1 fun p hp => ⟨Nat.zero_le _, (h.2 p hp).2⟩
theorem cls_len {l : List SizeFraction} {b e : Nat} (h : e ≤ l.length) : ((l.take e).drop b).length = e - b := by
  rw [List.length_drop, List.length_take]
  omega
theorem clsFrom_length (l : List SizeFraction) : ∀ (ends : List Nat) (b : Nat), (clsFrom l b ends).length = ends.length
  | [], _ => rfl
  | e :: r, b => by
    show (clsFrom l e r).length + 1 = r.length + 1
    rw [clsFrom_length l r e]

/-! ### what they come to -/
theorem totalFlour_append (a b : List SizeFraction) : Kp409.totalFlour (a ++ b) = Kp409.totalFlour a + Kp409.totalFlour b := by
  simp [Kp409.totalFlour]
theorem totalBran_append (a b : List SizeFraction) : Kp409.totalBran (a ++ b) = Kp409.totalBran a + Kp409.totalBran b := by
  simp [Kp409.totalBran]
/-- a class cut in two -/
theorem cls_cut (l : List SizeFraction) {b p e : Nat} (h1 : b ≤ p) (h2 : p ≤ e) : (l.take e).drop b = (l.take p).drop b ++ (l.take e).drop p := by
  have e1 : l.take p = (l.take e).take p := by rw [List.take_take, Nat.min_eq_left h2]
  generalize l.take e = m at e1 ⊢
  rw [e1]
  have e2 : m.drop p = (m.drop b).drop (p - b) := by rw [List.drop_drop]; congr 1; omega
  have e3 : (m.take p).drop b = (m.drop b).take (p - b) := by rw [List.drop_take]
  rw [e2, e3, List.take_append_drop]
theorem mis_cut (a b : List SizeFraction) : Kp409.misplacedInClass a + Kp409.misplacedInClass b ≤ Kp409.misplacedInClass (a ++ b) := by
  unfold Kp409.misplacedInClass
  rw [totalFlour_append, totalBran_append]
  omega
/-- what classes misplace -/
def misOf (cs : List (List SizeFraction)) : Nat := (cs.map Kp409.misplacedInClass).sum
theorem misplaced_is (s : Sifter) (pos : List Nat) : Kp409.misplaced s pos = misOf (clsFrom s.sizes 0 (pos ++ [s.sizes.length])) := by
  unfold Kp409.misplaced
  rw [classes_is]
  rfl
theorem insert_mis (l : List SizeFraction) (n p : Nat) (hpn : p < n) : ∀ (pos : List Nat) (b : Nat), b ≤ p → pos.Pairwise (· < ·) → (∀ q ∈ pos, b ≤ q ∧ q < n) → p ∉ pos →
    misOf (clsFrom l b (Kp409.insertPosition p pos ++ [n])) ≤ misOf (clsFrom l b (pos ++ [n]))
  | [], b, hb, _, _, _ => by
    show Kp409.misplacedInClass ((l.take p).drop b) + (Kp409.misplacedInClass ((l.take n).drop p) + 0) ≤ Kp409.misplacedInClass ((l.take n).drop b) + 0
    rw [cls_cut l hb (Nat.le_of_lt hpn)]
    have := mis_cut ((l.take p).drop b) ((l.take n).drop p)
    omega
  | q :: r, b, hb, h1, h2, hn => by
    have hpq : p ≠ q := fun e => hn (by simp [e])
    rw [List.pairwise_cons] at h1
    unfold Kp409.insertPosition
    by_cases c : p < q
    · rw [if_pos c]
      show Kp409.misplacedInClass ((l.take p).drop b) + (Kp409.misplacedInClass ((l.take q).drop p) + misOf (clsFrom l q (r ++ [n]))) ≤ Kp409.misplacedInClass ((l.take q).drop b) + misOf (clsFrom l q (r ++ [n]))
      rw [cls_cut l hb (Nat.le_of_lt c)]
      have := mis_cut ((l.take p).drop b) ((l.take q).drop p)
      omega
    · rw [if_neg c]
      have ih := insert_mis l n p hpn r q (by omega) h1.2 (fun x hx => ⟨Nat.le_of_lt (h1.1 x hx), (h2 x (List.mem_cons_of_mem _ hx)).2⟩) fun m => hn (List.mem_cons_of_mem _ m)
      show Kp409.misplacedInClass ((l.take q).drop b) + misOf (clsFrom l q (Kp409.insertPosition p r ++ [n])) ≤ Kp409.misplacedInClass ((l.take q).drop b) + misOf (clsFrom l q (r ++ [n]))
      omega
theorem sum_flour (l : List SizeFraction) (n : Nat) : ∀ (ends : List Nat) (b : Nat), Up n b (ends ++ [n]) → ((clsFrom l b (ends ++ [n])).map Kp409.totalFlour).sum = Kp409.totalFlour ((l.take n).drop b)
  | [], b, _ => by
    show Kp409.totalFlour ((l.take n).drop b) + 0 = _
    omega
  | e :: r, b, h => by
    obtain ⟨h1, h2, h3⟩ := h
    show Kp409.totalFlour ((l.take e).drop b) + ((clsFrom l e (r ++ [n])).map Kp409.totalFlour).sum = _
    rw [sum_flour l n r e h3, cls_cut l h1 h2, totalFlour_append]
theorem mis_le_flour : ∀ cs : List (List SizeFraction), misOf cs ≤ (cs.map Kp409.totalFlour).sum
  | [] => Nat.le_refl _
  | c :: r => by
    have ih := mis_le_flour r
    show Kp409.misplacedInClass c + misOf r ≤ Kp409.totalFlour c + (r.map Kp409.totalFlour).sum
    have : Kp409.misplacedInClass c ≤ Kp409.totalFlour c := Nat.min_le_left _ _
    omega
theorem mis_le (s : Sifter) {pos : List Nat} (h : Good s.sizes.length pos) : Kp409.misplaced s pos ≤ Kp409.totalWeight s.sizes := by
  rw [misplaced_is]
  refine Nat.le_trans (mis_le_flour _) ?_
  rw [sum_flour _ _ _ _ h.up]
  simp [Kp409.totalWeight]

/-! ### insertPosition -/
theorem insert_mem (p x : Nat) : ∀ l : List Nat, x ∈ Kp409.insertPosition p l ↔ x = p ∨ x ∈ l
  | [] => by simp [Kp409.insertPosition]
  | q :: r => by
    unfold Kp409.insertPosition
    split
    · simp
    · simp [insert_mem p x r]
      constructor
      · rintro (h | h | h) <;> simp [h]
      · rintro (h | h | h) <;> simp [h]
theorem insert_sorted (p : Nat) : ∀ l : List Nat, l.Pairwise (· < ·) → p ∉ l → (Kp409.insertPosition p l).Pairwise (· < ·)
  | [], _, _ => by simp [Kp409.insertPosition]
  | q :: r, h, hn => by
    have hpq : p ≠ q := fun e => hn (by simp [e])
    have h' := List.pairwise_cons.mp h
    unfold Kp409.insertPosition
    split
    · rename_i c
      refine List.pairwise_cons.mpr ⟨fun x hx => ?_, h⟩
      rcases List.mem_cons.mp hx with e | m
      · omega
      · have := h'.1 x m; omega
    · rename_i c
      refine List.pairwise_cons.mpr ⟨fun x hx => ?_, insert_sorted p r h'.2 fun m => hn (List.mem_cons_of_mem _ m)⟩
      rcases (insert_mem p x r).mp hx with e | m
      · omega
      · exact h'.1 x m
theorem insert_len (p : Nat) : ∀ l : List Nat, (Kp409.insertPosition p l).length = l.length + 1
  | [] => rfl
  | q :: r => by
    unfold Kp409.insertPosition
    split
    · rfl
    · rw [List.length_cons, insert_len p r, List.length_cons]
theorem insert_good {n p : Nat} {l : List Nat} (h : Good n l) (hp : 1 ≤ p ∧ p < n) (hn : p ∉ l) : Good n (Kp409.insertPosition p l) :=
  ⟨insert_sorted p l h.1 hn, fun x hx => by
    rcases (insert_mem p x l).mp hx with e | m
    · rw [e]; exact hp
    · exact h.2 x m⟩
/-- the program's way: those below, p, those above -/
theorem insert_is (p : Nat) : ∀ l : List Nat, l.Pairwise (· < ·) → p ∉ l → Kp409.insertPosition p l = l.filter (fun q => decide (q < p)) ++ [p] ++ l.filter (fun q => decide (p < q))
  | [], _, _ => rfl
  | q :: r, h, hn => by
    have hpq : p ≠ q := fun e => hn (by simp [e])
    have h' := List.pairwise_cons.mp h
    have ih := insert_is p r h'.2 fun m => hn (List.mem_cons_of_mem _ m)
    unfold Kp409.insertPosition
    by_cases c : p < q
    · rw [if_pos c]
      have e1 : (q :: r).filter (fun x => decide (x < p)) = [] := by
        rw [List.filter_eq_nil_iff]
        intro x hx
        rcases List.mem_cons.mp hx with e | m
        · simp; omega
        · have := h'.1 x m; simp; omega
      have e2 : (q :: r).filter (fun x => decide (p < x)) = q :: r := by
        rw [List.filter_eq_self]
        intro x hx
        rcases List.mem_cons.mp hx with e | m
        · simp; omega
        · have := h'.1 x m; simp; omega
      rw [e1, e2]
      rfl
    · rw [if_neg c, ih]
      have e1 : (q :: r).filter (fun x => decide (x < p)) = q :: r.filter (fun x => decide (x < p)) := by
        rw [List.filter_cons_of_pos]
        simp; omega
      have e2 : (q :: r).filter (fun x => decide (p < x)) = r.filter (fun x => decide (p < x)) := by
        rw [List.filter_cons_of_neg]
        simp; omega
      rw [e1, e2]
      rfl
end Sv
namespace Sv
open Kp409 (SizeFraction Sifter)

/-! ### all lists of so many positions -/
theorem mem_lists (n : Nat) : ∀ (k f : Nat) (l : List Nat), l ∈ Kp409.positionLists n k f ↔ l.length = k ∧ l.Pairwise (· < ·) ∧ ∀ p ∈ l, f ≤ p ∧ p < n
  | 0, f, l => by
    show l ∈ [[]] ↔ _
    constructor
    · intro h
      have e : l = [] := by simpa using h
      subst e
      exact ⟨rfl, List.Pairwise.nil, fun p h => by simp at h⟩
    · rintro ⟨h, _⟩
      have e : l = [] := List.length_eq_zero_iff.mp h
      simp [e]
  | k + 1, f, l => by
    show l ∈ ((List.range n).drop f).flatMap (fun p => (Kp409.positionLists n k (p + 1)).map fun rest => p :: rest) ↔ _
    rw [List.mem_flatMap, drop_range]
    constructor
    · rintro ⟨p, hp, h⟩
      obtain ⟨r, hr, rfl⟩ := List.mem_map.mp h
      obtain ⟨e1, e2, e3⟩ := (mem_lists n k (p + 1) r).mp hr
      have hp' := List.mem_range'_1.mp hp
      refine ⟨by rw [List.length_cons, e1], List.pairwise_cons.mpr ⟨fun q hq => (e3 q hq).1, e2⟩, fun q hq => ?_⟩
      rcases List.mem_cons.mp hq with e | m
      · omega
      · have := e3 q m; omega
    · rintro ⟨e1, e2, e3⟩
      cases l with
      | nil => cases e1
      | cons p r =>
        have hp := e3 p (by simp)
        rw [List.pairwise_cons] at e2
        refine ⟨p, List.mem_range'_1.mpr (by omega), List.mem_map.mpr ⟨r, (mem_lists n k (p + 1) r).mpr ⟨by simpa using e1, e2.2, fun q hq => ⟨e2.1 q hq, (e3 q (List.mem_cons_of_mem _ hq)).2⟩⟩, rfl⟩⟩
theorem mem_good {n k : Nat} {l : List Nat} : l ∈ Kp409.positionLists n k 1 ↔ l.length = k ∧ Good n l := mem_lists n k 1 l

/-- the first position behind a row -/
def nextOf (f : Nat) (row : List Nat) : Nat := match row.getLast? with
  | none => f
  | some x => x + 1
/-- a row with each greater position behind it -/
def rowMore (n f : Nat) (row : List Nat) : List (List Nat) := (List.range' (nextOf f row) (n - nextOf f row)).map fun p => row ++ [p]
def longer (n : Nat) (rows : List (List Nat)) : List (List Nat) := rows.flatMap (rowMore n 1)
theorem nextOf_cons (f p : Nat) (row : List Nat) : nextOf f (p :: row) = nextOf (p + 1) row := by
  unfold nextOf
  rw [List.getLast?_cons]
  cases row.getLast? <;> rfl
theorem rowMore_cons (n f p : Nat) (row : List Nat) : rowMore n f (p :: row) = (rowMore n (p + 1) row).map fun r => p :: r := by
  unfold rowMore
  rw [nextOf_cons, List.map_map]
  rfl
theorem lists_more (n : Nat) : ∀ (k f : Nat), Kp409.positionLists n (k + 1) f = (Kp409.positionLists n k f).flatMap (rowMore n f)
  | 0, f => by
    show ((List.range n).drop f).flatMap (fun p => ([[]] : List (List Nat)).map fun rest => p :: rest) = ([[]] : List (List Nat)).flatMap (rowMore n f)
    rw [drop_range]
    have e : rowMore n f [] = (List.range' f (n - f)).map fun p => [p] := rfl
    rw [List.flatMap_cons, List.flatMap_nil, List.append_nil, e]
    induction List.range' f (n - f) with
    | nil => rfl
    | cons x r ih =>
      rw [List.flatMap_cons, List.map_cons, ih]
      rfl
  | k + 1, f => by
    show ((List.range n).drop f).flatMap (fun p => (Kp409.positionLists n (k + 1) (p + 1)).map fun rest => p :: rest) = (((List.range n).drop f).flatMap fun p => (Kp409.positionLists n k (p + 1)).map fun rest => p :: rest).flatMap (rowMore n f)
    rw [List.flatMap_assoc]
    congr 1
    funext p
    rw [lists_more n k (p + 1), List.map_flatMap, List.flatMap_map]
    congr 1
    funext row
    rw [rowMore_cons]
theorem longer_lists (n k : Nat) : longer n (Kp409.positionLists n k 1) = Kp409.positionLists n (k + 1) 1 := (lists_more n k 1).symm
theorem few_lists : ∀ n, n ≤ 10 → ∀ k, k ≤ 10 → (Kp409.positionLists n k 1).length ≤ 126 := by
  have h : ∀ n : Fin 11, ∀ k : Fin 11, (Kp409.positionLists n.1 k.1 1).length ≤ 126 := by decide +kernel
  exact fun n hn k hk => h ⟨n, by omega⟩ ⟨k, by omega⟩

/-! ### the first of the lowest -/
/-- the better of two, the old one where they are even -/
def pick (cost : List Nat → Nat) (b l : List Nat) : List Nat := if cost l < cost b then l else b
theorem fold_some (cost : List Nat → Nat) : ∀ (ls : List (List Nat)) (b : List Nat),
    ls.foldl (fun (best : Option (List Nat)) (l : List Nat) => match best with
      | none => some l
      | some b => if cost l < cost b then some l else some b) (some b) = some (ls.foldl (pick cost) b)
  | [], _ => rfl
  | l :: r, b => by
    rw [List.foldl_cons, List.foldl_cons]
    have e : (if cost l < cost b then some l else some b) = some (pick cost b l) := by
      unfold pick
      split <;> rfl
    show r.foldl _ (if cost l < cost b then some l else some b) = _
    rw [e]
    exact fold_some cost r _
theorem lowest_cons (cost : List Nat → Nat) (l : List Nat) (r : List (List Nat)) : Kp409.lowest cost (l :: r) = some ((l :: r).foldl (pick cost) l) := by
  unfold Kp409.lowest
  rw [List.foldl_cons, List.foldl_cons]
  have e : pick cost l l = l := by
    unfold pick
    rw [if_neg (Nat.lt_irrefl _)]
  rw [e]
  exact fold_some cost r l
theorem fold_best (cost : List Nat → Nat) : ∀ (ls : List (List Nat)) (b : List Nat), (ls.foldl (pick cost) b ∈ b :: ls) ∧ (∀ l ∈ b :: ls, cost (ls.foldl (pick cost) b) ≤ cost l)
  | [], b => ⟨by simp, fun l h => by simp at h; rw [h]; exact Nat.le_refl _⟩
  | x :: r, b => by
    obtain ⟨h1, h2⟩ := fold_best cost r (pick cost b x)
    rw [List.foldl_cons]
    have e : (pick cost b x = x ∨ pick cost b x = b) ∧ cost (pick cost b x) ≤ cost x ∧ cost (pick cost b x) ≤ cost b := by
      unfold pick
      split <;> simp <;> omega
    constructor
    · rcases List.mem_cons.mp h1 with q | q
      · rw [q]
        rcases e.1 with z | z <;> simp [z]
      · simp [q]
    · intro l hl
      have hb := h2 (pick cost b x) (by simp)
      rcases List.mem_cons.mp hl with q | q
      · subst q; omega
      · rcases List.mem_cons.mp q with q | q
        · subst q; omega
        · exact h2 l (List.mem_cons_of_mem _ q)
theorem lowest_some (cost : List Nat → Nat) {ls : List (List Nat)} (h : ls ≠ []) : ∃ b, Kp409.lowest cost ls = some b ∧ b ∈ ls ∧ ∀ l ∈ ls, cost b ≤ cost l := by
  cases ls with
  | nil => exact absurd rfl h
  | cons x r =>
    refine ⟨_, lowest_cons cost x r, ?_⟩
    obtain ⟨h1, h2⟩ := fold_best cost (x :: r) x
    refine ⟨?_, fun l hl => h2 l (List.mem_cons_of_mem _ hl)⟩
    rcases List.mem_cons.mp h1 with e | m
    · rw [e]; simp
    · exact m

/-! ### there is a list, and room for one position more -/
theorem lists_ne {n k : Nat} (h : k < n ∨ k = 0) : Kp409.positionLists n k 1 ≠ [] := by
  have m : List.range' 1 k ∈ Kp409.positionLists n k 1 := by
    refine mem_good.mpr ⟨List.length_range', List.pairwise_lt_range', fun p hp => ?_⟩
    have := List.mem_range'_1.mp hp
    omega
  intro e
  rw [e] at m
  simp at m
theorem room : ∀ (l : List Nat) (f n : Nat), l.Pairwise (· < ·) → (∀ p ∈ l, f ≤ p ∧ p < n) → l.length < n - f → ∃ p, f ≤ p ∧ p < n ∧ p ∉ l
  | [], f, n, _, _, h => ⟨f, Nat.le_refl _, by simp at h; omega, by simp⟩
  | q :: r, f, n, h1, h2, h => by
    rw [List.pairwise_cons] at h1
    have hq := h2 q (by simp)
    by_cases c : q = f
    · obtain ⟨p, e1, e2, e3⟩ := room r (f + 1) n h1.2 (fun p hp => ⟨by have := h1.1 p hp; omega, (h2 p (List.mem_cons_of_mem _ hp)).2⟩) (by rw [List.length_cons] at h; omega)
      refine ⟨p, by omega, e2, fun m => ?_⟩
      rcases List.mem_cons.mp m with e | m
      · omega
      · exact e3 m
    · refine ⟨f, Nat.le_refl _, by omega, fun m => ?_⟩
      rcases List.mem_cons.mp m with e | m
      · omega
      · have := h1.1 f m; omega

/-! ### the best sieves -/
theorem best_some (s : Sifter) {k : Nat} (h : k < s.sizes.length ∨ k = 0) : ∃ b, Kp409.bestSieves s k = some b ∧ Good s.sizes.length b ∧ b.length = k ∧ ∀ l, Good s.sizes.length l → l.length = k → Kp409.misplaced s b ≤ Kp409.misplaced s l := by
  obtain ⟨b, e, m, q⟩ := lowest_some (Kp409.misplaced s) (lists_ne h)
  obtain ⟨m1, m2⟩ := mem_good.mp m
  exact ⟨b, e, m2, m1, fun l h1 h2 => q l (mem_good.mpr ⟨h2, h1⟩)⟩
theorem even_some (s : Sifter) {k : Nat} (h : k < s.sizes.length ∨ k = 0) : ∃ b, Kp409.mostEvenSieves s k = some b ∧ Good s.sizes.length b ∧ b.length = k := by
  obtain ⟨b, e, m, q⟩ := lowest_some (Kp409.heaviestClass s) (lists_ne h)
  obtain ⟨m1, m2⟩ := mem_good.mp m
  exact ⟨b, e, m2, m1⟩
/-- one sieve more never misplaces more -/
theorem best_falls (s : Sifter) {k : Nat} (h : k + 1 < s.sizes.length) {b c : List Nat} (hb : Kp409.bestSieves s k = some b) (hc : Kp409.bestSieves s (k + 1) = some c) : Kp409.misplaced s c ≤ Kp409.misplaced s b := by
  obtain ⟨b', e1, g1, l1, _⟩ := best_some s (k := k) (.inl (by omega))
  obtain ⟨c', e2, g2, l2, q⟩ := best_some s (k := k + 1) (.inl h)
  rw [hb] at e1
  rw [hc] at e2
  cases e1
  cases e2
  obtain ⟨p, p1, p2, p3⟩ := room b 1 s.sizes.length g1.1 g1.2 (by omega)
  refine Nat.le_trans (q _ (insert_good g1 ⟨p1, p2⟩ p3) (by rw [insert_len, l1])) ?_
  rw [misplaced_is, misplaced_is]
  exact insert_mis s.sizes _ p p2 b 0 (Nat.zero_le _) g1.1 (fun q hq => ⟨Nat.zero_le _, (g1.2 q hq).2⟩) p3

/-! ### the class of a size -/
/-- the program's walk over the classes: the last one that begins at or below the size -/
def atFrom (size : Nat) : Nat → List SizeFraction → List (List SizeFraction) → List SizeFraction
  | _, found, [] => found
  | before, found, c :: r => atFrom size (before + c.length) (if before ≤ size then c else found) r
theorem at_past {size : Nat} : ∀ (cs : List (List SizeFraction)) (before : Nat) (found : List SizeFraction), size < before → atFrom size before found cs = found
  | [], _, _, _ => rfl
  | c :: r, before, found, h => by
    unfold atFrom
    rw [if_neg (by omega)]
    exact at_past r _ _ (by omega)
theorem at_is (l : List SizeFraction) (size : Nat) : ∀ (pos : List Nat) (b : Nat) (found : List SizeFraction), b ≤ size → b ≤ l.length → pos.Pairwise (· < ·) → (∀ p ∈ pos, b ≤ p ∧ p < l.length) →
    atFrom size b found (clsFrom l b (pos ++ [l.length])) = (clsFrom l b (pos ++ [l.length])).getD ((pos.filter fun p => decide (p ≤ size)).length) []
  | [], b, found, hb, _, _, _ => by
    show (if b ≤ size then (l.take l.length).drop b else found) = (l.take l.length).drop b
    rw [if_pos hb]
  | p :: r, b, found, hb, hbl, h1, h2 => by
    rw [List.pairwise_cons] at h1
    have hp := h2 p (by simp)
    show atFrom size (b + ((l.take p).drop b).length) (if b ≤ size then (l.take p).drop b else found) (clsFrom l p (r ++ [l.length])) = ((l.take p).drop b :: clsFrom l p (r ++ [l.length])).getD _ []
    rw [if_pos hb, cls_len (Nat.le_of_lt hp.2)]
    have eb : b + (p - b) = p := by omega
    rw [eb]
    by_cases c : p ≤ size
    · rw [at_is l size r p _ c (Nat.le_of_lt hp.2) h1.2 fun q hq => ⟨Nat.le_of_lt (h1.1 q hq), (h2 q (List.mem_cons_of_mem _ hq)).2⟩]
      rw [List.filter_cons_of_pos (by simpa using c), List.length_cons, List.getD_cons_succ]
    · have e : (p :: r).filter (fun p => decide (p ≤ size)) = [] := by
        rw [List.filter_eq_nil_iff]
        intro x hx
        rcases List.mem_cons.mp hx with e | m
        · simp; omega
        · have := h1.1 x m; simp; omega
      rw [at_past _ _ _ (by omega), e]
      rfl
theorem classOf_is (s : Sifter) (size : Nat) (h : Good s.sizes.length s.sieves) : atFrom size 0 [] (Kp409.classes s s.sieves) = Kp409.classOf s size := by
  unfold Kp409.classOf
  rw [classes_is]
  exact at_is s.sizes size s.sieves 0 [] (Nat.zero_le _) (Nat.zero_le _) h.1 fun p hp => ⟨Nat.zero_le _, (h.2 p hp).2⟩

/-! ### a fraction -/
theorem frac (t w : Nat) (hw : w ≠ 0) : ((t : Rat) / (w : Rat)).num = ((t / Nat.gcd t w : Nat) : Int) ∧ ((t : Rat) / (w : Rat)).den = w / Nat.gcd t w := by
  have e : (t : Rat) / (w : Rat) = mkRat (t : Int) w := by
    rw [← Rat.divInt_ofNat, Rat.divInt_eq_div]
    rfl
  rw [e, Rat.num_mkRat, Rat.den_mkRat, if_neg hw, if_neg hw]
  have g : Nat.gcd w (t : Int).natAbs = Nat.gcd t w := by
    rw [Int.natAbs_natCast, Nat.gcd_comm]
  rw [g]
  exact ⟨by rw [Int.natCast_ediv], rfl⟩
end Sv
/-! # Plain laws: a list of calls is read as the program's loop reads it -/
namespace Sv
/-- a call by its number and its numbers -/
inductive CallIs : Nat → List Nat → Kp409.Call → Prop
  | c0 : CallIs 0 [] .create
  | c1 (n m : Nat) : CallIs 1 [n, m] (.addSize n m)
  | c2 : CallIs 2 [] .removeLastSize
  | c3 (n m j : Nat) : CallIs 3 [n, m, j] (.setSize n m j)
  | c4 : CallIs 4 [] .getSizes
  | c5 (l : List Nat) : CallIs 5 l (.setSieves l)
  | c6 : CallIs 6 [] .getSieves
  | c7 : CallIs 7 [] .getClasses
  | c8 : CallIs 8 [] .misplaced
  | c9 : CallIs 9 [] .purity
  | c10 (n : Nat) : CallIs 10 [n] (.bestSieves n)
  | c11 (n : Nat) : CallIs 11 [n] (.applyBestSieves n)
  | c12 (n : Nat) : CallIs 12 [n] (.sievesNeeded n)
  | c13 : CallIs 13 [] .lowerBound
  | c14 (n : Nat) : CallIs 14 [n] (.addSieve n)
  | c15 (n : Nat) : CallIs 15 [n] (.removeSieve n)
  | c16 (n : Nat) : CallIs 16 [n] (.gainOfSieve n)
  | c17 (n : Nat) : CallIs 17 [n] (.mostEvenSieves n)
  | c18 (l : List Nat) : CallIs 18 l (.evaluateSieves l)
  | c19 (n : Nat) : CallIs 19 [n] (.destination n)
  | c20 : CallIs 20 [] .yields
theorem nat_of {a : Int} (h : Kp409Neutral.natural a = true) : ∃ n : Nat, a = (n : Int) := by
  unfold Kp409Neutral.natural at h
  rw [Bool.and_eq_true, decide_eq_true_eq, decide_eq_true_eq] at h
  exact ⟨a.toNat, by omega⟩
theorem nats_of : ∀ {l : List Int}, l.all Kp409Neutral.natural = true → ∃ m : List Nat, l = m.map (fun (n : Nat) => (n : Int))
  | [], _ => ⟨[], rfl⟩
  | a :: r, h => by
    rw [List.all_cons, Bool.and_eq_true] at h
    obtain ⟨n, rfl⟩ := nat_of h.1
    obtain ⟨m, rfl⟩ := nats_of h.2
    exact ⟨n :: m, rfl⟩
theorem back (m : List Nat) : (m.map (fun (n : Nat) => (n : Int))).map Int.toNat = m := by
  rw [List.map_map]
  conv => rhs; rw [← List.map_id m]
  exact List.map_congr_left fun n _ => Int.toNat_natCast n
/-- what is asked of a call -/
theorem asked_is {c : List (List Int)} (h : Kp409Neutral.asked1 c = true) : ∃ (p : Nat) (vals : List Nat) (x : Kp409.Call), c = [(p : Int) :: vals.map (fun (n : Nat) => (n : Int))] ∧ Kp409Neutral.callOf c = some x ∧ CallIs p vals x := by
  unfold Kp409Neutral.asked1 at h
  split at h
  case h_1 => exact ⟨0, [], _, rfl, rfl, .c0⟩
  case h_2 a b =>
    rw [Bool.and_eq_true] at h
    obtain ⟨n, rfl⟩ := nat_of h.1
    obtain ⟨m, rfl⟩ := nat_of h.2
    exact ⟨1, [n, m], _, rfl, rfl, .c1 n m⟩
  case h_3 => exact ⟨2, [], _, rfl, rfl, .c2⟩
  case h_4 a b c =>
    rw [Bool.and_eq_true, Bool.and_eq_true] at h
    obtain ⟨n, rfl⟩ := nat_of h.1
    obtain ⟨m, rfl⟩ := nat_of h.2.1
    obtain ⟨j, rfl⟩ := nat_of h.2.2
    exact ⟨3, [n, m, j], _, rfl, rfl, .c3 n m j⟩
  case h_5 => exact ⟨4, [], _, rfl, rfl, .c4⟩
  case h_6 l =>
    rw [Bool.and_eq_true] at h
    obtain ⟨m, rfl⟩ := nats_of h.1
    exact ⟨5, m, _, rfl, by show some (Kp409.Call.setSieves _) = _; rw [back], .c5 m⟩
  case h_7 => exact ⟨6, [], _, rfl, rfl, .c6⟩
  case h_8 => exact ⟨7, [], _, rfl, rfl, .c7⟩
  case h_9 => exact ⟨8, [], _, rfl, rfl, .c8⟩
  case h_10 => exact ⟨9, [], _, rfl, rfl, .c9⟩
  case h_11 a =>
    obtain ⟨n, rfl⟩ := nat_of h
    exact ⟨10, [n], _, rfl, rfl, .c10 n⟩
  case h_12 a =>
    obtain ⟨n, rfl⟩ := nat_of h
    exact ⟨11, [n], _, rfl, rfl, .c11 n⟩
  case h_13 a =>
    obtain ⟨n, rfl⟩ := nat_of h
    exact ⟨12, [n], _, rfl, rfl, .c12 n⟩
  case h_14 => exact ⟨13, [], _, rfl, rfl, .c13⟩
  case h_15 a =>
    obtain ⟨n, rfl⟩ := nat_of h
    exact ⟨14, [n], _, rfl, rfl, .c14 n⟩
  case h_16 a =>
    obtain ⟨n, rfl⟩ := nat_of h
    exact ⟨15, [n], _, rfl, rfl, .c15 n⟩
  case h_17 a =>
    obtain ⟨n, rfl⟩ := nat_of h
    exact ⟨16, [n], _, rfl, rfl, .c16 n⟩
  case h_18 a =>
    obtain ⟨n, rfl⟩ := nat_of h
    exact ⟨17, [n], _, rfl, rfl, .c17 n⟩
  case h_19 l =>
    rw [Bool.and_eq_true] at h
    obtain ⟨m, rfl⟩ := nats_of h.1
    exact ⟨18, m, _, rfl, by show some (Kp409.Call.evaluateSieves _) = _; rw [back], .c18 m⟩
  case h_20 a =>
    obtain ⟨n, rfl⟩ := nat_of h
    exact ⟨19, [n], _, rfl, rfl, .c19 n⟩
  case h_21 => exact ⟨20, [], _, rfl, rfl, .c20⟩
  case h_22 => cases h
theorem row_is {r s x : List Int} (h : PyFlat.row r = some (x, s)) : r = (x.length : Int) :: (x ++ s) := by
  unfold PyFlat.row at h
  cases r with
  | nil => cases h
  | cons n r =>
    have h : (if 0 ≤ n ∧ n.toNat ≤ r.length then some (r.take n.toNat, r.drop n.toNat) else none) = some (x, s) := h
    by_cases c : 0 ≤ n ∧ n.toNat ≤ r.length
    · rw [if_pos c] at h
      have h' := Option.some.inj h
      have e1 : r.take n.toNat = x := congrArg Prod.fst h'
      have e2 : r.drop n.toNat = s := congrArg Prod.snd h'
      rw [← e1, ← e2, List.take_append_drop, List.length_take, Nat.min_eq_left c.2]
      congr 1
      omega
    · rw [if_neg c] at h
      cases h
theorem call_is {l t : List Int} {c : List (List Int)} (h : PyWide.call l = some (c, t)) : ∃ (p : Int) (ns : List Int) (k : Int) (xs : List (List Int)) (u : List Int), l = p :: (ns.length : Int) :: (ns ++ k :: u) ∧ c = (p :: ns) :: xs ∧ 0 ≤ k ∧ PyFlat.rows k.toNat u = some (xs, t) := by
  cases l with
  | nil => cases h
  | cons p r =>
    have h : (match PyFlat.row r with
      | none => none
      | some (_, []) => none
      | some (ns, k :: t) => if 0 ≤ k then (match PyFlat.rows k.toNat t with
        | none => none
        | some (xs, u) => some ((p :: ns) :: xs, u)) else none) = some (c, t) := h
    cases e : PyFlat.row r with
    | none => rw [e] at h; cases h
    | some q =>
      obtain ⟨ns, s⟩ := q
      rw [e] at h
      cases s with
      | nil => cases h
      | cons k u =>
        have h : (if 0 ≤ k then (match PyFlat.rows k.toNat u with
          | none => none
          | some (xs, u) => some ((p :: ns) :: xs, u)) else none) = some (c, t) := h
        by_cases c0 : 0 ≤ k
        · rw [if_pos c0] at h
          cases e2 : PyFlat.rows k.toNat u with
          | none => rw [e2] at h; cases h
          | some q2 =>
            obtain ⟨xs, v⟩ := q2
            rw [e2] at h
            have h' := Option.some.inj h
            have h1 : (p :: ns) :: xs = c := congrArg Prod.fst h'
            have h2 : v = t := congrArg Prod.snd h'
            subst h1 h2
            exact ⟨p, ns, k, xs, u, by rw [row_is e], rfl, c0, e2⟩
        · rw [if_neg c0] at h
          cases h
theorem rows_none {k : Nat} {u t : List Int} (h : PyFlat.rows k u = some ([], t)) : u = t := by
  cases k with
  | zero => exact congrArg Prod.snd (Option.some.inj h)
  | succ k =>
    have h : (match PyFlat.row u with
      | none => none
      | some (x, s) => match PyFlat.rows k s with
        | none => none
        | some (xs, t) => some (x :: xs, t)) = some ([], t) := h
    cases e : PyFlat.row u with
    | none => rw [e] at h; cases h
    | some q =>
      obtain ⟨x, s⟩ := q
      rw [e] at h
      have h : (match PyFlat.rows k s with
        | none => none
        | some (xs, t) => some (x :: xs, t)) = some ([], t) := h
      cases e2 : PyFlat.rows k s with
      | none => rw [e2] at h; cases h
      | some q2 =>
        rw [e2] at h
        have h' := congrArg Prod.fst (Option.some.inj h)
        cases h'
/-- one turn of the loop: the next call -/
theorem turn {f : Nat} {l : List Int} {cs : List (List (List Int))} (h : PyWide.calls f l = some cs) (ha : cs.all Kp409Neutral.asked1 = true) (hl : l ≠ []) :
    ∃ (p : Nat) (vals : List Nat) (x : Kp409.Call) (k : Int) (t : List Int) (f' : Nat) (c : List (List Int)) (cs' : List (List (List Int))), l = (p : Int) :: (vals.length : Int) :: (vals.map (fun (n : Nat) => (n : Int)) ++ k :: t) ∧ CallIs p vals x ∧ Kp409Neutral.callOf c = some x ∧
      cs = c :: cs' ∧ PyWide.calls f' t = some cs' ∧ cs'.all Kp409Neutral.asked1 = true := by
  cases l with
  | nil => exact absurd rfl hl
  | cons q r =>
    cases f with
    | zero => cases h
    | succ f =>
      have h : (match PyWide.call (q :: r) with
        | none => none
        | some (c, t) => match PyWide.calls f t with
          | none => none
          | some cs => some (c :: cs)) = some cs := h
      cases e : PyWide.call (q :: r) with
      | none => rw [e] at h; cases h
      | some y =>
        obtain ⟨c, t⟩ := y
        rw [e] at h
        have h : (match PyWide.calls f t with
          | none => none
          | some cs => some (c :: cs)) = some cs := h
        cases e2 : PyWide.calls f t with
        | none => rw [e2] at h; cases h
        | some cs' =>
          rw [e2] at h
          have h := Option.some.inj h
          subst h
          rw [List.all_cons, Bool.and_eq_true] at ha
          obtain ⟨p, vals, x, rfl, hx, hc⟩ := asked_is ha.1
          obtain ⟨p', ns, k, xs, u, e3, e4, e5, e6⟩ := call_is e
          have h1 := congrArg List.head? e4
          have e7 : (p : Int) :: vals.map (fun (n : Nat) => (n : Int)) = p' :: ns := Option.some.inj h1
          have e8 : ([] : List (List Int)) = xs := congrArg List.tail e4
          subst e8
          have e9 : (p : Int) = p' := congrArg (fun z => z.headD 0) e7
          have e10 : vals.map (fun (n : Nat) => (n : Int)) = ns := congrArg List.tail e7
          subst e9 e10
          have e11 := rows_none e6
          subst e11
          refine ⟨p, vals, x, k, u, f, _, cs', ?_, hc, hx, rfl, e2, ha.2⟩
          rw [e3, List.length_map]
theorem calls_nil {f : Nat} {cs : List (List (List Int))} (h : PyWide.calls f [] = some cs) : cs = [] := by
  cases f <;> exact (Option.some.inj h).symm
/-- what is answered, call by call -/
def out (s : Kp409.State) (cs : List (List (List Int))) : List Int := PyFlat.told (PyFlat.played Kp409Neutral.step s cs)
theorem out_cons {s s' : Kp409.State} {c : List (List Int)} {cs : List (List (List Int))} {x : Kp409.Call} {y : Kp409.Ans} (hx : Kp409Neutral.callOf c = some x) (h : Kp409.step s x = (s', y)) :
    out s (c :: cs) = ((y.num :: y.nums).length : Int) :: ((y.num :: y.nums) ++ out s' cs) := by
  have e : Kp409Neutral.step s c = (s', y.num :: y.nums) := by
    unfold Kp409Neutral.step
    rw [hx]
    show ((Kp409.step s x).1, (Kp409.step s x).2.num :: (Kp409.step s x).2.nums) = _
    rw [h]
  show PyFlat.told ((Kp409Neutral.step s c).2 :: PyFlat.played Kp409Neutral.step (Kp409Neutral.step s c).1 cs) = _
  rw [e]
  rfl
/-- what is asked of a request -/
theorem asked_all {l : List Int} (h : PyKp409.answers_asked l = true) : ∃ cs, PyWide.calls l.length l = some cs ∧ cs.all Kp409Neutral.asked1 = true ∧ out Kp409.start cs = PyKp409.answers l ∧ (PyKp409.answers l).length ≤ 10000000 := by
  unfold PyKp409.answers_asked at h
  cases e : PyKp409.calls l with
  | none => rw [e] at h; cases h
  | some cs =>
    rw [e] at h
    have h : (PyFlat.atMost 60 cs && Kp409Neutral.asked cs && PyFlat.short 10000000 (PyKp409.answers l)) = true := h
    rw [Bool.and_eq_true, Bool.and_eq_true] at h
    obtain ⟨⟨_, h2⟩, h3⟩ := h
    unfold Kp409Neutral.asked at h2
    rw [Bool.and_eq_true, Bool.and_eq_true] at h2
    refine ⟨cs, e, h2.2.2, ?_, by unfold PyFlat.short at h3; exact of_decide_eq_true h3⟩
    unfold PyKp409.answers
    rw [e]
    rfl
/-- what stands behind the i-th number -/
theorem drop_two {l r : List Int} {i : Nat} {p q : Int} (h : l.drop i = p :: q :: r) : l[i]? = some p ∧ l[i + 1]? = some q ∧ l.drop (i + 2) = r := by
  have h0 := congrArg (fun z => z[0]?) h
  have h1 := congrArg (fun z => z[1]?) h
  have h2 := congrArg (fun z => z.drop 2) h
  simp only [List.getElem?_drop, List.drop_drop] at h0 h1 h2
  exact ⟨by simpa using h0, by simpa using h1, by simpa using h2⟩
theorem drop_more {l a b : List Int} {i : Nat} (h : l.drop i = a ++ b) : (l.drop i).take a.length = a ∧ l.drop (i + a.length) = b := by
  constructor
  · rw [h, List.take_left']
    rfl
  · rw [← List.drop_drop, h, List.drop_left']
    rfl
end Sv
/-! # Heap words: how the state lies in the heap; a def's facts -/
namespace Sv
open PySem PySem.Spec PyProof.Rows L2
open Kp409 (SizeFraction Sifter)

/-! ### the text by places -/
def top (i : Nat) : Stmt := PySem.Challenge.pw_sievecuts_s01_answers.main.body.getD i (.Pass ⟨0, 0, 0, 0⟩)

/-! ### what lies in the heap -/
def szV (x : SizeFraction) : HO := .tup [.int (x.flour : Int), .int (x.bran : Int)]
def clV (c : List SizeFraction) : HO := .tup [.int (c.length : Int), .int (Kp409.totalFlour c : Int), .int (Kp409.totalBran c : Int)]
def nums (r : List Nat) : List V := r.map fun (n : Nat) => V.int (n : Int)
def rwV (r : List Nat) : HO := .lst (nums r)
/-- a list of objects, each of which tells an item -/
def RowsAt {T : Type} (enc : T → HO) (H : Hp) (a : Addr) (l : List T) : Prop :=
  ∃ ps : List (Addr × T), H a = some (.lst (ps.map fun p => V.ref p.1)) ∧ ps.map (·.2) = l ∧ ∀ p ∈ ps, H p.1 = some (enc p.2)
theorem RowsAt.same {T : Type} {enc : T → HO} {H H' : Hp} {a : Addr} {l : List T} (s : Same H H') (h : RowsAt enc H a l) : RowsAt enc H' a l := by
  obtain ⟨ps, h1, h2, h3⟩ := h
  exact ⟨ps, s _ _ h1, h2, fun p hp => s _ _ (h3 p hp)⟩
theorem same_new {H : Hp} {p : Addr} {o : HO} (h : H p = none) : Same H (upd H p o) := fun b u e => by
  rw [upd_ne (ne_of_none e h)]
  exact e
theorem get_row {T : Type} {ps : List (Addr × T)} {j : Nat} {x : T} (h : (ps.map (·.2))[j]? = some x) : ∃ p : Addr × T, ps[j]? = some p ∧ p ∈ ps ∧ p.2 = x ∧ (ps.map fun p => V.ref p.1)[j]? = some (V.ref p.1) := by
  rw [List.getElem?_map] at h
  cases e : ps[j]? with
  | none => rw [e] at h; cases h
  | some p =>
    rw [e] at h
    refine ⟨p, rfl, List.mem_of_getElem? e, Option.some.inj h, ?_⟩
    rw [List.getElem?_map, e]
    rfl
theorem get_ref {T : Type} {ps : List (Addr × T)} {j : Nat} {y : V} (h : (ps.map fun p => V.ref p.1)[j]? = some y) : ∃ p : Addr × T, ps[j]? = some p ∧ p ∈ ps ∧ y = V.ref p.1 ∧ (ps.map (·.2))[j]? = some p.2 := by
  rw [List.getElem?_map] at h
  cases e : ps[j]? with
  | none => rw [e] at h; cases h
  | some p =>
    rw [e] at h
    refine ⟨p, rfl, List.mem_of_getElem? e, (Option.some.inj h).symm, ?_⟩
    rw [List.getElem?_map, e]
    rfl
theorem get_num {l : List Nat} {j : Nat} {y : V} (h : (nums l)[j]? = some y) : ∃ n, l[j]? = some n ∧ y = V.int (n : Int) := by
  unfold nums at h
  rw [List.getElem?_map] at h
  cases e : l[j]? with
  | none => rw [e] at h; cases h
  | some n =>
    rw [e] at h
    exact ⟨n, rfl, (Option.some.inj h).symm⟩
theorem nums_length (l : List Nat) : (nums l).length = l.length := List.length_map _
theorem nums_append (a b : List Nat) : nums (a ++ b) = nums a ++ nums b := List.map_append

/-! ### a def's facts, for those who call it -/
section
variable (P : Program) (w : World) (K : PySem.W.Frag) (mg : Str → Option Value) (base : Heap)
/-- the def x of the text, of a level, its parameters, its promise -/
def Df (x : Str) (k : Nat) (ps : List Str) (sp : Sp) : Prop := ∃ (f : Addr) (fd : FuncData), mg x = some (.ref f) ∧ PySem.W.keepIn K (.ref f) = true ∧ FnOk P w K mg base CX0 k f fd ps sp ∧ Binds K fd ps []
/-- the method m of the class at C -/
def Mt (C : Addr) (m : Str) (k : Nat) (ps : List Str) (sp : Sp) : Prop := ∃ (f : Addr) (fd : FuncData), Meth K C m f ∧ FnOk P w K mg base CX0 k f fd ps sp ∧ Binds K fd ps []
end
/-- names of the language that the top leaves alone -/
structure Bt (mg : Str → Option Value) : Prop where
  range : mg "range" = none
  len : mg "len" = none
  min : mg "min" = none
  max : mg "max" = none
  list : mg "list" = none
end Sv
namespace Sv
open PySem PySem.Spec PyProof.Rows L2
open Kp409 (SizeFraction Sifter)
abbrev sFlour : Stmt := top 10
abbrev sBran : Stmt := top 11
abbrev nFlour : List Str := ["sizes", "begin", "end", "total", "size"]
theorem scFlour : FnScope nFlour ["sizes", "begin", "end"] (defScope sFlour) := ⟨rfl, rfl, rfl, by decide +kernel, rfl, by decide +kernel, by decide +kernel⟩
theorem scBran : FnScope nFlour ["sizes", "begin", "end"] (defScope sBran) := ⟨rfl, rfl, rfl, by decide +kernel, rfl, by decide +kernel, by decide +kernel⟩
theorem slice_more {l : List SizeFraction} {b j : Nat} {x : SizeFraction} (hb : b ≤ j) (h : l[j]? = some x) : (l.take (j + 1)).drop b = (l.take j).drop b ++ [x] := by
  have hj : j < l.length := (List.getElem?_eq_some_iff.mp h).1
  have e : l.take (j + 1) = l.take j ++ [x] := by rw [List.take_add_one, h]; rfl
  rw [e, List.drop_append_of_le_length]
  rw [List.length_take]
  omega
theorem slice_none (l : List SizeFraction) (b : Nat) : (l.take b).drop b = [] := by
  rw [List.drop_eq_nil_iff, List.length_take]
  omega
def spFlour : Sp := fun vs H Q _ => ∃ (a : Addr) (b e : Nat) (l : List SizeFraction), vs = [.ref a, .int b, .int e] ∧ RowsAt szV H a l ∧ b ≤ e ∧ e ≤ l.length ∧ l.length ≤ 10 ∧ Q (.int (Kp409.totalFlour ((l.take e).drop b) : Nat)) H
def spBran : Sp := fun vs H Q _ => ∃ (a : Addr) (b e : Nat) (l : List SizeFraction), vs = [.ref a, .int b, .int e] ∧ RowsAt szV H a l ∧ b ≤ e ∧ e ≤ l.length ∧ l.length ≤ 10 ∧ Q (.int (Kp409.totalBran ((l.take e).drop b) : Nat)) H
section
variable {P : Program} {w : World} {K : PySem.W.Frag} {mg : Str → Option Value} {base : Heap}
theorem ok_flour {f : Addr} {fd : FuncData} (F : Fun K "flour_between" "flour_between" sFlour f fd) (B : Bt mg) : FnOk P w K mg base CX0 1 f fd ["sizes", "begin", "end"] spFlour := by
  refine F.ok scFlour (fun vs H Q E h => ?_) (fun cdv A outer s H vs Q E hr h => ?_)
  · obtain ⟨a, b, e, l, rfl, _⟩ := h
    rfl
  · obtain ⟨a, b, e, l, rfl, R, hbe, hel, hl, k⟩ := h
    refine ⟨_, pss_cons (ps_set (i := 3) scFlour.nd rfl (.inl rfl) pe_int) (pss_cons (ps_for PassesOwn.never rfl (pi_range2 (by rfl) B.range (pa_cons (pv 1) (pa_cons (pv 2) pa_nil))) (pg_name (i := 4) scFlour.nd rfl (.inl rfl))
      (pss_one (ps_set (i := 3) scFlour.nd rfl (.inl rfl) (pe_op op_add (pv 3) (pe_ix ix_tup (pe_ix ix_list (pv 0) (pv 4) (fun _ _ => rfl)) pe_int (fun _ _ => rfl)))))) (pss_one (ps_ret (pv 3)))), ?_⟩
    refine ⟨_, rfl, _, rfl, b, e, rfl, ⟨by omega, by omega, by omega, by omega⟩, for_range (lo := b) (n := ((e : Int) - b).toNat)
      (fun i σ H' => H' = H ∧ ∃ v, σ = [some (.ref a), some (.int b), some (.int e), some (.int (Kp409.totalFlour ((l.take (b + i)).drop b) : Nat)), v]) ⟨rfl, none, ?_⟩ ?_ ?_⟩
    · rw [Nat.add_zero, slice_none]
      rfl
    · rintro i σ H' hi ⟨rfl, v, rfl⟩
      obtain ⟨ps, h1, rfl, h3⟩ := R
      have hj : b + i < (ps.map (·.2)).length := by omega
      obtain ⟨p, e1, m, e2, e3⟩ := get_row (List.getElem?_eq_getElem hj)
      refine ⟨_, rfl, _, rfl, _, rfl, a, _, _, _, rfl, rfl, SqL.of h1, at_of (j := b + i) (by omega) e3, p.1, _, 0, _, rfl, rfl, SqT.of (h3 p m), rfl, _, _, rfl, rfl, ?_⟩
      refine ⟨rfl, some (.int (b + i)), ?_⟩
      have e4 : (ps.map (·.2))[b + i]? = some p.2 := by rw [List.getElem?_map, e1]; rfl
      rw [← Nat.add_assoc, slice_more (Nat.le_add_right b i) e4, totalFlour_append]
      have e5 : Kp409.totalFlour [p.2] = p.2.flour := by simp [Kp409.totalFlour]
      rw [e5, Int.natCast_add]
      rfl
    · rintro σ H' ⟨rfl, v, rfl⟩
      refine ⟨_, rfl, ?_⟩
      have e1 : b + ((e : Int) - b).toNat = e := by omega
      rw [e1]
      exact k
theorem ok_bran {f : Addr} {fd : FuncData} (F : Fun K "bran_between" "bran_between" sBran f fd) (B : Bt mg) : FnOk P w K mg base CX0 1 f fd ["sizes", "begin", "end"] spBran := by
  refine F.ok scBran (fun vs H Q E h => ?_) (fun cdv A outer s H vs Q E hr h => ?_)
  · obtain ⟨a, b, e, l, rfl, _⟩ := h
    rfl
  · obtain ⟨a, b, e, l, rfl, R, hbe, hel, hl, k⟩ := h
    refine ⟨_, pss_cons (ps_set (i := 3) scBran.nd rfl (.inl rfl) pe_int) (pss_cons (ps_for PassesOwn.never rfl (pi_range2 (by rfl) B.range (pa_cons (pv 1) (pa_cons (pv 2) pa_nil))) (pg_name (i := 4) scBran.nd rfl (.inl rfl))
      (pss_one (ps_set (i := 3) scBran.nd rfl (.inl rfl) (pe_op op_add (pv 3) (pe_ix ix_tup (pe_ix ix_list (pv 0) (pv 4) (fun _ _ => rfl)) pe_int (fun _ _ => rfl)))))) (pss_one (ps_ret (pv 3)))), ?_⟩
    refine ⟨_, rfl, _, rfl, b, e, rfl, ⟨by omega, by omega, by omega, by omega⟩, for_range (lo := b) (n := ((e : Int) - b).toNat)
      (fun i σ H' => H' = H ∧ ∃ v, σ = [some (.ref a), some (.int b), some (.int e), some (.int (Kp409.totalBran ((l.take (b + i)).drop b) : Nat)), v]) ⟨rfl, none, ?_⟩ ?_ ?_⟩
    · rw [Nat.add_zero, slice_none]
      rfl
    · rintro i σ H' hi ⟨rfl, v, rfl⟩
      obtain ⟨ps, h1, rfl, h3⟩ := R
      have hj : b + i < (ps.map (·.2)).length := by omega
      obtain ⟨p, e1, m, e2, e3⟩ := get_row (List.getElem?_eq_getElem hj)
      refine ⟨_, rfl, _, rfl, _, rfl, a, _, _, _, rfl, rfl, SqL.of h1, at_of (j := b + i) (by omega) e3, p.1, _, 1, _, rfl, rfl, SqT.of (h3 p m), rfl, _, _, rfl, rfl, ?_⟩
      refine ⟨rfl, some (.int (b + i)), ?_⟩
      have e4 : (ps.map (·.2))[b + i]? = some p.2 := by rw [List.getElem?_map, e1]; rfl
      rw [← Nat.add_assoc, slice_more (Nat.le_add_right b i) e4, totalBran_append]
      have e5 : Kp409.totalBran [p.2] = p.2.bran := by simp [Kp409.totalBran]
      rw [e5, Int.natCast_add]
      rfl
    · rintro σ H' ⟨rfl, v, rfl⟩
      refine ⟨_, rfl, ?_⟩
      have e1 : b + ((e : Int) - b).toNat = e := by omega
      rw [e1]
      exact k

/-! ### goes_to_flour, lower_bound_of -/
abbrev sGoes : Stmt := top 15
theorem scGoes : FnScope ["flour", "bran"] ["flour", "bran"] (defScope sGoes) := ⟨rfl, rfl, rfl, by decide +kernel, rfl, by decide +kernel, by decide +kernel⟩
def spGoes : Sp := fun vs H Q _ => ∃ (f b : Nat), vs = [.int f, .int b] ∧ Q (.bl (decide (b ≤ f))) H
theorem ok_goes {f : Addr} {fd : FuncData} (F : Fun K "goes_to_flour" "goes_to_flour" sGoes f fd) : FnOk P w K mg base CX0 1 f fd ["flour", "bran"] spGoes := by
  refine F.ok scGoes (fun vs H Q E h => ?_) (fun cdv A outer s H vs Q E hr h => ?_)
  · obtain ⟨a, b, rfl, _⟩ := h
    rfl
  · obtain ⟨a, b, rfl, k⟩ := h
    refine ⟨_, pss_one (ps_ret (pe_cmpR op_le (pv 1) (pv 0) (nomark _))), ?_⟩
    refine ⟨_, rfl, _, rfl, _, _, rfl, rfl, ?_⟩
    have e : decide ((b : Int) ≤ (a : Int)) = decide (b ≤ a) := by
      rw [decide_eq_decide]
      omega
    show Q (.bl (decide ((b : Int) ≤ (a : Int)))) H
    rw [e]
    exact k
abbrev sLow : Stmt := top 17
theorem scLow : FnScope ["sizes", "total", "flour", "bran"] ["sizes"] (defScope sLow) := ⟨rfl, rfl, rfl, by decide +kernel, rfl, by decide +kernel, by decide +kernel⟩
def lowOf (l : List SizeFraction) : Nat := (l.map fun x => min x.flour x.bran).sum
def spLow : Sp := fun vs H Q _ => ∃ (a : Addr) (l : List SizeFraction), vs = [.ref a] ∧ RowsAt szV H a l ∧ Q (.int (lowOf l : Nat)) H
theorem min_int (a b : Nat) : (if (b : Int) < (a : Int) then (b : Int) else (a : Int)) = ((min a b : Nat) : Int) := by
  split <;> omega
theorem max_int (a b : Nat) : (if (b : Int) > (a : Int) then (b : Int) else (a : Int)) = ((max a b : Nat) : Int) := by
  split <;> omega
theorem take_some {T : Type} {l : List T} {i : Nat} {x : T} (h : l[i]? = some x) : l.take (i + 1) = l.take i ++ [x] := by
  rw [List.take_add_one, h]
  rfl
theorem ok_low {f : Addr} {fd : FuncData} (F : Fun K "lower_bound_of" "lower_bound_of" sLow f fd) (B : Bt mg) : FnOk P w K mg base CX0 1 f fd ["sizes"] spLow := by
  refine F.ok scLow (fun vs H Q E h => ?_) (fun cdv A outer s H vs Q E hr h => ?_)
  · obtain ⟨a, l, rfl, _⟩ := h
    rfl
  · obtain ⟨a, l, rfl, R, k⟩ := h
    refine ⟨_, pss_cons (ps_set (i := 1) scLow.nd rfl (.inl rfl) pe_int) (pss_cons (ps_for PassesOwn.never rfl (pi_list (pv 0)) (pg_tup (by rfl) (pgs_cons (pg_name (i := 2) scLow.nd rfl (.inl rfl)) (pgs_cons (pg_name (i := 3) scLow.nd rfl (.inl rfl)) pgs_nil)))
      (pss_one (ps_set (i := 1) scLow.nd rfl (.inl rfl) (pe_op op_add (pv 1) (pe_callB (call_min2 rfl) (by rfl) B.min (by decide +kernel) (pa_cons (pv 2) (pa_cons (pv 3) pa_nil))))))) (pss_one (ps_ret (pv 1)))), ?_⟩
    obtain ⟨ps, h1, rfl, h3⟩ := R
    refine ⟨_, rfl, a, rfl, ⟨_, SqL.of h1⟩, for_list (K := K) (a := a) (xs := ps.map fun p => V.ref p.1) (fun i σ H' => H' = H ∧ ∃ u v, σ = [some (.ref a), some (.int (lowOf ((ps.map (·.2)).take i) : Nat)), u, v]) ⟨rfl, none, none, rfl⟩ (fun i σ H' _ ⟨e, _⟩ => e ▸ SqL.of h1) ?_ ?_⟩
    · rintro i x σ H' hi ⟨rfl, u, v, rfl⟩
      obtain ⟨p, e1, m, rfl, e2⟩ := get_ref hi
      refine ⟨p.1, _, rfl, SqT.of (h3 p m), rfl, _, _, rfl, _, _, rfl, rfl, ?_⟩
      refine ⟨_, rfl, _, rfl, _, rfl, _, _, rfl, _, _, rfl, rfl, ?_⟩
      refine ⟨rfl, some (.int p.2.flour), some (.int p.2.bran), ?_⟩
      have e3 : lowOf ((ps.map (·.2)).take (i + 1)) = lowOf ((ps.map (·.2)).take i) + min p.2.flour p.2.bran := by
        rw [take_some e2]
        simp [lowOf]
      rw [e3, Int.natCast_add, ← min_int]
      rfl
    · rintro σ H' ⟨rfl, u, v, rfl⟩
      refine ⟨_, rfl, ?_⟩
      rw [List.length_map, ← List.length_map (as := ps) (f := (·.2)), List.take_length]
      exact k

/-! ### is_position, is_amount -/
abbrev sIsPos : Stmt := top 19
theorem scIsPos : FnScope ["position", "size_count"] ["position", "size_count"] (defScope sIsPos) := ⟨rfl, rfl, rfl, by decide +kernel, rfl, by decide +kernel, by decide +kernel⟩
def spIsPos : Sp := fun vs H Q _ => ∃ (p n : Nat), vs = [.int p, .int n] ∧ Q (.bl (decide (1 ≤ p ∧ p < n))) H
theorem ok_ispos {f : Addr} {fd : FuncData} (F : Fun K "is_position" "is_position" sIsPos f fd) : FnOk P w K mg base CX0 1 f fd ["position", "size_count"] spIsPos := by
  refine F.ok scIsPos (fun vs H Q E h => ?_) (fun cdv A outer s H vs Q E hr h => ?_)
  · obtain ⟨a, b, rfl, _⟩ := h
    rfl
  · obtain ⟨p, n, rfl, k⟩ := h
    refine ⟨_, pss_one (ps_ret (pe_chain op_le op_le pe_int (pv 0) (pe_op op_sub (pv 1) pe_int))), ?_⟩
    refine ⟨_, rfl, _, _, rfl, rfl, _, rfl, ?_⟩
    by_cases c : 1 ≤ p
    · have e1 : decide ((1 : Int) ≤ (p : Int)) = true := decide_eq_true (by omega)
      rw [e1]
      refine iteT ⟨_, rfl, _, _, rfl, rfl, _, _, rfl, rfl, ?_⟩
      have e2 : decide ((p : Int) ≤ (n : Int) - 1) = decide (1 ≤ p ∧ p < n) := by
        rw [decide_eq_decide]
        omega
      show Q (.bl (decide ((p : Int) ≤ (n : Int) - 1))) H
      rw [e2]
      exact k
    · have e1 : decide ((1 : Int) ≤ (p : Int)) = false := decide_eq_false (by omega)
      rw [e1]
      refine iteF ?_
      have e2 : decide (1 ≤ p ∧ p < n) = false := decide_eq_false (fun h => c h.1)
      rw [e2] at k
      exact k
/-- the constants of the top -/
structure Cn (mg : Str → Option Value) : Prop where
  noSifter : ∃ t, mg "NO_SIFTER" = some (.int (-11) t)
  notThere : ∃ t, mg "NOT_THERE" = some (.int (-2) t)
  outside : ∃ t, mg "OUTSIDE" = some (.int (-22) t)
  tooMany : ∃ t, mg "TOO_MANY" = some (.int (-28) t)
  nothing : ∃ t, mg "NOTHING" = some (.int (-6) t)
  already : ∃ t, mg "ALREADY_THERE" = some (.int (-17) t)
  notEnough : ∃ t, mg "NOT_ENOUGH" = some (.int (-33) t)
  mostSizes : ∃ t, mg "MOST_SIZES" = some (.int 10 t)
  mostAmount : ∃ t, mg "MOST_AMOUNT" = some (.int 99 t)
theorem pe_const {X : Cx} {x : Str} {n : Int} {pos : Pos} (hg : Gl X x) (hm : ∃ t, X.mg x = some (.int n t)) (hd : (x == ("__debug__" : Str)) = false := by decide) : PE X (.Name x pos) (tC (.int n)) := by
  obtain ⟨t, h⟩ := hm
  exact pe_glob hg h ⟨t, rfl⟩ hd
abbrev sIsAm : Stmt := top 30
theorem scIsAm : FnScope ["flour", "bran"] ["flour", "bran"] (defScope sIsAm) := ⟨rfl, rfl, rfl, by decide +kernel, rfl, by decide +kernel, by decide +kernel⟩
def spIsAm : Sp := fun vs H Q _ => ∃ (f b : Nat), vs = [.int f, .int b] ∧ Q (.bl (Kp409.validAmounts f b)) H
theorem ok_isam {f : Addr} {fd : FuncData} (F : Fun K "is_amount" "is_amount" sIsAm f fd) (N : Cn mg) : FnOk P w K mg base CX0 1 f fd ["flour", "bran"] spIsAm := by
  refine F.ok scIsAm (fun vs H Q E h => ?_) (fun cdv A outer s H vs Q E hr h => ?_)
  · obtain ⟨a, b, rfl, _⟩ := h
    rfl
  · obtain ⟨a, b, rfl, k⟩ := h
    refine ⟨_, pss_one (ps_ret (pe_and (pe_cmpR op_le (pv 0) (pe_const (by rfl) N.mostAmount) (nomark _)) (pe_one (pe_cmpR op_le (pv 1) (pe_const (by rfl) N.mostAmount) (nomark _))))), ?_⟩
    refine ⟨_, rfl, _, _, rfl, rfl, _, rfl, ?_⟩
    unfold Kp409.validAmounts at k
    by_cases c : a ≤ 99
    · have e1 : decide ((a : Int) ≤ 99) = true := decide_eq_true (by omega)
      rw [e1]
      refine iteT ⟨_, rfl, _, _, rfl, rfl, ?_⟩
      have e2 : decide ((b : Int) ≤ 99) = (decide (a ≤ 99) && decide (b ≤ 99)) := by
        rw [decide_eq_true c, Bool.true_and, decide_eq_decide]
        omega
      show Q (.bl (decide ((b : Int) ≤ 99))) H
      rw [e2]
      exact k
    · have e1 : decide ((a : Int) ≤ 99) = false := decide_eq_false (by omega)
      rw [e1]
      refine iteF ?_
      rw [decide_eq_false c, Bool.false_and] at k
      exact k

/-! ### fractions -/
abbrev sGcd : Stmt := top 27
abbrev sTerms : Stmt := top 28
theorem scGcd : FnScope ["one", "other", "high", "low", "rest"] ["one", "other"] (defScope sGcd) := ⟨rfl, rfl, rfl, by decide +kernel, rfl, by decide +kernel, by decide +kernel⟩
def spGcd : Sp := fun vs H Q _ => ∃ (a b : Nat), vs = [.int a, .int b] ∧ Q (.int (Nat.gcd a b : Nat)) H
theorem ok_gcd {f : Addr} {fd : FuncData} (F : Fun K "common_divisor" "common_divisor" sGcd f fd) : FnOk P w K mg base CX0 1 f fd ["one", "other"] spGcd := by
  refine F.ok scGcd (fun vs H Q E h => ?_) (fun cdv A outer s H vs Q E hr h => ?_)
  · obtain ⟨a, b, rfl, _⟩ := h
    rfl
  · obtain ⟨a, b, rfl, k⟩ := h
    refine ⟨_, pss_cons (ps_set (i := 2) scGcd.nd rfl (.inl rfl) (pv 0)) (pss_cons (ps_set (i := 3) scGcd.nd rfl (.inl rfl) (pv 1)) (pss_cons (ps_while PassesOwn.never (pt_cmpR op_gt (pv 3) pe_int (nomark _))
      (pss_cons (ps_set (i := 4) scGcd.nd rfl (.inl rfl) (pe_op op_modN (pv 2) (pv 3))) (pss_cons (ps_set (i := 2) scGcd.nd rfl (.inl rfl) (pv 3)) (pss_one (ps_set (i := 3) scGcd.nd rfl (.inl rfl) (pv 4)))))) (pss_one (ps_ret (pv 2))))), ?_⟩
    refine ⟨_, rfl, _, rfl, fun m σ H' => H' = H ∧ ∃ (h : Nat) (r : Option V), σ = [some (.int a), some (.int b), some (.int h), some (.int m), r] ∧ Nat.gcd h m = Nat.gcd a b, ⟨b, rfl, a, none, rfl, rfl⟩, ?_⟩
    rintro m σ H' ⟨rfl, h, r, rfl, g⟩
    refine ⟨_, rfl, _, _, rfl, rfl, _, rfl, ?_⟩
    refine ite2 (fun c => ?_) (fun c => ?_)
    · have c' : 0 < m := by
        have := of_decide_eq_true c
        omega
      refine ⟨fun σ' H'' => H'' = H' ∧ ∃ (h : Nat) (r : Option V), σ' = [some (.int a), some (.int b), some (.int m), some (.int (h % m : Nat)), r] ∧ Nat.gcd m (h % m) = Nat.gcd a b, ?_, ?_⟩
      · rintro σ' H'' ⟨rfl, h2, r2, rfl, g2⟩
        exact ⟨h2 % m, Nat.mod_lt _ c', rfl, m, r2, rfl, g2⟩
      · refine ⟨_, rfl, _, rfl, _, _, rfl, rfl, (by omega), _, rfl, _, rfl, rfl, h, some (.int (h % m : Nat)), ?_, ?_⟩
        · have e : Int.fmod (h : Int) (m : Int) = ((h % m : Nat) : Int) := by
            rw [Int.fmod_eq_emod_of_nonneg _ (by omega), Int.natCast_emod]
          rw [← e]
          rfl
        · rw [← g, Nat.gcd_comm m, ← Nat.gcd_rec, Nat.gcd_comm]
    · have c' : m = 0 := by
        have : ¬ ((0 : Int) < (m : Int)) := fun q => c (decide_eq_true q)
        omega
      subst c'
      refine ⟨_, rfl, ?_⟩
      rw [Nat.gcd_zero_right] at g
      rw [g]
      exact k
theorem scTerms : FnScope ["top", "bottom", "common"] ["top", "bottom"] (defScope sTerms) := ⟨rfl, rfl, rfl, by decide +kernel, rfl, by decide +kernel, by decide +kernel⟩
def spTerms : Sp := fun vs H Q _ => ∃ (t b : Nat), vs = [.int t, .int b] ∧ 0 < b ∧ b ≤ 100000 ∧ ∀ H' p, Same H H' → H' p = some (.lst (nums [t / Nat.gcd t b, b / Nat.gcd t b])) → Q (.ref p) H'
theorem fdiv_nat (a b : Nat) : Int.fdiv (a : Int) (b : Int) = ((a / b : Nat) : Int) := by
  rw [Int.fdiv_eq_ediv_of_nonneg _ (by omega), Int.natCast_ediv]
theorem ok_terms {f : Addr} {fd : FuncData} (F : Fun K "in_lowest_terms" "in_lowest_terms" sTerms f fd) (G : Df P w K mg base "common_divisor" 1 ["one", "other"] spGcd) : FnOk P w K mg base CX0 2 f fd ["top", "bottom"] spTerms := by
  obtain ⟨fG, fdG, mG, kG, GG, bG⟩ := G
  refine F.ok scTerms (fun vs H Q E h => ?_) (fun cdv A outer s H vs Q E hr h => ?_)
  · obtain ⟨a, b, rfl, _⟩ := h
    rfl
  · obtain ⟨a, b, rfl, hb, hb2, k⟩ := h
    refine ⟨_, pss_cons (ps_set (i := 2) scTerms.nd rfl (.inl rfl) (pe_call GG hr rfl mG kG bG .nil pass0 (pa_cons (pv 0) (pa_cons (pv 1) pa_nil)))) (pss_one (ps_ret (pe_lst (pa_cons (pe_op op_fdivN (pv 0) (pv 2)) (pa_cons (pe_op op_fdivN (pv 1) (pv 2)) pa_nil))))), ?_⟩
    refine ⟨_, rfl, _, rfl, a, b, rfl, ?_⟩
    have g0 : 0 < Nat.gcd a b := Nat.gcd_pos_of_pos_right a hb
    have g1 : Nat.gcd a b ≤ b := Nat.gcd_le_right a hb
    have gd : ((Nat.gcd a b : Nat) : Int) ≠ 0 ∧ ((Nat.gcd a b : Nat) : Int).natAbs < 1073741824 := ⟨by omega, by omega⟩
    refine ⟨_, rfl, _, rfl, _, _, rfl, rfl, gd, _, rfl, _, rfl, _, _, rfl, rfl, gd, (by show 2 ≤ sizeLine; decide), fun p hp => ?_⟩
    refine k _ p (same_new hp) ?_
    rw [upd_same]
    show some (HO.lst [.int (Int.fdiv (a : Int) (Nat.gcd a b : Nat)), .int (Int.fdiv (b : Int) (Nat.gcd a b : Nat))]) = _
    rw [fdiv_nat, fdiv_nat]
    rfl
end
end Sv
namespace Sv
open PySem PySem.Spec PyProof.Rows L2
open Kp409 (SizeFraction Sifter)
/-! ### classes_of -/
abbrev sCls : Stmt := top 12
abbrev nCls : List Str := ["sizes", "positions", "found", "begin", "end"]
theorem scCls : FnScope nCls ["sizes", "positions"] (defScope sCls) := ⟨rfl, rfl, rfl, by decide +kernel, rfl, by decide +kernel, by decide +kernel⟩
/-- the classes of sizes at positions -/
def clsOf (l : List SizeFraction) (pos : List Nat) : List (List SizeFraction) := clsFrom l 0 (pos ++ [l.length])
def spCls : Sp := fun vs H Q _ => ∃ (a b : Addr) (l : List SizeFraction) (pos : List Nat), vs = [.ref a, .ref b] ∧ RowsAt szV H a l ∧ H b = some (rwV pos) ∧ Good l.length pos ∧ l.length ≤ 10 ∧
  ∀ (H' : Hp) (c : Addr), Same H H' → RowsAt clV H' c (clsOf l pos) → Q (.ref c) H'
theorem small_line {n : Nat} (h : n ≤ 100000) : n ≤ sizeLine := Nat.le_trans h (by decide)
theorem lt_line {n : Nat} (h : n ≤ 100000) : n < sizeLine := Nat.lt_of_le_of_lt h (by decide)
section
variable {P : Program} {w : World} {K : PySem.W.Frag} {mg : Str → Option Value} {base : Heap}
theorem rows_push {T : Type} {enc : T → HO} {H : Hp} {a t : Addr} {l : List T} {x : T} {ps : List (Addr × T)} (h2 : ps.map (·.2) = l) (h3 : ∀ p ∈ ps, H p.1 = some (enc p.2)) (hx : H t = some (enc x)) (h1 : H a = some (.lst ((ps.map fun p => V.ref p.1) ++ [.ref t]))) : RowsAt enc H a (l ++ [x]) := by
  refine ⟨ps ++ [(t, x)], by rw [h1, List.map_append]; rfl, by rw [List.map_append, h2]; rfl, fun p hp => ?_⟩
  rcases List.mem_append.mp hp with m | m
  · exact h3 p m
  · have e : p = (t, x) := by simpa using m
    subst e
    exact hx
theorem ok_cls {f : Addr} {fd : FuncData} (F : Fun K "classes_of" "classes_of" sCls f fd) (B : Bt mg) (DF : Df P w K mg base "flour_between" 1 ["sizes", "begin", "end"] spFlour) (DB : Df P w K mg base "bran_between" 1 ["sizes", "begin", "end"] spBran) : FnOk P w K mg base CX0 2 f fd ["sizes", "positions"] spCls := by
  obtain ⟨fF, fdF, mF, kF, GF, bF⟩ := DF
  obtain ⟨fB, fdB, mB, kB, GB, bB⟩ := DB
  refine F.ok scCls (fun vs H Q E h => ?_) (fun cdv A outer s H vs Q E hr h => ?_)
  · obtain ⟨a, b, l, pos, rfl, _⟩ := h
    rfl
  · obtain ⟨a, b, l, pos, rfl, R, hb, good, hl, k⟩ := h
    refine ⟨_, pss_cons (ps_set (i := 2) scCls.nd rfl (.inl rfl) (pe_lst pa_nil)) (pss_cons (ps_set (i := 3) scCls.nd rfl (.inl rfl) pe_int)
      (pss_cons (ps_for PassesOwn.never rfl (pi_list (pe_op op_cat (pv 1) (pe_lst (pa_cons (pe_callB call_len_seq (by rfl) B.len PySem.boot_len (pa_cons (pv 0) pa_nil)) pa_nil)))) (pg_name (i := 4) scCls.nd rfl (.inl rfl))
        (pss_cons (ps_expr (pe_bm PySem.F.plainAttrs_list PySem.F.slot_list_append PySem.F.type_list_append mt_append (pv 2) (pa_cons (pe_tup (pa_cons (pe_op op_sub (pv 4) (pv 3)) (pa_cons (pe_call GF hr rfl mF kF bF .nil pass0 (pa_cons (pv 0) (pa_cons (pv 3) (pa_cons (pv 4) pa_nil)))) (pa_cons (pe_call GB hr rfl mB kB bB .nil pass0 (pa_cons (pv 0) (pa_cons (pv 3) (pa_cons (pv 4) pa_nil)))) pa_nil)))) pa_nil)))
          (pss_one (ps_set (i := 3) scCls.nd rfl (.inl rfl) (pv 4)))))
      (pss_one (ps_ret (pv 2))))), ?_⟩
    -- found = []
    refine ⟨Nat.zero_le _, fun fo hfo => ?_⟩
    have s1 : Same H (upd H fo (.lst [])) := same_new hfo
    obtain ⟨ps, h1, rfl, h3⟩ := R
    have nbf : b ≠ fo := ne_of_none hb hfo
    have naf : a ≠ fo := ne_of_none h1 hfo
    -- positions + [len(sizes)]
    refine ⟨_, rfl, _, rfl, a, _, rfl, .inl (SqL.of (s1 _ _ h1)), (by show 1 ≤ sizeLine; decide), fun c hc => ?_⟩
    have s2 := s1.trans (same_new (o := .lst [.int ((ps.map fun p => V.ref p.1).length : Int)]) hc)
    refine ⟨b, c, _, _, rfl, rfl, s2 _ _ hb, upd_same, small_line (by rw [nums_length]; have := good.len; simp; omega), fun d hd => ?_⟩
    have e0 : nums pos ++ [V.int ((ps.map fun p => V.ref p.1).length : Int)] = nums (pos ++ [(ps.map (·.2)).length]) := by
      rw [nums_append, List.length_map, List.length_map]
      rfl
    rw [e0]
    have hfb : fo ≠ c := ne_of_none upd_same hc
    have s3 := s2.trans (same_new (o := .lst (nums (pos ++ [(ps.map (·.2)).length]))) hd)
    have f3 : (upd (upd (upd H fo (.lst [])) c (.lst [V.int ((ps.map fun p => V.ref p.1).length : Int)])) d (.lst (nums (pos ++ [(ps.map (·.2)).length])))) fo = some (.lst []) := by
      rw [upd_ne (ne_of_none (by rw [upd_ne hfb]; exact upd_same) hd), upd_ne hfb, upd_same]
    have d3 : (upd (upd (upd H fo (.lst [])) c (.lst [V.int ((ps.map fun p => V.ref p.1).length : Int)])) d (.lst (nums (pos ++ [(ps.map (·.2)).length])))) d = some (.lst (nums (pos ++ [(ps.map (·.2)).length]))) := upd_same
    have hnfd : fo ≠ d := ne_of_none (by rw [upd_ne hfb]; exact upd_same) hd
    have hlen : (pos ++ [(ps.map (·.2)).length]).length ≤ 11 := by have := good.len; simp at this hl ⊢; omega
    have hup := good.up
    unfold clsOf at k
    generalize pos ++ [(ps.map (·.2)).length] = ends at *
    generalize upd (upd (upd H fo (.lst [])) c (.lst [V.int ((ps.map fun p => V.ref p.1).length : Int)])) d (.lst (nums ends)) = H3 at *
    refine ⟨d, rfl, ⟨_, SqL.of d3⟩, for_list (K := K) (a := d) (xs := nums ends) (fun i σ H' => ∃ (qs : List (Addr × List SizeFraction)) (bg : Nat) (v : Option V), σ = [some (.ref a), some (.ref b), some (.ref fo), some (.int bg), v] ∧
        Same H H' ∧ fo ≠ d ∧ H' d = some (.lst (nums ends)) ∧ H' fo = some (.lst (qs.map fun p => V.ref p.1)) ∧ (∀ p ∈ qs, H' p.1 = some (clV p.2)) ∧ qs.map (·.2) ++ clsFrom (ps.map (·.2)) bg (ends.drop i) = clsFrom (ps.map (·.2)) 0 ends ∧ Up (ps.map (·.2)).length bg (ends.drop i) ∧ qs.length = i)
      ⟨[], 0, none, rfl, s3, hnfd, d3, f3, (fun p hp => by simp at hp), rfl, hup, rfl⟩ (fun i σ H' _ ⟨_, _, _, _, _, _, e, _⟩ => SqL.of e) ?_ ?_⟩
    · rintro i x σ H' hi ⟨qs, bg, v, rfl, sH, nfd, d4, f4, q4, e4, up, ql⟩
      obtain ⟨e, he, rfl⟩ := get_num hi
      have hdr : ends.drop i = e :: ends.drop (i + 1) := List.drop_eq_getElem?_toList_append.trans (by rw [he]; rfl)
      have hil : i < ends.length := (List.getElem?_eq_some_iff.mp he).1
      rw [hdr] at e4 up
      obtain ⟨u1, u2, u3⟩ := up
      have R' : RowsAt szV H' a (ps.map (·.2)) := ⟨ps, sH _ _ h1, rfl, fun p hp => sH _ _ (h3 p hp)⟩
      refine ⟨_, rfl, .inl ⟨rfl, _, SqL.of f4⟩, _, rfl, _, rfl, _, _, rfl, rfl, _, rfl, _, rfl, _, rfl, a, bg, e, _, rfl, R', u1, u2, hl, _, rfl, _, rfl, _, rfl, a, bg, e, _, rfl, R', u1, u2, hl, (by show 3 ≤ sizeLine; decide), fun t ht => ?_⟩
      have nft : fo ≠ t := ne_of_none f4 ht
      have ndt : d ≠ t := ne_of_none d4 ht
      refine ⟨fo, _, _, rfl, rfl, (by rw [upd_ne nft]; exact f4), lt_line (by rw [List.length_map]; omega), ?_⟩
      refine ⟨_, rfl, ?_⟩
      refine ⟨qs ++ [(t, ((ps.map (·.2)).take e).drop bg)], e, some (.int e), rfl, ?_, nfd, ?_, ?_, ?_, ?_, u3, ?_⟩
      · intro y o hy
        have h1 : y ≠ fo := fun q => by rw [q, hfo] at hy; cases hy
        rw [upd_ne h1]
        exact (sH.trans (same_new ht)) _ _ hy
      · rw [upd_ne (Ne.symm nfd), upd_ne ndt]
        exact d4
      · rw [upd_same, List.map_append]
        rfl
      · intro p hp
        rcases List.mem_append.mp hp with m | m
        · have n1 : p.1 ≠ fo := ne_of (q4 p m) f4 (by intro z; cases z)
          have n2 : p.1 ≠ t := ne_of_none (q4 p m) ht
          rw [upd_ne n1, upd_ne n2]
          exact q4 p m
        · have e5 : p = (t, ((ps.map (·.2)).take e).drop bg) := by simpa using m
          subst e5
          rw [upd_ne (Ne.symm nft), upd_same]
          unfold clV
          rw [cls_len u2]
          have e6 : (e : Int) - (bg : Int) = ((e - bg : Nat) : Int) := by omega
          rw [← e6]
      · rw [List.map_append, List.append_assoc]
        exact e4
      · rw [List.length_append, ql, List.length_singleton]
    · rintro σ H' ⟨qs, bg, v, rfl, sH, nfd, d4, f4, q4, e4, up, ql⟩
      rw [nums_length, List.drop_length] at e4
      refine ⟨_, rfl, ?_⟩
      exact k H' fo sH ⟨qs, f4, by rw [← e4]; show _ = _ ++ []; rw [List.append_nil], q4⟩

/-! ### misplaced_of, heaviest_of -/
abbrev pC : List Str := ["sizes", "positions"]
abbrev sMis : Stmt := top 13
abbrev sHvy : Stmt := top 14
theorem scMis : FnScope ["sizes", "positions", "total", "many", "flour", "bran"] pC (defScope sMis) := ⟨rfl, rfl, rfl, by decide +kernel, rfl, by decide +kernel, by decide +kernel⟩
theorem scHvy : FnScope ["sizes", "positions", "heaviest", "many", "flour", "bran"] pC (defScope sHvy) := ⟨rfl, rfl, rfl, by decide +kernel, rfl, by decide +kernel, by decide +kernel⟩
def hvOf (cs : List (List SizeFraction)) : Nat := (cs.map Kp409.totalWeight).foldl max 0
def spMis : Sp := fun vs H Q _ => ∃ (a b : Addr) (l : List SizeFraction) (pos : List Nat), vs = [.ref a, .ref b] ∧ RowsAt szV H a l ∧ H b = some (rwV pos) ∧ Good l.length pos ∧ l.length ≤ 10 ∧
  ∀ (H' : Hp), Same H H' → Q (.int (misOf (clsOf l pos) : Nat)) H'
def spHvy : Sp := fun vs H Q _ => ∃ (a b : Addr) (l : List SizeFraction) (pos : List Nat), vs = [.ref a, .ref b] ∧ RowsAt szV H a l ∧ H b = some (rwV pos) ∧ Good l.length pos ∧ l.length ≤ 10 ∧
  ∀ (H' : Hp), Same H H' → Q (.int (hvOf (clsOf l pos) : Nat)) H'
theorem misOf_more (cs : List (List SizeFraction)) (c : List SizeFraction) : misOf (cs ++ [c]) = misOf cs + min (Kp409.totalFlour c) (Kp409.totalBran c) := by
  simp [misOf, Kp409.misplacedInClass]
theorem hvOf_more (cs : List (List SizeFraction)) (c : List SizeFraction) : hvOf (cs ++ [c]) = max (hvOf cs) (Kp409.totalFlour c + Kp409.totalBran c) := by
  simp [hvOf, Kp409.totalWeight]
theorem ok_mis {f : Addr} {fd : FuncData} (F : Fun K "misplaced_of" "misplaced_of" sMis f fd) (B : Bt mg) (DC : Df P w K mg base "classes_of" 2 pC spCls) : FnOk P w K mg base CX0 3 f fd pC spMis := by
  obtain ⟨fC, fdC, mC, kC, GC, bC⟩ := DC
  refine F.ok scMis (fun vs H Q E h => ?_) (fun cdv A outer s H vs Q E hr h => ?_)
  · obtain ⟨a, b, l, pos, rfl, _⟩ := h
    rfl
  · obtain ⟨a, b, l, pos, rfl, R, hb, good, hl, k⟩ := h
    refine ⟨_, pss_cons (ps_set (i := 2) scMis.nd rfl (.inl rfl) pe_int) (pss_cons (ps_for PassesOwn.never rfl (pi_list (pe_call GC hr rfl mC kC bC .nil pass0 (pa_cons (pv 0) (pa_cons (pv 1) pa_nil))))
        (pg_tup (by rfl) (pgs_cons (pg_name (i := 3) scMis.nd rfl (.inl rfl)) (pgs_cons (pg_name (i := 4) scMis.nd rfl (.inl rfl)) (pgs_cons (pg_name (i := 5) scMis.nd rfl (.inl rfl)) pgs_nil))))
        (pss_one (ps_set (i := 2) scMis.nd rfl (.inl rfl) (pe_op op_add (pv 2) (pe_callB (call_min2 rfl) (by rfl) B.min (by decide +kernel) (pa_cons (pv 4) (pa_cons (pv 5) pa_nil)))))))
      (pss_one (ps_ret (pv 2)))), ?_⟩
    refine ⟨_, rfl, _, rfl, a, b, l, pos, rfl, R, hb, good, hl, fun H1 c s1 RC => ?_⟩
    obtain ⟨qs, c1, c2, c3⟩ := RC
    rw [← c2] at k
    refine ⟨c, rfl, ⟨_, SqL.of c1⟩, for_list (K := K) (a := c) (xs := qs.map fun p => V.ref p.1) (fun i σ H' => H' = H1 ∧ ∃ u v z, σ = [some (.ref a), some (.ref b), some (.int (misOf ((qs.map (·.2)).take i) : Nat)), u, v, z]) ⟨rfl, none, none, none, rfl⟩ (fun i σ H' _ ⟨e, _⟩ => e ▸ SqL.of c1) ?_ ?_⟩
    · rintro i x σ H' hi ⟨rfl, u, v, z, rfl⟩
      obtain ⟨p, e1, m, rfl, e2⟩ := get_ref hi
      refine ⟨p.1, _, rfl, SqT.of (c3 p m), rfl, _, _, rfl, _, _, rfl, _, _, rfl, rfl, ?_⟩
      refine ⟨_, rfl, _, rfl, _, rfl, _, _, rfl, _, _, rfl, rfl, ?_⟩
      refine ⟨rfl, some (.int p.2.length), some (.int (Kp409.totalFlour p.2 : Nat)), some (.int (Kp409.totalBran p.2 : Nat)), ?_⟩
      rw [take_some e2, misOf_more, Int.natCast_add, ← min_int]
      rfl
    · rintro σ H' ⟨rfl, u, v, z, rfl⟩
      refine ⟨_, rfl, ?_⟩
      rw [List.length_map, ← List.length_map (as := qs) (f := (·.2)), List.take_length]
      exact k _ s1
theorem ok_hvy {f : Addr} {fd : FuncData} (F : Fun K "heaviest_of" "heaviest_of" sHvy f fd) (B : Bt mg) (DC : Df P w K mg base "classes_of" 2 pC spCls) : FnOk P w K mg base CX0 3 f fd pC spHvy := by
  obtain ⟨fC, fdC, mC, kC, GC, bC⟩ := DC
  refine F.ok scHvy (fun vs H Q E h => ?_) (fun cdv A outer s H vs Q E hr h => ?_)
  · obtain ⟨a, b, l, pos, rfl, _⟩ := h
    rfl
  · obtain ⟨a, b, l, pos, rfl, R, hb, good, hl, k⟩ := h
    refine ⟨_, pss_cons (ps_set (i := 2) scHvy.nd rfl (.inl rfl) pe_int) (pss_cons (ps_for PassesOwn.never rfl (pi_list (pe_call GC hr rfl mC kC bC .nil pass0 (pa_cons (pv 0) (pa_cons (pv 1) pa_nil))))
        (pg_tup (by rfl) (pgs_cons (pg_name (i := 3) scHvy.nd rfl (.inl rfl)) (pgs_cons (pg_name (i := 4) scHvy.nd rfl (.inl rfl)) (pgs_cons (pg_name (i := 5) scHvy.nd rfl (.inl rfl)) pgs_nil))))
        (pss_one (ps_set (i := 2) scHvy.nd rfl (.inl rfl) (pe_callB (call_max2 rfl) (by rfl) B.max (by decide +kernel) (pa_cons (pv 2) (pa_cons (pe_op op_add (pv 4) (pv 5)) pa_nil))))))
      (pss_one (ps_ret (pv 2)))), ?_⟩
    refine ⟨_, rfl, _, rfl, a, b, l, pos, rfl, R, hb, good, hl, fun H1 c s1 RC => ?_⟩
    obtain ⟨qs, c1, c2, c3⟩ := RC
    rw [← c2] at k
    refine ⟨c, rfl, ⟨_, SqL.of c1⟩, for_list (K := K) (a := c) (xs := qs.map fun p => V.ref p.1) (fun i σ H' => H' = H1 ∧ ∃ u v z, σ = [some (.ref a), some (.ref b), some (.int (hvOf ((qs.map (·.2)).take i) : Nat)), u, v, z]) ⟨rfl, none, none, none, rfl⟩ (fun i σ H' _ ⟨e, _⟩ => e ▸ SqL.of c1) ?_ ?_⟩
    · rintro i x σ H' hi ⟨rfl, u, v, z, rfl⟩
      obtain ⟨p, e1, m, rfl, e2⟩ := get_ref hi
      refine ⟨p.1, _, rfl, SqT.of (c3 p m), rfl, _, _, rfl, _, _, rfl, _, _, rfl, rfl, ?_⟩
      refine ⟨_, rfl, _, rfl, _, rfl, _, _, rfl, rfl, _, _, rfl, ?_⟩
      refine ⟨rfl, some (.int p.2.length), some (.int (Kp409.totalFlour p.2 : Nat)), some (.int (Kp409.totalBran p.2 : Nat)), ?_⟩
      rw [take_some e2, hvOf_more, ← max_int, Int.natCast_add]
      rfl
    · rintro σ H' ⟨rfl, u, v, z, rfl⟩
      refine ⟨_, rfl, ?_⟩
      rw [List.length_map, ← List.length_map (as := qs) (f := (·.2)), List.take_length]
      exact k _ s1

/-! ### class_at -/
abbrev sAt : Stmt := top 16
abbrev pA : List Str := ["sizes", "positions", "size"]
theorem scAt : FnScope ["sizes", "positions", "size", "found", "before", "part"] pA (defScope sAt) := ⟨rfl, rfl, rfl, by decide +kernel, rfl, by decide +kernel, by decide +kernel⟩
def spAt : Sp := fun vs H Q _ => ∃ (a b : Addr) (n : Nat) (l : List SizeFraction) (pos : List Nat), vs = [.ref a, .ref b, .int n] ∧ RowsAt szV H a l ∧ H b = some (rwV pos) ∧ Good l.length pos ∧ l.length ≤ 10 ∧
  ∀ (H' : Hp) (t : Addr), Same H H' → H' t = some (clV (atFrom n 0 [] (clsOf l pos))) → Q (.ref t) H'
theorem atFrom_cons (n bf : Nat) (fo c : List SizeFraction) (r : List (List SizeFraction)) : atFrom n bf fo (c :: r) = atFrom n (bf + c.length) (if bf ≤ n then c else fo) r := rfl
theorem ok_at {f : Addr} {fd : FuncData} (F : Fun K "class_at" "class_at" sAt f fd) (DC : Df P w K mg base "classes_of" 2 pC spCls) : FnOk P w K mg base CX0 3 f fd pA spAt := by
  obtain ⟨fC, fdC, mC, kC, GC, bC⟩ := DC
  refine F.ok scAt (fun vs H Q E h => ?_) (fun cdv A outer s H vs Q E hr h => ?_)
  · obtain ⟨a, b, n, l, pos, rfl, _⟩ := h
    rfl
  · obtain ⟨a, b, n, l, pos, rfl, R, hb, good, hl, k⟩ := h
    refine ⟨_, pss_cons (ps_set (i := 3) scAt.nd rfl (.inl rfl) (pe_tup (pa_cons pe_int (pa_cons pe_int (pa_cons pe_int pa_nil))))) (pss_cons (ps_set (i := 4) scAt.nd rfl (.inl rfl) pe_int)
      (pss_cons (ps_for PassesOwn.never rfl (pi_list (pe_call GC hr rfl mC kC bC .nil pass0 (pa_cons (pv 0) (pa_cons (pv 1) pa_nil)))) (pg_name (i := 5) scAt.nd rfl (.inl rfl))
        (pss_cons (ps_if (pt_cmpR op_le (pv 4) (pv 2) (nomark _)) (pss_one (ps_set (i := 3) scAt.nd rfl (.inl rfl) (pv 5))) pss_nil)
          (pss_one (ps_set (i := 4) scAt.nd rfl (.inl rfl) (pe_op op_add (pv 4) (pe_ix ix_tup (pv 5) pe_int (fun _ _ => rfl)))))))
      (pss_one (ps_ret (pv 3))))), ?_⟩
    refine ⟨(by show 3 ≤ sizeLine; decide), fun t0 ht0 => ?_⟩
    have s0 := same_new (o := .tup [.int 0, .int 0, .int 0]) ht0
    refine ⟨_, rfl, _, rfl, a, b, l, pos, rfl, R.same s0, s0 _ _ hb, good, hl, fun H1 c s1 RC => ?_⟩
    obtain ⟨qs, c1, c2, c3⟩ := RC
    rw [← c2] at k
    refine ⟨c, rfl, ⟨_, SqL.of c1⟩, for_list (K := K) (a := c) (xs := qs.map fun p => V.ref p.1) (fun i σ H' => H' = H1 ∧ ∃ (t : Addr) (bf : Nat) (fo : List SizeFraction) (z : Option V), σ = [some (.ref a), some (.ref b), some (.int n), some (.ref t), some (.int bf), z] ∧ H1 t = some (clV fo) ∧
        atFrom n bf fo ((qs.map (·.2)).drop i) = atFrom n 0 [] (qs.map (·.2))) ⟨rfl, t0, 0, [], none, rfl, s1 _ _ upd_same, rfl⟩ (fun i σ H' _ ⟨e, _⟩ => e ▸ SqL.of c1) ?_ ?_⟩
    · rintro i x σ H' hi ⟨rfl, t, bf, fo, z, rfl, ht, ea⟩
      obtain ⟨p, e1, m, rfl, e2⟩ := get_ref hi
      have hdr : (qs.map (·.2)).drop i = p.2 :: (qs.map (·.2)).drop (i + 1) := List.drop_eq_getElem?_toList_append.trans (by rw [e2]; rfl)
      rw [hdr] at ea
      rw [atFrom_cons] at ea
      refine ⟨_, rfl, _, rfl, _, _, rfl, rfl, _, rfl, ?_⟩
      refine ite2 (fun q => ?_) (fun q => ?_)
      · have q' : bf ≤ n := by have := of_decide_eq_true q; omega
        rw [if_pos q'] at ea
        refine ⟨_, rfl, _, rfl, _, rfl, p.1, _, 0, _, rfl, rfl, SqT.of (c3 p m), rfl, _, _, rfl, rfl, ?_⟩
        exact ⟨rfl, p.1, bf + p.2.length, p.2, some (.ref p.1), by rw [Int.natCast_add]; rfl, c3 p m, ea⟩
      · have q' : ¬ bf ≤ n := fun z => q (decide_eq_true (by omega))
        rw [if_neg q'] at ea
        refine ⟨_, rfl, _, rfl, p.1, _, 0, _, rfl, rfl, SqT.of (c3 p m), rfl, _, _, rfl, rfl, ?_⟩
        exact ⟨rfl, t, bf + p.2.length, fo, some (.ref p.1), by rw [Int.natCast_add]; rfl, ht, ea⟩
    · rintro σ H' ⟨rfl, t, bf, fo, z, rfl, ht, ea⟩
      refine ⟨_, rfl, ?_⟩
      rw [List.length_map, ← List.length_map (as := qs) (f := (·.2)), List.drop_length] at ea
      exact k _ t (s0.trans s1) (by rw [ht, ← ea]; rfl)
end
end Sv
namespace Sv
open PySem PySem.Spec PyProof.Rows L2
open Kp409 (SizeFraction Sifter)
/-! ### lists as data, for == and != -/
def rowD (r : List Nat) : List PyData := r.map fun (n : Nat) => PyData.int (n : Int)
theorem dp_nums {K : PySem.W.Frag} {H : Hp} : ∀ r : List Nat, DpAll K H (nums r) (rowD r)
  | [] => .nil
  | n :: r => .cons (.int _) (dp_nums r)
theorem rowD_depth : ∀ r : List Nat, PyData.depthAll (rowD r) = 0
  | [] => rfl
  | n :: r => by
    have ih := rowD_depth r
    show max (PyData.depth (.int (n : Int))) (PyData.depthAll (rowD r)) = 0
    rw [ih]
    rfl
theorem rowD_lay : ∀ r : List Nat, PyData.canLayAll0 (rowD r) = true
  | [] => rfl
  | n :: r => by
    have ih := rowD_lay r
    show (PyData.canLay0 (.int (n : Int)) && PyData.canLayAll0 (rowD r)) = true
    rw [ih]
    rfl
theorem rowD_shaped (r : List Nat) : SeqAt.shaped (.list (rowD r)) = true := by
  show (PyData.canLayAll0 (rowD r) && decide (PyData.depthAll (rowD r) + 1 ≤ 64)) = true
  rw [rowD_lay, rowD_depth]
  rfl
theorem rowD_nil (r : List Nat) : PyData.eqv (.list (rowD r)) (.list []) = r.isEmpty := by
  cases r <;> rfl

/-! ### are_positions -/
section
variable {P : Program} {w : World} {K : PySem.W.Frag} {mg : Str → Option Value} {base : Heap}
abbrev sAre : Stmt := top 20
abbrev pAre : List Str := ["numbers", "size_count"]
theorem scAre : FnScope ["numbers", "size_count", "before", "number"] pAre (defScope sAre) := ⟨rfl, rfl, rfl, by decide +kernel, rfl, by decide +kernel, by decide +kernel⟩
def spAre : Sp := fun vs H Q _ => ∃ (b : Addr) (n : Nat) (l : List Nat), vs = [.ref b, .int n] ∧ H b = some (rwV l) ∧ Q (.bl (areFrom n 0 l)) H
theorem areFrom_cons (n b x : Nat) (r : List Nat) : areFrom n b (x :: r) = if x ≤ b ∨ ¬ (1 ≤ x ∧ x < n) then false else areFrom n x r := rfl
theorem drop_some {T : Type} {l : List T} {i : Nat} {x : T} (h : l[i]? = some x) : l.drop i = x :: l.drop (i + 1) := List.drop_eq_getElem?_toList_append.trans (by rw [h]; rfl)
theorem ok_are {f : Addr} {fd : FuncData} (F : Fun K "are_positions" "are_positions" sAre f fd) (DI : Df P w K mg base "is_position" 1 ["position", "size_count"] spIsPos) : FnOk P w K mg base CX0 2 f fd pAre spAre := by
  obtain ⟨fI, fdI, mI, kI, GI, bI⟩ := DI
  refine F.ok scAre (fun vs H Q E h => ?_) (fun cdv A outer s H vs Q E hr h => ?_)
  · obtain ⟨b, n, l, rfl, _⟩ := h
    rfl
  · obtain ⟨b, n, l, rfl, hb, k⟩ := h
    refine ⟨_, pss_cons (ps_set (i := 2) scAre.nd rfl (.inl rfl) pe_int) (pss_cons (ps_for PassesOwn.never rfl (pi_list (pv 0)) (pg_name (i := 3) scAre.nd rfl (.inl rfl))
        (pss_cons (ps_if (PW.pt (pw_or (pt_cmpR op_le (pv 3) (pv 2) (nomark _)) (pw_or1 (pt_not (pt_val (pe_call GI hr rfl mI kI bI .nil pass0 (pa_cons (pv 3) (pa_cons (pv 1) pa_nil)))))))) (pss_one (ps_ret pe_bl)) pss_nil)
          (pss_one (ps_set (i := 2) scAre.nd rfl (.inl rfl) (pv 3)))))
      (pss_one (ps_ret pe_bl))), ?_⟩
    refine ⟨_, rfl, b, rfl, ⟨_, SqL.of hb⟩, for_list (K := K) (a := b) (xs := nums l) (fun i σ H' => H' = H ∧ ∃ (bf : Nat) (z : Option V), σ = [some (.ref b), some (.int n), some (.int bf), z] ∧ areFrom n bf (l.drop i) = areFrom n 0 l) ⟨rfl, 0, none, rfl, rfl⟩ (fun i σ H' _ ⟨e, _⟩ => e ▸ SqL.of hb) ?_ ?_⟩
    · rintro i x σ H' hi ⟨rfl, bf, z, rfl, ea⟩
      obtain ⟨y, hy, rfl⟩ := get_num hi
      rw [drop_some hy, areFrom_cons] at ea
      refine ⟨_, rfl, _, rfl, _, _, rfl, rfl, _, rfl, ite2 (fun q => iteT ?_) (fun q => ?_)⟩
      · have q' : y ≤ bf := by have := of_decide_eq_true q; omega
        rw [if_pos (.inl q')] at ea
        rw [← ea] at k
        exact k
      · have q' : ¬ y ≤ bf := fun z => q (decide_eq_true (by omega))
        refine ⟨_, rfl, _, rfl, y, n, rfl, _, rfl, ?_⟩
        by_cases c : 1 ≤ y ∧ y < n
        · rw [if_neg (by omega)] at ea
          have e1 : (!decide (1 ≤ y ∧ y < n)) = false := by rw [decide_eq_true c]; rfl
          rw [e1]
          refine iteF ⟨_, rfl, rfl, y, some (.int y), rfl, ea⟩
        · rw [if_pos (.inr c)] at ea
          have e1 : (!decide (1 ≤ y ∧ y < n)) = true := by rw [decide_eq_false c]; rfl
          rw [e1]
          refine iteT ?_
          rw [← ea] at k
          exact k
    · rintro σ H' ⟨rfl, bf, z, rfl, ea⟩
      rw [nums_length, List.drop_length] at ea
      rw [← ea] at k
      exact k

/-! ### longer_lists, all_lists -/
abbrev sLong : Stmt := top 21
abbrev pLong : List Str := ["rows", "size_count"]
theorem scLong : FnScope ["rows", "size_count", "found", "row", "first", "position"] pLong (defScope sLong) := ⟨rfl, rfl, rfl, by decide +kernel, rfl, by decide +kernel, by decide +kernel⟩
/-- a list of rows, each of them new since H0 -/
def NewAt (H0 H : Hp) (a : Addr) (l : List (List Nat)) : Prop := ∃ ps : List (Addr × List Nat), H a = some (.lst (ps.map fun p => V.ref p.1)) ∧ ps.map (·.2) = l ∧ ∀ p ∈ ps, H p.1 = some (rwV p.2) ∧ H0 p.1 = none
theorem NewAt.same {H0 H H' : Hp} {a : Addr} {l : List (List Nat)} (h : NewAt H0 H a l) (s : Same H H') : NewAt H0 H' a l := by
  obtain ⟨ps, h1, h2, h3⟩ := h
  exact ⟨ps, s _ _ h1, h2, fun p hp => ⟨s _ _ (h3 p hp).1, (h3 p hp).2⟩⟩
theorem NewAt.since {H0 H1 H : Hp} {a : Addr} {l : List (List Nat)} (h : NewAt H1 H a l) (s : Same H0 H1) : NewAt H0 H a l := by
  obtain ⟨ps, h1, h2, h3⟩ := h
  exact ⟨ps, h1, h2, fun p hp => ⟨(h3 p hp).1, s.free (h3 p hp).2⟩⟩
theorem NewAt.rows {H0 H : Hp} {a : Addr} {l : List (List Nat)} (h : NewAt H0 H a l) : RowsAt rwV H a l := by
  obtain ⟨ps, h1, h2, h3⟩ := h
  exact ⟨ps, h1, h2, fun p hp => (h3 p hp).1⟩
def spLong : Sp := fun vs H Q _ => ∃ (a : Addr) (n : Nat) (rows : List (List Nat)), vs = [.ref a, .int n] ∧ RowsAt rwV H a rows ∧ n ≤ 10 ∧ rows.length ≤ 126 ∧ (∀ r ∈ rows, r.length ≤ 10 ∧ ∀ p ∈ r, p < n) ∧
  ∀ (H' : Hp) (c : Addr), Same H H' → NewAt H H' c (longer n rows) → Q (.ref c) H'
/-- rows made so far, at fo; all that was tracked in H stands -/
def Made (H H' : Hp) (fo : Addr) (done : List (List Nat)) : Prop := Same H H' ∧ NewAt H H' fo done
theorem refs_ne {T : Type} {ps : List (Addr × T)} {q : Addr × T} {r : List Nat} (hq : q ∈ ps) (e : (ps.map fun q => V.ref q.1) = nums r) : False := by
  have m : V.ref q.1 ∈ nums r := by
    rw [← e]
    exact List.mem_map_of_mem hq
  obtain ⟨n, _, h⟩ := List.mem_map.mp m
  cases h
theorem made_push {H H' : Hp} {fo p : Addr} {done : List (List Nat)} {r : List Nat} (h0 : H fo = none) (m : Made H H' fo done) (hp : H' p = none) : ∃ ps : List (Addr × List Nat), H' fo = some (.lst (ps.map fun q => V.ref q.1)) ∧ ps.length = done.length ∧ fo ≠ p ∧
    Made H (upd (upd H' p (rwV r)) fo (.lst ((ps.map fun q => V.ref q.1) ++ [.ref p]))) fo (done ++ [r]) := by
  obtain ⟨s, ps, h1, h2, h3⟩ := m
  have nfp : fo ≠ p := ne_of_none h1 hp
  refine ⟨ps, h1, by rw [← h2, List.length_map], nfp, fun b o e => ?_, ?_⟩
  · have n1 : b ≠ fo := fun q => by rw [q, h0] at e; cases e
    rw [upd_ne n1]
    exact same_new hp _ _ (s _ _ e)
  · refine ⟨ps ++ [(p, r)], by rw [upd_same, List.map_append]; rfl, by rw [List.map_append, h2]; rfl, fun q hq => ?_⟩
    rcases List.mem_append.mp hq with m | m
    · have n1 : q.1 ≠ p := ne_of_none (h3 q m).1 hp
      have n2 : q.1 ≠ fo := fun z => by
        have e := (h3 q m).1
        rw [z, h1] at e
        exact refs_ne m (HO.lst.inj (Option.some.inj e))
      rw [upd_ne n2, upd_ne n1]
      exact h3 q m
    · have e5 : q = (p, r) := by simpa using m
      subst e5
      rw [upd_ne (Ne.symm nfp), upd_same]
      exact ⟨rfl, s.free hp⟩

theorem rowMore_len (n f : Nat) (row : List Nat) : (rowMore n f row).length ≤ n := by
  unfold rowMore
  rw [List.length_map, List.length_range']
  omega
theorem longer_len (n : Nat) : ∀ rows : List (List Nat), (longer n rows).length ≤ n * rows.length
  | [] => by simp [longer]
  | r :: rs => by
    have ih := longer_len n rs
    have h := rowMore_len n 1 r
    show (rowMore n 1 r ++ longer n rs).length ≤ n * (rs.length + 1)
    rw [List.length_append, Nat.mul_add]
    omega
theorem longer_take {n i : Nat} {rows : List (List Nat)} {r : List Nat} (h : rows[i]? = some r) : longer n (rows.take (i + 1)) = longer n (rows.take i) ++ rowMore n 1 r := by
  unfold longer
  rw [take_some h, List.flatMap_append]
  simp
theorem ok_long {f : Addr} {fd : FuncData} (F : Fun K "longer_lists" "longer_lists" sLong f fd) (B : Bt mg) : FnOk P w K mg base CX0 1 f fd pLong spLong := by
  refine F.ok scLong (fun vs H Q E h => ?_) (fun cdv A outer s H vs Q E hr h => ?_)
  · obtain ⟨a, n, rows, rfl, _⟩ := h
    rfl
  · obtain ⟨a, n, rows, rfl, R, hn, hrl, hrows, k⟩ := h
    refine ⟨_, pss_cons (ps_set (i := 2) scLong.nd rfl (.inl rfl) (pe_lst pa_nil)) (pss_cons (ps_for PassesOwn.never rfl (pi_list (pv 0)) (pg_name (i := 3) scLong.nd rfl (.inl rfl))
        (pss_cons (ps_set (i := 4) scLong.nd rfl (.inl rfl) pe_int)
        (pss_cons (ps_if (pt_cmpR (op_neD hr.units) (pv 3) (pe_lst pa_nil) (nomark _)) (pss_one (ps_set (i := 4) scLong.nd rfl (.inl rfl) (pe_op op_add (pe_ix ix_list (pv 3) (pe_op op_sub (pe_callB call_len_seq (by rfl) B.len PySem.boot_len (pa_cons (pv 3) pa_nil)) pe_int) (fun _ _ => rfl)) pe_int))) pss_nil)
        (pss_one (ps_for PassesOwn.never rfl (pi_range2 (by rfl) B.range (pa_cons (pv 4) (pa_cons (pv 1) pa_nil))) (pg_name (i := 5) scLong.nd rfl (.inl rfl))
          (pss_one (ps_expr (pe_bm PySem.F.plainAttrs_list PySem.F.slot_list_append PySem.F.type_list_append mt_append (pv 2) (pa_cons (pe_op op_cat (pv 3) (pe_lst (pa_cons (pv 5) pa_nil))) pa_nil)))))))))
      (pss_one (ps_ret (pv 2)))), ?_⟩
    refine ⟨Nat.zero_le _, fun fo hfo => ?_⟩
    obtain ⟨rs, r1, rfl, r3⟩ := R
    have m0 : Made H (upd H fo (.lst [])) fo [] := ⟨same_new hfo, [], upd_same, rfl, fun p hp => by simp at hp⟩
    refine ⟨_, rfl, a, rfl, ⟨_, SqL.of (m0.1 _ _ r1)⟩, for_list (K := K) (a := a) (xs := rs.map fun p => V.ref p.1) (fun i σ H' => ∃ (u v z : Option V), σ = [some (.ref a), some (.int n), some (.ref fo), u, v, z] ∧ Made H H' fo (longer n ((rs.map (·.2)).take i)))
      ⟨none, none, none, rfl, m0⟩ (fun i σ H' _ ⟨_, _, _, _, m⟩ => SqL.of (m.1 _ _ r1)) ?_ ?_⟩
    · rintro i x σ H' hi ⟨u, v, z, rfl, mi⟩
      obtain ⟨p, e1, hm, rfl, e2⟩ := get_ref hi
      have hrow := hrows p.2 (List.mem_map_of_mem hm)
      have hp : H' p.1 = some (rwV p.2) := mi.1 _ _ (r3 p hm)
      have hil : i < rs.length := (List.getElem?_eq_some_iff.mp e1).1
      rw [List.length_map] at hrl
      refine ⟨_, rfl, Nat.zero_le _, fun em hem => ?_⟩
      have mi' : Made H (upd H' em (.lst [])) fo (longer n ((rs.map (·.2)).take i)) := ⟨mi.1.trans (same_new hem), mi.2.same (same_new hem)⟩
      have hp' : (upd H' em (.lst [])) p.1 = some (rwV p.2) := same_new hem _ _ hp
      refine ⟨_, _, .lst (SqL.of hp') (dp_nums p.2), .lst (SqL.of upd_same) .nil, rowD_shaped _, rfl, _, rfl, ?_⟩
      generalize upd H' em (.lst []) = H2 at mi' hp'
      rw [rowD_nil]
      -- the loop over the positions behind the row, from the first one on
      have hnx : nextOf 1 p.2 ≤ 10 := by
        unfold nextOf
        cases e : p.2.getLast? with
        | none => simp
        | some y =>
          have := hrow.2 y (List.mem_of_getLast? e)
          simp
          omega
      have hdone : (longer n ((rs.map (·.2)).take i)).length ≤ 1260 := by
        refine Nat.le_trans (longer_len _ _) (Nat.le_trans (Nat.mul_le_mul hn (?_ : _ ≤ 126)) (by decide))
        rw [List.length_take, List.length_map]
        omega
      have hmore := longer_take (n := n) e2
      generalize longer n ((rs.map (·.2)).take i) = done at *
      refine ite2 (fun q => ?ga) (fun q => ?gb)
      case' ga =>
        obtain ⟨y, hy⟩ : ∃ y, p.2.getLast? = some y := by
          cases e : p.2 with
          | nil => rw [e] at q; cases q
          | cons c r => exact ⟨_, List.getLast?_eq_some_getLast (by simp)⟩
        have hy' : p.2[p.2.length - 1]? = some y := by rw [← List.getLast?_eq_getElem?]; exact hy
        have hl0 : 0 < p.2.length := by
          have := (List.getElem?_eq_some_iff.mp hy').1
          omega
        have hix : (nums p.2)[p.2.length - 1]? = some (.int (y : Int)) := by unfold nums; rw [List.getElem?_map, hy']; rfl
        refine ⟨_, rfl, _, rfl, p.1, _, rfl, .inl (SqL.of hp'), _, _, rfl, rfl, p.1, _, _, _, rfl, rfl, SqL.of hp', at_of (j := p.2.length - 1) (by rw [nums_length]; omega) hix, _, _, rfl, rfl, ?_⟩
        have hx : [V.int ((y : Int) + 1), V.int (n : Int)] = [V.int ((nextOf 1 p.2 : Nat) : Int), V.int (n : Int)] := by
          unfold nextOf
          rw [hy]
          rfl
        refine ⟨_, rfl, _, rfl, (nextOf 1 p.2 : Nat), n, hx, ⟨by omega, by omega, by omega, by omega⟩, ?_⟩
      case' gb =>
        have hx : [V.int 1, V.int (n : Int)] = [V.int ((nextOf 1 p.2 : Nat) : Int), V.int (n : Int)] := by
          cases e : p.2 with
          | nil => rfl
          | cons c r => rw [e] at q; exact absurd rfl q
        refine ⟨_, rfl, _, rfl, (nextOf 1 p.2 : Nat), n, hx, ⟨by omega, by omega, by omega, by omega⟩, ?_⟩
      all_goals
        refine for_range (lo := (nextOf 1 p.2 : Nat)) (n := ((n : Int) - (nextOf 1 p.2 : Nat)).toNat) (fun j σ H' => ∃ (f z : Option V), σ = [some (.ref a), some (.int n), some (.ref fo), some (.ref p.1), f, z] ∧ Made H H' fo (done ++ (List.range' (nextOf 1 p.2) j).map fun q => p.2 ++ [q])) ⟨_, _, rfl, by rw [List.range'_zero]; rw [List.map_nil, List.append_nil]; exact mi'⟩ ?_ ?_
        · rintro j σ H' hj ⟨f, z, rfl, mj⟩
          have hp3 : H' p.1 = some (rwV p.2) := mj.1 _ _ (r3 p hm)
          obtain ⟨ps0, f0, _, _⟩ := id mj.2
          refine ⟨_, rfl, .inl ⟨rfl, _, SqL.of f0⟩, _, rfl, _, rfl, (by show 1 ≤ sizeLine; decide), fun c hc => ?_⟩
          have mj' : Made H (upd H' c (.lst [.int (((nextOf 1 p.2 : Nat) : Int) + j)])) fo (done ++ (List.range' (nextOf 1 p.2) j).map fun q => p.2 ++ [q]) := ⟨mj.1.trans (same_new hc), mj.2.same (same_new hc)⟩
          refine ⟨p.1, c, _, _, rfl, rfl, same_new hc _ _ hp3, upd_same, small_line (by rw [nums_length]; show _ + 1 ≤ _; omega), fun d hd => ?_⟩
          have er : nums p.2 ++ [V.int (((nextOf 1 p.2 : Nat) : Int) + j)] = nums (p.2 ++ [nextOf 1 p.2 + j]) := by
            rw [nums_append, ← Int.natCast_add]
            rfl
          rw [er]
          obtain ⟨ps1, f1, l1, nfd, mn⟩ := made_push (r := p.2 ++ [nextOf 1 p.2 + j]) hfo mj' hd
          refine ⟨fo, _, _, rfl, rfl, (by rw [upd_ne nfd]; exact f1), lt_line ?_, ?_⟩
          · rw [List.length_map, l1, List.length_append, List.length_map, List.length_range']
            omega
          · refine ⟨f, _, rfl, ?_⟩
            rw [List.range'_1_concat, List.map_append, ← List.append_assoc]
            exact mn
        · rintro σ H' ⟨f, z, rfl, mj⟩
          refine ⟨_, _, _, rfl, ?_⟩
          rw [hmore]
          have e9 : ((n : Int) - (nextOf 1 p.2 : Nat)).toNat = n - nextOf 1 p.2 := by omega
          rw [e9] at mj
          exact mj
    · rintro σ H' ⟨u, v, z, rfl, mi⟩
      refine ⟨_, rfl, ?_⟩
      rw [List.length_map, ← List.length_map (as := rs) (f := (·.2)), List.take_length] at mi
      exact k H' fo mi.1 mi.2
end
end Sv
namespace Sv
open PySem PySem.Spec PyProof.Rows L2
open Kp409 (SizeFraction Sifter)

/-! ### the best list -/
def amtOf (l : List SizeFraction) (pos : List Nat) : Nat := misOf (clsOf l pos)
def wgtOf (l : List SizeFraction) (pos : List Nat) : Nat := hvOf (clsOf l pos)
def bestOf (l : List SizeFraction) (k : Nat) : Option (List Nat) := Kp409.lowest (amtOf l) (Kp409.positionLists l.length k 1)
def evenOf (l : List SizeFraction) (k : Nat) : Option (List Nat) := Kp409.lowest (wgtOf l) (Kp409.positionLists l.length k 1)
theorem amt_is (s : Sifter) : Kp409.misplaced s = amtOf s.sizes := by
  funext pos
  rw [misplaced_is]
  rfl
theorem wgt_is (s : Sifter) : Kp409.heaviestClass s = wgtOf s.sizes := by
  funext pos
  unfold Kp409.heaviestClass
  rw [classes_is]
  rfl
theorem best_is (s : Sifter) (k : Nat) : Kp409.bestSieves s k = bestOf s.sizes k := by
  unfold Kp409.bestSieves
  rw [amt_is]
  rfl
theorem even_is (s : Sifter) (k : Nat) : Kp409.mostEvenSieves s k = evenOf s.sizes k := by
  unfold Kp409.mostEvenSieves
  rw [wgt_is]
  rfl
/-- there is one, and it is good -/
theorem bestOf_good {l : List SizeFraction} {k : Nat} {b : List Nat} (h : bestOf l k = some b) (hk : k < l.length ∨ k = 0) : Good l.length b ∧ b.length = k := by
  obtain ⟨b', e, m, _⟩ := lowest_some (amtOf l) (lists_ne hk)
  have e2 : some b' = some b := e.symm.trans h
  cases e2
  obtain ⟨m1, m2⟩ := mem_good.mp m
  exact ⟨m2, m1⟩
theorem evenOf_good {l : List SizeFraction} {k : Nat} {b : List Nat} (h : evenOf l k = some b) (hk : k < l.length ∨ k = 0) : Good l.length b ∧ b.length = k := by
  obtain ⟨b', e, m, _⟩ := lowest_some (wgtOf l) (lists_ne hk)
  have e2 : some b' = some b := e.symm.trans h
  cases e2
  obtain ⟨m1, m2⟩ := mem_good.mp m
  exact ⟨m2, m1⟩

section
variable {P : Program} {w : World} {K : PySem.W.Frag} {mg : Str → Option Value} {base : Heap}
/-! ### all_lists -/
abbrev sAll : Stmt := top 22
abbrev pAll : List Str := ["size_count", "count"]
theorem scAll : FnScope ["size_count", "count", "rows", "turn"] pAll (defScope sAll) := ⟨rfl, rfl, rfl, by decide +kernel, rfl, by decide +kernel, by decide +kernel⟩
def spAll : Sp := fun vs H Q _ => ∃ (n k : Nat), vs = [.int n, .int k] ∧ n ≤ 10 ∧ k ≤ 10 ∧
  ∀ (H' : Hp) (c : Addr), Same H H' → NewAt H H' c (Kp409.positionLists n k 1) → Q (.ref c) H'
theorem ok_all {f : Addr} {fd : FuncData} (F : Fun K "all_lists" "all_lists" sAll f fd) (B : Bt mg) (DL : Df P w K mg base "longer_lists" 1 pLong spLong) : FnOk P w K mg base CX0 2 f fd pAll spAll := by
  obtain ⟨fL, fdL, mL, kL, GL, bL⟩ := DL
  refine F.ok scAll (fun vs H Q E h => ?_) (fun cdv A outer s H vs Q E hr h => ?_)
  · obtain ⟨n, k, rfl, _⟩ := h
    rfl
  · obtain ⟨n, k, rfl, hn, hk, q⟩ := h
    refine ⟨_, pss_cons (ps_set (i := 2) scAll.nd rfl (.inl rfl) (pe_lst (pa_cons (pe_lst pa_nil) pa_nil))) (pss_cons (ps_for PassesOwn.never rfl (pi_range1 (by rfl) B.range (pa_cons (pv 1) pa_nil)) (pg_name (i := 3) scAll.nd rfl (.inl rfl))
        (pss_one (ps_set (i := 2) scAll.nd rfl (.inl rfl) (pe_call GL hr rfl mL kL bL .nil pass0 (pa_cons (pv 2) (pa_cons (pv 0) pa_nil))))))
      (pss_one (ps_ret (pv 2)))), ?_⟩
    refine ⟨Nat.zero_le _, fun em hem => ⟨(by show 1 ≤ sizeLine; decide), fun c hc => ?_⟩⟩
    have s2 : Same H (upd (upd H em (.lst [])) c (.lst [.ref em])) := (same_new hem).trans (same_new hc)
    have nec : em ≠ c := ne_of_none upd_same hc
    refine ⟨_, rfl, k, rfl, by omega, by omega, for_range (lo := 0) (n := ((k : Nat) : Int).toNat) (fun i σ H' => ∃ (c : Addr) (v : Option V), σ = [some (.int n), some (.int k), some (.ref c), v] ∧ Same H H' ∧ NewAt H H' c (Kp409.positionLists n i 1))
      ⟨c, none, rfl, s2, [(em, [])], upd_same, rfl, fun p hp => ?_⟩ ?_ ?_⟩
    · have e : p = (em, []) := by simpa using hp
      subst e
      exact ⟨by rw [upd_ne nec, upd_same]; rfl, hem⟩
    · rintro i σ H' hi ⟨c, v, rfl, sH, R⟩
      refine ⟨_, rfl, _, rfl, c, n, _, rfl, R.rows, hn, few_lists n hn i (by omega), fun r hr' => ?_, fun H2 d s2 R2 => ?_⟩
      · obtain ⟨h1, h2⟩ := mem_good.mp hr'
        exact ⟨by omega, fun p hp => (h2.2 p hp).2⟩
      · rw [longer_lists] at R2
        exact ⟨d, some (.int (0 + i)), rfl, sH.trans s2, R2.since sH⟩
    · rintro σ H' ⟨c, v, rfl, sH, R⟩
      refine ⟨_, rfl, ?_⟩
      rw [Int.toNat_natCast] at R
      exact q H' c sH R

/-! ### best_of, most_even_of -/
abbrev pB : List Str := ["sizes", "count"]
abbrev sBest : Stmt := top 23
theorem scBest : FnScope ["sizes", "count", "rows", "best", "least", "row", "amount"] pB (defScope sBest) := ⟨rfl, rfl, rfl, by decide +kernel, rfl, by decide +kernel, by decide +kernel⟩
def spBest : Sp := fun vs H Q _ => ∃ (a : Addr) (k : Nat) (l : List SizeFraction), vs = [.ref a, .int k] ∧ RowsAt szV H a l ∧ l.length ≤ 10 ∧ (k < l.length ∨ k = 0) ∧
  ∀ (H' : Hp) (c : Addr) (b : List Nat), Same H H' → H c = none → bestOf l k = some b → H' c = some (rwV b) → Q (.ref c) H'
theorem ok_best {f : Addr} {fd : FuncData} (F : Fun K "best_of" "best_of" sBest f fd) (B : Bt mg) (DA : Df P w K mg base "all_lists" 2 pAll spAll) (DM : Df P w K mg base "misplaced_of" 3 pC spMis) : FnOk P w K mg base CX0 4 f fd pB spBest := by
  obtain ⟨fA, fdA, mA, kA, GA, bA⟩ := DA
  obtain ⟨fM, fdM, mM, kM, GM, bM⟩ := DM
  refine F.ok scBest (fun vs H Q E h => ?_) (fun cdv A outer s H vs Q E hr h => ?_)
  · obtain ⟨a, k, l, rfl, _⟩ := h
    rfl
  · obtain ⟨a, k, l, rfl, R, hl, hk, q⟩ := h
    refine ⟨_, pss_cons (ps_set (i := 2) scBest.nd rfl (.inl rfl) (pe_call GA (hr.mono (by decide)) rfl mA kA bA .nil pass0 (pa_cons (pe_callB call_len_seq (by rfl) B.len PySem.boot_len (pa_cons (pv 0) pa_nil)) (pa_cons (pv 1) pa_nil))))
      (pss_cons (ps_set (i := 3) scBest.nd rfl (.inl rfl) (pe_ix ix_list (pv 2) pe_int (fun _ _ => rfl)))
      (pss_cons (ps_set (i := 4) scBest.nd rfl (.inl rfl) (pe_call GM hr rfl mM kM bM .nil pass0 (pa_cons (pv 0) (pa_cons (pv 3) pa_nil))))
      (pss_cons (ps_for PassesOwn.never rfl (pi_list (pv 2)) (pg_name (i := 5) scBest.nd rfl (.inl rfl))
        (pss_cons (ps_set (i := 6) scBest.nd rfl (.inl rfl) (pe_call GM hr rfl mM kM bM .nil pass0 (pa_cons (pv 0) (pa_cons (pv 5) pa_nil))))
        (pss_one (ps_if (pt_cmpR op_lt (pv 6) (pv 4) (nomark _)) (pss_cons (ps_set (i := 3) scBest.nd rfl (.inl rfl) (pv 5)) (pss_one (ps_set (i := 4) scBest.nd rfl (.inl rfl) (pv 6)))) pss_nil))))
      (pss_one (ps_ret (pv 3)))))), ?_⟩
    obtain ⟨ps, h1, rfl, h3⟩ := R
    have R : RowsAt szV H a (ps.map (·.2)) := ⟨ps, h1, rfl, h3⟩
    rw [List.length_map] at hl
    -- rows = all_lists(len(sizes), count)
    refine ⟨_, rfl, a, _, rfl, .inl (SqL.of h1), _, rfl, (ps.map fun p => V.ref p.1).length, k, rfl, by rw [List.length_map]; exact hl, (by rw [List.length_map] at hk; omega), fun H1 c s1 N1 => ?_⟩
    rw [List.length_map] at N1
    have hne := lists_ne hk
    have hgood : ∀ r ∈ Kp409.positionLists (ps.map (·.2)).length k 1, Good (ps.map (·.2)).length r := fun r hr' => (mem_good.mp hr').2
    unfold bestOf at q
    rw [List.length_map] at hne hgood q
    generalize Kp409.positionLists ps.length k 1 = rows at N1 hne hgood q
    obtain ⟨qs, n1, rfl, n3⟩ := N1
    cases qs with
    | nil => exact absurd rfl hne
    | cons q0 qr =>
    -- best = rows[0]
    refine ⟨_, rfl, c, _, 0, _, rfl, rfl, SqL.of n1, at_of (j := 0) rfl rfl, ?_⟩
    -- least = ..(sizes, best)
    have hg0 : Good (ps.map (·.2)).length q0.2 := by rw [List.length_map]; exact hgood q0.2 (by simp)
    have hl' : (ps.map (·.2)).length ≤ 10 := by rw [List.length_map]; exact hl
    refine ⟨_, rfl, _, rfl, a, q0.1, ps.map (·.2), q0.2, rfl, R.same s1, (n3 q0 (by simp)).1, hg0, hl', fun H2 s2 => ?_⟩
    refine ⟨_, rfl, c, rfl, ⟨_, SqL.of (s2 _ _ n1)⟩, for_list (K := K) (a := c) (xs := (q0 :: qr).map fun p => V.ref p.1) (fun i σ H' => ∃ (bt : Addr × List Nat) (u v : Option V), σ = [some (.ref a), some (.int k), some (.ref c), some (.ref bt.1), some (.int (amtOf (ps.map (·.2)) bt.2 : Nat)), u, v] ∧ Same H2 H' ∧ bt ∈ q0 :: qr ∧
        bt.2 = (((q0 :: qr).map (·.2)).take i).foldl (pick (amtOf (ps.map (·.2)))) q0.2)
      ⟨q0, none, none, rfl, Same.refl _, by simp, rfl⟩ (fun i σ H' _ ⟨_, _, _, _, e, _⟩ => SqL.of (e _ _ (s2 _ _ n1))) ?_ ?_⟩
    · rintro i x σ H' hi ⟨bt, u, v, rfl, s3, hbt, eb⟩
      obtain ⟨p, e1, m, rfl, e2⟩ := get_ref hi
      have hgp : Good (ps.map (·.2)).length p.2 := by rw [List.length_map]; exact hgood p.2 (List.mem_map_of_mem m)
      refine ⟨_, rfl, _, rfl, a, p.1, ps.map (·.2), p.2, rfl, R.same (s1.trans (s2.trans s3)), s3 _ _ (s2 _ _ (n3 p m).1), hgp, hl', fun H4 s4 => ?_⟩
      refine ⟨_, rfl, _, rfl, _, _, rfl, rfl, _, rfl, ite2 (fun c => ?_) (fun c => ?_)⟩
      · have c' : amtOf (ps.map (·.2)) p.2 < amtOf (ps.map (·.2)) bt.2 := by
          have h : (((amtOf (ps.map (·.2)) p.2 : Nat)) : Int) < ((amtOf (ps.map (·.2)) bt.2 : Nat) : Int) := of_decide_eq_true c
          omega
        refine ⟨_, rfl, _, rfl, p, some (.ref p.1), _, rfl, s3.trans s4, m, ?_⟩
        rw [take_some e2, List.foldl_append, ← eb]
        exact (if_pos c').symm
      · have c' : ¬ amtOf (ps.map (·.2)) p.2 < amtOf (ps.map (·.2)) bt.2 := fun z => c (decide_eq_true (by
          show (((amtOf (ps.map (·.2)) p.2 : Nat)) : Int) < ((amtOf (ps.map (·.2)) bt.2 : Nat) : Int)
          omega))
        refine ⟨bt, some (.ref p.1), _, rfl, s3.trans s4, hbt, ?_⟩
        rw [take_some e2, List.foldl_append, ← eb]
        exact (if_neg c').symm
    · rintro σ H' ⟨bt, u, v, rfl, s3, hbt, eb⟩
      refine ⟨_, rfl, ?_⟩
      rw [List.length_map, ← List.length_map (as := q0 :: qr) (f := (·.2)), List.take_length] at eb
      refine q H' bt.1 bt.2 (s1.trans (s2.trans s3)) (n3 bt hbt).2 ?_ (s3 _ _ (s2 _ _ (n3 bt hbt).1))
      rw [eb]
      exact lowest_cons _ _ _
abbrev sEven : Stmt := top 24
theorem scEven : FnScope ["sizes", "count", "rows", "best", "least", "row", "weight"] pB (defScope sEven) := ⟨rfl, rfl, rfl, by decide +kernel, rfl, by decide +kernel, by decide +kernel⟩
def spEven : Sp := fun vs H Q _ => ∃ (a : Addr) (k : Nat) (l : List SizeFraction), vs = [.ref a, .int k] ∧ RowsAt szV H a l ∧ l.length ≤ 10 ∧ (k < l.length ∨ k = 0) ∧
  ∀ (H' : Hp) (c : Addr) (b : List Nat), Same H H' → H c = none → evenOf l k = some b → H' c = some (rwV b) → Q (.ref c) H'
theorem ok_even {f : Addr} {fd : FuncData} (F : Fun K "most_even_of" "most_even_of" sEven f fd) (B : Bt mg) (DA : Df P w K mg base "all_lists" 2 pAll spAll) (DM : Df P w K mg base "heaviest_of" 3 pC spHvy) : FnOk P w K mg base CX0 4 f fd pB spEven := by
  obtain ⟨fA, fdA, mA, kA, GA, bA⟩ := DA
  obtain ⟨fM, fdM, mM, kM, GM, bM⟩ := DM
  refine F.ok scEven (fun vs H Q E h => ?_) (fun cdv A outer s H vs Q E hr h => ?_)
  · obtain ⟨a, k, l, rfl, _⟩ := h
    rfl
  · obtain ⟨a, k, l, rfl, R, hl, hk, q⟩ := h
    refine ⟨_, pss_cons (ps_set (i := 2) scEven.nd rfl (.inl rfl) (pe_call GA (hr.mono (by decide)) rfl mA kA bA .nil pass0 (pa_cons (pe_callB call_len_seq (by rfl) B.len PySem.boot_len (pa_cons (pv 0) pa_nil)) (pa_cons (pv 1) pa_nil))))
      (pss_cons (ps_set (i := 3) scEven.nd rfl (.inl rfl) (pe_ix ix_list (pv 2) pe_int (fun _ _ => rfl)))
      (pss_cons (ps_set (i := 4) scEven.nd rfl (.inl rfl) (pe_call GM hr rfl mM kM bM .nil pass0 (pa_cons (pv 0) (pa_cons (pv 3) pa_nil))))
      (pss_cons (ps_for PassesOwn.never rfl (pi_list (pv 2)) (pg_name (i := 5) scEven.nd rfl (.inl rfl))
        (pss_cons (ps_set (i := 6) scEven.nd rfl (.inl rfl) (pe_call GM hr rfl mM kM bM .nil pass0 (pa_cons (pv 0) (pa_cons (pv 5) pa_nil))))
        (pss_one (ps_if (pt_cmpR op_lt (pv 6) (pv 4) (nomark _)) (pss_cons (ps_set (i := 3) scEven.nd rfl (.inl rfl) (pv 5)) (pss_one (ps_set (i := 4) scEven.nd rfl (.inl rfl) (pv 6)))) pss_nil))))
      (pss_one (ps_ret (pv 3)))))), ?_⟩
    obtain ⟨ps, h1, rfl, h3⟩ := R
    have R : RowsAt szV H a (ps.map (·.2)) := ⟨ps, h1, rfl, h3⟩
    rw [List.length_map] at hl
    -- rows = all_lists(len(sizes), count)
    refine ⟨_, rfl, a, _, rfl, .inl (SqL.of h1), _, rfl, (ps.map fun p => V.ref p.1).length, k, rfl, by rw [List.length_map]; exact hl, (by rw [List.length_map] at hk; omega), fun H1 c s1 N1 => ?_⟩
    rw [List.length_map] at N1
    have hne := lists_ne hk
    have hgood : ∀ r ∈ Kp409.positionLists (ps.map (·.2)).length k 1, Good (ps.map (·.2)).length r := fun r hr' => (mem_good.mp hr').2
    unfold evenOf at q
    rw [List.length_map] at hne hgood q
    generalize Kp409.positionLists ps.length k 1 = rows at N1 hne hgood q
    obtain ⟨qs, n1, rfl, n3⟩ := N1
    cases qs with
    | nil => exact absurd rfl hne
    | cons q0 qr =>
    -- best = rows[0]
    refine ⟨_, rfl, c, _, 0, _, rfl, rfl, SqL.of n1, at_of (j := 0) rfl rfl, ?_⟩
    -- least = ..(sizes, best)
    have hg0 : Good (ps.map (·.2)).length q0.2 := by rw [List.length_map]; exact hgood q0.2 (by simp)
    have hl' : (ps.map (·.2)).length ≤ 10 := by rw [List.length_map]; exact hl
    refine ⟨_, rfl, _, rfl, a, q0.1, ps.map (·.2), q0.2, rfl, R.same s1, (n3 q0 (by simp)).1, hg0, hl', fun H2 s2 => ?_⟩
    refine ⟨_, rfl, c, rfl, ⟨_, SqL.of (s2 _ _ n1)⟩, for_list (K := K) (a := c) (xs := (q0 :: qr).map fun p => V.ref p.1) (fun i σ H' => ∃ (bt : Addr × List Nat) (u v : Option V), σ = [some (.ref a), some (.int k), some (.ref c), some (.ref bt.1), some (.int (wgtOf (ps.map (·.2)) bt.2 : Nat)), u, v] ∧ Same H2 H' ∧ bt ∈ q0 :: qr ∧
        bt.2 = (((q0 :: qr).map (·.2)).take i).foldl (pick (wgtOf (ps.map (·.2)))) q0.2)
      ⟨q0, none, none, rfl, Same.refl _, by simp, rfl⟩ (fun i σ H' _ ⟨_, _, _, _, e, _⟩ => SqL.of (e _ _ (s2 _ _ n1))) ?_ ?_⟩
    · rintro i x σ H' hi ⟨bt, u, v, rfl, s3, hbt, eb⟩
      obtain ⟨p, e1, m, rfl, e2⟩ := get_ref hi
      have hgp : Good (ps.map (·.2)).length p.2 := by rw [List.length_map]; exact hgood p.2 (List.mem_map_of_mem m)
      refine ⟨_, rfl, _, rfl, a, p.1, ps.map (·.2), p.2, rfl, R.same (s1.trans (s2.trans s3)), s3 _ _ (s2 _ _ (n3 p m).1), hgp, hl', fun H4 s4 => ?_⟩
      refine ⟨_, rfl, _, rfl, _, _, rfl, rfl, _, rfl, ite2 (fun c => ?_) (fun c => ?_)⟩
      · have c' : wgtOf (ps.map (·.2)) p.2 < wgtOf (ps.map (·.2)) bt.2 := by
          have h : (((wgtOf (ps.map (·.2)) p.2 : Nat)) : Int) < ((wgtOf (ps.map (·.2)) bt.2 : Nat) : Int) := of_decide_eq_true c
          omega
        refine ⟨_, rfl, _, rfl, p, some (.ref p.1), _, rfl, s3.trans s4, m, ?_⟩
        rw [take_some e2, List.foldl_append, ← eb]
        exact (if_pos c').symm
      · have c' : ¬ wgtOf (ps.map (·.2)) p.2 < wgtOf (ps.map (·.2)) bt.2 := fun z => c (decide_eq_true (by
          show (((wgtOf (ps.map (·.2)) p.2 : Nat)) : Int) < ((wgtOf (ps.map (·.2)) bt.2 : Nat) : Int)
          omega))
        refine ⟨bt, some (.ref p.1), _, rfl, s3.trans s4, hbt, ?_⟩
        rw [take_some e2, List.foldl_append, ← eb]
        exact (if_neg c').symm
    · rintro σ H' ⟨bt, u, v, rfl, s3, hbt, eb⟩
      refine ⟨_, rfl, ?_⟩
      rw [List.length_map, ← List.length_map (as := q0 :: qr) (f := (·.2)), List.take_length] at eb
      refine q H' bt.1 bt.2 (s1.trans (s2.trans s3)) (n3 bt hbt).2 ?_ (s3 _ _ (s2 _ _ (n3 bt hbt).1))
      rw [eb]
      exact lowest_cons _ _ _

/-! ### best_amount -/
abbrev sAmt : Stmt := top 25
theorem scAmt : FnScope ["sizes", "count"] pB (defScope sAmt) := ⟨rfl, rfl, rfl, by decide +kernel, rfl, by decide +kernel, by decide +kernel⟩
def spAmt : Sp := fun vs H Q _ => ∃ (a : Addr) (k : Nat) (l : List SizeFraction), vs = [.ref a, .int k] ∧ RowsAt szV H a l ∧ l.length ≤ 10 ∧ (k < l.length ∨ k = 0) ∧
  ∀ (H' : Hp) (b : List Nat), Same H H' → bestOf l k = some b → Q (.int (amtOf l b : Nat)) H'
theorem ok_amt {f : Addr} {fd : FuncData} (F : Fun K "best_amount" "best_amount" sAmt f fd) (DB : Df P w K mg base "best_of" 4 pB spBest) (DM : Df P w K mg base "misplaced_of" 3 pC spMis) : FnOk P w K mg base CX0 5 f fd pB spAmt := by
  obtain ⟨fB, fdB, mB, kB, GB, bB⟩ := DB
  obtain ⟨fM, fdM, mM, kM, GM, bM⟩ := DM
  refine F.ok scAmt (fun vs H Q E h => ?_) (fun cdv A outer s H vs Q E hr h => ?_)
  · obtain ⟨a, k, l, rfl, _⟩ := h
    rfl
  · obtain ⟨a, k, l, rfl, R, hl, hk, q⟩ := h
    refine ⟨_, pss_one (ps_ret (pe_call GM (hr.mono (by decide)) rfl mM kM bM .nil pass0 (pa_cons (pv 0) (pa_cons (pe_call GB hr rfl mB kB bB .nil pass0 (pa_cons (pv 0) (pa_cons (pv 1) pa_nil))) pa_nil)))), ?_⟩
    refine ⟨_, rfl, _, rfl, _, rfl, a, k, l, rfl, R, hl, hk, fun H1 c b s1 _ e hc => ?_⟩
    exact ⟨a, c, l, b, rfl, R.same s1, hc, (bestOf_good e hk).1, hl, fun H2 s2 => q H2 b (s1.trans s2) e⟩
end
end Sv
namespace Sv
open PySem PySem.Spec PyProof.Rows L2
open Kp409 (SizeFraction Sifter)

/-! ### the sifter in the heap -/
def flds (m : Bool) (p q : Addr) : List (Str × V) := [("made", .bl m), ("sizes", .ref p), ("sieves", .ref q)]
theorem lk_here {k : Str} {v : V} {r : List (Str × V)} : List.lookup k ((k, v) :: r) = some v := by
  have e : (k == k) = true := beq_self_eq_true k
  simp only [List.lookup, e]
theorem lk_past {k g : Str} {v : V} {r : List (Str × V)} (h : (k == g) = false) : List.lookup k ((g, v) :: r) = List.lookup k r := by
  simp only [List.lookup, h]
theorem put_here {f : Str} {v x : V} {r : List (Str × V)} : putF f v ((f, x) :: r) = (f, v) :: r := if_pos rfl
theorem put_past {f g : Str} {v x : V} {r : List (Str × V)} (h : ¬ g = f) : putF f v ((g, x) :: r) = (g, x) :: putF f v r := if_neg h
theorem lkM {m : Bool} {p q : Addr} : (flds m p q).lookup ("made" : Str) = some (.bl m) := lk_here
theorem lkZ {m : Bool} {p q : Addr} : (flds m p q).lookup ("sizes" : Str) = some (.ref p) := (lk_past (by decide +kernel)).trans lk_here
theorem lkV {m : Bool} {p q : Addr} : (flds m p q).lookup ("sieves" : Str) = some (.ref q) := (lk_past (by decide +kernel)).trans ((lk_past (by decide +kernel)).trans lk_here)
/-- a method's name is no field's -/
theorem lk_no {m : Bool} {p q : Addr} {x : Str} (h1 : (x == ("made" : Str)) = false := by decide +kernel) (h2 : (x == ("sizes" : Str)) = false := by decide +kernel) (h3 : (x == ("sieves" : Str)) = false := by decide +kernel) : (flds m p q).lookup x = none :=
  (lk_past h1).trans ((lk_past h2).trans ((lk_past h3).trans rfl))
theorem ptM {m n : Bool} {p q : Addr} : putF "made" (.bl n) (flds m p q) = flds n p q := put_here
theorem ptZ {m : Bool} {p q r : Addr} : putF "sizes" (.ref r) (flds m p q) = flds m r q := (put_past (by decide +kernel)).trans (congrArg _ put_here)
theorem ptV {m : Bool} {p q r : Addr} : putF "sieves" (.ref r) (flds m p q) = flds m p r := (put_past (by decide +kernel)).trans (congrArg _ ((put_past (by decide +kernel)).trans (congrArg _ put_here)))
theorem pt_new {m : Bool} {p q : Addr} : putF "sieves" (.ref q) (putF "sizes" (.ref p) (putF "made" (.bl m) [])) = flds m p q :=
  (congrArg (putF "sieves" (.ref q)) ((put_past (by decide +kernel)).trans rfl : putF "sizes" (.ref p) (putF "made" (.bl m) []) = ([("made", .bl m), ("sizes", .ref p)] : List (Str × V)))).trans ((put_past (by decide +kernel)).trans (congrArg _ ((put_past (by decide +kernel)).trans rfl)))
/-- what the top has written of the class -/
structure Cl (K : PySem.W.Frag) (C : Addr) : Prop where
  cl : Cls K C
  nM : NoAttr K C "made"
  nZ : NoAttr K C "sizes"
  nV : NoAttr K C "sieves"
/-- a state that calls lead to -/
structure Fit (s : Sifter) : Prop where
  few : s.sizes.length ≤ 10
  good : Good s.sizes.length s.sieves
  low : ∀ x ∈ s.sizes, x.flour ≤ 99 ∧ x.bran ≤ 99
theorem fit_nil : Fit ⟨[], []⟩ := ⟨Nat.zero_le _, good_nil _, fun x h => by simp at h⟩
/-- the sifter at a; fo: a list that it doesn't hold -/
def At (C fo : Addr) (H : Hp) (a : Addr) (m : Bool) (s : Sifter) : Prop := ∃ dx p q, H a = some (.ins C dx (flds m p q)) ∧ RowsAt szV H p s.sizes ∧ H q = some (rwV s.sieves) ∧ p ≠ fo ∧ q ≠ fo ∧ Fit s
theorem At.same {C fo : Addr} {H H' : Hp} {a : Addr} {m : Bool} {s : Sifter} (h : At C fo H a m s) (e : Same H H') : At C fo H' a m s := by
  obtain ⟨dx, p, q, h1, h2, h3, h4, h5, h6⟩ := h
  exact ⟨dx, p, q, e _ _ h1, h2.same e, e _ _ h3, h4, h5, h6⟩
/-- all but the object at a stands -/
def Keeps (a : Addr) (H H' : Hp) : Prop := ∀ b o, H b = some o → b ≠ a → H' b = some o
theorem Keeps.refl (a : Addr) (H : Hp) : Keeps a H H := fun _ _ h _ => h
theorem Keeps.same {a : Addr} {H H1 H2 : Hp} (k : Keeps a H H1) (s : Same H1 H2) : Keeps a H H2 := fun b o h n => s _ _ (k b o h n)
theorem Keeps.then {a : Addr} {H H1 H2 : Hp} (k : Keeps a H H1) (s : Keeps a H1 H2) : Keeps a H H2 := fun b o h n => s _ _ (k b o h n) n
theorem Keeps.put {a : Addr} {H H1 : Hp} {o : HO} (k : Keeps a H H1) : Keeps a H (upd H1 a o) := fun b u h n => by
  rw [upd_ne n]
  exact k b u h n
theorem keeps {a : Addr} {H H1 : Hp} (s : Same H H1) : Keeps a H H1 := fun b o h _ => s b o h
theorem Keeps.lst {a : Addr} {H H1 : Hp} (k : Keeps a H H1) {C dx : Addr} {fs : List (Str × V)} {b : Addr} {xs : List V} (ha : H a = some (.ins C dx fs)) (h : H b = some (.lst xs)) : H1 b = some (.lst xs) := k _ _ h (ne_of h ha (by intro z; cases z))
theorem Keeps.tup {a : Addr} {H H1 : Hp} (k : Keeps a H H1) {C dx : Addr} {fs : List (Str × V)} {b : Addr} {xs : List V} (ha : H a = some (.ins C dx fs)) (h : H b = some (.tup xs)) : H1 b = some (.tup xs) := k _ _ h (ne_of h ha (by intro z; cases z))
theorem Keeps.rows {a : Addr} {H H1 : Hp} (k : Keeps a H H1) {C dx : Addr} {fs : List (Str × V)} {b : Addr} {l : List SizeFraction} (ha : H a = some (.ins C dx fs)) (h : RowsAt szV H b l) : RowsAt szV H1 b l := by
  obtain ⟨ps, h1, h2, h3⟩ := h
  exact ⟨ps, k.lst ha h1, h2, fun p hp => k.tup ha (h3 p hp)⟩
/-- a store to the object at a -/
theorem keeps_put {a : Addr} {H : Hp} {o : HO} : Keeps a H (upd H a o) := (Keeps.refl a H).put
/-- what is answered -/
def told (y : Kp409.Ans) : List V := (y.num :: y.nums).map V.int
def toldN (n : Nat) : told (Kp409.single (n : Int)) = [V.int (n : Int)] := rfl
/-- a call's promise: the step of the specification -/
def spOp (C : Addr) (arg : Hp → List V → Kp409.Call → Prop) : Sp := fun vs H Q _ => ∃ (a fo : Addr) (xs : List V) (s : Sifter) (c : Kp409.Call) (ws : List V), vs = .ref a :: ws ∧ arg H ws c ∧ H fo = some (.lst xs) ∧ At C fo H a true s ∧
  ∀ (H' : Hp) (p : Addr) (s' : Sifter) (y : Kp409.Ans), Kp409.step (some s) c = (some s', y) → Keeps a H H' → p ≠ fo → At C fo H' a true s' → H' p = some (.lst (told y)) → Q (.ref p) H'
def arg0 (c0 : Kp409.Call) : Hp → List V → Kp409.Call → Prop := fun _ ws c => ws = [] ∧ c = c0
def arg1 (g : Nat → Kp409.Call) : Hp → List V → Kp409.Call → Prop := fun _ ws c => ∃ n : Nat, ws = [.int n] ∧ c = g n
def arg2 (g : Nat → Nat → Kp409.Call) : Hp → List V → Kp409.Call → Prop := fun _ ws c => ∃ n m : Nat, ws = [.int n, .int m] ∧ c = g n m
def arg3 (g : Nat → Nat → Nat → Kp409.Call) : Hp → List V → Kp409.Call → Prop := fun _ ws c => ∃ n m k : Nat, ws = [.int n, .int m, .int k] ∧ c = g n m k
def argL (g : List Nat → Kp409.Call) : Hp → List V → Kp409.Call → Prop := fun H ws c => ∃ (b : Addr) (l : List Nat), ws = [.ref b] ∧ H b = some (rwV l) ∧ c = g l
/-- the answer is a new list -/
theorem fin_new {C fo a p : Addr} {H H1 : Hp} {xs ys : List V} {s s' : Sifter} {c : Kp409.Call} {y : Kp409.Ans} {Q : VK}
    (k : ∀ (H' : Hp) (p : Addr) (s' : Sifter) (y : Kp409.Ans), Kp409.step (some s) c = (some s', y) → Keeps a H H' → p ≠ fo → At C fo H' a true s' → H' p = some (.lst (told y)) → Q (.ref p) H')
    (hf : H1 fo = some (.lst xs)) (hat : At C fo H1 a true s') (kp : Keeps a H H1) (hp : H1 p = none) (e : Kp409.step (some s) c = (some s', y)) (hy : ys = told y) : Q (.ref p) (upd H1 p (.lst ys)) :=
  k _ p s' y e (kp.same (same_new hp)) (Ne.symm (ne_of_none hf hp)) (hat.same (same_new hp)) (by rw [upd_same, hy])
theorem one_line : 1 ≤ sizeLine := by decide

section
variable {P : Program} {w : World} {K : PySem.W.Frag} {mg : Str → Option Value} {base : Heap}
abbrev sSifter : Stmt := top 31
abbrev me (j : Nat) : Stmt := inClass sSifter j
/-! ### __init__, create, has_size -/
abbrev sInit : Stmt := me 0
theorem scInit : FnScope ["self"] ["self"] (defScope sInit) := ⟨rfl, rfl, rfl, by decide +kernel, rfl, by decide +kernel, by decide +kernel⟩
def spInit (C : Addr) : Sp := fun vs H Q _ => ∃ (a dx : Addr), vs = [.ref a] ∧ H a = some (.ins C dx []) ∧
  ∀ (H' : Hp) (p q : Addr), Keeps a H H' → H' a = some (.ins C dx (flds false p q)) → H p = none → H q = none → H' p = some (.lst []) → H' q = some (.lst []) → Q .non H'
theorem ok_init {f C : Addr} {fd : FuncData} (F : Fun K "__init__" "Sifter.__init__" sInit f fd) (T : Cl K C) : FnOk P w K mg base CX0 1 f fd ["self"] (spInit C) := by
  refine F.ok scInit (fun vs H Q E h => ?_) (fun cdv A outer s H vs Q E hr h => ?_)
  · obtain ⟨a, dx, rfl, _⟩ := h
    rfl
  · obtain ⟨a, dx, rfl, ha, k⟩ := h
    refine ⟨_, pss_cons (ps_fld (pv 0) pe_bl rfl) (pss_cons (ps_fld (pv 0) (pe_lst pa_nil) rfl) (pss_one (ps_fld (pv 0) (pe_lst pa_nil) rfl))), ?_⟩
    refine ⟨_, rfl, a, C, dx, _, rfl, ha, T.cl, T.nM, (by show 0 < 1000; decide), ?_⟩
    refine ⟨Nat.zero_le _, fun p hp => ?_⟩
    have nap : a ≠ p := ne_of_none upd_same hp
    refine ⟨_, rfl, a, C, dx, _, rfl, (by rw [upd_ne nap]; exact upd_same), T.cl, T.nZ, (by show 1 < 1000; decide), ?_⟩
    refine ⟨Nat.zero_le _, fun q hq => ?_⟩
    have naq : a ≠ q := ne_of_none upd_same hq
    refine ⟨_, rfl, a, C, dx, _, rfl, (by rw [upd_ne naq]; exact upd_same), T.cl, T.nV, (by show 2 < 1000; decide), ?_⟩
    rw [upd_ne (Ne.symm naq)] at hq
    have npq : p ≠ q := ne_of_none upd_same hq
    rw [upd_ne (Ne.symm npq)] at hq
    rw [upd_ne (Ne.symm naq)] at hq
    rw [upd_ne (Ne.symm nap)] at hp
    refine k _ p q (fun b o hb n => ?_) ?_ hp hq ?_ ?_
    · rw [upd_ne n, upd_ne (ne_of_none hb hq), upd_ne n, upd_ne (ne_of_none hb hp), upd_ne n]
      exact hb
    · rw [upd_same]
      exact congrArg (fun z => some (HO.ins C dx z)) pt_new
    · rw [upd_ne (Ne.symm nap), upd_ne npq, upd_ne (Ne.symm nap), upd_same]
    · rw [upd_ne (Ne.symm naq), upd_same]
abbrev sCreate : Stmt := me 1
theorem scCreate : FnScope ["self"] ["self"] (defScope sCreate) := ⟨rfl, rfl, rfl, by decide +kernel, rfl, by decide +kernel, by decide +kernel⟩
def spCreate (C : Addr) : Sp := fun vs H Q _ => ∃ (a fo : Addr) (xs : List V) (m : Bool) (s : Sifter), vs = [.ref a] ∧ H fo = some (.lst xs) ∧ At C fo H a m s ∧
  ∀ (H' : Hp) (p : Addr), Keeps a H H' → p ≠ fo → At C fo H' a true ⟨[], []⟩ → H' p = some (.lst [.int 0]) → Q (.ref p) H'
theorem ok_create {f C : Addr} {fd : FuncData} (F : Fun K "create" "Sifter.create" sCreate f fd) (T : Cl K C) : FnOk P w K mg base CX0 1 f fd ["self"] (spCreate C) := by
  refine F.ok scCreate (fun vs H Q E h => ?_) (fun cdv A outer s H vs Q E hr h => ?_)
  · obtain ⟨a, fo, xs, m, s, rfl, _⟩ := h
    rfl
  · obtain ⟨a, fo, xs, m, s, rfl, hf, ⟨dx, p0, q0, ha, _⟩, k⟩ := h
    refine ⟨_, pss_cons (ps_fld (pv 0) pe_bl rfl) (pss_cons (ps_fld (pv 0) (pe_lst pa_nil) rfl) (pss_cons (ps_fld (pv 0) (pe_lst pa_nil) rfl) (pss_one (ps_ret (pe_lst (pa_cons pe_int pa_nil)))))), ?_⟩
    refine ⟨_, rfl, a, C, dx, _, rfl, ha, T.cl, T.nM, (by show 3 < 1000; decide), ?_⟩
    rw [ptM]
    have k1 : Keeps a H (upd H a (.ins C dx (flds true p0 q0))) := keeps_put
    have a1 : (upd H a (.ins C dx (flds true p0 q0))) a = _ := upd_same
    generalize upd H a (.ins C dx (flds true p0 q0)) = H1 at k1 a1 ⊢
    refine ⟨Nat.zero_le _, fun p hp => ?_⟩
    have nap : a ≠ p := ne_of_none a1 hp
    refine ⟨_, rfl, a, C, dx, _, rfl, same_new hp _ _ a1, T.cl, T.nZ, (by show 3 < 1000; decide), ?_⟩
    rw [ptZ]
    have k2 : Keeps a H (upd (upd H1 p (.lst [])) a (.ins C dx (flds true p q0))) := (k1.same (same_new hp)).put
    have a2 : (upd (upd H1 p (.lst [])) a (.ins C dx (flds true p q0))) a = _ := upd_same
    have p2 : (upd (upd H1 p (.lst [])) a (.ins C dx (flds true p q0))) p = some (.lst []) := by rw [upd_ne (Ne.symm nap), upd_same]
    generalize upd (upd H1 p (.lst [])) a (.ins C dx (flds true p q0)) = H2 at k2 a2 p2 ⊢
    refine ⟨Nat.zero_le _, fun q hq => ?_⟩
    have naq : a ≠ q := ne_of_none a2 hq
    have npq : p ≠ q := ne_of_none p2 hq
    refine ⟨_, rfl, a, C, dx, _, rfl, same_new hq _ _ a2, T.cl, T.nV, (by show 3 < 1000; decide), ?_⟩
    rw [ptV]
    have k3 : Keeps a H (upd (upd H2 q (.lst [])) a (.ins C dx (flds true p q))) := (k2.same (same_new hq)).put
    have a3 : (upd (upd H2 q (.lst [])) a (.ins C dx (flds true p q))) a = _ := upd_same
    have p3 : (upd (upd H2 q (.lst [])) a (.ins C dx (flds true p q))) p = some (.lst []) := by rw [upd_ne (Ne.symm nap), upd_ne npq, p2]
    have q3 : (upd (upd H2 q (.lst [])) a (.ins C dx (flds true p q))) q = some (.lst []) := by rw [upd_ne (Ne.symm naq), upd_same]
    generalize upd (upd H2 q (.lst [])) a (.ins C dx (flds true p q)) = H3 at k3 a3 p3 q3 ⊢
    refine ⟨one_line, fun r hr2 => ?_⟩
    have fo1 := k1.lst ha hf
    have fo2 := k2.lst ha hf
    refine k _ r (k3.same (same_new hr2)) (Ne.symm (ne_of_none (k3.lst ha hf) hr2)) ?_ upd_same
    exact At.same ⟨dx, p, q, a3, ⟨[], p3, rfl, fun x hx => by simp at hx⟩, q3, Ne.symm (ne_of_none fo1 hp), Ne.symm (ne_of_none fo2 hq), fit_nil⟩ (same_new hr2)
abbrev sHas : Stmt := me 2
theorem scHas : FnScope ["self", "size"] ["self", "size"] (defScope sHas) := ⟨rfl, rfl, rfl, by decide +kernel, rfl, by decide +kernel, by decide +kernel⟩
def spHas (C : Addr) : Sp := fun vs H Q _ => ∃ (a fo : Addr) (m : Bool) (s : Sifter) (n : Nat), vs = [.ref a, .int n] ∧ At C fo H a m s ∧ Q (.bl (decide (n < s.sizes.length))) H
theorem ok_has {f C : Addr} {fd : FuncData} (F : Fun K "has_size" "Sifter.has_size" sHas f fd) (T : Cl K C) (B : Bt mg) : FnOk P w K mg base CX0 1 f fd ["self", "size"] (spHas C) := by
  refine F.ok scHas (fun vs H Q E h => ?_) (fun cdv A outer s H vs Q E hr h => ?_)
  · obtain ⟨a, fo, m, s, n, rfl, _⟩ := h
    rfl
  · obtain ⟨a, fo, m, s, n, rfl, ⟨dx, p, q, ha, ⟨ps, h1, h2, h3⟩, _⟩, k⟩ := h
    refine ⟨_, pss_one (ps_ret (pe_cmpR op_lt (pv 1) (pe_callB call_len_seq (by rfl) B.len PySem.boot_len (pa_cons (pe_fld (pv 0) rfl) pa_nil)) (nomark _))), ?_⟩
    refine ⟨_, rfl, _, rfl, a, C, dx, _, _, rfl, ha, T.cl, T.nZ, lkZ, p, _, rfl, .inl (SqL.of h1), _, _, rfl, rfl, ?_⟩
    rw [← h2, List.length_map] at k
    show Q (.bl (decide ((n : Int) < ((ps.map fun p => V.ref p.1).length : Nat)))) H
    have e : decide ((n : Int) < ((ps.map fun p => V.ref p.1).length : Nat)) = decide (n < ps.length) := by
      rw [List.length_map, decide_eq_decide]
      omega
    rw [e]
    exact k
/-! ### amount_now -/
abbrev sNow : Stmt := me 7
theorem scNow : FnScope ["self"] ["self"] (defScope sNow) := ⟨rfl, rfl, rfl, by decide +kernel, rfl, by decide +kernel, by decide +kernel⟩
theorem mis_is (s : Sifter) (l : List Nat) : Kp409.misplaced s l = misOf (clsOf s.sizes l) := by
  rw [amt_is]
  rfl
theorem ok_now {f C : Addr} {fd : FuncData} (F : Fun K "amount_now" "Sifter.amount_now" sNow f fd) (T : Cl K C) (DM : Df P w K mg base "misplaced_of" 3 pC spMis) : FnOk P w K mg base CX0 4 f fd ["self"] (spOp C (arg0 .misplaced)) := by
  obtain ⟨fM, fdM, mM, kM, GM, bM⟩ := DM
  refine F.ok scNow (fun vs H Q E h => ?_) (fun cdv A outer s H vs Q E hr h => ?_)
  · obtain ⟨a, fo, xs, s, c, ws, rfl, ⟨rfl, rfl⟩, _⟩ := h
    rfl
  · obtain ⟨a, fo, xs, s, c, ws, rfl, ⟨rfl, rfl⟩, hf, hat, k⟩ := h
    obtain ⟨dx, p, q, ha, R, hq, np, nq, fit⟩ := id hat
    refine ⟨_, pss_one (ps_ret (pe_lst (pa_cons (pe_call GM hr rfl mM kM bM .nil pass0 (pa_cons (pe_fld (pv 0) rfl) (pa_cons (pe_fld (pv 0) rfl) pa_nil))) pa_nil))), ?_⟩
    refine ⟨_, rfl, a, C, dx, _, _, rfl, ha, T.cl, T.nZ, lkZ, _, rfl, a, C, dx, _, _, rfl, ha, T.cl, T.nV, lkV, p, q, s.sizes, s.sieves, rfl, R, hq, fit.good, fit.few, fun H1 s1 => ?_⟩
    refine ⟨one_line, fun r hr2 => ?_⟩
    refine fin_new k (s1 _ _ hf) (hat.same s1) (keeps s1) hr2 rfl ?_
    rw [mis_is]
    rfl
end
end Sv
namespace Sv
open PySem PySem.Spec PyProof.Rows L2
open Kp409 (SizeFraction Sifter)

/-! # The specification's step, way by way, in the words of the walks -/
section
variable {s : Sifter}
theorem told_nat (v : Nat) (l : List Nat) : told (Kp409.natResult v l) = V.int (v : Int) :: nums l := by
  show V.int (v : Int) :: (l.map fun (x : Nat) => (x : Int)).map V.int = _
  rw [List.map_map]
  rfl
theorem told_list (l : List Nat) : told (Kp409.listResult l) = V.int (l.length : Int) :: nums l := told_nat l.length l
/-! ### add_size -/
theorem st_add1 {f b : Nat} (h : Kp409.validAmounts f b = false) : Kp409.step (some s) (.addSize f b) = (some s, Kp409.single (-22)) := if_pos h
theorem st_add2 {f b : Nat} (h : Kp409.validAmounts f b = true) (h2 : 10 ≤ s.sizes.length) : Kp409.step (some s) (.addSize f b) = (some s, Kp409.single (-28)) :=
  (if_neg (by rw [h]; decide)).trans (if_pos h2)
theorem st_add3 {f b : Nat} (h : Kp409.validAmounts f b = true) (h2 : ¬ 10 ≤ s.sizes.length) : Kp409.step (some s) (.addSize f b) = (some ⟨s.sizes ++ [⟨f, b⟩], s.sieves⟩, Kp409.single (s.sizes.length : Nat)) :=
  (if_neg (by rw [h]; decide)).trans (if_neg h2)
theorem good_mono {n m : Nat} {l : List Nat} (h : Good n l) (e : n ≤ m) : Good m l := ⟨h.1, fun p hp => ⟨(h.2 p hp).1, Nat.lt_of_lt_of_le (h.2 p hp).2 e⟩⟩
theorem valid_le {f b : Nat} (h : Kp409.validAmounts f b = true) : f ≤ 99 ∧ b ≤ 99 := by
  unfold Kp409.validAmounts at h
  simpa using h
theorem fit_add {f b : Nat} (F : Fit s) (h : Kp409.validAmounts f b = true) (h2 : ¬ 10 ≤ s.sizes.length) : Fit ⟨s.sizes ++ [⟨f, b⟩], s.sieves⟩ := by
  refine ⟨by show (s.sizes ++ [_]).length ≤ 10; rw [List.length_append, List.length_singleton]; omega, good_mono F.good (by show _ ≤ (s.sizes ++ [_]).length; rw [List.length_append]; omega), fun x hx => ?_⟩
  rcases List.mem_append.mp hx with m | m
  · exact F.low x m
  · have e : x = ⟨f, b⟩ := by simpa using m
    subst e
    exact valid_le h
/-! ### remove_last_size -/
theorem st_rem1 (h : s.sizes = []) : Kp409.step (some s) .removeLastSize = (some s, Kp409.single (-6)) := if_pos (by rw [h]; rfl)
theorem filt_last {n : Nat} {l : List Nat} (h : Good n l) : (l.filter fun p => decide (p + 1 < n)) = l.filter fun p => p != n - 1 := by
  refine List.filter_congr fun p hp => ?_
  have := h.2 p hp
  have e : (p != n - 1) = decide (p ≠ n - 1) := by
    by_cases c : p = n - 1
    · subst c; simp
    · rw [decide_eq_true c]; simpa using c
  rw [e, decide_eq_decide]
  omega
theorem st_rem2 (F : Fit s) (h : s.sizes ≠ []) : Kp409.step (some s) .removeLastSize = (some ⟨s.sizes.take (s.sizes.length - 1), s.sieves.filter fun p => p != s.sizes.length - 1⟩, Kp409.single (s.sizes.length - 1 : Nat)) := by
  refine (if_neg (by simpa using h)).trans ?_
  rw [filt_last F.good, List.dropLast_eq_take]
theorem good_filter {n : Nat} {l : List Nat} {p : Nat → Bool} (h : Good n l) : Good n (l.filter p) := ⟨h.1.filter _, fun q hq => h.2 q (List.mem_filter.mp hq).1⟩
theorem fit_rem (F : Fit s) : Fit ⟨s.sizes.take (s.sizes.length - 1), s.sieves.filter fun p => p != s.sizes.length - 1⟩ := by
  have few := F.few
  refine ⟨by show (s.sizes.take _).length ≤ 10; rw [List.length_take]; omega, ⟨F.good.1.filter _, fun p hp => ?_⟩, fun x hx => F.low x (List.mem_of_mem_take hx)⟩
  have hp' := List.mem_filter.mp hp
  have h1 := F.good.2 p hp'.1
  have h2 : p ≠ s.sizes.length - 1 := by simpa using hp'.2
  show 1 ≤ p ∧ p < (s.sizes.take _).length
  rw [List.length_take]
  omega
/-! ### set_size -/
theorem st_set1 {i f b : Nat} (h : ¬ i < s.sizes.length) : Kp409.step (some s) (.setSize i f b) = (some s, Kp409.single (-2)) := by
  show (match s.sizes[i]? with | none => _ | some old => _) = _
  rw [List.getElem?_eq_none (by omega)]
theorem st_set2 {i f b : Nat} (h : i < s.sizes.length) (v : Kp409.validAmounts f b = false) : Kp409.step (some s) (.setSize i f b) = (some s, Kp409.single (-22)) := by
  show (match s.sizes[i]? with | none => _ | some old => _) = _
  rw [List.getElem?_eq_getElem h]
  exact if_neg (by rw [v]; decide)
theorem st_set3 {i f b : Nat} {x : SizeFraction} (h : s.sizes[i]? = some x) (v : Kp409.validAmounts f b = true) : Kp409.step (some s) (.setSize i f b) = (some ⟨s.sizes.take i ++ [⟨f, b⟩] ++ s.sizes.drop (i + 1), s.sieves⟩, Kp409.natResult 0 [x.flour, x.bran]) := by
  show (match s.sizes[i]? with | none => _ | some old => _) = _
  have hi : i < s.sizes.length := (List.getElem?_eq_some_iff.mp h).1
  have e : s.sizes.set i ⟨f, b⟩ = s.sizes.take i ++ [⟨f, b⟩] ++ s.sizes.drop (i + 1) := by
    rw [List.set_eq_take_append_cons_drop, if_pos hi, List.append_assoc]
    rfl
  rw [h, ← e]
  exact if_pos v
theorem fit_set {i f b : Nat} (F : Fit s) (h : i < s.sizes.length) (v : Kp409.validAmounts f b = true) : Fit ⟨s.sizes.take i ++ [⟨f, b⟩] ++ s.sizes.drop (i + 1), s.sieves⟩ := by
  have e : (s.sizes.take i ++ [(⟨f, b⟩ : SizeFraction)] ++ s.sizes.drop (i + 1)).length = s.sizes.length := by
    rw [List.length_append, List.length_append, List.length_take, List.length_drop, List.length_singleton]
    omega
  refine ⟨by show List.length _ ≤ 10; rw [e]; exact F.few, by show Good (List.length _) _; rw [e]; exact F.good, fun x hx => ?_⟩
  rcases List.mem_append.mp hx with m | m
  · rcases List.mem_append.mp m with m | m
    · exact F.low x (List.mem_of_mem_take m)
    · have e : x = ⟨f, b⟩ := by simpa using m
      subst e
      exact valid_le v
  · exact F.low x (List.mem_of_mem_drop m)
/-! ### sieves -/
theorem fit_sieves {l : List Nat} (F : Fit s) (h : Good s.sizes.length l) : Fit ⟨s.sizes, l⟩ := ⟨F.few, h, F.low⟩
theorem mis_with {l m : List Nat} : Kp409.misplaced ⟨s.sizes, m⟩ l = Kp409.misplaced s l := rfl
theorem st_mis : Kp409.step (some s) .misplaced = (some s, Kp409.single (amtOf s.sizes s.sieves : Nat)) := by
  show (some s, Kp409.single (Kp409.misplaced s s.sieves : Nat)) = _
  rw [amt_is]
theorem st_ss1 {l : List Nat} (h : areFrom s.sizes.length 0 l = false) : Kp409.step (some s) (.setSieves l) = (some s, Kp409.single (-22)) :=
  if_neg (by rw [← areFrom_valid, h]; decide)
theorem st_ss2 {l : List Nat} (h : areFrom s.sizes.length 0 l = true) : Kp409.step (some s) (.setSieves l) = (some ⟨s.sizes, l⟩, Kp409.single (amtOf s.sizes l : Nat)) := by
  refine (if_pos (by rw [← areFrom_valid, h])).trans ?_
  rw [amt_is]
theorem are_good {n : Nat} {l : List Nat} (h : areFrom n 0 l = true) : Good n l := ((areFrom_iff n l 0).mp h).2
theorem st_sz : Kp409.step (some s) .getSizes = (some s, Kp409.natResult s.sizes.length (s.sizes.flatMap fun x => [x.flour, x.bran])) := rfl
theorem st_sv : Kp409.step (some s) .getSieves = (some s, Kp409.listResult s.sieves) := rfl
theorem st_cl : Kp409.step (some s) .getClasses = (some s, Kp409.natResult (clsOf s.sizes s.sieves).length ((clsOf s.sizes s.sieves).flatMap fun l => [l.length, Kp409.totalFlour l, Kp409.totalBran l])) := by
  show (some s, Kp409.natResult (Kp409.classes s s.sieves).length ((Kp409.classes s s.sieves).flatMap fun l => [l.length, Kp409.totalFlour l, Kp409.totalBran l])) = _
  rw [classes_is]
  rfl
/-! ### purity -/
theorem st_pur1 (h : Kp409.totalWeight s.sizes = 0) : Kp409.step (some s) .purity = (some s, Kp409.single (-6)) := by
  show (some s, if Kp409.totalWeight s.sizes = 0 then _ else _) = _
  rw [if_pos h]
theorem st_pur2 (h : Kp409.totalWeight s.sizes ≠ 0) (t w : Nat) (hw : w = Kp409.totalWeight s.sizes) (ht : t = w - amtOf s.sizes s.sieves) : Kp409.step (some s) .purity = (some s, Kp409.natResult 0 [t / Nat.gcd t w, w / Nat.gcd t w]) := by
  have e := frac t w (by omega)
  subst hw
  rw [← amt_is] at ht
  subst ht
  show (some s, if Kp409.totalWeight s.sizes = 0 then _ else _) = _
  rw [if_neg h]
  show (some s, Kp409.Ans.mk 0 [(_ : Rat).num, ((_ : Rat).den : Int)]) = _
  rw [e.1, e.2]
  rfl
theorem amt_le (F : Fit s) : amtOf s.sizes s.sieves ≤ Kp409.totalWeight s.sizes := by
  rw [← amt_is]
  exact mis_le s F.good
theorem sum_le : ∀ {l : List SizeFraction}, (∀ x ∈ l, x.flour ≤ 99 ∧ x.bran ≤ 99) → Kp409.totalFlour l ≤ 99 * l.length ∧ Kp409.totalBran l ≤ 99 * l.length
  | [], _ => ⟨Nat.le_refl _, Nat.le_refl _⟩
  | x :: r, h => by
    have ih := sum_le (l := r) fun y hy => h y (List.mem_cons_of_mem _ hy)
    have hx := h x (by simp)
    simp only [Kp409.totalFlour, Kp409.totalBran, List.map_cons, List.sum_cons, List.length_cons] at ih ⊢
    omega
/-! ### the best sieves -/
theorem st_best1 {k : Nat} (h : ¬ k < s.sizes.length) : Kp409.step (some s) (.bestSieves k) = (some s, Kp409.single (-22)) := by
  show (some s, if Kp409.validCount s k = false then _ else _) = _
  rw [if_pos (by unfold Kp409.validCount; rw [decide_eq_false h])]
theorem vc {k : Nat} (h : k < s.sizes.length) : ¬ Kp409.validCount s k = false := by
  unfold Kp409.validCount
  rw [decide_eq_true h]
  decide
theorem st_best2 {k : Nat} {b : List Nat} (h : k < s.sizes.length) (e : bestOf s.sizes k = some b) : Kp409.step (some s) (.bestSieves k) = (some s, Kp409.natResult (amtOf s.sizes b) b) := by
  show (some s, if Kp409.validCount s k = false then _ else (match Kp409.bestSieves s k with | none => _ | some l => Kp409.natResult (Kp409.misplaced s l) l)) = _
  rw [if_neg (vc h), best_is, e, amt_is]
theorem st_app1 {k : Nat} (h : ¬ k < s.sizes.length) : Kp409.step (some s) (.applyBestSieves k) = (some s, Kp409.single (-22)) :=
  if_pos (by unfold Kp409.validCount; rw [decide_eq_false h])
theorem st_app2 {k : Nat} {b : List Nat} (h : k < s.sizes.length) (e : bestOf s.sizes k = some b) : Kp409.step (some s) (.applyBestSieves k) = (some ⟨s.sizes, b⟩, Kp409.single (amtOf s.sizes b : Nat)) := by
  refine (if_neg (vc h)).trans ?_
  show (match Kp409.bestSieves s k with | none => _ | some l => _) = _
  rw [best_is, e, amt_is]
theorem st_even1 {k : Nat} (h : ¬ k < s.sizes.length) : Kp409.step (some s) (.mostEvenSieves k) = (some s, Kp409.single (-22)) := by
  show (some s, if Kp409.validCount s k = false then _ else _) = _
  rw [if_pos (by unfold Kp409.validCount; rw [decide_eq_false h])]
theorem st_even2 {k : Nat} {b : List Nat} (h : k < s.sizes.length) (e : evenOf s.sizes k = some b) : Kp409.step (some s) (.mostEvenSieves k) = (some s, Kp409.natResult (wgtOf s.sizes b) b) := by
  show (some s, if Kp409.validCount s k = false then _ else (match Kp409.mostEvenSieves s k with | none => _ | some l => Kp409.natResult (Kp409.heaviestClass s l) l)) = _
  rw [if_neg (vc h), even_is, e, wgt_is]
theorem st_gain1 {k : Nat} (h : k = 0 ∨ ¬ k < s.sizes.length) : Kp409.step (some s) (.gainOfSieve k) = (some s, Kp409.single (-22)) := by
  show (some s, if Kp409.validCount s k = false ∨ k = 0 then _ else _) = _
  rw [if_pos]
  rcases h with h | h
  · exact .inr h
  · exact .inl (by unfold Kp409.validCount; rw [decide_eq_false h])
theorem st_gain2 {k : Nat} {b c : List Nat} (h : k < s.sizes.length) (h0 : k ≠ 0) (e : bestOf s.sizes (k - 1) = some b) (e2 : bestOf s.sizes k = some c) : Kp409.step (some s) (.gainOfSieve k) = (some s, Kp409.single (amtOf s.sizes b - amtOf s.sizes c : Nat)) := by
  show (some s, if Kp409.validCount s k = false ∨ k = 0 then _ else (match Kp409.bestSieves s (k - 1), Kp409.bestSieves s k with | some fewer, some more => Kp409.single (Kp409.misplaced s fewer - Kp409.misplaced s more : Nat) | _, _ => _)) = _
  rw [if_neg (fun z => z.elim (vc h) h0), best_is, best_is, e, e2, amt_is]
theorem gain_le {k : Nat} {b c : List Nat} (h : k < s.sizes.length) (h0 : k ≠ 0) (e : bestOf s.sizes (k - 1) = some b) (e2 : bestOf s.sizes k = some c) : amtOf s.sizes c ≤ amtOf s.sizes b := by
  rw [← best_is] at e e2
  rw [← amt_is]
  have ek : k = (k - 1) + 1 := by omega
  rw [ek] at e2
  exact best_falls s (by omega) e e2
/-- what the search asks of a number -/
def enough (s : Sifter) (limit k : Nat) : Bool := match Kp409.bestSieves s k with
  | none => false
  | some l => decide (Kp409.misplaced s l ≤ limit)
theorem enough_is {limit k : Nat} {b : List Nat} (e : bestOf s.sizes k = some b) : enough s limit k = decide (amtOf s.sizes b ≤ limit) := by
  unfold enough
  rw [best_is, e, amt_is]
theorem st_need (limit : Nat) : Kp409.step (some s) (.sievesNeeded limit) = (some s, match (List.range (max 1 s.sizes.length)).find? (enough s limit) with
    | none => Kp409.single (-33)
    | some k => Kp409.single (k : Nat)) := rfl
theorem find_range {p : Nat → Bool} {n k : Nat} (hk : k < n) (hp : p k = true) (hb : ∀ j, j < k → p j = false) : (List.range n).find? p = some k := by
  rw [List.find?_range_eq_some]
  exact ⟨hp, by simpa using hk, fun j hj => by rw [hb j hj]; rfl⟩
theorem find_none {p : Nat → Bool} {n : Nat} (hb : ∀ j, j < n → p j = false) : (List.range n).find? p = none := by
  rw [List.find?_eq_none]
  intro j hj
  rw [hb j (List.mem_range.mp hj)]
  decide
theorem st_need1 {limit : Nat} (h : ∀ j, j < max 1 s.sizes.length → enough s limit j = false) : Kp409.step (some s) (.sievesNeeded limit) = (some s, Kp409.single (-33)) := by
  rw [st_need, find_none h]
theorem st_need2 {limit k : Nat} (hk : k < max 1 s.sizes.length) (hp : enough s limit k = true) (h : ∀ j, j < k → enough s limit j = false) : Kp409.step (some s) (.sievesNeeded limit) = (some s, Kp409.single (k : Nat)) := by
  rw [st_need, find_range hk hp h]
theorem st_low : Kp409.step (some s) .lowerBound = (some s, Kp409.single (lowOf s.sizes : Nat)) := rfl
/-! ### add_sieve, remove_sieve -/
theorem st_as1 {p : Nat} (h : ¬ (1 ≤ p ∧ p < s.sizes.length)) : Kp409.step (some s) (.addSieve p) = (some s, Kp409.single (-22)) := if_pos (by omega)
theorem st_as2 {p : Nat} (h : 1 ≤ p ∧ p < s.sizes.length) (h2 : s.sieves.contains p = true) : Kp409.step (some s) (.addSieve p) = (some s, Kp409.single (-17)) :=
  (if_neg (by omega)).trans (if_pos h2)
theorem st_as3 {p : Nat} (F : Fit s) (h : 1 ≤ p ∧ p < s.sizes.length) (h2 : s.sieves.contains p = false) : Kp409.step (some s) (.addSieve p) = (some ⟨s.sizes, s.sieves.filter (fun q => decide (q < p)) ++ [p] ++ s.sieves.filter (fun q => decide (p < q))⟩, Kp409.single (amtOf s.sizes (s.sieves.filter (fun q => decide (q < p)) ++ [p] ++ s.sieves.filter (fun q => decide (p < q))) : Nat)) := by
  refine (if_neg (by omega)).trans ((if_neg (by rw [h2]; decide)).trans ?_)
  rw [insert_is p s.sieves F.good.1 (by simpa using h2), amt_is]
theorem good_as {p : Nat} (F : Fit s) (h : 1 ≤ p ∧ p < s.sizes.length) (h2 : s.sieves.contains p = false) : Good s.sizes.length (s.sieves.filter (fun q => decide (q < p)) ++ [p] ++ s.sieves.filter (fun q => decide (p < q))) := by
  rw [← insert_is p s.sieves F.good.1 (by simpa using h2)]
  exact insert_good F.good h (by simpa using h2)
theorem st_rs1 {p : Nat} (h : s.sieves.contains p = false) : Kp409.step (some s) (.removeSieve p) = (some s, Kp409.single (-2)) := if_neg (by rw [h]; decide)
theorem st_rs2 {p : Nat} (h : s.sieves.contains p = true) : Kp409.step (some s) (.removeSieve p) = (some ⟨s.sizes, s.sieves.filter fun q => q != p⟩, Kp409.single (amtOf s.sizes (s.sieves.filter fun q => q != p) : Nat)) := by
  refine (if_pos h).trans ?_
  rw [amt_is]
theorem inV_nums (p : Nat) : ∀ l : List Nat, inV (.int (p : Int)) (nums l) = l.contains p
  | [] => rfl
  | x :: r => by
    have ih := inV_nums p r
    show (eqV (.int (x : Int)) (.int (p : Int)) || inV (.int (p : Int)) (nums r)) = _
    rw [ih, List.contains_cons]
    have e : eqV (.int (x : Int)) (.int (p : Int)) = (p == x) := by
      show ((x : Int) == (p : Int)) = (p == x)
      rw [Bool.eq_iff_iff, beq_iff_eq, beq_iff_eq]
      omega
    rw [e]
theorem flat_nums : ∀ l : List Nat, (nums l).all flatV = true
  | [] => rfl
  | x :: r => by
    have ih := flat_nums r
    show (true && (nums r).all flatV) = true
    rw [ih]
    rfl
/-! ### evaluate_sieves, destination, yields -/
theorem st_ev1 {l : List Nat} (h : areFrom s.sizes.length 0 l = false) : Kp409.step (some s) (.evaluateSieves l) = (some s, Kp409.single (-22)) := by
  show (some s, if Kp409.validSieves s l = true then _ else _) = _
  rw [if_neg (by rw [← areFrom_valid, h]; decide)]
theorem st_ev2 {l : List Nat} (h : areFrom s.sizes.length 0 l = true) : Kp409.step (some s) (.evaluateSieves l) = (some s, Kp409.natResult (amtOf s.sizes l) [wgtOf s.sizes l]) := by
  show (some s, if Kp409.validSieves s l = true then _ else _) = _
  rw [if_pos (by rw [← areFrom_valid, h]), amt_is, wgt_is]
theorem st_de1 {n : Nat} (h : ¬ n < s.sizes.length) : Kp409.step (some s) (.destination n) = (some s, Kp409.single (-2)) := by
  show (some s, if s.sizes.length ≤ n then _ else _) = _
  rw [if_pos (by omega)]
theorem st_de2 {n : Nat} (F : Fit s) (h : n < s.sizes.length) : Kp409.step (some s) (.destination n) = (some s, Kp409.single (if Kp409.totalBran (atFrom n 0 [] (clsOf s.sizes s.sieves)) ≤ Kp409.totalFlour (atFrom n 0 [] (clsOf s.sizes s.sieves)) then 1 else 0)) := by
  show (some s, if s.sizes.length ≤ n then _ else Kp409.single (if Kp409.goesToFlour (Kp409.classOf s n) = true then 1 else 0)) = _
  rw [if_neg (by omega), ← classOf_is s n F.good, classes_is]
  unfold Kp409.goesToFlour clsOf
  simp only [decide_eq_true_eq]
theorem st_yi : Kp409.step (some s) .yields = (some s, Kp409.natResult (((clsOf s.sizes s.sieves).filter Kp409.goesToFlour).map Kp409.totalFlour).sum [(((clsOf s.sizes s.sieves).filter Kp409.goesToFlour).map Kp409.totalBran).sum, Kp409.totalFlour s.sizes, Kp409.totalBran s.sizes]) := by
  show (some s, Kp409.natResult (((Kp409.classes s s.sieves).filter Kp409.goesToFlour).map Kp409.totalFlour).sum [(((Kp409.classes s s.sieves).filter Kp409.goesToFlour).map Kp409.totalBran).sum, Kp409.totalFlour s.sizes, Kp409.totalBran s.sizes]) = _
  rw [classes_is]
  rfl
end
end Sv
namespace Sv
open PySem PySem.Spec PyProof.Rows L2
open Kp409 (SizeFraction Sifter)
section
variable {P : Program} {w : World} {K : PySem.W.Frag} {mg : Str → Option Value} {base : Heap}
/-! ### add_size -/
abbrev sAdd : Stmt := me 3
theorem scAdd : FnScope ["self", "flour", "bran"] ["self", "flour", "bran"] (defScope sAdd) := ⟨rfl, rfl, rfl, by decide +kernel, rfl, by decide +kernel, by decide +kernel⟩
theorem ok_add {f C : Addr} {fd : FuncData} (F : Fun K "add_size" "Sifter.add_size" sAdd f fd) (T : Cl K C) (B : Bt mg) (N : Cn mg) (DIa : Df P w K mg base "is_amount" 1 ["flour", "bran"] spIsAm) : FnOk P w K mg base CX0 2 f fd ["self", "flour", "bran"] (spOp C (arg2 .addSize)) := by
  obtain ⟨fIa, fdIa, mIa, kIa, GIa, bIa⟩ := DIa
  refine F.ok scAdd (fun vs H Q E h => ?_) (fun cdv A outer s0 H vs Q E hr h => ?_)
  · obtain ⟨a, fo, xs, s, c, ws, rfl, ⟨n, m, rfl, rfl⟩, _⟩ := h
    rfl
  · obtain ⟨a, fo, xs, s, c, ws, rfl, ⟨n, m, rfl, rfl⟩, hf, hat, k⟩ := h
    obtain ⟨dx, p, q, ha, R, hq, np, nq, fit⟩ := id hat
    refine ⟨_, pss_cons (ps_if (pt_not (pt_val (pe_call GIa (hr.mono (by decide)) rfl mIa kIa bIa .nil pass0 (pa_cons (pv 1) (pa_cons (pv 2) pa_nil))))) (pss_one (ps_ret (pe_lst (pa_cons (pe_const (by rfl) N.outside) pa_nil)))) pss_nil)
      (pss_cons (ps_if (pt_cmpR op_ge (pe_callB call_len_seq (by rfl) B.len PySem.boot_len (pa_cons (pe_fld (pv 0) rfl) pa_nil)) (pe_const (by rfl) N.mostSizes) (nomark _)) (pss_one (ps_ret (pe_lst (pa_cons (pe_const (by rfl) N.tooMany) pa_nil)))) pss_nil)
      (pss_cons (ps_fld (pv 0) (pe_op op_cat (pe_fld (pv 0) rfl) (pe_lst (pa_cons (pe_tup (pa_cons (pv 1) (pa_cons (pv 2) pa_nil))) pa_nil))) rfl)
      (pss_one (ps_ret (pe_lst (pa_cons (pe_op op_sub (pe_callB call_len_seq (by rfl) B.len PySem.boot_len (pa_cons (pe_fld (pv 0) rfl) pa_nil)) pe_int) pa_nil)))))), ?_⟩
    refine ⟨_, rfl, _, rfl, n, m, rfl, _, rfl, ?_⟩
    cases hv : Kp409.validAmounts n m with
    | false => exact iteT ⟨one_line, fun r hr2 => fin_new k hf hat (Keeps.refl a H) hr2 (st_add1 hv) rfl⟩
    | true =>
    refine iteF ?_
    obtain ⟨ps, h1, h2, h3⟩ := id R
    have hl : (ps.map fun p => V.ref p.1).length = s.sizes.length := by rw [← h2, List.length_map, List.length_map]
    refine ⟨_, rfl, a, C, dx, _, _, rfl, ha, T.cl, T.nZ, lkZ, p, _, rfl, .inl (SqL.of h1), _, _, rfl, rfl, _, rfl, ite2 (fun g => ?_) (fun g => ?_)⟩
    · have g' : 10 ≤ s.sizes.length := by have := of_decide_eq_true g; omega
      exact ⟨one_line, fun r hr2 => fin_new k hf hat (Keeps.refl a H) hr2 (st_add2 hv g') rfl⟩
    · have g' : ¬ 10 ≤ s.sizes.length := fun z => g (decide_eq_true (by omega))
      refine ⟨_, rfl, a, C, dx, _, _, rfl, ha, T.cl, T.nZ, lkZ, _, rfl, _, rfl, (by show 2 ≤ sizeLine; decide), fun t ht => ⟨one_line, fun d hd => ?_⟩⟩
      have s1 : Same H (upd H t (.tup [.int (n : Int), .int (m : Int)])) := same_new ht
      have s2 : Same H (upd (upd H t (.tup [.int (n : Int), .int (m : Int)])) d (.lst [.ref t])) := s1.trans (same_new hd)
      refine ⟨p, d, _, _, rfl, rfl, s2 _ _ h1, upd_same, small_line (by rw [hl]; show _ + 1 ≤ _; omega), fun e he => ?_⟩
      have t2 : (upd (upd H t (.tup [.int (n : Int), .int (m : Int)])) d (.lst [.ref t])) t = some (.tup [.int (n : Int), .int (m : Int)]) := same_new hd _ _ upd_same
      have e1 := s2.free he
      generalize upd (upd H t (.tup [.int (n : Int), .int (m : Int)])) d (.lst [.ref t]) = H2 at s2 t2 he
      have s3 : Same H (upd H2 e (.lst ((ps.map fun p => V.ref p.1) ++ [.ref t]))) := s2.trans (same_new he)
      have t3 : (upd H2 e (.lst ((ps.map fun p => V.ref p.1) ++ [.ref t]))) t = some (.tup [.int (n : Int), .int (m : Int)]) := same_new he _ _ t2
      have e3 : (upd H2 e (.lst ((ps.map fun p => V.ref p.1) ++ [.ref t]))) e = some (.lst ((ps.map fun p => V.ref p.1) ++ [.ref t])) := upd_same
      generalize upd H2 e (.lst ((ps.map fun p => V.ref p.1) ++ [.ref t])) = H3 at s3 t3 e3 ⊢
      refine ⟨_, rfl, a, C, dx, _, rfl, s3 _ _ ha, T.cl, T.nZ, (by show 3 < 1000; decide), ?_⟩
      rw [ptZ]
      have R3 : RowsAt szV H3 e (s.sizes ++ [⟨n, m⟩]) := rows_push h2 (fun p hp => s3 _ _ (h3 p hp)) t3 e3
      have k4 : Keeps a H3 (upd H3 a (.ins C dx (flds true e q))) := keeps_put
      have a3 := s3 _ _ ha
      have a4 : (upd H3 a (.ins C dx (flds true e q))) a = some (.ins C dx (flds true e q)) := upd_same
      generalize upd H3 a (.ins C dx (flds true e q)) = H4 at k4 a4 ⊢
      obtain ⟨qs, r1, r2, r3⟩ := id (k4.rows a3 R3)
      have at4 : At C fo H4 a true ⟨s.sizes ++ [⟨n, m⟩], s.sieves⟩ := ⟨dx, e, q, a4, k4.rows a3 R3, k4.lst a3 (s3 _ _ hq), Ne.symm (ne_of_none hf e1), nq, fit_add fit hv g'⟩
      refine ⟨_, rfl, a, C, dx, _, _, rfl, a4, T.cl, T.nZ, lkZ, e, _, rfl, .inl (SqL.of r1), _, _, rfl, rfl, one_line, fun r hr2 => ?_⟩
      refine fin_new k (k4.lst a3 (s3 _ _ hf)) at4 ((keeps s3).then k4) hr2 (st_add3 hv g') ?_
      have hl2 : ((qs.map fun p => V.ref p.1).length : Int) - 1 = (s.sizes.length : Int) := by
        rw [List.length_map, ← List.length_map (as := qs) (f := (·.2)), r2, List.length_append, List.length_singleton]
        omega
      show [V.int (((qs.map fun p => V.ref p.1).length : Int) - 1)] = [V.int (s.sizes.length : Int)]
      rw [hl2]
theorem rows_len {T : Type} {ps : List (Addr × T)} {l : List T} (h : ps.map (·.2) = l) : (ps.map fun p => V.ref p.1).length = l.length := by
  rw [← h, List.length_map, List.length_map]
/-! ### get_sizes -/
abbrev sGsz : Stmt := me 6
theorem scGsz : FnScope ["self", "found", "flour", "bran"] ["self"] (defScope sGsz) := ⟨rfl, rfl, rfl, by decide +kernel, rfl, by decide +kernel, by decide +kernel⟩
theorem ok_gsz {f C : Addr} {fd : FuncData} (F : Fun K "get_sizes" "Sifter.get_sizes" sGsz f fd) (T : Cl K C) (B : Bt mg) : FnOk P w K mg base CX0 1 f fd ["self"] (spOp C (arg0 .getSizes)) := by
  refine F.ok scGsz (fun vs H Q E h => ?_) (fun cdv A outer s0 H vs Q E hr h => ?_)
  · obtain ⟨a, fo, xs, s, c, ws, rfl, ⟨rfl, rfl⟩, _⟩ := h
    rfl
  · obtain ⟨a, fo, xs, s, c, ws, rfl, ⟨rfl, rfl⟩, hf, hat, k⟩ := h
    obtain ⟨dx, p, q, ha, R, hq, np, nq, fit⟩ := id hat
    refine ⟨_, pss_cons (ps_set (i := 1) scGsz.nd rfl (.inl rfl) (pe_lst (pa_cons (pe_callB call_len_seq (by rfl) B.len PySem.boot_len (pa_cons (pe_fld (pv 0) rfl) pa_nil)) pa_nil)))
      (pss_cons (ps_for PassesOwn.never rfl (pi_list (pe_fld (pv 0) rfl)) (pg_tup (by rfl) (pgs_cons (pg_name (i := 2) scGsz.nd rfl (.inl rfl)) (pgs_cons (pg_name (i := 3) scGsz.nd rfl (.inl rfl)) pgs_nil)))
        (pss_cons (ps_expr (pe_bm PySem.F.plainAttrs_list PySem.F.slot_list_append PySem.F.type_list_append mt_append (pv 1) (pa_cons (pv 2) pa_nil)))
        (pss_one (ps_expr (pe_bm PySem.F.plainAttrs_list PySem.F.slot_list_append PySem.F.type_list_append mt_append (pv 1) (pa_cons (pv 3) pa_nil))))))
      (pss_one (ps_ret (pv 1)))), ?_⟩
    obtain ⟨ps, h1, h2, h3⟩ := id R
    refine ⟨_, rfl, a, C, dx, _, _, rfl, ha, T.cl, T.nZ, lkZ, p, _, rfl, .inl (SqL.of h1), one_line, fun g hg => ?_⟩
    have e0 : [V.int ((ps.map fun p => V.ref p.1).length : Int)] = V.int (s.sizes.length : Int) :: nums [] := by rw [rows_len h2]; rfl
    rw [e0]
    have hfew := fit.few
    have s1 : Same H (upd H g (.lst (V.int (s.sizes.length : Int) :: nums []))) := same_new hg
    refine ⟨_, rfl, a, C, dx, _, _, rfl, s1 _ _ ha, T.cl, T.nZ, lkZ, p, rfl, ⟨_, SqL.of (s1 _ _ h1)⟩, for_list (K := K) (a := p) (xs := ps.map fun p => V.ref p.1) (fun i σ H' => ∃ u v, σ = [some (.ref a), some (.ref g), u, v] ∧ Same H H' ∧ H' g = some (.lst (V.int (s.sizes.length : Int) :: nums ((s.sizes.take i).flatMap fun x => [x.flour, x.bran]))) ∧ ((s.sizes.take i).flatMap fun x => [x.flour, x.bran]).length = 2 * i)
      ⟨none, none, rfl, s1, upd_same, rfl⟩ (fun i σ H' _ ⟨_, _, _, e, _⟩ => SqL.of (e _ _ h1)) ?_ ?_⟩
    · rintro i x σ H' hi ⟨u, v, rfl, sH, hg2, hl2⟩
      obtain ⟨y, e1, my, rfl, e2⟩ := get_ref hi
      have hil := (List.getElem?_eq_some_iff.mp e2).1
      rw [h2] at e2 hil
      have t1 : H' y.1 = some (szV y.2) := sH _ _ (h3 y my)
      refine ⟨y.1, _, rfl, SqT.of t1, rfl, _, _, rfl, _, _, rfl, rfl, ?_⟩
      refine ⟨_, rfl, .inl ⟨rfl, _, SqL.of hg2⟩, _, rfl, g, _, _, rfl, rfl, hg2, lt_line (by rw [List.length_cons, nums_length, hl2]; omega), ?_⟩
      have hg3 : (upd H' g (.lst ((V.int (s.sizes.length : Int) :: nums ((s.sizes.take i).flatMap fun x => [x.flour, x.bran])) ++ [.int (y.2.flour : Int)]))) g = _ := upd_same
      refine ⟨_, rfl, .inl ⟨rfl, _, SqL.of hg3⟩, _, rfl, g, _, _, rfl, rfl, hg3, lt_line (by rw [List.length_append, List.length_cons, nums_length, hl2, List.length_singleton]; omega), ?_⟩
      refine ⟨some (.int y.2.flour), some (.int y.2.bran), rfl, fun b o hb => ?_, ?_, ?_⟩
      · have n1 : b ≠ g := ne_of_none hb hg
        rw [upd_ne n1, upd_ne n1]
        exact sH _ _ hb
      · rw [upd_same, take_some e2, List.flatMap_append, nums_append]
        simp [nums]
      · rw [take_some e2, List.flatMap_append, List.length_append, hl2]
        show 2 * i + 2 = _
        omega
    · rintro σ H' ⟨u, v, rfl, sH, hg2, hl2⟩
      refine ⟨_, rfl, ?_⟩
      rw [rows_len h2, List.take_length] at hg2
      exact k H' g s _ st_sz (keeps sH) (Ne.symm (ne_of_none hf hg)) (hat.same sH) (by rw [told_nat]; exact hg2)
end
end Sv
namespace Sv
open PySem PySem.Spec PyProof.Rows L2
open Kp409 (SizeFraction Sifter)

/-! ### sizes as data, slices, what a comprehension keeps -/
def szD (l : List SizeFraction) : List PyData := l.map fun x => PyData.tuple [.int (x.flour : Int), .int (x.bran : Int)]
theorem dp_rows {K : PySem.W.Frag} {H : Hp} : ∀ {ps : List (Addr × SizeFraction)}, (∀ p ∈ ps, H p.1 = some (szV p.2)) → DpAll K H (ps.map fun p => V.ref p.1) (szD (ps.map (·.2)))
  | [], _ => .nil
  | p :: r, h => .cons (.tup (SqT.of (h p (by simp))) (.cons (.int _) (.cons (.int _) .nil))) (dp_rows fun q hq => h q (List.mem_cons_of_mem _ hq))
theorem szD_depth : ∀ l : List SizeFraction, PyData.depthAll (szD l) ≤ 1
  | [] => Nat.zero_le _
  | x :: r => by
    have ih := szD_depth r
    show max (PyData.depth (PyData.tuple [.int (x.flour : Int), .int (x.bran : Int)])) (PyData.depthAll (szD r)) ≤ 1
    exact Nat.max_le.mpr ⟨Nat.le_refl 1, ih⟩
theorem szD_lay : ∀ l : List SizeFraction, PyData.canLayAll0 (szD l) = true
  | [] => rfl
  | x :: r => by
    have ih := szD_lay r
    show (PyData.canLay0 (PyData.tuple [.int (x.flour : Int), .int (x.bran : Int)]) && PyData.canLayAll0 (szD r)) = true
    rw [ih]
    rfl
theorem szD_shaped (l : List SizeFraction) : SeqAt.shaped (.list (szD l)) = true := by
  have h := szD_depth l
  show (PyData.canLayAll0 (szD l) && decide (PyData.depthAll (szD l) + 1 ≤ 64)) = true
  rw [szD_lay, decide_eq_true (by omega)]
  rfl
theorem szD_nil (l : List SizeFraction) : PyData.eqv (.list (szD l)) (.list []) = l.isEmpty := by
  cases l <;> rfl
theorem cut_to {xs : List V} {n : Nat} : cutV xs none (some (n : Int)) = xs.take n := by
  unfold cutV
  rw [HT.sIx_none, HT.sIx_nat, List.drop_zero, Nat.sub_zero, ← List.take_eq_take_min]
theorem cut_from {xs : List V} {n : Nat} : cutV xs (some (n : Int)) none = xs.drop n := by
  unfold cutV
  rw [HT.sIx_none, HT.sIx_nat]
  by_cases c : n ≤ xs.length
  · rw [Nat.min_eq_left c]
    exact List.take_of_length_le (by rw [List.length_drop]; omega)
  · rw [Nat.min_eq_right (by omega), Nat.sub_self, List.take_zero, List.drop_eq_nil_of_le (by omega)]
theorem filt_yes {l : List Nat} {i y : Nat} {p : Nat → Bool} (h : l[i]? = some y) (hp : p y = true) : (l.take (i + 1)).filter p = (l.take i).filter p ++ [y] := by
  rw [take_some h, List.filter_append, List.filter_cons_of_pos hp]
  rfl
theorem filt_no {l : List Nat} {i y : Nat} {p : Nat → Bool} (h : l[i]? = some y) (hp : p y = false) : (l.take (i + 1)).filter p = (l.take i).filter p := by
  rw [take_some h, List.filter_append, List.filter_cons_of_neg (by rw [hp]; decide)]
  simp
theorem filt_len {l : List Nat} {i n : Nat} {p : Nat → Bool} (h : Good n l) : ((l.take i).filter p).length ≤ n := by
  have h1 := List.length_filter_le p (l.take i)
  have h2 : (l.take i).length ≤ l.length := List.length_take_le' i l
  have h3 := h.len
  omega
theorem ne_int (y n : Nat) : (!decide (V.int (y : Int) = V.int (n : Int))) = (y != n) := by
  rw [dec_int]
  show (!((y : Int) == (n : Int))) = !(y == n)
  congr 1
  rw [Bool.eq_iff_iff, beq_iff_eq, beq_iff_eq]
  omega
section
variable {P : Program} {w : World} {K : PySem.W.Frag} {mg : Str → Option Value} {base : Heap}
/-! ### remove_last_size -/
abbrev sRem : Stmt := me 4
theorem scRem : FnScope ["self", "last", "position"] ["self"] (defScope sRem) := ⟨rfl, rfl, rfl, by decide +kernel, rfl, by decide +kernel, by decide +kernel⟩
theorem ok_rem {f C : Addr} {fd : FuncData} (F : Fun K "remove_last_size" "Sifter.remove_last_size" sRem f fd) (T : Cl K C) (B : Bt mg) (N : Cn mg) : FnOk P w K mg base CX0 1 f fd ["self"] (spOp C (arg0 .removeLastSize)) := by
  refine F.ok scRem (fun vs H Q E h => ?_) (fun cdv A outer s0 H vs Q E hr h => ?_)
  · obtain ⟨a, fo, xs, s, c, ws, rfl, ⟨rfl, rfl⟩, _⟩ := h
    rfl
  · obtain ⟨a, fo, xs, s, c, ws, rfl, ⟨rfl, rfl⟩, hf, hat, k⟩ := h
    obtain ⟨dx, p, q, ha, R, hq, np, nq, fit⟩ := id hat
    refine ⟨_, pss_cons (ps_if (pt_cmpR (op_eqD hr.units) (pe_fld (pv 0) rfl) (pe_lst pa_nil) (nomark _)) (pss_one (ps_ret (pe_lst (pa_cons (pe_const (by rfl) N.nothing) pa_nil)))) pss_nil)
      (pss_cons (ps_set (i := 1) scRem.nd rfl (Or.inr rfl) (pe_op op_sub (pe_callB call_len_seq (by rfl) B.len PySem.boot_len (pa_cons (pe_fld (pv 0) rfl) pa_nil)) pe_int))
      (pss_cons (ps_fld (pv 0) (pe_slice sl_list (pe_fld (pv 0) rfl) po_none (po_some (pv 1))) rfl)
      (pss_cons (ps_fld (pv 0) (pe_lc (own := [("position", 2)]) (g := gName 2) (tt := _) rfl scRem.nd (pi_list (pe_fld (pv 0) rfl)) (blkOk_by (N := ["self", "last", "position"]) (sc := defScope sRem) (by decide +kernel)) (fun _ _ _ _ _ => pg_name (i := 2) scRem.nd rfl (Or.inl rfl)) (fun _ _ _ _ _ => pts_one (pt_cmpR op_ne (pv 2) (pv 1) (nomark _))) (fun _ _ _ _ _ => pv 2)) rfl)
      (pss_one (ps_ret (pe_lst (pa_cons (pv 1) pa_nil))))))), ?_⟩
    obtain ⟨ps, h1, h2, h3⟩ := id R
    refine ⟨_, rfl, a, C, dx, _, _, rfl, ha, T.cl, T.nZ, lkZ, Nat.zero_le _, fun em hem => ?_⟩
    have s1 : Same H (upd H em (.lst [])) := same_new hem
    have em1 : (upd H em (.lst [])) em = some (.lst []) := upd_same
    generalize upd H em (.lst []) = H1 at s1 em1 ⊢
    refine ⟨_, _, .lst (SqL.of (s1 _ _ h1)) (dp_rows fun p hp => s1 _ _ (h3 p hp)), .lst (SqL.of em1) .nil, szD_shaped _, rfl, _, rfl, ?_⟩
    rw [h2, szD_nil]
    by_cases c : s.sizes = []
    · have e : s.sizes.isEmpty = true := by rw [c]; rfl
      rw [e]
      exact iteT ⟨one_line, fun r hr2 => fin_new k (s1 _ _ hf) (hat.same s1) (keeps s1) hr2 (st_rem1 c) rfl⟩
    have e : s.sizes.isEmpty = false := by simpa using c
    rw [e]
    refine iteF ?_
    have hpos : 0 < s.sizes.length := List.length_pos_iff.mpr c
    have ha1 := s1 _ _ ha
    have el : ((ps.map fun p => V.ref p.1).length : Int) - 1 = ((s.sizes.length - 1 : Nat) : Int) := by
      rw [← h2, List.length_map, List.length_map] at *
      omega
    refine ⟨_, rfl, a, C, dx, _, _, rfl, ha1, T.cl, T.nZ, lkZ, p, _, rfl, .inl (SqL.of (s1 _ _ h1)), _, _, rfl, rfl, ?_⟩
    dsimp only
    rw [el]
    have fr := st_rem2 fit c
    have fi := fit_rem fit
    generalize hn : s.sizes.length - 1 = n at *
    refine ⟨_, rfl, a, C, dx, _, _, rfl, ha1, T.cl, T.nZ, lkZ, _, rfl, _, rfl, p, _, rfl, SqL.of (s1 _ _ h1), fun d hd => ?_⟩
    rw [cut_to]
    have fd : H fo = some (.lst xs) := hf
    have s2 : Same H (upd H1 d (.lst ((ps.map fun p => V.ref p.1).take n))) := s1.trans (same_new hd)
    have ndf : d ≠ fo := Ne.symm (ne_of_none (s1 _ _ hf) hd)
    have d2 : (upd H1 d (.lst ((ps.map fun p => V.ref p.1).take n))) d = some (.lst ((ps.map fun p => V.ref p.1).take n)) := upd_same
    generalize upd H1 d (.lst ((ps.map fun p => V.ref p.1).take n)) = H2 at s2 d2 ⊢
    have ha2 := s2 _ _ ha
    have R2 : RowsAt szV H2 d (s.sizes.take n) := ⟨ps.take n, by rw [d2, List.map_take], by rw [List.map_take, h2], fun p hp => s2 _ _ (h3 p (List.mem_of_mem_take hp))⟩
    refine ⟨_, rfl, a, C, dx, _, rfl, ha2, T.cl, T.nZ, (by show 3 < 1000; decide), ?_⟩
    rw [ptZ]
    have k3 : Keeps a H2 (upd H2 a (.ins C dx (flds true d q))) := keeps_put
    have a3 : (upd H2 a (.ins C dx (flds true d q))) a = some (.ins C dx (flds true d q)) := upd_same
    generalize upd H2 a (.ins C dx (flds true d q)) = H3 at k3 a3 ⊢
    have q3 := k3.lst ha2 (s2 _ _ hq)
    refine ⟨_, rfl, a, C, dx, _, _, rfl, a3, T.cl, T.nV, lkV, q, rfl, ⟨_, SqL.of q3⟩, fun D hD => lc_list (K := K) (a := q) (xs := nums s.sieves) (fun i H' => Same H3 H' ∧ H' D = some (rwV ((s.sieves.take i).filter fun p => p != n))) ⟨same_new hD, upd_same⟩ (fun i H' _ ⟨e, _⟩ => SqL.of (e _ _ q3)) ?_ ?_⟩
    · rintro i x H' hi ⟨sH, hD2⟩
      obtain ⟨y, hy, rfl⟩ := get_num hi
      refine ⟨rfl, _, rfl, _, rfl, rfl, _, rfl, ?_⟩
      rw [ne_int]
      cases t : (y != n) with
      | true =>
        refine iteT ⟨_, rfl, _, hD2, lt_line (by rw [nums_length]; have := filt_len (i := i) (p := fun p => p != n) fit.good; have := fit.few; omega), fun b o hb => ?_, ?_⟩
        · rw [upd_ne (ne_of_none hb hD)]
          exact sH _ _ hb
        · rw [upd_same, filt_yes hy t]
          unfold rwV
          rw [nums_append]
          rfl
      | false =>
        refine iteF ⟨sH, ?_⟩
        rw [filt_no hy t]
        exact hD2
    · rintro H' ⟨sH, hD2⟩
      rw [nums_length, List.take_length] at hD2
      have a4 := sH _ _ a3
      refine ⟨_, rfl, a, C, dx, _, rfl, a4, T.cl, T.nV, (by show 3 < 1000; decide), ?_⟩
      rw [ptV]
      have k5 : Keeps a H' (upd H' a (.ins C dx (flds true d D))) := keeps_put
      have a5 : (upd H' a (.ins C dx (flds true d D))) a = some (.ins C dx (flds true d D)) := upd_same
      generalize upd H' a (.ins C dx (flds true d D)) = H5 at k5 a5 ⊢
      have kk : Keeps a H2 H5 := (k3.same sH).then k5
      refine ⟨_, rfl, one_line, fun r hr2 => ?_⟩
      refine fin_new (s' := ⟨s.sizes.take n, s.sieves.filter fun p => p != n⟩) k (kk.lst ha2 (s2 _ _ hf)) ⟨dx, d, D, a5, kk.rows ha2 R2, k5.lst a4 hD2, ndf, Ne.symm (ne_of_none (k3.lst ha2 (s2 _ _ hf)) hD), fi⟩ ((keeps s2).then kk) hr2 fr rfl
/-! ### set_size -/
abbrev sSet : Stmt := me 5
theorem scSet : FnScope ["self", "size", "flour", "bran", "old_flour", "old_bran"] ["self", "size", "flour", "bran"] (defScope sSet) := ⟨rfl, rfl, rfl, by decide +kernel, rfl, by decide +kernel, by decide +kernel⟩
theorem ok_set {f C : Addr} {fd : FuncData} (F : Fun K "set_size" "Sifter.set_size" sSet f fd) (T : Cl K C) (B : Bt mg) (N : Cn mg) (DHa : Mt P w K mg base C "has_size" 1 ["self", "size"] (spHas C)) (DIa : Df P w K mg base "is_amount" 1 ["flour", "bran"] spIsAm) : FnOk P w K mg base CX0 2 f fd ["self", "size", "flour", "bran"] (spOp C (arg3 .setSize)) := by
  obtain ⟨fHa, fdHa, mHa, GHa, bHa⟩ := DHa
  obtain ⟨fIa, fdIa, mIa, kIa, GIa, bIa⟩ := DIa
  refine F.ok scSet (fun vs H Q E h => ?_) (fun cdv A outer s0 H vs Q E hr h => ?_)
  · obtain ⟨a, fo, xs, s, c, ws, rfl, ⟨n, m, j, rfl, rfl⟩, _⟩ := h
    rfl
  · obtain ⟨a, fo, xs, s, c, ws, rfl, ⟨n, m, j, rfl, rfl⟩, hf, hat, k⟩ := h
    obtain ⟨dx, p, q, ha, R, hq, np, nq, fit⟩ := id hat
    refine ⟨_, pss_cons (ps_if (pt_not (pt_val (pe_meth (pv 0) T.cl mHa GHa (hr.mono (by decide)) bHa .nil pass0 (pa_cons (pv 1) pa_nil)))) (pss_one (ps_ret (pe_lst (pa_cons (pe_const (by rfl) N.notThere) pa_nil)))) pss_nil)
      (pss_cons (ps_if (pt_not (pt_val (pe_call GIa (hr.mono (by decide)) rfl mIa kIa bIa .nil pass0 (pa_cons (pv 2) (pa_cons (pv 3) pa_nil))))) (pss_one (ps_ret (pe_lst (pa_cons (pe_const (by rfl) N.outside) pa_nil)))) pss_nil)
      (pss_cons (ps_asg (pe_ix ix_list (pe_fld (pv 0) rfl) (pv 1) (fun _ _ => rfl)) (pg_tup (by rfl) (pgs_cons (pg_name (i := 4) scSet.nd rfl (.inl rfl)) (pgs_cons (pg_name (i := 5) scSet.nd rfl (.inl rfl)) pgs_nil))))
      (pss_cons (ps_fld (pv 0) (pe_op op_cat (pe_op op_cat (pe_slice sl_list (pe_fld (pv 0) rfl) po_none (po_some (pv 1))) (pe_lst (pa_cons (pe_tup (pa_cons (pv 2) (pa_cons (pv 3) pa_nil))) pa_nil))) (pe_slice sl_list (pe_fld (pv 0) rfl) (po_some (pe_op op_add (pv 1) pe_int)) po_none)) rfl)
      (pss_one (ps_ret (pe_lst (pa_cons pe_int (pa_cons (pv 4) (pa_cons (pv 5) pa_nil))))))))), ?_⟩
    refine ⟨_, rfl, a, dx, _, rfl, ha, lk_no, _, rfl, a, fo, true, s, n, rfl, hat, _, rfl, ?_⟩
    by_cases c : n < s.sizes.length
    case neg =>
      rw [decide_eq_false c]
      exact iteT ⟨one_line, fun r hr2 => fin_new k hf hat (Keeps.refl a H) hr2 (st_set1 c) rfl⟩
    rw [decide_eq_true c]
    refine iteF ⟨_, rfl, _, rfl, m, j, rfl, _, rfl, ?_⟩
    cases hv : Kp409.validAmounts m j with
    | false => exact iteT ⟨one_line, fun r hr2 => fin_new k hf hat (Keeps.refl a H) hr2 (st_set2 c hv) rfl⟩
    | true =>
    refine iteF ?_
    obtain ⟨ps, h1, h2, h3⟩ := id R
    have few : ps.length ≤ 10 := by
      have h := fit.few
      rw [← h2, List.length_map] at h
      exact h
    have hx : s.sizes[n]? = some s.sizes[n] := List.getElem?_eq_getElem c
    have fr := st_set3 hx hv
    have fi := fit_set fit c hv
    generalize s.sizes[n] = x at hx fr
    obtain ⟨y, e1, my, e2, e3⟩ := get_row (h2 ▸ hx)
    subst e2
    refine ⟨_, rfl, a, C, dx, _, _, rfl, ha, T.cl, T.nZ, lkZ, _, rfl, p, _, _, _, rfl, rfl, SqL.of h1, at_of (j := n) rfl e3, ?_⟩
    refine ⟨y.1, _, rfl, SqT.of (h3 y my), rfl, _, _, rfl, _, _, rfl, rfl, ?_⟩
    refine ⟨_, rfl, a, C, dx, _, _, rfl, ha, T.cl, T.nZ, lkZ, _, rfl, _, rfl, p, _, rfl, SqL.of h1, fun c1 hc1 => ?_⟩
    rw [cut_to]
    have s1 : Same H (upd H c1 (.lst ((ps.map fun p => V.ref p.1).take n))) := same_new hc1
    have v1 : (upd H c1 (.lst ((ps.map fun p => V.ref p.1).take n))) c1 = some (.lst ((ps.map fun p => V.ref p.1).take n)) := upd_same
    generalize upd H c1 (.lst ((ps.map fun p => V.ref p.1).take n)) = H1 at s1 v1 ⊢
    refine ⟨_, rfl, _, rfl, (by show 2 ≤ sizeLine; decide), fun t ht => ⟨one_line, fun d hd => ?_⟩⟩
    have s2 : Same H1 (upd (upd H1 t (.tup [.int (m : Int), .int (j : Int)])) d (.lst [.ref t])) := (same_new ht).trans (same_new hd)
    have t2 : (upd (upd H1 t (.tup [.int (m : Int), .int (j : Int)])) d (.lst [.ref t])) t = some (szV ⟨m, j⟩) := same_new hd _ _ upd_same
    have d2 : (upd (upd H1 t (.tup [.int (m : Int), .int (j : Int)])) d (.lst [.ref t])) d = some (.lst [.ref t]) := upd_same
    generalize upd (upd H1 t (.tup [.int (m : Int), .int (j : Int)])) d (.lst [.ref t]) = H2 at s2 t2 d2 ⊢
    refine ⟨c1, d, _, _, rfl, rfl, s2 _ _ v1, d2, small_line (by rw [List.length_take, List.length_map]; show _ + 1 ≤ _; omega), fun e he => ?_⟩
    have s3 : Same H2 (upd H2 e (.lst ((ps.map fun p => V.ref p.1).take n ++ [.ref t]))) := same_new he
    have v3 : (upd H2 e (.lst ((ps.map fun p => V.ref p.1).take n ++ [.ref t]))) e = some (.lst ((ps.map fun p => V.ref p.1).take n ++ [.ref t])) := upd_same
    generalize upd H2 e (.lst ((ps.map fun p => V.ref p.1).take n ++ [.ref t])) = H3 at s3 v3 ⊢
    have sA : Same H H3 := s1.trans (s2.trans s3)
    have en : (n : Int) + 1 = ((n + 1 : Nat) : Int) := by omega
    refine ⟨_, rfl, a, C, dx, _, _, rfl, sA _ _ ha, T.cl, T.nZ, lkZ, _, rfl, _, _, rfl, rfl, _, rfl, p, _, rfl, SqL.of (sA _ _ h1), fun g hg => ?_⟩
    dsimp only
    rw [en, cut_from]
    have s4 : Same H3 (upd H3 g (.lst ((ps.map fun p => V.ref p.1).drop (n + 1)))) := same_new hg
    have v4 : (upd H3 g (.lst ((ps.map fun p => V.ref p.1).drop (n + 1)))) g = some (.lst ((ps.map fun p => V.ref p.1).drop (n + 1))) := upd_same
    generalize upd H3 g (.lst ((ps.map fun p => V.ref p.1).drop (n + 1))) = H4 at s4 v4 ⊢
    refine ⟨e, g, _, _, rfl, rfl, s4 _ _ v3, v4, small_line (by rw [List.length_append, List.length_take, List.length_drop, List.length_map, List.length_singleton]; omega), fun o ho => ?_⟩
    have nof : o ≠ fo := Ne.symm (ne_of_none ((sA.trans s4) _ _ hf) ho)
    have s5 : Same H4 (upd H4 o (.lst ((ps.map fun p => V.ref p.1).take n ++ [.ref t] ++ (ps.map fun p => V.ref p.1).drop (n + 1)))) := same_new ho
    have v5 : (upd H4 o (.lst ((ps.map fun p => V.ref p.1).take n ++ [.ref t] ++ (ps.map fun p => V.ref p.1).drop (n + 1)))) o = some (.lst ((ps.map fun p => V.ref p.1).take n ++ [.ref t] ++ (ps.map fun p => V.ref p.1).drop (n + 1))) := upd_same
    generalize upd H4 o (.lst ((ps.map fun p => V.ref p.1).take n ++ [.ref t] ++ (ps.map fun p => V.ref p.1).drop (n + 1))) = H5 at s5 v5 ⊢
    have sB : Same H H5 := sA.trans (s4.trans s5)
    have t5 : H5 t = some (szV ⟨m, j⟩) := (s3.trans (s4.trans s5)) _ _ t2
    have ha5 := sB _ _ ha
    have R5 : RowsAt szV H5 o (s.sizes.take n ++ [⟨m, j⟩] ++ s.sizes.drop (n + 1)) := by
      refine ⟨ps.take n ++ [(t, ⟨m, j⟩)] ++ ps.drop (n + 1), ?_, ?_, fun z hz => ?_⟩
      · rw [v5, List.map_append, List.map_append, List.map_take, List.map_drop]
        rfl
      · rw [List.map_append, List.map_append, List.map_take, List.map_drop, h2]
        rfl
      · rcases List.mem_append.mp hz with w | w
        · rcases List.mem_append.mp w with w | w
          · exact sB _ _ (h3 z (List.mem_of_mem_take w))
          · have ez : z = (t, ⟨m, j⟩) := by simpa using w
            subst ez
            exact t5
        · exact sB _ _ (h3 z (List.mem_of_mem_drop w))
    refine ⟨_, rfl, a, C, dx, _, rfl, ha5, T.cl, T.nZ, (by show 3 < 1000; decide), ?_⟩
    rw [ptZ]
    have k6 : Keeps a H5 (upd H5 a (.ins C dx (flds true o q))) := keeps_put
    have a6 : (upd H5 a (.ins C dx (flds true o q))) a = some (.ins C dx (flds true o q)) := upd_same
    generalize upd H5 a (.ins C dx (flds true o q)) = H6 at k6 a6 ⊢
    refine ⟨_, rfl, _, rfl, (by show 3 ≤ sizeLine; decide), fun r hr2 => ?_⟩
    exact fin_new (s' := ⟨s.sizes.take n ++ [⟨m, j⟩] ++ s.sizes.drop (n + 1), s.sieves⟩) k (k6.lst ha5 (sB _ _ hf)) ⟨dx, o, q, a6, k6.rows ha5 R5, k6.lst ha5 (sB _ _ hq), nof, nq, fi⟩ ((keeps sB).then k6) hr2 fr rfl
end
end Sv
namespace Sv
open PySem PySem.Spec PyProof.Rows L2
open Kp409 (SizeFraction Sifter)

theorem step_mis {s s' : Sifter} {y : Kp409.Ans} (h : Kp409.step (some s) .misplaced = (some s', y)) : s' = s ∧ y = Kp409.single (amtOf s.sizes s.sieves : Nat) := by
  rw [st_mis] at h
  have h1 := congrArg Prod.fst h
  have h2 := congrArg Prod.snd h
  exact ⟨(Option.some.inj h1).symm, h2.symm⟩
section
variable {P : Program} {w : World} {K : PySem.W.Frag} {mg : Str → Option Value} {base : Heap}
/-! ### set_sieves -/
abbrev sSs : Stmt := me 8
theorem scSs : FnScope ["self", "positions"] ["self", "positions"] (defScope sSs) := ⟨rfl, rfl, rfl, by decide +kernel, rfl, by decide +kernel, by decide +kernel⟩
theorem ok_ss {f C : Addr} {fd : FuncData} (F : Fun K "set_sieves" "Sifter.set_sieves" sSs f fd) (T : Cl K C) (B : Bt mg) (N : Cn mg) (DAr : Df P w K mg base "are_positions" 2 pAre spAre) (DNw : Mt P w K mg base C "amount_now" 4 ["self"] (spOp C (arg0 .misplaced))) : FnOk P w K mg base CX0 5 f fd ["self", "positions"] (spOp C (argL .setSieves)) := by
  obtain ⟨fAr, fdAr, mAr, kAr, GAr, bAr⟩ := DAr
  obtain ⟨fNw, fdNw, mNw, GNw, bNw⟩ := DNw
  refine F.ok scSs (fun vs H Q E h => ?_) (fun cdv A outer s0 H vs Q E hr h => ?_)
  · obtain ⟨a, fo, xs, s, c, ws, rfl, ⟨b, l, rfl, _, rfl⟩, _⟩ := h
    rfl
  · obtain ⟨a, fo, xs, s, c, ws, rfl, ⟨b, l, rfl, hb, rfl⟩, hf, hat, k⟩ := h
    obtain ⟨dx, p, q, ha, R, hq, np, nq, fit⟩ := id hat
    refine ⟨_, pss_cons (ps_if (pt_not (pt_val (pe_call GAr (hr.mono (by decide)) rfl mAr kAr bAr .nil pass0 (pa_cons (pv 1) (pa_cons (pe_callB call_len_seq (by rfl) B.len PySem.boot_len (pa_cons (pe_fld (pv 0) rfl) pa_nil)) pa_nil))))) (pss_one (ps_ret (pe_lst (pa_cons (pe_const (by rfl) N.outside) pa_nil)))) pss_nil)
      (pss_cons (ps_fld (pv 0) (pe_callTy call_list_of (by rfl) B.list (by decide +kernel) (pa_cons (pv 1) pa_nil)) rfl)
      (pss_one (ps_ret (pe_meth0 (pv 0) T.cl mNw GNw (hr.mono (by decide)) bNw .nil pass0)))), ?_⟩
    obtain ⟨ps, h1, h2, h3⟩ := id R
    refine ⟨_, rfl, _, rfl, a, C, dx, _, _, rfl, ha, T.cl, T.nZ, lkZ, p, _, rfl, .inl (SqL.of h1), b, s.sizes.length, l, (by rw [rows_len h2]; rfl), hb, _, rfl, ?_⟩
    cases hv : areFrom s.sizes.length 0 l with
    | false => exact iteT ⟨one_line, fun r hr2 => fin_new k hf hat (Keeps.refl a H) hr2 (st_ss1 hv) rfl⟩
    | true =>
    refine iteF ⟨_, rfl, b, _, rfl, .inl (SqL.of hb), fun d hd => ?_⟩
    have s1 : Same H (upd H d (.lst (nums l))) := same_new hd
    have d1 : (upd H d (.lst (nums l))) d = some (.lst (nums l)) := upd_same
    generalize upd H d (.lst (nums l)) = H1 at s1 d1 ⊢
    refine ⟨_, rfl, a, C, dx, _, rfl, s1 _ _ ha, T.cl, T.nV, (by show 3 < 1000; decide), ?_⟩
    rw [ptV]
    have k2 : Keeps a H1 (upd H1 a (.ins C dx (flds true p d))) := keeps_put
    have a2 : (upd H1 a (.ins C dx (flds true p d))) a = some (.ins C dx (flds true p d)) := upd_same
    generalize upd H1 a (.ins C dx (flds true p d)) = H2 at k2 a2 ⊢
    have kk : Keeps a H H2 := (keeps s1).then k2
    have at2 : At C fo H2 a true ⟨s.sizes, l⟩ := ⟨dx, p, d, a2, kk.rows ha R, k2.lst (s1 _ _ ha) d1, np, Ne.symm (ne_of_none hf hd), fit_sieves fit (are_good hv)⟩
    refine ⟨_, rfl, a, dx, _, rfl, a2, lk_no, a, fo, xs, _, .misplaced, [], rfl, ⟨rfl, rfl⟩, kk.lst ha hf, at2, fun H9 r s9 y9 e9 k9 n9 at9 r9 => ?_⟩
    obtain ⟨rfl, rfl⟩ := step_mis e9
    exact k H9 r _ _ (st_ss2 hv) (kk.then k9) n9 at9 r9
/-! ### get_sieves -/
abbrev sGsv : Stmt := me 9
theorem scGsv : FnScope ["self"] ["self"] (defScope sGsv) := ⟨rfl, rfl, rfl, by decide +kernel, rfl, by decide +kernel, by decide +kernel⟩
theorem ok_gsv {f C : Addr} {fd : FuncData} (F : Fun K "get_sieves" "Sifter.get_sieves" sGsv f fd) (T : Cl K C) (B : Bt mg) : FnOk P w K mg base CX0 1 f fd ["self"] (spOp C (arg0 .getSieves)) := by
  refine F.ok scGsv (fun vs H Q E h => ?_) (fun cdv A outer s0 H vs Q E hr h => ?_)
  · obtain ⟨a, fo, xs, s, c, ws, rfl, ⟨rfl, rfl⟩, _⟩ := h
    rfl
  · obtain ⟨a, fo, xs, s, c, ws, rfl, ⟨rfl, rfl⟩, hf, hat, k⟩ := h
    obtain ⟨dx, p, q, ha, R, hq, np, nq, fit⟩ := id hat
    refine ⟨_, pss_one (ps_ret (pe_op op_cat (pe_lst (pa_cons (pe_callB call_len_seq (by rfl) B.len PySem.boot_len (pa_cons (pe_fld (pv 0) rfl) pa_nil)) pa_nil)) (pe_fld (pv 0) rfl))), ?_⟩
    have few := fit.good.len
    have few2 := fit.few
    refine ⟨_, rfl, a, C, dx, _, _, rfl, ha, T.cl, T.nV, lkV, q, _, rfl, .inl (SqL.of hq), one_line, fun d hd => ?_⟩
    have s1 : Same H (upd H d (.lst [.int ((nums s.sieves).length : Int)])) := same_new hd
    have d1 : (upd H d (.lst [.int ((nums s.sieves).length : Int)])) d = some (.lst [.int ((nums s.sieves).length : Int)]) := upd_same
    generalize upd H d (.lst [.int ((nums s.sieves).length : Int)]) = H1 at s1 d1 ⊢
    refine ⟨_, rfl, a, C, dx, _, _, rfl, s1 _ _ ha, T.cl, T.nV, lkV, d, q, _, _, rfl, rfl, d1, s1 _ _ hq, small_line (by rw [nums_length]; show 1 + _ ≤ _; omega), fun r hr2 => ?_⟩
    refine fin_new k (s1 _ _ hf) (hat.same s1) (keeps s1) hr2 st_sv ?_
    rw [told_list, nums_length]
    rfl
/-! ### get_classes -/
abbrev sGc : Stmt := me 10
theorem scGc : FnScope ["self", "parts", "found", "many", "flour", "bran"] ["self"] (defScope sGc) := ⟨rfl, rfl, rfl, by decide +kernel, rfl, by decide +kernel, by decide +kernel⟩
theorem ok_gc {f C : Addr} {fd : FuncData} (F : Fun K "get_classes" "Sifter.get_classes" sGc f fd) (T : Cl K C) (B : Bt mg) (DC : Df P w K mg base "classes_of" 2 pC spCls) : FnOk P w K mg base CX0 3 f fd ["self"] (spOp C (arg0 .getClasses)) := by
  obtain ⟨fC, fdC, mC, kC, GC, bC⟩ := DC
  refine F.ok scGc (fun vs H Q E h => ?_) (fun cdv A outer s0 H vs Q E hr h => ?_)
  · obtain ⟨a, fo, xs, s, c, ws, rfl, ⟨rfl, rfl⟩, _⟩ := h
    rfl
  · obtain ⟨a, fo, xs, s, c, ws, rfl, ⟨rfl, rfl⟩, hf, hat, k⟩ := h
    obtain ⟨dx, p, q, ha, R, hq, np, nq, fit⟩ := id hat
    refine ⟨_, pss_cons (ps_set (i := 1) scGc.nd rfl (.inl rfl) (pe_call GC (hr.mono (by decide)) rfl mC kC bC .nil pass0 (pa_cons (pe_fld (pv 0) rfl) (pa_cons (pe_fld (pv 0) rfl) pa_nil))))
      (pss_cons (ps_set (i := 2) scGc.nd rfl (.inl rfl) (pe_lst (pa_cons (pe_callB call_len_seq (by rfl) B.len PySem.boot_len (pa_cons (pv 1) pa_nil)) pa_nil)))
      (pss_cons (ps_for PassesOwn.never rfl (pi_list (pv 1)) (pg_tup (by rfl) (pgs_cons (pg_name (i := 3) scGc.nd rfl (.inl rfl)) (pgs_cons (pg_name (i := 4) scGc.nd rfl (.inl rfl)) (pgs_cons (pg_name (i := 5) scGc.nd rfl (.inl rfl)) pgs_nil))))
        (pss_cons (ps_expr (pe_bm PySem.F.plainAttrs_list PySem.F.slot_list_append PySem.F.type_list_append mt_append (pv 2) (pa_cons (pv 3) pa_nil)))
        (pss_cons (ps_expr (pe_bm PySem.F.plainAttrs_list PySem.F.slot_list_append PySem.F.type_list_append mt_append (pv 2) (pa_cons (pv 4) pa_nil)))
        (pss_one (ps_expr (pe_bm PySem.F.plainAttrs_list PySem.F.slot_list_append PySem.F.type_list_append mt_append (pv 2) (pa_cons (pv 5) pa_nil)))))))
      (pss_one (ps_ret (pv 2))))), ?_⟩
    have few := fit.good.len
    have few2 := fit.few
    refine ⟨_, rfl, a, C, dx, _, _, rfl, ha, T.cl, T.nZ, lkZ, _, rfl, a, C, dx, _, _, rfl, ha, T.cl, T.nV, lkV, p, q, s.sizes, s.sieves, rfl, R, hq, fit.good, fit.few, fun H1 c s1 RC => ?_⟩
    have ec : (clsOf s.sizes s.sieves).length = s.sieves.length + 1 := by
      unfold clsOf
      rw [clsFrom_length, List.length_append]
      rfl
    have fr := st_cl (s := s)
    generalize clsOf s.sizes s.sieves = cs at RC ec fr
    obtain ⟨qs, c1, c2, c3⟩ := RC
    refine ⟨_, rfl, c, _, rfl, .inl (SqL.of c1), one_line, fun g hg => ?_⟩
    have e0 : [V.int ((qs.map fun p => V.ref p.1).length : Int)] = V.int (cs.length : Int) :: nums [] := by rw [rows_len c2]; rfl
    rw [e0]
    have s2 : Same H1 (upd H1 g (.lst (V.int (cs.length : Int) :: nums []))) := same_new hg
    have hg' : H g = none := s1.free hg
    refine ⟨_, rfl, c, rfl, ⟨_, SqL.of (s2 _ _ c1)⟩, for_list (K := K) (a := c) (xs := qs.map fun p => V.ref p.1) (fun i σ H' => ∃ u v w, σ = [some (.ref a), some (.ref c), some (.ref g), u, v, w] ∧ Same H1 H' ∧ H' g = some (.lst (V.int (cs.length : Int) :: nums ((cs.take i).flatMap fun l => [l.length, Kp409.totalFlour l, Kp409.totalBran l]))) ∧ ((cs.take i).flatMap fun l => [l.length, Kp409.totalFlour l, Kp409.totalBran l]).length = 3 * i)
      ⟨none, none, none, rfl, s2, upd_same, rfl⟩ (fun i σ H' _ ⟨_, _, _, _, e, _⟩ => SqL.of (e _ _ c1)) ?_ ?_⟩
    · rintro i x σ H' hi ⟨u, v, w, rfl, sH, hg2, hl2⟩
      obtain ⟨y, e1, my, rfl, e2⟩ := get_ref hi
      have hil := (List.getElem?_eq_some_iff.mp e2).1
      rw [c2] at e2 hil
      have t1 : H' y.1 = some (clV y.2) := sH _ _ (c3 y my)
      refine ⟨y.1, _, rfl, SqT.of t1, rfl, _, _, rfl, _, _, rfl, _, _, rfl, rfl, ?_⟩
      refine ⟨_, rfl, .inl ⟨rfl, _, SqL.of hg2⟩, _, rfl, g, _, _, rfl, rfl, hg2, lt_line (by rw [List.length_cons, nums_length, hl2]; omega), ?_⟩
      have hg3 : (upd H' g (.lst ((V.int (cs.length : Int) :: nums ((cs.take i).flatMap fun l => [l.length, Kp409.totalFlour l, Kp409.totalBran l])) ++ [.int (y.2.length : Int)]))) g = _ := upd_same
      refine ⟨_, rfl, .inl ⟨rfl, _, SqL.of hg3⟩, _, rfl, g, _, _, rfl, rfl, hg3, lt_line (by rw [List.length_append, List.length_cons, nums_length, hl2, List.length_singleton]; omega), ?_⟩
      refine ⟨_, rfl, .inl ⟨rfl, _, SqL.of upd_same⟩, _, rfl, g, _, _, rfl, rfl, upd_same, lt_line (by rw [List.length_append, List.length_append, List.length_cons, nums_length, hl2, List.length_singleton, List.length_singleton]; omega), ?_⟩
      refine ⟨some (.int y.2.length), some (.int (Kp409.totalFlour y.2 : Nat)), some (.int (Kp409.totalBran y.2 : Nat)), rfl, fun b o hb => ?_, ?_, ?_⟩
      · have n1 : b ≠ g := ne_of_none hb hg
        rw [upd_ne n1, upd_ne n1, upd_ne n1]
        exact sH _ _ hb
      · rw [upd_same, take_some e2, List.flatMap_append, nums_append]
        simp [nums]
      · rw [take_some e2, List.flatMap_append, List.length_append, hl2]
        show 3 * i + 3 = _
        omega
    · rintro σ H' ⟨u, v, w, rfl, sH, hg2, hl2⟩
      refine ⟨_, rfl, ?_⟩
      rw [rows_len c2, List.take_length] at hg2
      exact k H' g s _ fr (keeps (s1.trans sH)) (Ne.symm (ne_of_none hf hg')) (hat.same (s1.trans sH)) (by rw [told_nat]; exact hg2)
end
end Sv
namespace Sv
open PySem PySem.Spec PyProof.Rows L2
open Kp409 (SizeFraction Sifter)
section
variable {P : Program} {w : World} {K : PySem.W.Frag} {mg : Str → Option Value} {base : Heap}
/-! ### purity -/
abbrev sPu : Stmt := me 11
theorem scPu : FnScope ["self", "many", "total"] ["self"] (defScope sPu) := ⟨rfl, rfl, rfl, by decide +kernel, rfl, by decide +kernel, by decide +kernel⟩
theorem ok_pu {f C : Addr} {fd : FuncData} (F : Fun K "purity" "Sifter.purity" sPu f fd) (T : Cl K C) (B : Bt mg) (N : Cn mg) (DF : Df P w K mg base "flour_between" 1 ["sizes", "begin", "end"] spFlour) (DBn : Df P w K mg base "bran_between" 1 ["sizes", "begin", "end"] spBran) (DMi : Df P w K mg base "misplaced_of" 3 pC spMis) (DTe : Df P w K mg base "in_lowest_terms" 2 ["top", "bottom"] spTerms) : FnOk P w K mg base CX0 4 f fd ["self"] (spOp C (arg0 .purity)) := by
  obtain ⟨fF, fdF, mF, kF, GF, bF⟩ := DF
  obtain ⟨fBn, fdBn, mBn, kBn, GBn, bBn⟩ := DBn
  obtain ⟨fMi, fdMi, mMi, kMi, GMi, bMi⟩ := DMi
  obtain ⟨fTe, fdTe, mTe, kTe, GTe, bTe⟩ := DTe
  refine F.ok scPu (fun vs H Q E h => ?_) (fun cdv A outer s0 H vs Q E hr h => ?_)
  · obtain ⟨a, fo, xs, s, c, ws, rfl, ⟨rfl, rfl⟩, _⟩ := h
    rfl
  · obtain ⟨a, fo, xs, s, c, ws, rfl, ⟨rfl, rfl⟩, hf, hat, k⟩ := h
    obtain ⟨dx, p, q, ha, R, hq, np, nq, fit⟩ := id hat
    refine ⟨_, pss_cons (ps_set (i := 1) scPu.nd rfl (.inl rfl) (pe_callB call_len_seq (by rfl) B.len PySem.boot_len (pa_cons (pe_fld (pv 0) rfl) pa_nil)))
      (pss_cons (ps_set (i := 2) scPu.nd rfl (.inl rfl) (pe_op op_add (pe_call GF (hr.mono (by decide)) rfl mF kF bF .nil pass0 (pa_cons (pe_fld (pv 0) rfl) (pa_cons pe_int (pa_cons (pv 1) pa_nil)))) (pe_call GBn (hr.mono (by decide)) rfl mBn kBn bBn .nil pass0 (pa_cons (pe_fld (pv 0) rfl) (pa_cons pe_int (pa_cons (pv 1) pa_nil))))))
      (pss_cons (ps_if (pt_cmpR op_eq (pv 2) pe_int (nomark _)) (pss_one (ps_ret (pe_lst (pa_cons (pe_const (by rfl) N.nothing) pa_nil)))) pss_nil)
      (pss_one (ps_ret (pe_op op_cat (pe_lst (pa_cons pe_int pa_nil)) (pe_call GTe (hr.mono (by decide)) rfl mTe kTe bTe .nil pass0 (pa_cons (pe_op op_sub (pv 2) (pe_call GMi (hr.mono (by decide)) rfl mMi kMi bMi .nil pass0 (pa_cons (pe_fld (pv 0) rfl) (pa_cons (pe_fld (pv 0) rfl) pa_nil)))) (pa_cons (pv 2) pa_nil)))))))), ?_⟩
    obtain ⟨ps, h1, h2, h3⟩ := id R
    have hlow := sum_le fit.low
    have few := fit.few
    have hle := amt_le fit
    refine ⟨_, rfl, a, C, dx, _, _, rfl, ha, T.cl, T.nZ, lkZ, p, _, rfl, .inl (SqL.of h1), ?_⟩
    dsimp only
    rw [rows_len h2]
    refine ⟨_, rfl, a, C, dx, _, _, rfl, ha, T.cl, T.nZ, lkZ, _, rfl, p, 0, s.sizes.length, s.sizes, rfl, R, Nat.zero_le _, Nat.le_refl _, fit.few, _, rfl, a, C, dx, _, _, rfl, ha, T.cl, T.nZ, lkZ, _, rfl, p, 0, s.sizes.length, s.sizes, rfl, R, Nat.zero_le _, Nat.le_refl _, fit.few, _, _, rfl, rfl, ?_⟩
    dsimp only
    have ew : ((Kp409.totalFlour ((s.sizes.take s.sizes.length).drop 0) : Nat) : Int) + ((Kp409.totalBran ((s.sizes.take s.sizes.length).drop 0) : Nat) : Int) = ((Kp409.totalWeight s.sizes : Nat) : Int) := by
      rw [List.take_length, List.drop_zero]
      unfold Kp409.totalWeight
      omega
    rw [ew]
    have hw : Kp409.totalWeight s.sizes ≤ 2000 := by
      unfold Kp409.totalWeight
      omega
    have f1 := st_pur1 (s := s)
    have f2 := fun h => st_pur2 (s := s) h (Kp409.totalWeight s.sizes - amtOf s.sizes s.sieves) (Kp409.totalWeight s.sizes) rfl rfl
    generalize Kp409.totalWeight s.sizes = w at *
    refine ⟨_, rfl, rfl, _, rfl, ite2 (fun g => ?_) (fun g => ?_)⟩
    · have g' : w = 0 := by
        have e := V.int.inj (of_decide_eq_true g)
        omega
      exact ⟨one_line, fun r hr2 => fin_new k hf hat (Keeps.refl a H) hr2 (f1 g') rfl⟩
    · have g' : w ≠ 0 := fun z => g (decide_eq_true (by rw [z]; rfl))
      refine ⟨one_line, fun d hd => ?_⟩
      have s1 : Same H (upd H d (.lst [.int 0])) := same_new hd
      have d1 : (upd H d (.lst [.int 0])) d = some (.lst [.int 0]) := upd_same
      generalize upd H d (.lst [.int 0]) = H1 at s1 d1 ⊢
      have ha1 := s1 _ _ ha
      refine ⟨_, rfl, _, rfl, a, C, dx, _, _, rfl, ha1, T.cl, T.nZ, lkZ, _, rfl, a, C, dx, _, _, rfl, ha1, T.cl, T.nV, lkV, p, q, s.sizes, s.sieves, rfl, R.same s1, s1 _ _ hq, fit.good, fit.few, fun H2 s2 => ⟨_, _, rfl, rfl, ?_⟩⟩
      have ed : (w : Int) - ((misOf (clsOf s.sizes s.sieves) : Nat) : Int) = ((w - amtOf s.sizes s.sieves : Nat) : Int) := by
        have e : misOf (clsOf s.sizes s.sieves) = amtOf s.sizes s.sieves := rfl
        rw [e]
        omega
      refine ⟨_, rfl, (w - amtOf s.sizes s.sieves), w, (by dsimp only; rw [ed]; rfl), by omega, by omega, fun H3 e s3 he => ?_⟩
      have s4 : Same H H3 := s1.trans (s2.trans s3)
      refine ⟨d, e, _, _, rfl, rfl, (s2.trans s3) _ _ d1, he, (by show 1 + 2 ≤ sizeLine; decide), fun r hr2 => ?_⟩
      refine fin_new k (s4 _ _ hf) (hat.same s4) (keeps s4) hr2 (f2 g') ?_
      rw [told_nat]
      rfl
/-! ### best_sieves -/
abbrev sBs : Stmt := me 12
theorem scBs : FnScope ["self", "count", "best"] ["self", "count"] (defScope sBs) := ⟨rfl, rfl, rfl, by decide +kernel, rfl, by decide +kernel, by decide +kernel⟩
theorem ok_bs {f C : Addr} {fd : FuncData} (F : Fun K "best_sieves" "Sifter.best_sieves" sBs f fd) (T : Cl K C) (B : Bt mg) (N : Cn mg) (DBe : Df P w K mg base "best_of" 4 pB spBest) (DMi : Df P w K mg base "misplaced_of" 3 pC spMis) : FnOk P w K mg base CX0 5 f fd ["self", "count"] (spOp C (arg1 .bestSieves)) := by
  obtain ⟨fBe, fdBe, mBe, kBe, GBe, bBe⟩ := DBe
  obtain ⟨fMi, fdMi, mMi, kMi, GMi, bMi⟩ := DMi
  refine F.ok scBs (fun vs H Q E h => ?_) (fun cdv A outer s0 H vs Q E hr h => ?_)
  · obtain ⟨a, fo, xs, s, c, ws, rfl, ⟨n, rfl, rfl⟩, _⟩ := h
    rfl
  · obtain ⟨a, fo, xs, s, c, ws, rfl, ⟨n, rfl, rfl⟩, hf, hat, k⟩ := h
    obtain ⟨dx, p, q, ha, R, hq, np, nq, fit⟩ := id hat
    refine ⟨_, pss_cons (ps_if (pt_cmpR op_ge (pv 1) (pe_callB call_len_seq (by rfl) B.len PySem.boot_len (pa_cons (pe_fld (pv 0) rfl) pa_nil)) (nomark _)) (pss_one (ps_ret (pe_lst (pa_cons (pe_const (by rfl) N.outside) pa_nil)))) pss_nil)
      (pss_cons (ps_set (i := 2) scBs.nd rfl (.inl rfl) (pe_call GBe (hr.mono (by decide)) rfl mBe kBe bBe .nil pass0 (pa_cons (pe_fld (pv 0) rfl) (pa_cons (pv 1) pa_nil))))
      (pss_one (ps_ret (pe_op op_cat (pe_lst (pa_cons (pe_call GMi (hr.mono (by decide)) rfl mMi kMi bMi .nil pass0 (pa_cons (pe_fld (pv 0) rfl) (pa_cons (pv 2) pa_nil))) pa_nil)) (pv 2))))), ?_⟩
    obtain ⟨ps, h1, h2, h3⟩ := id R
    have few := fit.few
    refine ⟨_, rfl, _, rfl, a, C, dx, _, _, rfl, ha, T.cl, T.nZ, lkZ, p, _, rfl, .inl (SqL.of h1), _, _, rfl, rfl, _, rfl, ?_⟩
    dsimp only
    rw [rows_len h2]
    refine ite2 (fun g => ?_) (fun g => ?_)
    · have g' : ¬ n < s.sizes.length := by have := of_decide_eq_true g; omega
      exact ⟨one_line, fun r hr2 => fin_new k hf hat (Keeps.refl a H) hr2 (st_best1 g') rfl⟩
    · have g' : n < s.sizes.length := by
        have : ¬ ((s.sizes.length : Int) ≤ (n : Int)) := fun z => g (decide_eq_true z)
        omega
      refine ⟨_, rfl, a, C, dx, _, _, rfl, ha, T.cl, T.nZ, lkZ, _, rfl, p, n, s.sizes, rfl, R, fit.few, .inl g', fun H1 c b s1 hc e hb => ?_⟩
      have gb := bestOf_good e (.inl g')
      have lb := gb.1.len
      refine ⟨_, rfl, a, C, dx, _, _, rfl, s1 _ _ ha, T.cl, T.nZ, lkZ, _, rfl, p, c, s.sizes, b, rfl, R.same s1, hb, gb.1, fit.few, fun H2 s2 => ⟨one_line, fun d hd => ?_⟩⟩
      refine ⟨_, rfl, d, c, _, _, rfl, rfl, upd_same, same_new hd _ _ (s2 _ _ hb), small_line (by rw [nums_length]; show 1 + _ ≤ _; omega), fun r hr2 => ?_⟩
      have s3 := s1.trans (s2.trans (same_new (o := .lst [.int ((misOf (clsOf s.sizes b) : Nat) : Int)]) hd))
      refine fin_new k (s3 _ _ hf) (hat.same s3) (keeps s3) hr2 (st_best2 g' e) ?_
      rw [told_nat]
      rfl
/-! ### most_even_sieves -/
abbrev sMe : Stmt := me 19
theorem scMe : FnScope ["self", "count", "best"] ["self", "count"] (defScope sMe) := ⟨rfl, rfl, rfl, by decide +kernel, rfl, by decide +kernel, by decide +kernel⟩
theorem ok_me {f C : Addr} {fd : FuncData} (F : Fun K "most_even_sieves" "Sifter.most_even_sieves" sMe f fd) (T : Cl K C) (B : Bt mg) (N : Cn mg) (DEv : Df P w K mg base "most_even_of" 4 pB spEven) (DHv : Df P w K mg base "heaviest_of" 3 pC spHvy) : FnOk P w K mg base CX0 5 f fd ["self", "count"] (spOp C (arg1 .mostEvenSieves)) := by
  obtain ⟨fEv, fdEv, mEv, kEv, GEv, bEv⟩ := DEv
  obtain ⟨fHv, fdHv, mHv, kHv, GHv, bHv⟩ := DHv
  refine F.ok scMe (fun vs H Q E h => ?_) (fun cdv A outer s0 H vs Q E hr h => ?_)
  · obtain ⟨a, fo, xs, s, c, ws, rfl, ⟨n, rfl, rfl⟩, _⟩ := h
    rfl
  · obtain ⟨a, fo, xs, s, c, ws, rfl, ⟨n, rfl, rfl⟩, hf, hat, k⟩ := h
    obtain ⟨dx, p, q, ha, R, hq, np, nq, fit⟩ := id hat
    refine ⟨_, pss_cons (ps_if (pt_cmpR op_ge (pv 1) (pe_callB call_len_seq (by rfl) B.len PySem.boot_len (pa_cons (pe_fld (pv 0) rfl) pa_nil)) (nomark _)) (pss_one (ps_ret (pe_lst (pa_cons (pe_const (by rfl) N.outside) pa_nil)))) pss_nil)
      (pss_cons (ps_set (i := 2) scMe.nd rfl (.inl rfl) (pe_call GEv (hr.mono (by decide)) rfl mEv kEv bEv .nil pass0 (pa_cons (pe_fld (pv 0) rfl) (pa_cons (pv 1) pa_nil))))
      (pss_one (ps_ret (pe_op op_cat (pe_lst (pa_cons (pe_call GHv (hr.mono (by decide)) rfl mHv kHv bHv .nil pass0 (pa_cons (pe_fld (pv 0) rfl) (pa_cons (pv 2) pa_nil))) pa_nil)) (pv 2))))), ?_⟩
    obtain ⟨ps, h1, h2, h3⟩ := id R
    have few := fit.few
    refine ⟨_, rfl, _, rfl, a, C, dx, _, _, rfl, ha, T.cl, T.nZ, lkZ, p, _, rfl, .inl (SqL.of h1), _, _, rfl, rfl, _, rfl, ?_⟩
    dsimp only
    rw [rows_len h2]
    refine ite2 (fun g => ?_) (fun g => ?_)
    · have g' : ¬ n < s.sizes.length := by have := of_decide_eq_true g; omega
      exact ⟨one_line, fun r hr2 => fin_new k hf hat (Keeps.refl a H) hr2 (st_even1 g') rfl⟩
    · have g' : n < s.sizes.length := by
        have : ¬ ((s.sizes.length : Int) ≤ (n : Int)) := fun z => g (decide_eq_true z)
        omega
      refine ⟨_, rfl, a, C, dx, _, _, rfl, ha, T.cl, T.nZ, lkZ, _, rfl, p, n, s.sizes, rfl, R, fit.few, .inl g', fun H1 c b s1 hc e hb => ?_⟩
      have gb := evenOf_good e (.inl g')
      have lb := gb.1.len
      refine ⟨_, rfl, a, C, dx, _, _, rfl, s1 _ _ ha, T.cl, T.nZ, lkZ, _, rfl, p, c, s.sizes, b, rfl, R.same s1, hb, gb.1, fit.few, fun H2 s2 => ⟨one_line, fun d hd => ?_⟩⟩
      refine ⟨_, rfl, d, c, _, _, rfl, rfl, upd_same, same_new hd _ _ (s2 _ _ hb), small_line (by rw [nums_length]; show 1 + _ ≤ _; omega), fun r hr2 => ?_⟩
      have s3 := s1.trans (s2.trans (same_new (o := .lst [.int ((hvOf (clsOf s.sizes b) : Nat) : Int)]) hd))
      refine fin_new k (s3 _ _ hf) (hat.same s3) (keeps s3) hr2 (st_even2 g' e) ?_
      rw [told_nat]
      rfl
/-! ### apply_best_sieves -/
abbrev sAp : Stmt := me 13
theorem scAp : FnScope ["self", "count"] ["self", "count"] (defScope sAp) := ⟨rfl, rfl, rfl, by decide +kernel, rfl, by decide +kernel, by decide +kernel⟩
theorem ok_ap {f C : Addr} {fd : FuncData} (F : Fun K "apply_best_sieves" "Sifter.apply_best_sieves" sAp f fd) (T : Cl K C) (B : Bt mg) (N : Cn mg) (DBe : Df P w K mg base "best_of" 4 pB spBest) (DNw : Mt P w K mg base C "amount_now" 4 ["self"] (spOp C (arg0 .misplaced))) : FnOk P w K mg base CX0 5 f fd ["self", "count"] (spOp C (arg1 .applyBestSieves)) := by
  obtain ⟨fBe, fdBe, mBe, kBe, GBe, bBe⟩ := DBe
  obtain ⟨fNw, fdNw, mNw, GNw, bNw⟩ := DNw
  refine F.ok scAp (fun vs H Q E h => ?_) (fun cdv A outer s0 H vs Q E hr h => ?_)
  · obtain ⟨a, fo, xs, s, c, ws, rfl, ⟨n, rfl, rfl⟩, _⟩ := h
    rfl
  · obtain ⟨a, fo, xs, s, c, ws, rfl, ⟨n, rfl, rfl⟩, hf, hat, k⟩ := h
    obtain ⟨dx, p, q, ha, R, hq, np, nq, fit⟩ := id hat
    refine ⟨_, pss_cons (ps_if (pt_cmpR op_ge (pv 1) (pe_callB call_len_seq (by rfl) B.len PySem.boot_len (pa_cons (pe_fld (pv 0) rfl) pa_nil)) (nomark _)) (pss_one (ps_ret (pe_lst (pa_cons (pe_const (by rfl) N.outside) pa_nil)))) pss_nil)
      (pss_cons (ps_fld (pv 0) (pe_call GBe (hr.mono (by decide)) rfl mBe kBe bBe .nil pass0 (pa_cons (pe_fld (pv 0) rfl) (pa_cons (pv 1) pa_nil))) rfl)
      (pss_one (ps_ret (pe_meth0 (pv 0) T.cl mNw GNw (hr.mono (by decide)) bNw .nil pass0)))), ?_⟩
    obtain ⟨ps, h1, h2, h3⟩ := id R
    have few := fit.few
    refine ⟨_, rfl, _, rfl, a, C, dx, _, _, rfl, ha, T.cl, T.nZ, lkZ, p, _, rfl, .inl (SqL.of h1), _, _, rfl, rfl, _, rfl, ?_⟩
    dsimp only
    rw [rows_len h2]
    refine ite2 (fun g => ?_) (fun g => ?_)
    · have g' : ¬ n < s.sizes.length := by have := of_decide_eq_true g; omega
      exact ⟨one_line, fun r hr2 => fin_new k hf hat (Keeps.refl a H) hr2 (st_app1 g') rfl⟩
    · have g' : n < s.sizes.length := by
        have : ¬ ((s.sizes.length : Int) ≤ (n : Int)) := fun z => g (decide_eq_true z)
        omega
      refine ⟨_, rfl, a, C, dx, _, _, rfl, ha, T.cl, T.nZ, lkZ, _, rfl, p, n, s.sizes, rfl, R, fit.few, .inl g', fun H1 c b s1 hc e hb => ?_⟩
      refine ⟨_, rfl, a, C, dx, _, rfl, s1 _ _ ha, T.cl, T.nV, (by show 3 < 1000; decide), ?_⟩
      rw [ptV]
      have k2 : Keeps a H1 (upd H1 a (.ins C dx (flds true p c))) := keeps_put
      have a2 : (upd H1 a (.ins C dx (flds true p c))) a = some (.ins C dx (flds true p c)) := upd_same
      generalize upd H1 a (.ins C dx (flds true p c)) = H2 at k2 a2 ⊢
      have kk : Keeps a H H2 := (keeps s1).then k2
      have at2 : At C fo H2 a true ⟨s.sizes, b⟩ := ⟨dx, p, c, a2, kk.rows ha R, k2.lst (s1 _ _ ha) hb, np, Ne.symm (ne_of_none hf hc), fit_sieves fit (bestOf_good e (.inl g')).1⟩
      refine ⟨_, rfl, a, dx, _, rfl, a2, lk_no, a, fo, xs, _, .misplaced, [], rfl, ⟨rfl, rfl⟩, kk.lst ha hf, at2, fun H9 r s9 y9 e9 k9 n9 at9 r9 => ?_⟩
      obtain ⟨rfl, rfl⟩ := step_mis e9
      exact k H9 r _ _ (st_app2 g' e) (kk.then k9) n9 at9 r9
/-! ### sieves_needed -/
abbrev sNd : Stmt := me 14
theorem scNd : FnScope ["self", "limit", "count"] ["self", "limit"] (defScope sNd) := ⟨rfl, rfl, rfl, by decide +kernel, rfl, by decide +kernel, by decide +kernel⟩
theorem ok_nd {f C : Addr} {fd : FuncData} (F : Fun K "sieves_needed" "Sifter.sieves_needed" sNd f fd) (T : Cl K C) (B : Bt mg) (N : Cn mg) (DAm : Df P w K mg base "best_amount" 5 pB spAmt) : FnOk P w K mg base CX0 6 f fd ["self", "limit"] (spOp C (arg1 .sievesNeeded)) := by
  obtain ⟨fAm, fdAm, mAm, kAm, GAm, bAm⟩ := DAm
  refine F.ok scNd (fun vs H Q E h => ?_) (fun cdv A outer s0 H vs Q E hr h => ?_)
  · obtain ⟨a, fo, xs, s, c, ws, rfl, ⟨n, rfl, rfl⟩, _⟩ := h
    rfl
  · obtain ⟨a, fo, xs, s, c, ws, rfl, ⟨n, rfl, rfl⟩, hf, hat, k⟩ := h
    obtain ⟨dx, p, q, ha, R, hq, np, nq, fit⟩ := id hat
    refine ⟨_, pss_cons (ps_for PassesOwn.never rfl (pi_range1 (by rfl) B.range (pa_cons (pe_callB (call_max2 rfl) (by rfl) B.max (by decide +kernel) (pa_cons pe_int (pa_cons (pe_callB call_len_seq (by rfl) B.len PySem.boot_len (pa_cons (pe_fld (pv 0) rfl) pa_nil)) pa_nil))) pa_nil)) (pg_name (i := 2) scNd.nd rfl (.inl rfl))
        (pss_one (ps_if (pt_cmpR op_le (pe_call GAm (hr.mono (by decide)) rfl mAm kAm bAm .nil pass0 (pa_cons (pe_fld (pv 0) rfl) (pa_cons (pv 2) pa_nil))) (pv 1) (nomark _)) (pss_one (ps_ret (pe_lst (pa_cons (pv 2) pa_nil)))) pss_nil)))
      (pss_one (ps_ret (pe_lst (pa_cons (pe_const (by rfl) N.notEnough) pa_nil)))), ?_⟩
    obtain ⟨ps, h1, h2, h3⟩ := id R
    have few := fit.few
    refine ⟨_, rfl, a, C, dx, _, _, rfl, ha, T.cl, T.nZ, lkZ, p, _, rfl, .inl (SqL.of h1), _, _, rfl, ?_⟩
    dsimp only
    rw [rows_len h2]
    have em : (if (s.sizes.length : Int) > 1 then (s.sizes.length : Int) else 1) = ((max 1 s.sizes.length : Nat) : Int) := by split <;> omega
    rw [em]
    have hmx : ∀ i, i < max 1 s.sizes.length → i < s.sizes.length ∨ i = 0 := fun i hi => by omega
    have hm : max 1 s.sizes.length ≤ 10 := by omega
    have f1 := st_need1 (s := s) (limit := n)
    have f2 := fun k => st_need2 (s := s) (limit := n) (k := k)
    generalize max 1 s.sizes.length = mx at *
    have es : L2.start (["self", "limit", "count"] : List Str) [V.ref a, V.int (n : Int)] = [some (.ref a), some (.int n), none] := rfl
    refine ⟨mx, rfl, by omega, by omega, ?_⟩
    rw [es]
    refine for_range (D := ⟨tRet (tLst (tCons (tC (V.int (-33))) tNil)) ⟨fun x H' => Q V.non H', Q, fun _ _ => False, fun _ _ => False⟩, Q, fun _ _ => False, fun _ _ => False⟩) (lo := 0) (n := (mx : Int).toNat) (fun i σ H' => ∃ v, σ = [some (.ref a), some (.int n), v] ∧ Same H H' ∧ ∀ j, j < i → enough s n j = false) ⟨none, rfl, Same.refl _, fun j hj => absurd hj (Nat.not_lt_zero _)⟩ ?_ ?_
    · rintro i σ H' hi ⟨v, rfl, sH, hj⟩
      rw [Int.toNat_natCast] at hi
      refine ⟨_, rfl, a, C, dx, _, _, rfl, sH _ _ ha, T.cl, T.nZ, lkZ, _, rfl, p, i, s.sizes, (by rw [Int.zero_add]; rfl), R.same sH, fit.few, hmx i hi, fun H1 b s1 e => ?_⟩
      refine ⟨_, rfl, _, _, rfl, rfl, _, rfl, ite2 (fun g => ?_) (fun g => ?_)⟩
      · have g' : amtOf s.sizes b ≤ n := by have := of_decide_eq_true g; omega
        refine ⟨_, rfl, one_line, fun r hr2 => ?_⟩
        have sA := sH.trans s1
        refine fin_new k (sA _ _ hf) (hat.same sA) (keeps sA) hr2 (f2 i hi (by rw [enough_is e, decide_eq_true g']) hj) ?_
        rw [Int.zero_add]
        rfl
      · have g' : ¬ amtOf s.sizes b ≤ n := fun z => g (decide_eq_true (by omega))
        refine ⟨some (.int (0 + (i : Int))), rfl, sH.trans s1, fun j h => ?_⟩
        by_cases c : j = i
        · rw [c, enough_is e, decide_eq_false g']
        · exact hj j (by omega)
    · rintro σ H' ⟨v, rfl, sH, hj⟩
      rw [Int.toNat_natCast] at hj
      exact ⟨one_line, fun r hr2 => fin_new k (sH _ _ hf) (hat.same sH) (keeps sH) hr2 (f1 hj) rfl⟩
/-! ### lower_bound -/
abbrev sLb : Stmt := me 15
theorem scLb : FnScope ["self"] ["self"] (defScope sLb) := ⟨rfl, rfl, rfl, by decide +kernel, rfl, by decide +kernel, by decide +kernel⟩
theorem ok_lb {f C : Addr} {fd : FuncData} (F : Fun K "lower_bound" "Sifter.lower_bound" sLb f fd) (T : Cl K C) (DLo : Df P w K mg base "lower_bound_of" 1 ["sizes"] spLow) : FnOk P w K mg base CX0 2 f fd ["self"] (spOp C (arg0 .lowerBound)) := by
  obtain ⟨fLo, fdLo, mLo, kLo, GLo, bLo⟩ := DLo
  refine F.ok scLb (fun vs H Q E h => ?_) (fun cdv A outer s0 H vs Q E hr h => ?_)
  · obtain ⟨a, fo, xs, s, c, ws, rfl, ⟨rfl, rfl⟩, _⟩ := h
    rfl
  · obtain ⟨a, fo, xs, s, c, ws, rfl, ⟨rfl, rfl⟩, hf, hat, k⟩ := h
    obtain ⟨dx, p, q, ha, R, hq, np, nq, fit⟩ := id hat
    refine ⟨_, pss_one (ps_ret (pe_lst (pa_cons (pe_call GLo (hr.mono (by decide)) rfl mLo kLo bLo .nil pass0 (pa_cons (pe_fld (pv 0) rfl) pa_nil)) pa_nil))), ?_⟩
    exact ⟨_, rfl, a, C, dx, _, _, rfl, ha, T.cl, T.nZ, lkZ, p, s.sizes, rfl, R, one_line, fun r hr2 => fin_new k hf hat (Keeps.refl a H) hr2 st_low rfl⟩
end
end Sv
namespace Sv
open PySem PySem.Spec PyProof.Rows L2
open Kp409 (SizeFraction Sifter)

theorem lt_nat (y n : Nat) : decide ((y : Int) < (n : Int)) = decide (y < n) := by
  rw [decide_eq_decide]
  omega
theorem le_nat (y n : Nat) : decide ((y : Int) ≤ (n : Int)) = decide (y ≤ n) := by
  rw [decide_eq_decide]
  omega
/-- a comprehension over self.sieves: p tells what it keeps -/
theorem rd_filt {K : PySem.W.Frag} {a C dx z q : Addr} {m : Bool} {i n : Nat} {tt : TT} {vs : List Nat} {σ : L2.St} {H : Hp} {Q : VK} {l : List Nat} (T : Cl K C) (h0 : σ[0]? = some (some (.ref a))) (ha : H a = some (.ins C dx (flds m z q)))
    (hq : H q = some (rwV l)) (good : Good n l) (hn : n ≤ 10) (p : Nat → Bool) (hw : ∀ v, wipe ((wipe σ vs).set i (some v)) vs = wipe σ vs) (hv : ∀ v, ((wipe σ vs).set i (some v))[i]? = some (some v))
    (ht : ∀ (y : Nat) (H : Hp) (Q : Bool → Hp → Prop), Q (p y) H → tt ((wipe σ vs).set i (some (.int (y : Int)))) H Q) (hd : ∀ (D : Addr) (H' : Hp), H D = none → Same H H' → H' D = some (rwV (l.filter p)) → Q (.ref D) H') :
    tLc (iList K (tFld K (tVar 0) "sieves")) (gName i) tt (tVar i) vs σ H Q := by
  refine ⟨_, h0, a, C, dx, _, _, rfl, ha, T.cl, T.nV, lkV, q, rfl, ⟨_, SqL.of hq⟩, fun D hD => ?_⟩
  refine lc_list (K := K) (a := q) (xs := nums l) (fun i H' => Same H H' ∧ H' D = some (rwV ((l.take i).filter p))) ⟨same_new hD, upd_same⟩ (fun i H' _ ⟨e, _⟩ => SqL.of (e _ _ hq)) ?_ ?_
  · rintro j x H' hi ⟨sH, hD2⟩
    obtain ⟨y, hy, rfl⟩ := get_num hi
    refine ⟨hw _, ht y H' _ ?_⟩
    cases t : p y with
    | true =>
      refine iteT ⟨_, hv _, _, hD2, lt_line (by rw [nums_length]; have := filt_len (i := j) (p := p) good; omega), fun b o hb => ?_, ?_⟩
      · rw [upd_ne (ne_of_none hb hD)]
        exact sH _ _ hb
      · rw [upd_same, filt_yes hy t]
        unfold rwV
        rw [nums_append]
        rfl
    | false =>
      refine iteF ⟨sH, ?_⟩
      rw [filt_no hy t]
      exact hD2
  · rintro H' ⟨sH, hD2⟩
    rw [nums_length, List.take_length] at hD2
    exact hd D H' hD sH hD2
section
variable {P : Program} {w : World} {K : PySem.W.Frag} {mg : Str → Option Value} {base : Heap}
/-! ### add_sieve -/
abbrev sAs : Stmt := me 16
theorem scAs : FnScope ["self", "position", "below", "above", "other"] ["self", "position"] (defScope sAs) := ⟨rfl, rfl, rfl, by decide +kernel, rfl, by decide +kernel, by decide +kernel⟩
theorem ok_as {f C : Addr} {fd : FuncData} (F : Fun K "add_sieve" "Sifter.add_sieve" sAs f fd) (T : Cl K C) (B : Bt mg) (N : Cn mg) (DIp : Df P w K mg base "is_position" 1 ["position", "size_count"] spIsPos) (DNw : Mt P w K mg base C "amount_now" 4 ["self"] (spOp C (arg0 .misplaced))) : FnOk P w K mg base CX0 5 f fd ["self", "position"] (spOp C (arg1 .addSieve)) := by
  obtain ⟨fIp, fdIp, mIp, kIp, GIp, bIp⟩ := DIp
  obtain ⟨fNw, fdNw, mNw, GNw, bNw⟩ := DNw
  refine F.ok scAs (fun vs H Q E h => ?_) (fun cdv A outer s0 H vs Q E hr h => ?_)
  · obtain ⟨a, fo, xs, s, c, ws, rfl, ⟨n, rfl, rfl⟩, _⟩ := h
    rfl
  · obtain ⟨a, fo, xs, s, c, ws, rfl, ⟨n, rfl, rfl⟩, hf, hat, k⟩ := h
    obtain ⟨dx, p, q, ha, R, hq, np, nq, fit⟩ := id hat
    refine ⟨_, pss_cons (ps_if (pt_not (pt_val (pe_call GIp (hr.mono (by decide)) rfl mIp kIp bIp .nil pass0 (pa_cons (pv 1) (pa_cons (pe_callB call_len_seq (by rfl) B.len PySem.boot_len (pa_cons (pe_fld (pv 0) rfl) pa_nil)) pa_nil))))) (pss_one (ps_ret (pe_lst (pa_cons (pe_const (by rfl) N.outside) pa_nil)))) pss_nil)
      (pss_cons (ps_if (pt_cmpR op_in_seq (pv 1) (pe_fld (pv 0) rfl) (by rfl)) (pss_one (ps_ret (pe_lst (pa_cons (pe_const (by rfl) N.already) pa_nil)))) pss_nil)
      (pss_cons (ps_setLc (i := 2) (own := [("other", 4)]) (g := gName 4) rfl scAs.nd rfl rfl (sw_true rfl rfl rfl (by decide +kernel)) (pi_list (pe_fld (pv 0) rfl)) (blkOk_by (N := ["self", "position", "below", "above", "other"]) (sc := defScope sAs) (by decide +kernel)) (fun _ _ _ _ _ => pg_name (i := 4) scAs.nd rfl (Or.inl rfl)) (fun _ _ _ _ _ => pts_one (pt_cmpR op_lt (pv 4) (pv 1) (nomark _))) (fun _ _ _ _ _ => pv 4))
      (pss_cons (ps_setLc (i := 3) (own := [("other", 4)]) (g := gName 4) rfl scAs.nd rfl rfl (sw_true rfl rfl rfl (by decide +kernel)) (pi_list (pe_fld (pv 0) rfl)) (blkOk_by (N := ["self", "position", "below", "above", "other"]) (sc := defScope sAs) (by decide +kernel)) (fun _ _ _ _ _ => pg_name (i := 4) scAs.nd rfl (Or.inl rfl)) (fun _ _ _ _ _ => pts_one (pt_cmpR op_gt (pv 4) (pv 1) (nomark _))) (fun _ _ _ _ _ => pv 4))
      (pss_cons (ps_fld (pv 0) (pe_op op_cat (pe_op op_cat (pv 2) (pe_lst (pa_cons (pv 1) pa_nil))) (pv 3)) rfl)
      (pss_one (ps_ret (pe_meth0 (pv 0) T.cl mNw GNw (hr.mono (by decide)) bNw .nil pass0))))))), ?_⟩
    obtain ⟨ps, h1, h2, h3⟩ := id R
    have few := fit.few
    have lens := fit.good.len
    refine ⟨_, rfl, _, rfl, a, C, dx, _, _, rfl, ha, T.cl, T.nZ, lkZ, p, _, rfl, .inl (SqL.of h1), n, s.sizes.length, (by rw [rows_len h2]; rfl), _, rfl, ?_⟩
    by_cases c : 1 ≤ n ∧ n < s.sizes.length
    case neg =>
      rw [decide_eq_false c]
      exact iteT ⟨one_line, fun r hr2 => fin_new k hf hat (Keeps.refl a H) hr2 (st_as1 c) rfl⟩
    rw [decide_eq_true c]
    refine iteF ⟨_, rfl, _, rfl, a, C, dx, _, _, rfl, ha, T.cl, T.nV, lkV, q, _, rfl, .inl (SqL.of hq), rfl, flat_nums _, s.sieves.contains n, congrArg V.bl (inV_nums n s.sieves), ?_⟩
    cases hc : s.sieves.contains n with
    | true => exact iteT ⟨one_line, fun r hr2 => fin_new k hf hat (Keeps.refl a H) hr2 (st_as2 c hc) rfl⟩
    | false =>
    have fr := st_as3 fit c hc
    have gd := good_as fit c hc
    refine iteF ?_
    dsimp only [tNext, tSeq, tAsg]
    refine rd_filt T ?_ ha hq fit.good few (fun y => decide (y < n)) ?_ ?_ ?_ ?_
    · rfl
    · exact fun _ => rfl
    · exact fun _ => rfl
    · exact fun y H Q h => ⟨_, rfl, _, rfl, _, _, rfl, rfl, _, rfl, (by rw [lt_nat]; exact h)⟩
    intro D1 H1 hD1 s1 b1
    dsimp only [gName, tSeq, tAsg]
    refine rd_filt T ?_ (s1 _ _ ha) (s1 _ _ hq) fit.good few (fun y => decide (n < y)) ?_ ?_ ?_ ?_
    · rfl
    · exact fun _ => rfl
    · exact fun _ => rfl
    · exact fun y H Q h => ⟨_, rfl, _, rfl, _, _, rfl, rfl, _, rfl, (by rw [lt_nat]; exact h)⟩
    intro D2 H2 hD2 s2 b2
    have f1 := List.length_filter_le (fun y => decide (y < n)) s.sieves
    have f2 := List.length_filter_le (fun y => decide (n < y)) s.sieves
    have sA := s1.trans s2
    replace b1 := s2 _ _ b1
    generalize s.sieves.filter (fun y => decide (y < n)) = lo at *
    generalize s.sieves.filter (fun y => decide (n < y)) = hi at *
    refine ⟨_, rfl, _, rfl, one_line, fun D3 hD3 => ?_⟩
    have s3 : Same H2 (upd H2 D3 (.lst [.int (n : Int)])) := same_new hD3
    have b3 : (upd H2 D3 (.lst [.int (n : Int)])) D3 = some (.lst [.int (n : Int)]) := upd_same
    generalize upd H2 D3 (.lst [.int (n : Int)]) = H3 at s3 b3 ⊢
    refine ⟨D1, D3, _, _, rfl, rfl, s3 _ _ b1, b3, small_line (by rw [nums_length]; show _ + 1 ≤ _; omega), fun D4 hD4 => ?_⟩
    have s4 : Same H3 (upd H3 D4 (.lst (nums lo ++ [.int (n : Int)]))) := same_new hD4
    have b4 : (upd H3 D4 (.lst (nums lo ++ [.int (n : Int)]))) D4 = some (.lst (nums lo ++ [.int (n : Int)])) := upd_same
    generalize upd H3 D4 (.lst (nums lo ++ [.int (n : Int)])) = H4 at s4 b4 ⊢
    refine ⟨_, rfl, D4, D2, _, _, rfl, rfl, b4, (s3.trans s4) _ _ b2, small_line (by rw [List.length_append, nums_length, nums_length, List.length_singleton]; omega), fun D5 hD5 => ?_⟩
    have e5 : nums lo ++ [V.int (n : Int)] ++ nums hi = nums (lo ++ [n] ++ hi) := by
      rw [nums_append, nums_append]
      rfl
    rw [e5]
    have s5 : Same H4 (upd H4 D5 (.lst (nums (lo ++ [n] ++ hi)))) := same_new hD5
    have b5 : (upd H4 D5 (.lst (nums (lo ++ [n] ++ hi)))) D5 = some (rwV (lo ++ [n] ++ hi)) := upd_same
    generalize upd H4 D5 (.lst (nums (lo ++ [n] ++ hi))) = H5 at s5 b5 ⊢
    have s6 := (sA.trans (s3.trans s4))
    have nD : D5 ≠ fo := Ne.symm (ne_of_none (s6 _ _ hf) hD5)
    have sB := s6.trans s5
    refine ⟨_, rfl, a, C, dx, _, rfl, sB _ _ ha, T.cl, T.nV, (by show 3 < 1000; decide), ?_⟩
    rw [ptV]
    have k2 : Keeps a H5 (upd H5 a (.ins C dx (flds true p D5))) := keeps_put
    have a2 : (upd H5 a (.ins C dx (flds true p D5))) a = some (.ins C dx (flds true p D5)) := upd_same
    generalize upd H5 a (.ins C dx (flds true p D5)) = H6 at k2 a2 ⊢
    have kk : Keeps a H H6 := (keeps sB).then k2
    have at2 : At C fo H6 a true ⟨s.sizes, lo ++ [n] ++ hi⟩ := ⟨dx, p, D5, a2, kk.rows ha R, k2.lst (sB _ _ ha) b5, np, nD, fit_sieves fit gd⟩
    refine ⟨_, rfl, a, dx, _, rfl, a2, lk_no, a, fo, xs, _, .misplaced, [], rfl, ⟨rfl, rfl⟩, kk.lst ha hf, at2, fun H9 r s9 y9 e9 k9 n9 at9 r9 => ?_⟩
    obtain ⟨rfl, rfl⟩ := step_mis e9
    exact k H9 r _ _ fr (kk.then k9) n9 at9 r9
/-! ### remove_sieve -/
abbrev sRs : Stmt := me 17
theorem scRs : FnScope ["self", "position", "other"] ["self", "position"] (defScope sRs) := ⟨rfl, rfl, rfl, by decide +kernel, rfl, by decide +kernel, by decide +kernel⟩
theorem ok_rs {f C : Addr} {fd : FuncData} (F : Fun K "remove_sieve" "Sifter.remove_sieve" sRs f fd) (T : Cl K C) (N : Cn mg) (DNw : Mt P w K mg base C "amount_now" 4 ["self"] (spOp C (arg0 .misplaced))) : FnOk P w K mg base CX0 5 f fd ["self", "position"] (spOp C (arg1 .removeSieve)) := by
  obtain ⟨fNw, fdNw, mNw, GNw, bNw⟩ := DNw
  refine F.ok scRs (fun vs H Q E h => ?_) (fun cdv A outer s0 H vs Q E hr h => ?_)
  · obtain ⟨a, fo, xs, s, c, ws, rfl, ⟨n, rfl, rfl⟩, _⟩ := h
    rfl
  · obtain ⟨a, fo, xs, s, c, ws, rfl, ⟨n, rfl, rfl⟩, hf, hat, k⟩ := h
    obtain ⟨dx, p, q, ha, R, hq, np, nq, fit⟩ := id hat
    refine ⟨_, pss_cons (ps_if (pt_cmpR op_notIn_seq (pv 1) (pe_fld (pv 0) rfl) (by rfl)) (pss_one (ps_ret (pe_lst (pa_cons (pe_const (by rfl) N.notThere) pa_nil)))) pss_nil)
      (pss_cons (ps_fld (pv 0) (pe_lc (own := [("other", 2)]) (g := gName 2) (by rfl) scRs.nd (pi_list (pe_fld (pv 0) rfl)) (blkOk_by (N := ["self", "position", "other"]) (sc := defScope sRs) (by decide +kernel)) (fun _ _ _ _ _ => pg_name (i := 2) scRs.nd rfl (Or.inl rfl)) (fun _ _ _ _ _ => pts_one (pt_cmpR op_ne (pv 2) (pv 1) (nomark _))) (fun _ _ _ _ _ => pv 2)) rfl)
      (pss_one (ps_ret (pe_meth0 (pv 0) T.cl mNw GNw (hr.mono (by decide)) bNw .nil pass0)))), ?_⟩
    have few := fit.few
    refine ⟨_, rfl, _, rfl, a, C, dx, _, _, rfl, ha, T.cl, T.nV, lkV, q, _, rfl, .inl (SqL.of hq), rfl, flat_nums _, !s.sieves.contains n, congrArg V.bl (congrArg not (inV_nums n s.sieves)), ?_⟩
    cases hc : s.sieves.contains n with
    | false => exact iteT ⟨one_line, fun r hr2 => fin_new k hf hat (Keeps.refl a H) hr2 (st_rs1 hc) rfl⟩
    | true =>
    refine iteF ?_
    dsimp only [tNext, tSeq, sFld]
    refine rd_filt T ?_ ha hq fit.good few (fun y => y != n) ?_ ?_ ?_ ?_
    · rfl
    · exact fun _ => rfl
    · exact fun _ => rfl
    · exact fun y H Q h => ⟨_, rfl, _, rfl, rfl, _, rfl, (by rw [ne_int]; exact h)⟩
    intro D1 H1 hD1 s1 b1
    refine ⟨_, rfl, a, C, dx, _, rfl, s1 _ _ ha, T.cl, T.nV, (by show 3 < 1000; decide), ?_⟩
    rw [ptV]
    have k2 : Keeps a H1 (upd H1 a (.ins C dx (flds true p D1))) := keeps_put
    have a2 : (upd H1 a (.ins C dx (flds true p D1))) a = some (.ins C dx (flds true p D1)) := upd_same
    generalize upd H1 a (.ins C dx (flds true p D1)) = H6 at k2 a2 ⊢
    have kk : Keeps a H H6 := (keeps s1).then k2
    have at2 : At C fo H6 a true ⟨s.sizes, s.sieves.filter fun y => y != n⟩ := ⟨dx, p, D1, a2, kk.rows ha R, k2.lst (s1 _ _ ha) b1, np, Ne.symm (ne_of_none hf hD1), fit_sieves fit (good_filter fit.good)⟩
    refine ⟨_, rfl, a, dx, _, rfl, a2, lk_no, a, fo, xs, _, .misplaced, [], rfl, ⟨rfl, rfl⟩, kk.lst ha hf, at2, fun H9 r s9 y9 e9 k9 n9 at9 r9 => ?_⟩
    obtain ⟨rfl, rfl⟩ := step_mis e9
    exact k H9 r _ _ (st_rs2 hc) (kk.then k9) n9 at9 r9
/-! ### gain_of_sieve -/
abbrev sGa : Stmt := me 18
theorem scGa : FnScope ["self", "count"] ["self", "count"] (defScope sGa) := ⟨rfl, rfl, rfl, by decide +kernel, rfl, by decide +kernel, by decide +kernel⟩
theorem ok_ga {f C : Addr} {fd : FuncData} (F : Fun K "gain_of_sieve" "Sifter.gain_of_sieve" sGa f fd) (T : Cl K C) (B : Bt mg) (N : Cn mg) (DAm : Df P w K mg base "best_amount" 5 pB spAmt) : FnOk P w K mg base CX0 6 f fd ["self", "count"] (spOp C (arg1 .gainOfSieve)) := by
  obtain ⟨fAm, fdAm, mAm, kAm, GAm, bAm⟩ := DAm
  refine F.ok scGa (fun vs H Q E h => ?_) (fun cdv A outer s0 H vs Q E hr h => ?_)
  · obtain ⟨a, fo, xs, s, c, ws, rfl, ⟨n, rfl, rfl⟩, _⟩ := h
    rfl
  · obtain ⟨a, fo, xs, s, c, ws, rfl, ⟨n, rfl, rfl⟩, hf, hat, k⟩ := h
    obtain ⟨dx, p, q, ha, R, hq, np, nq, fit⟩ := id hat
    refine ⟨_, pss_cons (ps_if (PW.pt (pw_or (pt_cmpR op_eq (pv 1) pe_int (nomark _)) (pw_or1 (pt_cmpR op_ge (pv 1) (pe_callB call_len_seq (by rfl) B.len PySem.boot_len (pa_cons (pe_fld (pv 0) rfl) pa_nil)) (nomark _))))) (pss_one (ps_ret (pe_lst (pa_cons (pe_const (by rfl) N.outside) pa_nil)))) pss_nil)
      (pss_one (ps_ret (pe_lst (pa_cons (pe_op op_sub (pe_call GAm (hr.mono (by decide)) rfl mAm kAm bAm .nil pass0 (pa_cons (pe_fld (pv 0) rfl) (pa_cons (pe_op op_sub (pv 1) pe_int) pa_nil))) (pe_call GAm (hr.mono (by decide)) rfl mAm kAm bAm .nil pass0 (pa_cons (pe_fld (pv 0) rfl) (pa_cons (pv 1) pa_nil)))) pa_nil)))), ?_⟩
    obtain ⟨ps, h1, h2, h3⟩ := id R
    have few := fit.few
    refine ⟨_, rfl, rfl, _, rfl, ite2 (fun g => iteT ?_) (fun g => ?_)⟩
    · have g' : n = 0 := by
        have e := V.int.inj (of_decide_eq_true g)
        omega
      exact ⟨one_line, fun r hr2 => fin_new k hf hat (Keeps.refl a H) hr2 (st_gain1 (.inl g')) rfl⟩
    have n0 : n ≠ 0 := fun z => g (decide_eq_true (by rw [z]; rfl))
    refine ⟨_, rfl, _, rfl, a, C, dx, _, _, rfl, ha, T.cl, T.nZ, lkZ, p, _, rfl, .inl (SqL.of h1), _, _, rfl, rfl, _, rfl, ?_⟩
    dsimp only
    rw [rows_len h2, le_nat]
    by_cases g' : s.sizes.length ≤ n
    · rw [decide_eq_true g']
      exact iteT ⟨one_line, fun r hr2 => fin_new k hf hat (Keeps.refl a H) hr2 (st_gain1 (.inr (by omega))) rfl⟩
    rw [decide_eq_false g']
    have e1 : (n : Int) - 1 = ((n - 1 : Nat) : Int) := by omega
    refine iteF ⟨_, rfl, a, C, dx, _, _, rfl, ha, T.cl, T.nZ, lkZ, _, rfl, _, _, rfl, rfl, p, n - 1, s.sizes, (by dsimp only; rw [e1]; rfl), R, fit.few, .inl (by omega), fun H1 b s1 eb => ?_⟩
    refine ⟨_, rfl, a, C, dx, _, _, rfl, s1 _ _ ha, T.cl, T.nZ, lkZ, _, rfl, p, n, s.sizes, rfl, R.same s1, fit.few, .inl (by omega), fun H2 c s2 ec => ?_⟩
    refine ⟨_, _, rfl, rfl, one_line, fun r hr2 => ?_⟩
    have sA := s1.trans s2
    refine fin_new k (sA _ _ hf) (hat.same sA) (keeps sA) hr2 (st_gain2 (by omega) n0 eb ec) ?_
    have hle := gain_le (by omega) n0 eb ec
    show [V.int ((amtOf s.sizes b : Int) - (amtOf s.sizes c : Int))] = [V.int ((amtOf s.sizes b - amtOf s.sizes c : Nat) : Int)]
    have e2 : (amtOf s.sizes b : Int) - (amtOf s.sizes c : Int) = ((amtOf s.sizes b - amtOf s.sizes c : Nat) : Int) := by omega
    rw [e2]
end
end Sv
namespace Sv
open PySem PySem.Spec PyProof.Rows L2
open Kp409 (SizeFraction Sifter)

theorem goes_take {cs : List (List SizeFraction)} {i : Nat} {c : List SizeFraction} (h : cs[i]? = some c) (g : List SizeFraction → Nat) (hb : Kp409.totalBran c ≤ Kp409.totalFlour c) : (((cs.take (i + 1)).filter Kp409.goesToFlour).map g).sum = (((cs.take i).filter Kp409.goesToFlour).map g).sum + g c := by
  rw [take_some h, List.filter_append, List.filter_cons_of_pos (by unfold Kp409.goesToFlour; exact decide_eq_true hb)]
  simp
theorem goes_skip {cs : List (List SizeFraction)} {i : Nat} {c : List SizeFraction} (h : cs[i]? = some c) (hb : ¬ Kp409.totalBran c ≤ Kp409.totalFlour c) : (cs.take (i + 1)).filter Kp409.goesToFlour = (cs.take i).filter Kp409.goesToFlour := by
  rw [take_some h, List.filter_append, List.filter_cons_of_neg (by unfold Kp409.goesToFlour; rw [decide_eq_false hb]; decide)]
  simp
section
variable {P : Program} {w : World} {K : PySem.W.Frag} {mg : Str → Option Value} {base : Heap}
/-! ### evaluate_sieves -/
abbrev sEvs : Stmt := me 20
theorem scEvs : FnScope ["self", "positions"] ["self", "positions"] (defScope sEvs) := ⟨rfl, rfl, rfl, by decide +kernel, rfl, by decide +kernel, by decide +kernel⟩
theorem ok_evs {f C : Addr} {fd : FuncData} (F : Fun K "evaluate_sieves" "Sifter.evaluate_sieves" sEvs f fd) (T : Cl K C) (B : Bt mg) (N : Cn mg) (DAr : Df P w K mg base "are_positions" 2 pAre spAre) (DMi : Df P w K mg base "misplaced_of" 3 pC spMis) (DHv : Df P w K mg base "heaviest_of" 3 pC spHvy) : FnOk P w K mg base CX0 5 f fd ["self", "positions"] (spOp C (argL .evaluateSieves)) := by
  obtain ⟨fAr, fdAr, mAr, kAr, GAr, bAr⟩ := DAr
  obtain ⟨fMi, fdMi, mMi, kMi, GMi, bMi⟩ := DMi
  obtain ⟨fHv, fdHv, mHv, kHv, GHv, bHv⟩ := DHv
  refine F.ok scEvs (fun vs H Q E h => ?_) (fun cdv A outer s0 H vs Q E hr h => ?_)
  · obtain ⟨a, fo, xs, s, c, ws, rfl, ⟨b, l, rfl, _, rfl⟩, _⟩ := h
    rfl
  · obtain ⟨a, fo, xs, s, c, ws, rfl, ⟨b, l, rfl, hb, rfl⟩, hf, hat, k⟩ := h
    obtain ⟨dx, p, q, ha, R, hq, np, nq, fit⟩ := id hat
    refine ⟨_, pss_cons (ps_if (pt_not (pt_val (pe_call GAr (hr.mono (by decide)) rfl mAr kAr bAr .nil pass0 (pa_cons (pv 1) (pa_cons (pe_callB call_len_seq (by rfl) B.len PySem.boot_len (pa_cons (pe_fld (pv 0) rfl) pa_nil)) pa_nil))))) (pss_one (ps_ret (pe_lst (pa_cons (pe_const (by rfl) N.outside) pa_nil)))) pss_nil)
      (pss_one (ps_ret (pe_lst (pa_cons (pe_call GMi (hr.mono (by decide)) rfl mMi kMi bMi .nil pass0 (pa_cons (pe_fld (pv 0) rfl) (pa_cons (pv 1) pa_nil))) (pa_cons (pe_call GHv (hr.mono (by decide)) rfl mHv kHv bHv .nil pass0 (pa_cons (pe_fld (pv 0) rfl) (pa_cons (pv 1) pa_nil))) pa_nil))))), ?_⟩
    obtain ⟨ps, h1, h2, h3⟩ := id R
    refine ⟨_, rfl, _, rfl, a, C, dx, _, _, rfl, ha, T.cl, T.nZ, lkZ, p, _, rfl, .inl (SqL.of h1), b, s.sizes.length, l, (by rw [rows_len h2]; rfl), hb, _, rfl, ?_⟩
    cases hv : areFrom s.sizes.length 0 l with
    | false => exact iteT ⟨one_line, fun r hr2 => fin_new k hf hat (Keeps.refl a H) hr2 (st_ev1 hv) rfl⟩
    | true =>
    refine iteF ⟨_, rfl, a, C, dx, _, _, rfl, ha, T.cl, T.nZ, lkZ, _, rfl, p, b, s.sizes, l, rfl, R, hb, are_good hv, fit.few, fun H1 s1 => ?_⟩
    refine ⟨_, rfl, a, C, dx, _, _, rfl, s1 _ _ ha, T.cl, T.nZ, lkZ, _, rfl, p, b, s.sizes, l, rfl, R.same s1, s1 _ _ hb, are_good hv, fit.few, fun H2 s2 => ⟨(by show 2 ≤ sizeLine; decide), fun r hr2 => ?_⟩⟩
    have sA := s1.trans s2
    refine fin_new k (sA _ _ hf) (hat.same sA) (keeps sA) hr2 (st_ev2 hv) ?_
    rw [told_nat]
    rfl
/-! ### destination -/
abbrev sDe : Stmt := me 21
theorem scDe : FnScope ["self", "size", "many", "flour", "bran"] ["self", "size"] (defScope sDe) := ⟨rfl, rfl, rfl, by decide +kernel, rfl, by decide +kernel, by decide +kernel⟩
theorem ok_de {f C : Addr} {fd : FuncData} (F : Fun K "destination" "Sifter.destination" sDe f fd) (T : Cl K C) (N : Cn mg) (DHa : Mt P w K mg base C "has_size" 1 ["self", "size"] (spHas C)) (DCa : Df P w K mg base "class_at" 3 pA spAt) (DGf : Df P w K mg base "goes_to_flour" 1 ["flour", "bran"] spGoes) : FnOk P w K mg base CX0 4 f fd ["self", "size"] (spOp C (arg1 .destination)) := by
  obtain ⟨fHa, fdHa, mHa, GHa, bHa⟩ := DHa
  obtain ⟨fCa, fdCa, mCa, kCa, GCa, bCa⟩ := DCa
  obtain ⟨fGf, fdGf, mGf, kGf, GGf, bGf⟩ := DGf
  refine F.ok scDe (fun vs H Q E h => ?_) (fun cdv A outer s0 H vs Q E hr h => ?_)
  · obtain ⟨a, fo, xs, s, c, ws, rfl, ⟨n, rfl, rfl⟩, _⟩ := h
    rfl
  · obtain ⟨a, fo, xs, s, c, ws, rfl, ⟨n, rfl, rfl⟩, hf, hat, k⟩ := h
    obtain ⟨dx, p, q, ha, R, hq, np, nq, fit⟩ := id hat
    refine ⟨_, pss_cons (ps_if (pt_not (pt_val (pe_meth (pv 0) T.cl mHa GHa (hr.mono (by decide)) bHa .nil pass0 (pa_cons (pv 1) pa_nil)))) (pss_one (ps_ret (pe_lst (pa_cons (pe_const (by rfl) N.notThere) pa_nil)))) pss_nil)
      (pss_cons (ps_asg (pe_call GCa (hr.mono (by decide)) rfl mCa kCa bCa .nil pass0 (pa_cons (pe_fld (pv 0) rfl) (pa_cons (pe_fld (pv 0) rfl) (pa_cons (pv 1) pa_nil)))) (pg_tup (by rfl) (pgs_cons (pg_name (i := 2) scDe.nd rfl (.inl rfl)) (pgs_cons (pg_name (i := 3) scDe.nd rfl (.inl rfl)) (pgs_cons (pg_name (i := 4) scDe.nd rfl (.inl rfl)) pgs_nil)))))
      (pss_cons (ps_if (pt_val (pe_call GGf (hr.mono (by decide)) rfl mGf kGf bGf .nil pass0 (pa_cons (pv 3) (pa_cons (pv 4) pa_nil)))) (pss_one (ps_ret (pe_lst (pa_cons pe_int pa_nil)))) pss_nil)
      (pss_one (ps_ret (pe_lst (pa_cons pe_int pa_nil)))))), ?_⟩
    refine ⟨_, rfl, a, dx, _, rfl, ha, lk_no, _, rfl, a, fo, true, s, n, rfl, hat, _, rfl, ?_⟩
    by_cases c : n < s.sizes.length
    case neg =>
      rw [decide_eq_false c]
      exact iteT ⟨one_line, fun r hr2 => fin_new k hf hat (Keeps.refl a H) hr2 (st_de1 c) rfl⟩
    rw [decide_eq_true c]
    refine iteF ⟨_, rfl, a, C, dx, _, _, rfl, ha, T.cl, T.nZ, lkZ, _, rfl, a, C, dx, _, _, rfl, ha, T.cl, T.nV, lkV, _, rfl, p, q, n, s.sizes, s.sieves, rfl, R, hq, fit.good, fit.few, fun H1 t s1 ht => ?_⟩
    have fr := st_de2 fit c
    generalize atFrom n 0 [] (clsOf s.sizes s.sieves) = cl at ht fr
    refine ⟨t, _, rfl, SqT.of ht, rfl, _, _, rfl, _, _, rfl, _, _, rfl, rfl, ?_⟩
    refine ⟨_, rfl, _, rfl, Kp409.totalFlour cl, Kp409.totalBran cl, rfl, _, rfl, ite2 (fun g => ?_) (fun g => ?_)⟩
    · have g' := of_decide_eq_true g
      rw [if_pos g'] at fr
      exact ⟨one_line, fun r hr2 => fin_new k (s1 _ _ hf) (hat.same s1) (keeps s1) hr2 fr rfl⟩
    · have g' : ¬ Kp409.totalBran cl ≤ Kp409.totalFlour cl := fun z => g (decide_eq_true z)
      rw [if_neg g'] at fr
      exact ⟨one_line, fun r hr2 => fin_new k (s1 _ _ hf) (hat.same s1) (keeps s1) hr2 fr rfl⟩
/-! ### yields -/
abbrev sYi : Stmt := me 22
theorem scYi : FnScope ["self", "flour_there", "bran_there", "many", "flour", "bran"] ["self"] (defScope sYi) := ⟨rfl, rfl, rfl, by decide +kernel, rfl, by decide +kernel, by decide +kernel⟩
theorem ok_yi {f C : Addr} {fd : FuncData} (F : Fun K "yields" "Sifter.yields" sYi f fd) (T : Cl K C) (B : Bt mg) (DC : Df P w K mg base "classes_of" 2 pC spCls) (DGf : Df P w K mg base "goes_to_flour" 1 ["flour", "bran"] spGoes) (DF : Df P w K mg base "flour_between" 1 ["sizes", "begin", "end"] spFlour) (DBn : Df P w K mg base "bran_between" 1 ["sizes", "begin", "end"] spBran) : FnOk P w K mg base CX0 3 f fd ["self"] (spOp C (arg0 .yields)) := by
  obtain ⟨fC, fdC, mC, kC, GC, bC⟩ := DC
  obtain ⟨fGf, fdGf, mGf, kGf, GGf, bGf⟩ := DGf
  obtain ⟨fF, fdF, mF, kF, GF, bF⟩ := DF
  obtain ⟨fBn, fdBn, mBn, kBn, GBn, bBn⟩ := DBn
  refine F.ok scYi (fun vs H Q E h => ?_) (fun cdv A outer s0 H vs Q E hr h => ?_)
  · obtain ⟨a, fo, xs, s, c, ws, rfl, ⟨rfl, rfl⟩, _⟩ := h
    rfl
  · obtain ⟨a, fo, xs, s, c, ws, rfl, ⟨rfl, rfl⟩, hf, hat, k⟩ := h
    obtain ⟨dx, p, q, ha, R, hq, np, nq, fit⟩ := id hat
    refine ⟨_, pss_cons (ps_set (i := 1) scYi.nd rfl (.inl rfl) pe_int) (pss_cons (ps_set (i := 2) scYi.nd rfl (.inl rfl) pe_int)
      (pss_cons (ps_for PassesOwn.never rfl (pi_list (pe_call GC (hr.mono (by decide)) rfl mC kC bC .nil pass0 (pa_cons (pe_fld (pv 0) rfl) (pa_cons (pe_fld (pv 0) rfl) pa_nil)))) (pg_tup (by rfl) (pgs_cons (pg_name (i := 3) scYi.nd rfl (.inl rfl)) (pgs_cons (pg_name (i := 4) scYi.nd rfl (.inl rfl)) (pgs_cons (pg_name (i := 5) scYi.nd rfl (.inl rfl)) pgs_nil))))
        (pss_one (ps_if (pt_val (pe_call GGf (hr.mono (by decide)) rfl mGf kGf bGf .nil pass0 (pa_cons (pv 4) (pa_cons (pv 5) pa_nil)))) (pss_cons (ps_set (i := 1) scYi.nd rfl (.inl rfl) (pe_op op_add (pv 1) (pv 4))) (pss_one (ps_set (i := 2) scYi.nd rfl (.inl rfl) (pe_op op_add (pv 2) (pv 5))))) pss_nil)))
      (pss_cons (ps_set (i := 3) scYi.nd rfl (.inl rfl) (pe_callB call_len_seq (by rfl) B.len PySem.boot_len (pa_cons (pe_fld (pv 0) rfl) pa_nil)))
      (pss_one (ps_ret (pe_lst (pa_cons (pv 1) (pa_cons (pv 2) (pa_cons (pe_call GF (hr.mono (by decide)) rfl mF kF bF .nil pass0 (pa_cons (pe_fld (pv 0) rfl) (pa_cons pe_int (pa_cons (pv 3) pa_nil)))) (pa_cons (pe_call GBn (hr.mono (by decide)) rfl mBn kBn bBn .nil pass0 (pa_cons (pe_fld (pv 0) rfl) (pa_cons pe_int (pa_cons (pv 3) pa_nil)))) pa_nil)))))))))) , ?_⟩
    obtain ⟨ps, h1, h2, h3⟩ := id R
    refine ⟨_, rfl, a, C, dx, _, _, rfl, ha, T.cl, T.nZ, lkZ, _, rfl, a, C, dx, _, _, rfl, ha, T.cl, T.nV, lkV, p, q, s.sizes, s.sieves, rfl, R, hq, fit.good, fit.few, fun H1 c s1 RC => ?_⟩
    have fr := st_yi (s := s)
    generalize clsOf s.sizes s.sieves = cs at RC fr
    obtain ⟨qs, c1, c2, c3⟩ := RC
    refine ⟨c, rfl, ⟨_, SqL.of c1⟩, for_list (K := K) (a := c) (xs := qs.map fun p => V.ref p.1) (fun i σ H' => H' = H1 ∧ ∃ u v w, σ = [some (.ref a), some (.int ((((cs.take i).filter Kp409.goesToFlour).map Kp409.totalFlour).sum : Nat)), some (.int ((((cs.take i).filter Kp409.goesToFlour).map Kp409.totalBran).sum : Nat)), u, v, w])
      ⟨rfl, none, none, none, rfl⟩ (fun i σ H' _ ⟨e, _⟩ => e ▸ SqL.of c1) ?_ ?_⟩
    · rintro i x σ H' hi ⟨rfl, u, v, w, rfl⟩
      obtain ⟨y, e1, my, rfl, e2⟩ := get_ref hi
      rw [c2] at e2
      refine ⟨y.1, _, rfl, SqT.of (c3 y my), rfl, _, _, rfl, _, _, rfl, _, _, rfl, rfl, ?_⟩
      refine ⟨_, rfl, _, rfl, Kp409.totalFlour y.2, Kp409.totalBran y.2, rfl, _, rfl, ite2 (fun g => ?_) (fun g => ?_)⟩
      · have g' := of_decide_eq_true g
        refine ⟨_, rfl, _, rfl, _, _, rfl, rfl, ?_⟩
        refine ⟨_, rfl, _, rfl, _, _, rfl, rfl, ?_⟩
        refine ⟨rfl, some (.int y.2.length), some (.int (Kp409.totalFlour y.2 : Nat)), some (.int (Kp409.totalBran y.2 : Nat)), ?_⟩
        rw [goes_take e2 _ g', goes_take e2 _ g', Int.natCast_add, Int.natCast_add]
        rfl
      · have g' : ¬ Kp409.totalBran y.2 ≤ Kp409.totalFlour y.2 := fun z => g (decide_eq_true z)
        refine ⟨rfl, some (.int y.2.length), some (.int (Kp409.totalFlour y.2 : Nat)), some (.int (Kp409.totalBran y.2 : Nat)), ?_⟩
        rw [goes_skip e2 g']
        rfl
    · rintro σ H' ⟨rfl, u, v, w, rfl⟩
      rw [rows_len c2, List.take_length]
      have ha1 := s1 _ _ ha
      refine ⟨_, rfl, a, C, dx, _, _, rfl, ha1, T.cl, T.nZ, lkZ, p, _, rfl, .inl (SqL.of (s1 _ _ h1)), ?_⟩
      dsimp only
      rw [rows_len h2]
      refine ⟨_, rfl, _, rfl, _, rfl, a, C, dx, _, _, rfl, ha1, T.cl, T.nZ, lkZ, _, rfl, p, 0, s.sizes.length, s.sizes, rfl, R.same s1, Nat.zero_le _, Nat.le_refl _, fit.few, _, rfl, a, C, dx, _, _, rfl, ha1, T.cl, T.nZ, lkZ, _, rfl, p, 0, s.sizes.length, s.sizes, rfl, R.same s1, Nat.zero_le _, Nat.le_refl _, fit.few, (by show 4 ≤ sizeLine; decide), fun r hr2 => ?_⟩
      refine fin_new k (s1 _ _ hf) (hat.same s1) (keeps s1) hr2 fr ?_
      rw [told_nat, List.take_length, List.drop_zero]
      rfl
end
end Sv
namespace Sv
open PySem PySem.Spec PyProof.Rows L2
open Kp409 (SizeFraction Sifter)

/-! ### the requests -/
theorem ifT {c : Bool} {A B : Prop} (hc : c = true) (h : A) : if c = true then A else B := by
  rw [if_pos hc]
  exact h
theorem ifF {c : Bool} {A B : Prop} (hc : c = false) (h : B) : if c = true then A else B := by
  rw [hc, if_neg Bool.false_ne_true]
  exact h
/-- a group of calls: their numbers from lo to hi -/
def spGrp (C : Addr) (lo hi : Nat) : Sp := fun vs H Q _ => ∃ (a fo b : Addr) (xs : List V) (s : Sifter) (c : Kp409.Call) (n : Nat) (l : List Nat), vs = [.ref a, .int n, .ref b] ∧ H b = some (rwV l) ∧ CallIs n l c ∧ lo ≤ n ∧ n ≤ hi ∧ H fo = some (.lst xs) ∧ At C fo H a true s ∧
  ∀ (H' : Hp) (p : Addr) (s' : Sifter) (y : Kp409.Ans), Kp409.step (some s) c = (some s', y) → Keeps a H H' → p ≠ fo → At C fo H' a true s' → H' p = some (.lst (told y)) → Q (.ref p) H'
abbrev pG : List Str := ["sifter", "number", "values"]
section
variable {P : Program} {w : World} {K : PySem.W.Frag} {mg : Str → Option Value} {base : Heap}
/-! ### answer_of_sizes -/
abbrev sGr1 : Stmt := top 33
theorem scGr1 : FnScope pG pG (defScope sGr1) := ⟨rfl, rfl, rfl, by decide +kernel, rfl, by decide +kernel, by decide +kernel⟩
theorem ok_gr1 {f C : Addr} {fd : FuncData} (F : Fun K "answer_of_sizes" "answer_of_sizes" sGr1 f fd) (T : Cl K C) (DAdd : Mt P w K mg base C "add_size" 2 ["self", "flour", "bran"] (spOp C (arg2 .addSize))) (DRem : Mt P w K mg base C "remove_last_size" 1 ["self"] (spOp C (arg0 .removeLastSize))) (DSet : Mt P w K mg base C "set_size" 2 ["self", "size", "flour", "bran"] (spOp C (arg3 .setSize))) (DGsz : Mt P w K mg base C "get_sizes" 1 ["self"] (spOp C (arg0 .getSizes))) : FnOk P w K mg base CX0 3 f fd pG (spGrp C 1 4) := by
  obtain ⟨fAdd, fdAdd, mAdd, GAdd, bAdd⟩ := DAdd
  obtain ⟨fRem, fdRem, mRem, GRem, bRem⟩ := DRem
  obtain ⟨fSet, fdSet, mSet, GSet, bSet⟩ := DSet
  obtain ⟨fGsz, fdGsz, mGsz, GGsz, bGsz⟩ := DGsz
  refine F.ok scGr1 (fun vs H Q E h => ?_) (fun cdv A outer s0 H vs Q E hr h => ?_)
  · obtain ⟨a, fo, b, xs, s, c, n, l, rfl, _⟩ := h
    rfl
  · obtain ⟨a, fo, b, xs, s, c, n, l, rfl, hb, hc, hlo, hhi, hf, hat, kk⟩ := h
    obtain ⟨dx, p, q, ha, R, hq, np, nq, fit⟩ := id hat
    refine ⟨_, pss_cons (ps_if (pt_cmpR op_eq (pv 1) pe_int (nomark _)) (pss_one (ps_ret (pe_meth (pv 0) T.cl mAdd GAdd (hr.mono (by decide)) bAdd .nil pass0 (pa_cons (pe_ix ix_list (pv 2) pe_int (fun _ _ => rfl)) (pa_cons (pe_ix ix_list (pv 2) pe_int (fun _ _ => rfl)) pa_nil))))) pss_nil)
      (pss_cons (ps_if (pt_cmpR op_eq (pv 1) pe_int (nomark _)) (pss_one (ps_ret (pe_meth0 (pv 0) T.cl mRem GRem (hr.mono (by decide)) bRem .nil pass0))) pss_nil)
      (pss_cons (ps_if (pt_cmpR op_eq (pv 1) pe_int (nomark _)) (pss_one (ps_ret (pe_meth (pv 0) T.cl mSet GSet (hr.mono (by decide)) bSet .nil pass0 (pa_cons (pe_ix ix_list (pv 2) pe_int (fun _ _ => rfl)) (pa_cons (pe_ix ix_list (pv 2) pe_int (fun _ _ => rfl)) (pa_cons (pe_ix ix_list (pv 2) pe_int (fun _ _ => rfl)) pa_nil)))))) pss_nil)
      (pss_one (ps_ret (pe_meth0 (pv 0) T.cl mGsz GGsz (hr.mono (by decide)) bGsz .nil pass0))))), ?_⟩
    cases hc with
    | c0 => omega
    | c1 n m => exact ⟨_, rfl, rfl, _, rfl, ifT (by decide) ⟨_, rfl, a, dx, _, rfl, ha, lk_no, _, rfl, b, _, 0, _, rfl, rfl, SqL.of hb, at_of (j := 0) rfl rfl, _, rfl, b, _, 1, _, rfl, rfl, SqL.of hb, at_of (j := 1) rfl rfl, a, fo, xs, s, _, _, rfl, ⟨n, m, rfl, rfl⟩, hf, hat, kk⟩⟩
    | c2 => exact ⟨_, rfl, rfl, _, rfl, ifF (by decide) ⟨_, rfl, rfl, _, rfl, ifT (by decide) ⟨_, rfl, a, dx, _, rfl, ha, lk_no, a, fo, xs, s, _, _, rfl, ⟨rfl, rfl⟩, hf, hat, kk⟩⟩⟩
    | c3 n m j => exact ⟨_, rfl, rfl, _, rfl, ifF (by decide) ⟨_, rfl, rfl, _, rfl, ifF (by decide) ⟨_, rfl, rfl, _, rfl, ifT (by decide) ⟨_, rfl, a, dx, _, rfl, ha, lk_no, _, rfl, b, _, 0, _, rfl, rfl, SqL.of hb, at_of (j := 0) rfl rfl, _, rfl, b, _, 1, _, rfl, rfl, SqL.of hb, at_of (j := 1) rfl rfl, _, rfl, b, _, 2, _, rfl, rfl, SqL.of hb, at_of (j := 2) rfl rfl, a, fo, xs, s, _, _, rfl, ⟨n, m, j, rfl, rfl⟩, hf, hat, kk⟩⟩⟩⟩
    | c4 => exact ⟨_, rfl, rfl, _, rfl, ifF (by decide) ⟨_, rfl, rfl, _, rfl, ifF (by decide) ⟨_, rfl, rfl, _, rfl, ifF (by decide) ⟨_, rfl, a, dx, _, rfl, ha, lk_no, a, fo, xs, s, _, _, rfl, ⟨rfl, rfl⟩, hf, hat, kk⟩⟩⟩⟩
    | c5 => omega
    | c6 => omega
    | c7 => omega
    | c8 => omega
    | c9 => omega
    | c10 => omega
    | c11 => omega
    | c12 => omega
    | c13 => omega
    | c14 => omega
    | c15 => omega
    | c16 => omega
    | c17 => omega
    | c18 => omega
    | c19 => omega
    | c20 => omega
/-! ### answer_of_sieves -/
abbrev sGr2 : Stmt := top 34
theorem scGr2 : FnScope pG pG (defScope sGr2) := ⟨rfl, rfl, rfl, by decide +kernel, rfl, by decide +kernel, by decide +kernel⟩
theorem ok_gr2 {f C : Addr} {fd : FuncData} (F : Fun K "answer_of_sieves" "answer_of_sieves" sGr2 f fd) (T : Cl K C) (DSs : Mt P w K mg base C "set_sieves" 5 ["self", "positions"] (spOp C (argL .setSieves))) (DGsv : Mt P w K mg base C "get_sieves" 1 ["self"] (spOp C (arg0 .getSieves))) (DGc : Mt P w K mg base C "get_classes" 3 ["self"] (spOp C (arg0 .getClasses))) (DNw : Mt P w K mg base C "amount_now" 4 ["self"] (spOp C (arg0 .misplaced))) (DPu : Mt P w K mg base C "purity" 4 ["self"] (spOp C (arg0 .purity))) : FnOk P w K mg base CX0 6 f fd pG (spGrp C 5 9) := by
  obtain ⟨fSs, fdSs, mSs, GSs, bSs⟩ := DSs
  obtain ⟨fGsv, fdGsv, mGsv, GGsv, bGsv⟩ := DGsv
  obtain ⟨fGc, fdGc, mGc, GGc, bGc⟩ := DGc
  obtain ⟨fNw, fdNw, mNw, GNw, bNw⟩ := DNw
  obtain ⟨fPu, fdPu, mPu, GPu, bPu⟩ := DPu
  refine F.ok scGr2 (fun vs H Q E h => ?_) (fun cdv A outer s0 H vs Q E hr h => ?_)
  · obtain ⟨a, fo, b, xs, s, c, n, l, rfl, _⟩ := h
    rfl
  · obtain ⟨a, fo, b, xs, s, c, n, l, rfl, hb, hc, hlo, hhi, hf, hat, kk⟩ := h
    obtain ⟨dx, p, q, ha, R, hq, np, nq, fit⟩ := id hat
    refine ⟨_, pss_cons (ps_if (pt_cmpR op_eq (pv 1) pe_int (nomark _)) (pss_one (ps_ret (pe_meth (pv 0) T.cl mSs GSs (hr.mono (by decide)) bSs .nil pass0 (pa_cons (pv 2) pa_nil)))) pss_nil)
      (pss_cons (ps_if (pt_cmpR op_eq (pv 1) pe_int (nomark _)) (pss_one (ps_ret (pe_meth0 (pv 0) T.cl mGsv GGsv (hr.mono (by decide)) bGsv .nil pass0))) pss_nil)
      (pss_cons (ps_if (pt_cmpR op_eq (pv 1) pe_int (nomark _)) (pss_one (ps_ret (pe_meth0 (pv 0) T.cl mGc GGc (hr.mono (by decide)) bGc .nil pass0))) pss_nil)
      (pss_cons (ps_if (pt_cmpR op_eq (pv 1) pe_int (nomark _)) (pss_one (ps_ret (pe_meth0 (pv 0) T.cl mNw GNw (hr.mono (by decide)) bNw .nil pass0))) pss_nil)
      (pss_one (ps_ret (pe_meth0 (pv 0) T.cl mPu GPu (hr.mono (by decide)) bPu .nil pass0)))))), ?_⟩
    cases hc with
    | c0 => omega
    | c1 => omega
    | c2 => omega
    | c3 => omega
    | c4 => omega
    | c5 l => exact ⟨_, rfl, rfl, _, rfl, ifT (by decide) ⟨_, rfl, a, dx, _, rfl, ha, lk_no, _, rfl, a, fo, xs, s, _, _, rfl, ⟨b, l, rfl, hb, rfl⟩, hf, hat, kk⟩⟩
    | c6 => exact ⟨_, rfl, rfl, _, rfl, ifF (by decide) ⟨_, rfl, rfl, _, rfl, ifT (by decide) ⟨_, rfl, a, dx, _, rfl, ha, lk_no, a, fo, xs, s, _, _, rfl, ⟨rfl, rfl⟩, hf, hat, kk⟩⟩⟩
    | c7 => exact ⟨_, rfl, rfl, _, rfl, ifF (by decide) ⟨_, rfl, rfl, _, rfl, ifF (by decide) ⟨_, rfl, rfl, _, rfl, ifT (by decide) ⟨_, rfl, a, dx, _, rfl, ha, lk_no, a, fo, xs, s, _, _, rfl, ⟨rfl, rfl⟩, hf, hat, kk⟩⟩⟩⟩
    | c8 => exact ⟨_, rfl, rfl, _, rfl, ifF (by decide) ⟨_, rfl, rfl, _, rfl, ifF (by decide) ⟨_, rfl, rfl, _, rfl, ifF (by decide) ⟨_, rfl, rfl, _, rfl, ifT (by decide) ⟨_, rfl, a, dx, _, rfl, ha, lk_no, a, fo, xs, s, _, _, rfl, ⟨rfl, rfl⟩, hf, hat, kk⟩⟩⟩⟩⟩
    | c9 => exact ⟨_, rfl, rfl, _, rfl, ifF (by decide) ⟨_, rfl, rfl, _, rfl, ifF (by decide) ⟨_, rfl, rfl, _, rfl, ifF (by decide) ⟨_, rfl, rfl, _, rfl, ifF (by decide) ⟨_, rfl, a, dx, _, rfl, ha, lk_no, a, fo, xs, s, _, _, rfl, ⟨rfl, rfl⟩, hf, hat, kk⟩⟩⟩⟩⟩
    | c10 => omega
    | c11 => omega
    | c12 => omega
    | c13 => omega
    | c14 => omega
    | c15 => omega
    | c16 => omega
    | c17 => omega
    | c18 => omega
    | c19 => omega
    | c20 => omega
/-! ### answer_of_best -/
abbrev sGr3 : Stmt := top 35
theorem scGr3 : FnScope pG pG (defScope sGr3) := ⟨rfl, rfl, rfl, by decide +kernel, rfl, by decide +kernel, by decide +kernel⟩
theorem ok_gr3 {f C : Addr} {fd : FuncData} (F : Fun K "answer_of_best" "answer_of_best" sGr3 f fd) (T : Cl K C) (DBs : Mt P w K mg base C "best_sieves" 5 ["self", "count"] (spOp C (arg1 .bestSieves))) (DAp : Mt P w K mg base C "apply_best_sieves" 5 ["self", "count"] (spOp C (arg1 .applyBestSieves))) (DNd : Mt P w K mg base C "sieves_needed" 6 ["self", "limit"] (spOp C (arg1 .sievesNeeded))) (DLb : Mt P w K mg base C "lower_bound" 2 ["self"] (spOp C (arg0 .lowerBound))) (DAs : Mt P w K mg base C "add_sieve" 5 ["self", "position"] (spOp C (arg1 .addSieve))) (DRs : Mt P w K mg base C "remove_sieve" 5 ["self", "position"] (spOp C (arg1 .removeSieve))) : FnOk P w K mg base CX0 7 f fd pG (spGrp C 10 15) := by
  obtain ⟨fBs, fdBs, mBs, GBs, bBs⟩ := DBs
  obtain ⟨fAp, fdAp, mAp, GAp, bAp⟩ := DAp
  obtain ⟨fNd, fdNd, mNd, GNd, bNd⟩ := DNd
  obtain ⟨fLb, fdLb, mLb, GLb, bLb⟩ := DLb
  obtain ⟨fAs, fdAs, mAs, GAs, bAs⟩ := DAs
  obtain ⟨fRs, fdRs, mRs, GRs, bRs⟩ := DRs
  refine F.ok scGr3 (fun vs H Q E h => ?_) (fun cdv A outer s0 H vs Q E hr h => ?_)
  · obtain ⟨a, fo, b, xs, s, c, n, l, rfl, _⟩ := h
    rfl
  · obtain ⟨a, fo, b, xs, s, c, n, l, rfl, hb, hc, hlo, hhi, hf, hat, kk⟩ := h
    obtain ⟨dx, p, q, ha, R, hq, np, nq, fit⟩ := id hat
    refine ⟨_, pss_cons (ps_if (pt_cmpR op_eq (pv 1) pe_int (nomark _)) (pss_one (ps_ret (pe_meth (pv 0) T.cl mBs GBs (hr.mono (by decide)) bBs .nil pass0 (pa_cons (pe_ix ix_list (pv 2) pe_int (fun _ _ => rfl)) pa_nil)))) pss_nil)
      (pss_cons (ps_if (pt_cmpR op_eq (pv 1) pe_int (nomark _)) (pss_one (ps_ret (pe_meth (pv 0) T.cl mAp GAp (hr.mono (by decide)) bAp .nil pass0 (pa_cons (pe_ix ix_list (pv 2) pe_int (fun _ _ => rfl)) pa_nil)))) pss_nil)
      (pss_cons (ps_if (pt_cmpR op_eq (pv 1) pe_int (nomark _)) (pss_one (ps_ret (pe_meth (pv 0) T.cl mNd GNd (hr.mono (by decide)) bNd .nil pass0 (pa_cons (pe_ix ix_list (pv 2) pe_int (fun _ _ => rfl)) pa_nil)))) pss_nil)
      (pss_cons (ps_if (pt_cmpR op_eq (pv 1) pe_int (nomark _)) (pss_one (ps_ret (pe_meth0 (pv 0) T.cl mLb GLb (hr.mono (by decide)) bLb .nil pass0))) pss_nil)
      (pss_cons (ps_if (pt_cmpR op_eq (pv 1) pe_int (nomark _)) (pss_one (ps_ret (pe_meth (pv 0) T.cl mAs GAs (hr.mono (by decide)) bAs .nil pass0 (pa_cons (pe_ix ix_list (pv 2) pe_int (fun _ _ => rfl)) pa_nil)))) pss_nil)
      (pss_one (ps_ret (pe_meth (pv 0) T.cl mRs GRs (hr.mono (by decide)) bRs .nil pass0 (pa_cons (pe_ix ix_list (pv 2) pe_int (fun _ _ => rfl)) pa_nil)))))))), ?_⟩
    cases hc with
    | c0 => omega
    | c1 => omega
    | c2 => omega
    | c3 => omega
    | c4 => omega
    | c5 => omega
    | c6 => omega
    | c7 => omega
    | c8 => omega
    | c9 => omega
    | c10 n => exact ⟨_, rfl, rfl, _, rfl, ifT (by decide) ⟨_, rfl, a, dx, _, rfl, ha, lk_no, _, rfl, b, _, 0, _, rfl, rfl, SqL.of hb, at_of (j := 0) rfl rfl, a, fo, xs, s, _, _, rfl, ⟨n, rfl, rfl⟩, hf, hat, kk⟩⟩
    | c11 n => exact ⟨_, rfl, rfl, _, rfl, ifF (by decide) ⟨_, rfl, rfl, _, rfl, ifT (by decide) ⟨_, rfl, a, dx, _, rfl, ha, lk_no, _, rfl, b, _, 0, _, rfl, rfl, SqL.of hb, at_of (j := 0) rfl rfl, a, fo, xs, s, _, _, rfl, ⟨n, rfl, rfl⟩, hf, hat, kk⟩⟩⟩
    | c12 n => exact ⟨_, rfl, rfl, _, rfl, ifF (by decide) ⟨_, rfl, rfl, _, rfl, ifF (by decide) ⟨_, rfl, rfl, _, rfl, ifT (by decide) ⟨_, rfl, a, dx, _, rfl, ha, lk_no, _, rfl, b, _, 0, _, rfl, rfl, SqL.of hb, at_of (j := 0) rfl rfl, a, fo, xs, s, _, _, rfl, ⟨n, rfl, rfl⟩, hf, hat, kk⟩⟩⟩⟩
    | c13 => exact ⟨_, rfl, rfl, _, rfl, ifF (by decide) ⟨_, rfl, rfl, _, rfl, ifF (by decide) ⟨_, rfl, rfl, _, rfl, ifF (by decide) ⟨_, rfl, rfl, _, rfl, ifT (by decide) ⟨_, rfl, a, dx, _, rfl, ha, lk_no, a, fo, xs, s, _, _, rfl, ⟨rfl, rfl⟩, hf, hat, kk⟩⟩⟩⟩⟩
    | c14 n => exact ⟨_, rfl, rfl, _, rfl, ifF (by decide) ⟨_, rfl, rfl, _, rfl, ifF (by decide) ⟨_, rfl, rfl, _, rfl, ifF (by decide) ⟨_, rfl, rfl, _, rfl, ifF (by decide) ⟨_, rfl, rfl, _, rfl, ifT (by decide) ⟨_, rfl, a, dx, _, rfl, ha, lk_no, _, rfl, b, _, 0, _, rfl, rfl, SqL.of hb, at_of (j := 0) rfl rfl, a, fo, xs, s, _, _, rfl, ⟨n, rfl, rfl⟩, hf, hat, kk⟩⟩⟩⟩⟩⟩
    | c15 n => exact ⟨_, rfl, rfl, _, rfl, ifF (by decide) ⟨_, rfl, rfl, _, rfl, ifF (by decide) ⟨_, rfl, rfl, _, rfl, ifF (by decide) ⟨_, rfl, rfl, _, rfl, ifF (by decide) ⟨_, rfl, rfl, _, rfl, ifF (by decide) ⟨_, rfl, a, dx, _, rfl, ha, lk_no, _, rfl, b, _, 0, _, rfl, rfl, SqL.of hb, at_of (j := 0) rfl rfl, a, fo, xs, s, _, _, rfl, ⟨n, rfl, rfl⟩, hf, hat, kk⟩⟩⟩⟩⟩⟩
    | c16 => omega
    | c17 => omega
    | c18 => omega
    | c19 => omega
    | c20 => omega
/-! ### answer_of_others -/
abbrev sGr4 : Stmt := top 36
theorem scGr4 : FnScope pG pG (defScope sGr4) := ⟨rfl, rfl, rfl, by decide +kernel, rfl, by decide +kernel, by decide +kernel⟩
theorem ok_gr4 {f C : Addr} {fd : FuncData} (F : Fun K "answer_of_others" "answer_of_others" sGr4 f fd) (T : Cl K C) (DGa : Mt P w K mg base C "gain_of_sieve" 6 ["self", "count"] (spOp C (arg1 .gainOfSieve))) (DMe : Mt P w K mg base C "most_even_sieves" 5 ["self", "count"] (spOp C (arg1 .mostEvenSieves))) (DEvs : Mt P w K mg base C "evaluate_sieves" 5 ["self", "positions"] (spOp C (argL .evaluateSieves))) (DDe : Mt P w K mg base C "destination" 4 ["self", "size"] (spOp C (arg1 .destination))) (DYi : Mt P w K mg base C "yields" 3 ["self"] (spOp C (arg0 .yields))) : FnOk P w K mg base CX0 7 f fd pG (spGrp C 16 20) := by
  obtain ⟨fGa, fdGa, mGa, GGa, bGa⟩ := DGa
  obtain ⟨fMe, fdMe, mMe, GMe, bMe⟩ := DMe
  obtain ⟨fEvs, fdEvs, mEvs, GEvs, bEvs⟩ := DEvs
  obtain ⟨fDe, fdDe, mDe, GDe, bDe⟩ := DDe
  obtain ⟨fYi, fdYi, mYi, GYi, bYi⟩ := DYi
  refine F.ok scGr4 (fun vs H Q E h => ?_) (fun cdv A outer s0 H vs Q E hr h => ?_)
  · obtain ⟨a, fo, b, xs, s, c, n, l, rfl, _⟩ := h
    rfl
  · obtain ⟨a, fo, b, xs, s, c, n, l, rfl, hb, hc, hlo, hhi, hf, hat, kk⟩ := h
    obtain ⟨dx, p, q, ha, R, hq, np, nq, fit⟩ := id hat
    refine ⟨_, pss_cons (ps_if (pt_cmpR op_eq (pv 1) pe_int (nomark _)) (pss_one (ps_ret (pe_meth (pv 0) T.cl mGa GGa (hr.mono (by decide)) bGa .nil pass0 (pa_cons (pe_ix ix_list (pv 2) pe_int (fun _ _ => rfl)) pa_nil)))) pss_nil)
      (pss_cons (ps_if (pt_cmpR op_eq (pv 1) pe_int (nomark _)) (pss_one (ps_ret (pe_meth (pv 0) T.cl mMe GMe (hr.mono (by decide)) bMe .nil pass0 (pa_cons (pe_ix ix_list (pv 2) pe_int (fun _ _ => rfl)) pa_nil)))) pss_nil)
      (pss_cons (ps_if (pt_cmpR op_eq (pv 1) pe_int (nomark _)) (pss_one (ps_ret (pe_meth (pv 0) T.cl mEvs GEvs (hr.mono (by decide)) bEvs .nil pass0 (pa_cons (pv 2) pa_nil)))) pss_nil)
      (pss_cons (ps_if (pt_cmpR op_eq (pv 1) pe_int (nomark _)) (pss_one (ps_ret (pe_meth (pv 0) T.cl mDe GDe (hr.mono (by decide)) bDe .nil pass0 (pa_cons (pe_ix ix_list (pv 2) pe_int (fun _ _ => rfl)) pa_nil)))) pss_nil)
      (pss_one (ps_ret (pe_meth0 (pv 0) T.cl mYi GYi (hr.mono (by decide)) bYi .nil pass0)))))), ?_⟩
    cases hc with
    | c0 => omega
    | c1 => omega
    | c2 => omega
    | c3 => omega
    | c4 => omega
    | c5 => omega
    | c6 => omega
    | c7 => omega
    | c8 => omega
    | c9 => omega
    | c10 => omega
    | c11 => omega
    | c12 => omega
    | c13 => omega
    | c14 => omega
    | c15 => omega
    | c16 n => exact ⟨_, rfl, rfl, _, rfl, ifT (by decide) ⟨_, rfl, a, dx, _, rfl, ha, lk_no, _, rfl, b, _, 0, _, rfl, rfl, SqL.of hb, at_of (j := 0) rfl rfl, a, fo, xs, s, _, _, rfl, ⟨n, rfl, rfl⟩, hf, hat, kk⟩⟩
    | c17 n => exact ⟨_, rfl, rfl, _, rfl, ifF (by decide) ⟨_, rfl, rfl, _, rfl, ifT (by decide) ⟨_, rfl, a, dx, _, rfl, ha, lk_no, _, rfl, b, _, 0, _, rfl, rfl, SqL.of hb, at_of (j := 0) rfl rfl, a, fo, xs, s, _, _, rfl, ⟨n, rfl, rfl⟩, hf, hat, kk⟩⟩⟩
    | c18 l => exact ⟨_, rfl, rfl, _, rfl, ifF (by decide) ⟨_, rfl, rfl, _, rfl, ifF (by decide) ⟨_, rfl, rfl, _, rfl, ifT (by decide) ⟨_, rfl, a, dx, _, rfl, ha, lk_no, _, rfl, a, fo, xs, s, _, _, rfl, ⟨b, l, rfl, hb, rfl⟩, hf, hat, kk⟩⟩⟩⟩
    | c19 n => exact ⟨_, rfl, rfl, _, rfl, ifF (by decide) ⟨_, rfl, rfl, _, rfl, ifF (by decide) ⟨_, rfl, rfl, _, rfl, ifF (by decide) ⟨_, rfl, rfl, _, rfl, ifT (by decide) ⟨_, rfl, a, dx, _, rfl, ha, lk_no, _, rfl, b, _, 0, _, rfl, rfl, SqL.of hb, at_of (j := 0) rfl rfl, a, fo, xs, s, _, _, rfl, ⟨n, rfl, rfl⟩, hf, hat, kk⟩⟩⟩⟩⟩
    | c20 => exact ⟨_, rfl, rfl, _, rfl, ifF (by decide) ⟨_, rfl, rfl, _, rfl, ifF (by decide) ⟨_, rfl, rfl, _, rfl, ifF (by decide) ⟨_, rfl, rfl, _, rfl, ifF (by decide) ⟨_, rfl, a, dx, _, rfl, ha, lk_no, a, fo, xs, s, _, _, rfl, ⟨rfl, rfl⟩, hf, hat, kk⟩⟩⟩⟩⟩
/-! ### answer_of -/
/-- the sifter, or none -/
def StAt (C fo : Addr) (H : Hp) (a : Addr) : Kp409.State → Prop
  | none => At C fo H a false ⟨[], []⟩
  | some s => At C fo H a true s
def spAnsOf (C : Addr) : Sp := fun vs H Q _ => ∃ (a fo b : Addr) (xs : List V) (st : Kp409.State) (c : Kp409.Call) (n : Nat) (l : List Nat), vs = [.ref a, .int n, .ref b] ∧ H b = some (rwV l) ∧ CallIs n l c ∧ H fo = some (.lst xs) ∧ StAt C fo H a st ∧
  ∀ (H' : Hp) (p : Addr) (st' : Kp409.State) (y : Kp409.Ans), Kp409.step st c = (st', y) → Keeps a H H' → p ≠ fo → StAt C fo H' a st' → H' p = some (.lst (told y)) → Q (.ref p) H'
theorem call_le {n : Nat} {l : List Nat} {c : Kp409.Call} (h : CallIs n l c) : n ≤ 20 := by
  cases h <;> decide
theorem step_none {n : Nat} {l : List Nat} {c : Kp409.Call} (h : CallIs n l c) (h0 : n ≠ 0) : Kp409.step none c = (none, Kp409.single (-11)) := by
  cases h <;> first | rfl | exact absurd rfl h0
theorem step_zero {l : List Nat} {c : Kp409.Call} (h : CallIs 0 l c) (st : Kp409.State) : Kp409.step st c = (some ⟨[], []⟩, Kp409.single 0) := by
  cases h
  rfl
abbrev sAnsOf : Stmt := top 37
theorem scAnsOf : FnScope pG pG (defScope sAnsOf) := ⟨rfl, rfl, rfl, by decide +kernel, rfl, by decide +kernel, by decide +kernel⟩
theorem ok_ansof {f C : Addr} {fd : FuncData} (F : Fun K "answer_of" "answer_of" sAnsOf f fd) (T : Cl K C) (N : Cn mg) (DCr : Mt P w K mg base C "create" 1 ["self"] (spCreate C)) (D1 : Df P w K mg base "answer_of_sizes" 3 pG (spGrp C 1 4)) (D2 : Df P w K mg base "answer_of_sieves" 6 pG (spGrp C 5 9)) (D3 : Df P w K mg base "answer_of_best" 7 pG (spGrp C 10 15)) (D4 : Df P w K mg base "answer_of_others" 7 pG (spGrp C 16 20)) : FnOk P w K mg base CX0 8 f fd pG (spAnsOf C) := by
  obtain ⟨fCr, fdCr, mCr, GCr, bCr⟩ := DCr
  obtain ⟨f1, fd1, m1, k1, G1, b1⟩ := D1
  obtain ⟨f2, fd2, m2, k2, G2, b2⟩ := D2
  obtain ⟨f3, fd3, m3, k3, G3, b3⟩ := D3
  obtain ⟨f4, fd4, m4, k4, G4, b4⟩ := D4
  refine F.ok scAnsOf (fun vs H Q E h => ?_) (fun cdv A outer s0 H vs Q E hr h => ?_)
  · obtain ⟨a, fo, b, xs, st, c, n, l, rfl, _⟩ := h
    rfl
  · obtain ⟨a, fo, b, xs, st, c, n, l, rfl, hb, hc, hf, hat, kk⟩ := h
    refine ⟨_, pss_cons (ps_if (pt_cmpR op_eq (pv 1) pe_int (nomark _)) (pss_one (ps_ret (pe_meth0 (pv 0) T.cl mCr GCr (hr.mono (by decide)) bCr .nil pass0))) pss_nil)
      (pss_cons (ps_if (pt_not (pt_val (pe_fld (pv 0) rfl))) (pss_one (ps_ret (pe_lst (pa_cons (pe_const (by rfl) N.noSifter) pa_nil)))) pss_nil)
      (pss_cons (ps_if (pt_cmpR op_le (pv 1) pe_int (nomark _)) (pss_one (ps_ret (pe_call G1 (hr.mono (by decide)) rfl m1 k1 b1 .nil pass0 (pa_cons (pv 0) (pa_cons (pv 1) (pa_cons (pv 2) pa_nil)))))) pss_nil)
      (pss_cons (ps_if (pt_cmpR op_le (pv 1) pe_int (nomark _)) (pss_one (ps_ret (pe_call G2 (hr.mono (by decide)) rfl m2 k2 b2 .nil pass0 (pa_cons (pv 0) (pa_cons (pv 1) (pa_cons (pv 2) pa_nil)))))) pss_nil)
      (pss_cons (ps_if (pt_cmpR op_le (pv 1) pe_int (nomark _)) (pss_one (ps_ret (pe_call G3 (hr.mono (by decide)) rfl m3 k3 b3 .nil pass0 (pa_cons (pv 0) (pa_cons (pv 1) (pa_cons (pv 2) pa_nil)))))) pss_nil)
      (pss_one (ps_ret (pe_call G4 (hr.mono (by decide)) rfl m4 k4 b4 .nil pass0 (pa_cons (pv 0) (pa_cons (pv 1) (pa_cons (pv 2) pa_nil)))))))))), ?_⟩
    have hn := call_le hc
    refine ⟨_, rfl, rfl, _, rfl, ite2 (fun g => ?_) (fun g => ?_)⟩
    · have g' : n = 0 := by
        have e := V.int.inj (of_decide_eq_true g)
        omega
      subst g'
      have fr := step_zero hc st
      cases st with
      | none =>
        obtain ⟨dx, p, q, ha, _⟩ := id hat
        exact ⟨_, rfl, a, dx, _, rfl, ha, lk_no, a, fo, xs, _, _, rfl, hf, hat, fun H' r k9 n9 at9 r9 => kk H' r _ _ fr k9 n9 at9 r9⟩
      | some s =>
        obtain ⟨dx, p, q, ha, _⟩ := id hat
        exact ⟨_, rfl, a, dx, _, rfl, ha, lk_no, a, fo, xs, _, _, rfl, hf, hat, fun H' r k9 n9 at9 r9 => kk H' r _ _ fr k9 n9 at9 r9⟩
    have n0 : n ≠ 0 := fun z => g (decide_eq_true (by rw [z]; rfl))
    cases st with
    | none =>
      have fr := step_none hc n0
      obtain ⟨dx, p, q, ha, _⟩ := id hat
      refine ⟨_, rfl, a, C, dx, _, _, rfl, ha, T.cl, T.nM, lkM, _, rfl, ifT (by decide) ⟨one_line, fun r hr2 => ?_⟩⟩
      exact kk _ r none _ fr (keeps (same_new hr2)) (Ne.symm (ne_of_none hf hr2)) (At.same hat (same_new hr2)) upd_same
    | some s =>
      obtain ⟨dx, p, q, ha, _⟩ := id hat
      have kg : ∀ (H' : Hp) (p : Addr) (s' : Sifter) (y : Kp409.Ans), Kp409.step (some s) c = (some s', y) → Keeps a H H' → p ≠ fo → At C fo H' a true s' → H' p = some (.lst (told y)) → Q (.ref p) H' := fun H' p s' y e k9 n9 at9 r9 => kk H' p (some s') y e k9 n9 at9 r9
      refine ⟨_, rfl, a, C, dx, _, _, rfl, ha, T.cl, T.nM, lkM, _, rfl, ifF (by decide) ?_⟩
      refine ⟨_, rfl, _, _, rfl, rfl, _, rfl, ite2 (fun g1 => ?_) (fun g1 => ?_)⟩
      · have g' := of_decide_eq_true g1
        exact ⟨_, rfl, _, rfl, _, rfl, a, fo, b, xs, s, c, n, l, rfl, hb, hc, by omega, by omega, hf, hat, kg⟩
      have l1 : ¬ ((n : Int) ≤ 4) := fun z => g1 (decide_eq_true z)
      refine ⟨_, rfl, _, _, rfl, rfl, _, rfl, ite2 (fun g2 => ?_) (fun g2 => ?_)⟩
      · have g' := of_decide_eq_true g2
        exact ⟨_, rfl, _, rfl, _, rfl, a, fo, b, xs, s, c, n, l, rfl, hb, hc, by omega, by omega, hf, hat, kg⟩
      have l2 : ¬ ((n : Int) ≤ 9) := fun z => g2 (decide_eq_true z)
      refine ⟨_, rfl, _, _, rfl, rfl, _, rfl, ite2 (fun g3 => ?_) (fun g3 => ?_)⟩
      · have g' := of_decide_eq_true g3
        exact ⟨_, rfl, _, rfl, _, rfl, a, fo, b, xs, s, c, n, l, rfl, hb, hc, by omega, by omega, hf, hat, kg⟩
      have l3 : ¬ ((n : Int) ≤ 15) := fun z => g3 (decide_eq_true z)
      exact ⟨_, rfl, _, rfl, _, rfl, a, fo, b, xs, s, c, n, l, rfl, hb, hc, by omega, by omega, hf, hat, kg⟩
end
end Sv
namespace Sv
open PySem PySem.Spec PyProof.Rows L2
open Kp409 (SizeFraction Sifter)

/-! ### answered -/
theorem StAt.same {C fo : Addr} {H H' : Hp} {a : Addr} {st : Kp409.State} (h : StAt C fo H a st) (e : Same H H') : StAt C fo H' a st := by
  cases st with
  | none => exact At.same h e
  | some s => exact At.same h e
theorem At.put {C fo : Addr} {H : Hp} {a : Addr} {m : Bool} {s : Sifter} {xs ys : List V} (h : At C fo H a m s) (hf : H fo = some (.lst xs)) : At C fo (upd H fo (.lst ys)) a m s := by
  obtain ⟨dx, p, q, h1, ⟨ps, r1, r2, r3⟩, h3, h4, h5, h6⟩ := h
  refine ⟨dx, p, q, ?_, ⟨ps, ?_, r2, fun z hz => ?_⟩, ?_, h4, h5, h6⟩
  · rw [upd_ne (ne_of h1 hf (by intro z; cases z))]
    exact h1
  · rw [upd_ne h4]
    exact r1
  · rw [upd_ne (ne_of (r3 z hz) hf (by intro z; cases z))]
    exact r3 z hz
  · rw [upd_ne h5]
    exact h3
theorem StAt.put {C fo : Addr} {H : Hp} {a : Addr} {st : Kp409.State} {xs ys : List V} (h : StAt C fo H a st) (hf : H fo = some (.lst xs)) : StAt C fo (upd H fo (.lst ys)) a st := by
  cases st with
  | none => exact At.put h hf
  | some s => exact At.put h hf
theorem StAt.ins {C fo : Addr} {H : Hp} {a : Addr} {st : Kp409.State} (h : StAt C fo H a st) : ∃ dx fs, H a = some (.ins C dx fs) := by
  cases st with
  | none =>
    obtain ⟨dx, p, q, h1, _⟩ := h
    exact ⟨dx, _, h1⟩
  | some s =>
    obtain ⟨dx, p, q, h1, _⟩ := h
    exact ⟨dx, _, h1⟩
def intsV (l : List Int) : List V := l.map V.int
def spTop (K : PySem.W.Frag) : Sp := fun vs H Q _ => ∃ (ca : Addr) (ns : List Int), vs = [.ref ca] ∧ SqL K H ca (intsV ns) ∧ PyKp409.answers_asked ns = true ∧
  ∀ (H' : Hp) (p : Addr), H' p = some (.lst (intsV (PyKp409.answers ns))) → Q (.ref p) H'
/-- the loop's state, the i-th number next -/
def LoopAt (C : Addr) (ns : List Int) (H : Hp) (ca fo a : Addr) (i : Nat) (σ : L2.St) (H' : Hp) : Prop :=
  ∃ (f : Nat) (st : Kp409.State) (done : List Int) (cs : List (List (List Int))) (u v : Option V), σ = [some (.ref ca), some (.ref fo), some (.ref a), some (.int (i : Int)), u, v] ∧ Same H H' ∧ H' fo = some (.lst (intsV done)) ∧ StAt C fo H' a st ∧
    PyWide.calls f (ns.drop i) = some cs ∧ cs.all Kp409Neutral.asked1 = true ∧ done ++ out st cs = PyKp409.answers ns
theorem int_get {ns : List Int} {i : Nat} {z : Int} (h : ns[i]? = some z) : (intsV ns)[i]? = some (V.int z) := by
  unfold intsV
  rw [List.getElem?_map, h]
  rfl
theorem cut_mid {xs : List V} {i n : Nat} (h : i + n ≤ xs.length) : cutV xs (some (i : Int)) (some ((i + n : Nat) : Int)) = (xs.drop i).take n := by
  unfold cutV
  rw [HT.sIx_nat, HT.sIx_nat, Nat.min_eq_left h, Nat.min_eq_left (by omega : i ≤ xs.length)]
  congr 1
  omega
/-- the class can be made -/
structure Md (K : PySem.W.Frag) (mg : Str → Option Value) (C : Addr) : Prop where
  gC : mg "Sifter" = some (.ref C)
  can : ∃ (fI : Addr) (fdI : FuncData), Mk K C fI ∧ Fun K "__init__" "Sifter.__init__" sInit fI fdI ∧ L2.Binds K fdI ["self"] []
theorem ten_line {n : Nat} (h : n ≤ 10000000) : n ≤ sizeLine := Nat.le_trans h (by decide)
section
variable {P : Program} {w : World} {K : PySem.W.Frag} {mg : Str → Option Value} {base : Heap}

abbrev sAnswered : Stmt := top 38
abbrev sAnswers : Stmt := top 40
theorem scAnswered : FnScope ["calls", "found", "sifter", "place", "end", "told"] ["calls"] (defScope sAnswered) := ⟨rfl, rfl, rfl, by decide +kernel, rfl, by decide +kernel, by decide +kernel⟩
theorem scAnswers : FnScope ["calls"] ["calls"] (defScope sAnswers) := ⟨rfl, rfl, rfl, by decide +kernel, rfl, by decide +kernel, by decide +kernel⟩
theorem ok_answered {f C : Addr} {fd : FuncData} (F : Fun K "answered" "answered" sAnswered f fd) (T : Cl K C) (B : Bt mg) (MD : Md K mg C) (DA : Df P w K mg base "answer_of" 8 pG (spAnsOf C)) : FnOk P w K mg base CX0 9 f fd ["calls"] (spTop K) := by
  obtain ⟨fA, fdA, mA, kA, GA, bA⟩ := DA
  obtain ⟨gC, fI, fdI, M, FI, bI⟩ := MD
  have GI : FnOk P w K mg base CX0 1 fI fdI ["self"] (spInit C) := ok_init FI T
  refine F.ok scAnswered (fun vs H Q E h => ?_) (fun cdv A outer s0 H vs Q E hr h => ?_)
  · obtain ⟨ca, ns, rfl, _⟩ := h
    rfl
  · obtain ⟨ca, ns, rfl, hS, hask, kk⟩ := h
    refine ⟨_, pss_cons (ps_set (i := 1) scAnswered.nd rfl (.inl rfl) (pe_lst pa_nil))
      (pss_cons (ps_set (i := 2) scAnswered.nd rfl (.inl rfl) (pe_make0 M GI (hr.mono (by decide)) rfl gC bI .nil pass0))
      (pss_cons (ps_set (i := 3) scAnswered.nd rfl (.inl rfl) pe_int)
      (pss_cons (ps_while PassesOwn.never (pt_cmpR op_lt (pv 3) (pe_callB call_len_seq (by rfl) B.len PySem.boot_len (pa_cons (pv 0) pa_nil)) (nomark _))
        (pss_cons (ps_set (i := 4) scAnswered.nd rfl (.inl rfl) (pe_op op_add (pe_op op_add (pv 3) pe_int) (pe_ix ix_list (pv 0) (pe_op op_add (pv 3) pe_int) (fun _ _ => rfl))))
        (pss_cons (ps_set (i := 5) scAnswered.nd rfl (.inl rfl) (pe_call GA hr rfl mA kA bA .nil pass0 (pa_cons (pv 2) (pa_cons (pe_ix ix_list (pv 0) (pv 3) (fun _ _ => rfl)) (pa_cons (pe_slice sl_list (pv 0) (po_some (pe_op op_add (pv 3) pe_int)) (po_some (pv 4))) pa_nil)))))
        (pss_cons (ps_expr (pe_bm PySem.F.plainAttrs_list PySem.F.slot_list_append PySem.F.type_list_append mt_append (pv 1) (pa_cons (pe_callB call_len_seq (by rfl) B.len PySem.boot_len (pa_cons (pv 5) pa_nil)) pa_nil)))
        (pss_cons (ps_expr (pe_bm PySem.F.plainAttrs_list PySem.F.slot_list_extend PySem.F.type_list_extend mt_extend (pv 1) (pa_cons (pv 5) pa_nil)))
        (pss_one (ps_set (i := 3) scAnswered.nd rfl (.inl rfl) (pe_op op_add (pv 4) pe_int))))))))
      (pss_one (ps_ret (pv 1)))))), ?_⟩
    obtain ⟨cs0, hc0, hk0, eo0, hlen⟩ := asked_all hask
    -- found = [], sifter = Sifter()
    refine ⟨Nat.zero_le _, fun fo hfo => ?_⟩
    intro a dx na nd nad
    have nfa : fo ≠ a := ne_of_none upd_same na
    have nfd : fo ≠ dx := ne_of_none upd_same nd
    refine ⟨a, dx, rfl, upd_same, fun H1 p q k1 ha hp hq hp1 hq1 => ⟨rfl, ?_⟩⟩
    have x0 : (upd (upd (upd H fo (.lst [])) dx (.own a)) a (.ins C dx [])) fo = some (.lst []) := by rw [upd_ne nfa, upd_ne nfd, upd_same]
    have s1 : Same H H1 := (same_new hfo).trans (Same.made na nd k1)
    have hf1 : H1 fo = some (.lst (intsV [])) := k1 _ _ x0 nfa
    have at1 : StAt C fo H1 a none := ⟨dx, p, q, ha, ⟨[], hp1, rfl, fun x hx => by simp at hx⟩, hq1, Ne.symm (ne_of_none x0 hp), Ne.symm (ne_of_none x0 hq), fit_nil⟩
    have hae : H a = none := (same_new hfo).free na
    -- the loop
    refine ⟨fun m σ H' => ∃ i, m = ns.length - i ∧ LoopAt C ns H ca fo a i σ H', ⟨ns.length, 0, rfl, ns.length, none, [], cs0, none, none, rfl, s1, hf1, at1, hc0, hk0, eo0⟩, ?_⟩
    rintro m σ H' ⟨i, rfl, f, st, done, cs, u, v, rfl, sH, hf, hat, hc, hk, eo⟩
    have hS' := sH.seq hS
    refine ⟨_, rfl, _, rfl, ca, _, rfl, .inl hS', _, _, rfl, rfl, _, rfl, ite2 (fun g => ?_) (fun g => ?_)⟩
    · have g' : i < ns.length := by
        have h := of_decide_eq_true g
        unfold intsV at h
        rw [List.length_map] at h
        omega
      have hne : ns.drop i ≠ [] := fun z => by
        have := congrArg List.length z
        rw [List.length_drop] at this
        simp at this
        omega
      obtain ⟨p, vals, x, kz, t, f', c, cs', el, hx, hcall, rfl, hc', hk'⟩ := turn hc hk hne
      obtain ⟨e0, e1, e2⟩ := drop_two el
      obtain ⟨e3, e4⟩ := drop_more (a := vals.map (fun (n : Nat) => (n : Int))) (b := kz :: t) (i := i + 2) e2
      rw [List.length_map] at e3 e4
      have e5 : ns.drop (i + 2 + vals.length + 1) = t := by
        rw [← List.drop_drop, e4]
        rfl
      have e6 : i + 2 + vals.length < ns.length := by
        have h := congrArg List.length e4
        rw [List.length_drop, List.length_cons] at h
        omega
      have ecut : cutV (intsV ns) (some ((i : Int) + 2)) (some ((i : Int) + 2 + (vals.length : Int))) = nums vals := by
        have h1 : (i : Int) + 2 = ((i + 2 : Nat) : Int) := by omega
        have h2 : (i : Int) + 2 + (vals.length : Int) = ((i + 2 + vals.length : Nat) : Int) := by omega
        rw [h2, h1, cut_mid (by unfold intsV; rw [List.length_map]; omega)]
        unfold intsV nums
        rw [← List.map_drop, ← List.map_take, e3, List.map_map]
        rfl
      refine ⟨fun σ' H'' => ∃ j, i < j ∧ LoopAt C ns H ca fo a j σ' H'', fun σ' H'' ⟨j, hj, h⟩ => ⟨ns.length - j, by omega, j, rfl, h⟩, ?_⟩
      refine ⟨_, rfl, _, _, rfl, rfl, _, rfl, _, rfl, _, _, rfl, rfl, ca, _, _, _, rfl, rfl, hS', at_of (j := i + 1) (by omega) (int_get e1), _, _, rfl, rfl, ?_⟩
      refine ⟨_, rfl, _, rfl, _, rfl, ca, _, _, _, rfl, rfl, hS', at_of (j := i) rfl (int_get e0), _, rfl, _, rfl, _, _, rfl, rfl, _, rfl, _, rfl, _, rfl, ca, _, rfl, hS', fun b hb => ?_⟩
      dsimp only
      rw [ecut]
      have s2 : Same H' (upd H' b (.lst (nums vals))) := same_new hb
      have b2 : (upd H' b (.lst (nums vals))) b = some (rwV vals) := upd_same
      generalize upd H' b (.lst (nums vals)) = H2 at s2 b2 ⊢
      refine ⟨a, fo, b, _, st, x, p, vals, rfl, b2, hx, s2 _ _ hf, hat.same s2, fun H3 r st' y e k3 nr at3 hr3 => ?_⟩
      obtain ⟨dx3, fs3, ha3⟩ := at3.ins
      have fo3 : H3 fo = some (.lst (intsV done)) := k3 _ _ (s2 _ _ hf) nfa
      rw [out_cons hcall e] at eo
      have lo := congrArg List.length eo
      rw [List.length_append, List.length_cons, List.length_append] at lo
      have ly : (told y).length = (y.num :: y.nums).length := by unfold told; rw [List.length_map]
      have ld : (intsV done).length = done.length := by unfold intsV; rw [List.length_map]
      refine ⟨_, rfl, .inl ⟨rfl, _, SqL.of fo3⟩, _, rfl, r, _, rfl, .inl (SqL.of hr3), fo, _, _, rfl, rfl, fo3, Nat.lt_of_lt_of_le (Nat.lt_succ_self _) (ten_line (by rw [ld]; omega)), ?_⟩
      refine ⟨_, rfl, .inl ⟨rfl, _, SqL.of upd_same⟩, _, rfl, fo, r, _, _, rfl, rfl, upd_same, (by rw [upd_ne nr]; exact hr3), ten_line (by rw [List.length_append, ld, ly, List.length_singleton]; omega), ?_⟩
      refine ⟨_, rfl, _, _, rfl, rfl, i + 2 + vals.length + 1, by omega, f', st', done ++ ((y.num :: y.nums).length : Int) ::(y.num :: y.nums), cs', some (.int ((i : Int) + 2 + (vals.length : Int))), some (.ref r), ?_, fun b o hb => ?_, ?_, (at3.put fo3).put upd_same, ?_, hk', ?_⟩
      · have h1 : (i : Int) + 2 + (vals.length : Int) + 1 = ((i + 2 + vals.length + 1 : Nat) : Int) := by omega
        rw [← h1]
        rfl
      · have n1 : b ≠ fo := ne_of_none hb hfo
        have n2 : b ≠ a := ne_of_none hb hae
        rw [upd_ne n1, upd_ne n1]
        exact k3 _ _ (s2 _ _ (sH _ _ hb)) n2
      · rw [upd_same, ly]
        unfold intsV told
        rw [List.map_append, List.append_assoc]
        rfl
      · rw [e5]
        exact hc'
      · rw [List.append_assoc]
        exact eo
    · have g' : ¬ i < ns.length := fun z => g (decide_eq_true (by unfold intsV; rw [List.length_map]; omega))
      rw [List.drop_eq_nil_of_le (by omega)] at hc
      have ec := calls_nil hc
      subst ec
      have eo' : done = PyKp409.answers ns := by
        rw [← eo]
        show done = done ++ []
        rw [List.append_nil]
      subst eo'
      exact ⟨_, rfl, kk H' fo hf⟩
theorem ok_answers {f : Addr} {fd : FuncData} (F : Fun K "answers" "answers" sAnswers f fd) (DA : Df P w K mg base "answered" 9 ["calls"] (spTop K)) : FnOk P w K mg base CX0 10 f fd ["calls"] (spTop K) := by
  obtain ⟨fA, fdA, mA, kA, GA, bA⟩ := DA
  refine F.ok scAnswers (fun vs H Q E h => ?_) (fun cdv A outer s0 H vs Q E hr h => ?_)
  · obtain ⟨ca, ns, rfl, _⟩ := h
    rfl
  · obtain ⟨ca, ns, rfl, h⟩ := h
    refine ⟨_, pss_one (ps_ret (pe_call GA hr rfl mA kA bA .nil pass0 (pa_cons (pv 0) pa_nil))), ?_⟩
    exact ⟨_, rfl, ca, ns, rfl, h⟩
end
end Sv
namespace Sv
open PySem PySem.Spec PyProof.Rows L2
open Kp409 (SizeFraction Sifter)

/-! ### the end: what the top has written -/
/-- a def of the text stands behind its name -/
def HasF (K : PySem.W.Frag) (mg : Str → Option Value) (x : Str) (st : Stmt) : Prop := ∃ (f : Addr) (fd : FuncData), mg x = some (.ref f) ∧ PySem.W.keepIn K (.ref f) = true ∧ Fun K x x st f fd
/-- a method of the class at C -/
def HasM (K : PySem.W.Frag) (C : Addr) (x q : Str) (st : Stmt) : Prop := ∃ (f : Addr) (fd : FuncData), Meth K C x f ∧ Fun K x q st f fd
theorem df_mk {K : PySem.W.Frag} {h : Heap} {mg : Str → Option Value} (X : K.In h) (G : h.Ns mainGlobals mg) {x : Str} {st : Stmt} {f : Addr} {oc : Value} {od an : Option Addr} {osl : Array (Option Value)} {kV doc pm cdv ct : Value} (a : PySem.W.nsIn K mainGlobals x = some (some (.ref f)))
    (l : K.lookup f = some ⟨oc, od, .func (PySem.W.fnOf x x (defArgs st) (defBody st) (defScope st) .none kV doc pm an cdv ct), osl⟩) (c : PySem.W.codeIn K cdv x = true) (k : PySem.W.keepIn K (.ref f) = true) : HasF K mg x st :=
  ⟨f, _, PySem.W.mg_of X G a, k, fun_mk l c k⟩
theorem mt_mk {K : PySem.W.Frag} {C : Addr} {x q : Str} {st : Stmt} {f : Addr} {oc : Value} {od an : Option Addr} {osl : Array (Option Value)} {kV doc pm cdv ct : Value} (a : PySem.W.findIn K (.ref C) x = some (some (.ref f))) (i : PySem.W.isFn K (.ref f) = true)
    (l : K.lookup f = some ⟨oc, od, .func (PySem.W.fnOf x q (defArgs st) (defBody st) (defScope st) .none kV doc pm an cdv ct), osl⟩) (c : PySem.W.codeIn K cdv q = true) (k : PySem.W.keepIn K (.ref f) = true) : HasM K C x q st :=
  ⟨f, _, ⟨a, i, k⟩, fun_mk l c k⟩
section
variable {P : Program} {w : World} {K : PySem.W.Frag} {mg : Str → Option Value} {base : Heap}
theorem HasF.df {x : Str} {st : Stmt} {k : Nat} {ps : List Str} {sp : Sp} (h : HasF K mg x st) (ok : ∀ (f : Addr) (fd : FuncData), Fun K x x st f fd → FnOk P w K mg base CX0 k f fd ps sp)
    (b : ∀ (kV doc pm : Value) (an : Option Addr) (cdv ct : Value) (us : List Value), us.length = ps.length → bindArgs (PySem.W.fnOf x x (defArgs st) (defBody st) (defScope st) .none kV doc pm an cdv ct) ⟨us, []⟩ = pure (ps.zip us)) : Df P w K mg base x k ps sp := by
  obtain ⟨f, fd, m, k, F⟩ := h
  exact ⟨f, fd, m, k, ok f fd F, F.binds b⟩
theorem HasM.mt {C : Addr} {x q : Str} {st : Stmt} {k : Nat} {ps : List Str} {sp : Sp} (h : HasM K C x q st) (ok : ∀ (f : Addr) (fd : FuncData), Fun K x q st f fd → FnOk P w K mg base CX0 k f fd ps sp)
    (b : ∀ (kV doc pm : Value) (an : Option Addr) (cdv ct : Value) (us : List Value), us.length = ps.length → bindArgs (PySem.W.fnOf x q (defArgs st) (defBody st) (defScope st) .none kV doc pm an cdv ct) ⟨us, []⟩ = pure (ps.zip us)) : Mt P w K mg base C x k ps sp := by
  obtain ⟨f, fd, m, F⟩ := h
  exact ⟨f, fd, m, ok f fd F, F.binds b⟩
theorem all_ok {h : Heap} {C fa : Addr} {t_noSifter t_notThere t_outside t_tooMany t_nothing t_already t_notEnough t_mostSizes t_mostAmount : Tok} (X : K.In h) (G : h.Ns mainGlobals mg) (hfa : mg "answers" = some (.ref fa))
    (aC : PySem.W.nsIn K mainGlobals "Sifter" = some (some (.ref C)))
    (pg : PySem.W.plainGet K C Str.empty = true) (hd : PySem.W.hasDictIn K C = true) (po : PySem.W.plainOver K C = true) (sa : PySem.W.findIn K (.ref C) "__setattr__" = some (some (.builtin "object.__setattr__"))) (mk : PySem.W.makesIn K C = true) (kc : PySem.W.keepIn K (.ref C) = true)
    (nM : PySem.W.findIn K (.ref C) "made" = some none) (nZ : PySem.W.findIn K (.ref C) "sizes" = some none) (nV : PySem.W.findIn K (.ref C) "sieves" = some none)
    (z_range : PySem.W.nsIn K mainGlobals "range" = some none) (z_len : PySem.W.nsIn K mainGlobals "len" = some none) (z_min : PySem.W.nsIn K mainGlobals "min" = some none) (z_max : PySem.W.nsIn K mainGlobals "max" = some none) (z_list : PySem.W.nsIn K mainGlobals "list" = some none)
    (q_noSifter : PySem.W.nsIn K mainGlobals "NO_SIFTER" = some (some (.int (-11) t_noSifter)))
    (q_notThere : PySem.W.nsIn K mainGlobals "NOT_THERE" = some (some (.int (-2) t_notThere)))
    (q_outside : PySem.W.nsIn K mainGlobals "OUTSIDE" = some (some (.int (-22) t_outside)))
    (q_tooMany : PySem.W.nsIn K mainGlobals "TOO_MANY" = some (some (.int (-28) t_tooMany)))
    (q_nothing : PySem.W.nsIn K mainGlobals "NOTHING" = some (some (.int (-6) t_nothing)))
    (q_already : PySem.W.nsIn K mainGlobals "ALREADY_THERE" = some (some (.int (-17) t_already)))
    (q_notEnough : PySem.W.nsIn K mainGlobals "NOT_ENOUGH" = some (some (.int (-33) t_notEnough)))
    (q_mostSizes : PySem.W.nsIn K mainGlobals "MOST_SIZES" = some (some (.int (10) t_mostSizes)))
    (q_mostAmount : PySem.W.nsIn K mainGlobals "MOST_AMOUNT" = some (some (.int (99) t_mostAmount)))
    (m_init : HasM K C "__init__" "Sifter.__init__" sInit)
    (m_create : HasM K C "create" "Sifter.create" sCreate)
    (m_has_size : HasM K C "has_size" "Sifter.has_size" sHas)
    (m_amount_now : HasM K C "amount_now" "Sifter.amount_now" sNow)
    (m_add_size : HasM K C "add_size" "Sifter.add_size" sAdd)
    (m_get_sizes : HasM K C "get_sizes" "Sifter.get_sizes" sGsz)
    (m_remove_last_size : HasM K C "remove_last_size" "Sifter.remove_last_size" sRem)
    (m_set_size : HasM K C "set_size" "Sifter.set_size" sSet)
    (m_set_sieves : HasM K C "set_sieves" "Sifter.set_sieves" sSs)
    (m_get_sieves : HasM K C "get_sieves" "Sifter.get_sieves" sGsv)
    (m_get_classes : HasM K C "get_classes" "Sifter.get_classes" sGc)
    (m_purity : HasM K C "purity" "Sifter.purity" sPu)
    (m_best_sieves : HasM K C "best_sieves" "Sifter.best_sieves" sBs)
    (m_most_even_sieves : HasM K C "most_even_sieves" "Sifter.most_even_sieves" sMe)
    (m_apply_best_sieves : HasM K C "apply_best_sieves" "Sifter.apply_best_sieves" sAp)
    (m_sieves_needed : HasM K C "sieves_needed" "Sifter.sieves_needed" sNd)
    (m_lower_bound : HasM K C "lower_bound" "Sifter.lower_bound" sLb)
    (m_add_sieve : HasM K C "add_sieve" "Sifter.add_sieve" sAs)
    (m_remove_sieve : HasM K C "remove_sieve" "Sifter.remove_sieve" sRs)
    (m_gain_of_sieve : HasM K C "gain_of_sieve" "Sifter.gain_of_sieve" sGa)
    (m_evaluate_sieves : HasM K C "evaluate_sieves" "Sifter.evaluate_sieves" sEvs)
    (m_destination : HasM K C "destination" "Sifter.destination" sDe)
    (m_yields : HasM K C "yields" "Sifter.yields" sYi)
    (d_flour_between : HasF K mg "flour_between" sFlour)
    (d_bran_between : HasF K mg "bran_between" sBran)
    (d_classes_of : HasF K mg "classes_of" sCls)
    (d_misplaced_of : HasF K mg "misplaced_of" sMis)
    (d_heaviest_of : HasF K mg "heaviest_of" sHvy)
    (d_goes_to_flour : HasF K mg "goes_to_flour" sGoes)
    (d_class_at : HasF K mg "class_at" sAt)
    (d_lower_bound_of : HasF K mg "lower_bound_of" sLow)
    (d_is_position : HasF K mg "is_position" sIsPos)
    (d_are_positions : HasF K mg "are_positions" sAre)
    (d_longer_lists : HasF K mg "longer_lists" sLong)
    (d_all_lists : HasF K mg "all_lists" sAll)
    (d_best_of : HasF K mg "best_of" sBest)
    (d_most_even_of : HasF K mg "most_even_of" sEven)
    (d_best_amount : HasF K mg "best_amount" sAmt)
    (d_common_divisor : HasF K mg "common_divisor" sGcd)
    (d_in_lowest_terms : HasF K mg "in_lowest_terms" sTerms)
    (d_is_amount : HasF K mg "is_amount" sIsAm)
    (d_answer_of_sizes : HasF K mg "answer_of_sizes" sGr1)
    (d_answer_of_sieves : HasF K mg "answer_of_sieves" sGr2)
    (d_answer_of_best : HasF K mg "answer_of_best" sGr3)
    (d_answer_of_others : HasF K mg "answer_of_others" sGr4)
    (d_answer_of : HasF K mg "answer_of" sAnsOf)
    (d_answered : HasF K mg "answered" sAnswered)
    (d_answers : HasF K mg "answers" sAnswers) :
    ∃ fd : FuncData, (∀ (s : Shared) (us : List Value), us.length = (["calls"] : List Str).length → BindsTo s fd ⟨us, []⟩ ((["calls"] : List Str).zip us)) ∧ ∀ base : Heap, K.In base → base.Ns mainGlobals mg → FnOk P w K mg base CX0 10 fa fd ["calls"] (spTop K) := by
  obtain ⟨f, fd, m, kp, F⟩ := d_answers
  have e := hfa.symm.trans m
  cases e
  obtain ⟨fI, fdI, MI, FI⟩ := m_init
  have T : Cl K C := ⟨⟨pg, hd, po, sa⟩, nM, nZ, nV⟩
  have B : Bt mg := ⟨PySem.W.mg_none_of X G z_range, PySem.W.mg_none_of X G z_len, PySem.W.mg_none_of X G z_min, PySem.W.mg_none_of X G z_max, PySem.W.mg_none_of X G z_list⟩
  have N : Cn mg := ⟨⟨_, PySem.W.mg_of X G q_noSifter⟩, ⟨_, PySem.W.mg_of X G q_notThere⟩, ⟨_, PySem.W.mg_of X G q_outside⟩, ⟨_, PySem.W.mg_of X G q_tooMany⟩, ⟨_, PySem.W.mg_of X G q_nothing⟩, ⟨_, PySem.W.mg_of X G q_already⟩, ⟨_, PySem.W.mg_of X G q_notEnough⟩, ⟨_, PySem.W.mg_of X G q_mostSizes⟩, ⟨_, PySem.W.mg_of X G q_mostAmount⟩⟩
  have MD : Md K mg C := ⟨PySem.W.mg_of X G aC, fI, fdI, ⟨mk, MI.at_, MI.fn, kc⟩, FI, FI.binds (fun _ _ _ _ _ _ us hl => match us, hl with | [_], _ => rfl)⟩
  refine ⟨fd, ?_, fun base _ _ => ?_⟩
  · obtain ⟨oc, od, kV, doc, pm, an, cdv, ct, osl, rfl, _⟩ := F.ex
    exact fun s us hu => match us, hu with | [_], _ => .of_eq rfl
  have E_flour_between : Df P w K mg base "flour_between" 1 ["sizes", "begin", "end"] spFlour := d_flour_between.df (fun f fd F => ok_flour F B) (fun _ _ _ _ _ _ us hl => match us, hl with | [_, _, _], _ => rfl)
  have E_bran_between : Df P w K mg base "bran_between" 1 ["sizes", "begin", "end"] spBran := d_bran_between.df (fun f fd F => ok_bran F B) (fun _ _ _ _ _ _ us hl => match us, hl with | [_, _, _], _ => rfl)
  have E_classes_of : Df P w K mg base "classes_of" 2 pC spCls := d_classes_of.df (fun f fd F => ok_cls F B E_flour_between E_bran_between) (fun _ _ _ _ _ _ us hl => match us, hl with | [_, _], _ => rfl)
  have E_misplaced_of : Df P w K mg base "misplaced_of" 3 pC spMis := d_misplaced_of.df (fun f fd F => ok_mis F B E_classes_of) (fun _ _ _ _ _ _ us hl => match us, hl with | [_, _], _ => rfl)
  have E_heaviest_of : Df P w K mg base "heaviest_of" 3 pC spHvy := d_heaviest_of.df (fun f fd F => ok_hvy F B E_classes_of) (fun _ _ _ _ _ _ us hl => match us, hl with | [_, _], _ => rfl)
  have E_goes_to_flour : Df P w K mg base "goes_to_flour" 1 ["flour", "bran"] spGoes := d_goes_to_flour.df (fun f fd F => ok_goes F ) (fun _ _ _ _ _ _ us hl => match us, hl with | [_, _], _ => rfl)
  have E_class_at : Df P w K mg base "class_at" 3 pA spAt := d_class_at.df (fun f fd F => ok_at F E_classes_of) (fun _ _ _ _ _ _ us hl => match us, hl with | [_, _, _], _ => rfl)
  have E_lower_bound_of : Df P w K mg base "lower_bound_of" 1 ["sizes"] spLow := d_lower_bound_of.df (fun f fd F => ok_low F B) (fun _ _ _ _ _ _ us hl => match us, hl with | [_], _ => rfl)
  have E_is_position : Df P w K mg base "is_position" 1 ["position", "size_count"] spIsPos := d_is_position.df (fun f fd F => ok_ispos F ) (fun _ _ _ _ _ _ us hl => match us, hl with | [_, _], _ => rfl)
  have E_are_positions : Df P w K mg base "are_positions" 2 pAre spAre := d_are_positions.df (fun f fd F => ok_are F E_is_position) (fun _ _ _ _ _ _ us hl => match us, hl with | [_, _], _ => rfl)
  have E_longer_lists : Df P w K mg base "longer_lists" 1 pLong spLong := d_longer_lists.df (fun f fd F => ok_long F B) (fun _ _ _ _ _ _ us hl => match us, hl with | [_, _], _ => rfl)
  have E_all_lists : Df P w K mg base "all_lists" 2 pAll spAll := d_all_lists.df (fun f fd F => ok_all F B E_longer_lists) (fun _ _ _ _ _ _ us hl => match us, hl with | [_, _], _ => rfl)
  have E_best_of : Df P w K mg base "best_of" 4 pB spBest := d_best_of.df (fun f fd F => ok_best F B E_all_lists E_misplaced_of) (fun _ _ _ _ _ _ us hl => match us, hl with | [_, _], _ => rfl)
  have E_most_even_of : Df P w K mg base "most_even_of" 4 pB spEven := d_most_even_of.df (fun f fd F => ok_even F B E_all_lists E_heaviest_of) (fun _ _ _ _ _ _ us hl => match us, hl with | [_, _], _ => rfl)
  have E_best_amount : Df P w K mg base "best_amount" 5 pB spAmt := d_best_amount.df (fun f fd F => ok_amt F E_best_of E_misplaced_of) (fun _ _ _ _ _ _ us hl => match us, hl with | [_, _], _ => rfl)
  have E_common_divisor : Df P w K mg base "common_divisor" 1 ["one", "other"] spGcd := d_common_divisor.df (fun f fd F => ok_gcd F ) (fun _ _ _ _ _ _ us hl => match us, hl with | [_, _], _ => rfl)
  have E_in_lowest_terms : Df P w K mg base "in_lowest_terms" 2 ["top", "bottom"] spTerms := d_in_lowest_terms.df (fun f fd F => ok_terms F E_common_divisor) (fun _ _ _ _ _ _ us hl => match us, hl with | [_, _], _ => rfl)
  have E_is_amount : Df P w K mg base "is_amount" 1 ["flour", "bran"] spIsAm := d_is_amount.df (fun f fd F => ok_isam F N) (fun _ _ _ _ _ _ us hl => match us, hl with | [_, _], _ => rfl)
  have E_m_create : Mt P w K mg base C "create" 1 ["self"] (spCreate C) := m_create.mt (fun f fd F => ok_create F T) (fun _ _ _ _ _ _ us hl => match us, hl with | [_], _ => rfl)
  have E_m_has_size : Mt P w K mg base C "has_size" 1 ["self", "size"] (spHas C) := m_has_size.mt (fun f fd F => ok_has F T B) (fun _ _ _ _ _ _ us hl => match us, hl with | [_, _], _ => rfl)
  have E_m_amount_now : Mt P w K mg base C "amount_now" 4 ["self"] (spOp C (arg0 .misplaced)) := m_amount_now.mt (fun f fd F => ok_now F T E_misplaced_of) (fun _ _ _ _ _ _ us hl => match us, hl with | [_], _ => rfl)
  have E_m_add_size : Mt P w K mg base C "add_size" 2 ["self", "flour", "bran"] (spOp C (arg2 .addSize)) := m_add_size.mt (fun f fd F => ok_add F T B N E_is_amount) (fun _ _ _ _ _ _ us hl => match us, hl with | [_, _, _], _ => rfl)
  have E_m_get_sizes : Mt P w K mg base C "get_sizes" 1 ["self"] (spOp C (arg0 .getSizes)) := m_get_sizes.mt (fun f fd F => ok_gsz F T B) (fun _ _ _ _ _ _ us hl => match us, hl with | [_], _ => rfl)
  have E_m_remove_last_size : Mt P w K mg base C "remove_last_size" 1 ["self"] (spOp C (arg0 .removeLastSize)) := m_remove_last_size.mt (fun f fd F => ok_rem F T B N) (fun _ _ _ _ _ _ us hl => match us, hl with | [_], _ => rfl)
  have E_m_set_size : Mt P w K mg base C "set_size" 2 ["self", "size", "flour", "bran"] (spOp C (arg3 .setSize)) := m_set_size.mt (fun f fd F => ok_set F T B N E_m_has_size E_is_amount) (fun _ _ _ _ _ _ us hl => match us, hl with | [_, _, _, _], _ => rfl)
  have E_answer_of_sizes : Df P w K mg base "answer_of_sizes" 3 pG (spGrp C 1 4) := d_answer_of_sizes.df (fun f fd F => ok_gr1 F T E_m_add_size E_m_remove_last_size E_m_set_size E_m_get_sizes) (fun _ _ _ _ _ _ us hl => match us, hl with | [_, _, _], _ => rfl)
  have E_m_set_sieves : Mt P w K mg base C "set_sieves" 5 ["self", "positions"] (spOp C (argL .setSieves)) := m_set_sieves.mt (fun f fd F => ok_ss F T B N E_are_positions E_m_amount_now) (fun _ _ _ _ _ _ us hl => match us, hl with | [_, _], _ => rfl)
  have E_m_get_sieves : Mt P w K mg base C "get_sieves" 1 ["self"] (spOp C (arg0 .getSieves)) := m_get_sieves.mt (fun f fd F => ok_gsv F T B) (fun _ _ _ _ _ _ us hl => match us, hl with | [_], _ => rfl)
  have E_m_get_classes : Mt P w K mg base C "get_classes" 3 ["self"] (spOp C (arg0 .getClasses)) := m_get_classes.mt (fun f fd F => ok_gc F T B E_classes_of) (fun _ _ _ _ _ _ us hl => match us, hl with | [_], _ => rfl)
  have E_m_purity : Mt P w K mg base C "purity" 4 ["self"] (spOp C (arg0 .purity)) := m_purity.mt (fun f fd F => ok_pu F T B N E_flour_between E_bran_between E_misplaced_of E_in_lowest_terms) (fun _ _ _ _ _ _ us hl => match us, hl with | [_], _ => rfl)
  have E_answer_of_sieves : Df P w K mg base "answer_of_sieves" 6 pG (spGrp C 5 9) := d_answer_of_sieves.df (fun f fd F => ok_gr2 F T E_m_set_sieves E_m_get_sieves E_m_get_classes E_m_amount_now E_m_purity) (fun _ _ _ _ _ _ us hl => match us, hl with | [_, _, _], _ => rfl)
  have E_m_best_sieves : Mt P w K mg base C "best_sieves" 5 ["self", "count"] (spOp C (arg1 .bestSieves)) := m_best_sieves.mt (fun f fd F => ok_bs F T B N E_best_of E_misplaced_of) (fun _ _ _ _ _ _ us hl => match us, hl with | [_, _], _ => rfl)
  have E_m_most_even_sieves : Mt P w K mg base C "most_even_sieves" 5 ["self", "count"] (spOp C (arg1 .mostEvenSieves)) := m_most_even_sieves.mt (fun f fd F => ok_me F T B N E_most_even_of E_heaviest_of) (fun _ _ _ _ _ _ us hl => match us, hl with | [_, _], _ => rfl)
  have E_m_apply_best_sieves : Mt P w K mg base C "apply_best_sieves" 5 ["self", "count"] (spOp C (arg1 .applyBestSieves)) := m_apply_best_sieves.mt (fun f fd F => ok_ap F T B N E_best_of E_m_amount_now) (fun _ _ _ _ _ _ us hl => match us, hl with | [_, _], _ => rfl)
  have E_m_sieves_needed : Mt P w K mg base C "sieves_needed" 6 ["self", "limit"] (spOp C (arg1 .sievesNeeded)) := m_sieves_needed.mt (fun f fd F => ok_nd F T B N E_best_amount) (fun _ _ _ _ _ _ us hl => match us, hl with | [_, _], _ => rfl)
  have E_m_lower_bound : Mt P w K mg base C "lower_bound" 2 ["self"] (spOp C (arg0 .lowerBound)) := m_lower_bound.mt (fun f fd F => ok_lb F T E_lower_bound_of) (fun _ _ _ _ _ _ us hl => match us, hl with | [_], _ => rfl)
  have E_m_add_sieve : Mt P w K mg base C "add_sieve" 5 ["self", "position"] (spOp C (arg1 .addSieve)) := m_add_sieve.mt (fun f fd F => ok_as F T B N E_is_position E_m_amount_now) (fun _ _ _ _ _ _ us hl => match us, hl with | [_, _], _ => rfl)
  have E_m_remove_sieve : Mt P w K mg base C "remove_sieve" 5 ["self", "position"] (spOp C (arg1 .removeSieve)) := m_remove_sieve.mt (fun f fd F => ok_rs F T N E_m_amount_now) (fun _ _ _ _ _ _ us hl => match us, hl with | [_, _], _ => rfl)
  have E_answer_of_best : Df P w K mg base "answer_of_best" 7 pG (spGrp C 10 15) := d_answer_of_best.df (fun f fd F => ok_gr3 F T E_m_best_sieves E_m_apply_best_sieves E_m_sieves_needed E_m_lower_bound E_m_add_sieve E_m_remove_sieve) (fun _ _ _ _ _ _ us hl => match us, hl with | [_, _, _], _ => rfl)
  have E_m_gain_of_sieve : Mt P w K mg base C "gain_of_sieve" 6 ["self", "count"] (spOp C (arg1 .gainOfSieve)) := m_gain_of_sieve.mt (fun f fd F => ok_ga F T B N E_best_amount) (fun _ _ _ _ _ _ us hl => match us, hl with | [_, _], _ => rfl)
  have E_m_evaluate_sieves : Mt P w K mg base C "evaluate_sieves" 5 ["self", "positions"] (spOp C (argL .evaluateSieves)) := m_evaluate_sieves.mt (fun f fd F => ok_evs F T B N E_are_positions E_misplaced_of E_heaviest_of) (fun _ _ _ _ _ _ us hl => match us, hl with | [_, _], _ => rfl)
  have E_m_destination : Mt P w K mg base C "destination" 4 ["self", "size"] (spOp C (arg1 .destination)) := m_destination.mt (fun f fd F => ok_de F T N E_m_has_size E_class_at E_goes_to_flour) (fun _ _ _ _ _ _ us hl => match us, hl with | [_, _], _ => rfl)
  have E_m_yields : Mt P w K mg base C "yields" 3 ["self"] (spOp C (arg0 .yields)) := m_yields.mt (fun f fd F => ok_yi F T B E_classes_of E_goes_to_flour E_flour_between E_bran_between) (fun _ _ _ _ _ _ us hl => match us, hl with | [_], _ => rfl)
  have E_answer_of_others : Df P w K mg base "answer_of_others" 7 pG (spGrp C 16 20) := d_answer_of_others.df (fun f fd F => ok_gr4 F T E_m_gain_of_sieve E_m_most_even_sieves E_m_evaluate_sieves E_m_destination E_m_yields) (fun _ _ _ _ _ _ us hl => match us, hl with | [_, _, _], _ => rfl)
  have E_answer_of : Df P w K mg base "answer_of" 8 pG (spAnsOf C) := d_answer_of.df (fun f fd F => ok_ansof F T N E_m_create E_answer_of_sizes E_answer_of_sieves E_answer_of_best E_answer_of_others) (fun _ _ _ _ _ _ us hl => match us, hl with | [_, _, _], _ => rfl)
  have E_answered : Df P w K mg base "answered" 9 ["calls"] (spTop K) := d_answered.df (fun f fd F => ok_answered F T B MD E_answer_of) (fun _ _ _ _ _ _ us hl => match us, hl with | [_], _ => rfl)
  exact ok_answers F E_answered
end
end Sv
open PySem PySem.W PyProof.Rows
set_option maxRecDepth 100000 in
set_option maxHeartbeats 0 in
theorem PySem.Challenge.cw_sievecuts_s01_answers_holds : PySem.Challenge.rw_sievecuts_s01_answers.Holds := by
  w_on; k_headS; (case hw => exact ⟨[.list [.int 0, .int 0, .int 0]], by decide +kernel, by decide +kernel⟩)
  k_fillS
  refine L2.walk_specK (r := PySem.Challenge.rw_sievecuts_s01_answers) (k := 10) (CX := L2.CX0) (ps := ["calls"]) (sp := Sv.spTop) (by decide +kernel) rfl rfl ⟨rfl, by decide, by decide⟩ (fun w h Y => PySem.W.kIn_of Y) ?F ?S (fun _ _ _ _ z => z)
  case F =>
    intro w mg fa h Y KX G hmg
    refine' Sv.all_ok KX G hmg ?aC ?pg ?hd ?po ?sa ?mk ?kc ?nM ?nZ ?nV ?z_range ?z_len ?z_min ?z_max ?z_list ?q_noSifter ?q_notThere ?q_outside ?q_tooMany ?q_nothing ?q_already ?q_notEnough ?q_mostSizes ?q_mostAmount ?m_init ?m_create ?m_has_size ?m_amount_now ?m_add_size ?m_get_sizes ?m_remove_last_size ?m_set_size ?m_set_sieves ?m_get_sieves ?m_get_classes ?m_purity ?m_best_sieves ?m_most_even_sieves ?m_apply_best_sieves ?m_sieves_needed ?m_lower_bound ?m_add_sieve ?m_remove_sieve ?m_gain_of_sieve ?m_evaluate_sieves ?m_destination ?m_yields ?d_flour_between ?d_bran_between ?d_classes_of ?d_misplaced_of ?d_heaviest_of ?d_goes_to_flour ?d_class_at ?d_lower_bound_of ?d_is_position ?d_are_positions ?d_longer_lists ?d_all_lists ?d_best_of ?d_most_even_of ?d_best_amount ?d_common_divisor ?d_in_lowest_terms ?d_is_amount ?d_answer_of_sizes ?d_answer_of_sieves ?d_answer_of_best ?d_answer_of_others ?d_answer_of ?d_answered ?d_answers
    (case aC => k_is)
    (case pg => k_is)
    (case hd => k_is)
    (case po => k_is)
    (case sa => k_is)
    (case mk => k_is)
    (case kc => k_is)
    (case nM => k_is)
    (case nZ => k_is)
    (case nV => k_is)
    (case z_range => k_is)
    (case z_len => k_is)
    (case z_min => k_is)
    (case z_max => k_is)
    (case z_list => k_is)
    (case q_noSifter => k_is)
    (case q_notThere => k_is)
    (case q_outside => k_is)
    (case q_tooMany => k_is)
    (case q_nothing => k_is)
    (case q_already => k_is)
    (case q_notEnough => k_is)
    (case q_mostSizes => k_is)
    (case q_mostAmount => k_is)
    (case m_init => (refine' Sv.mt_mk ?a ?i ?l ?c ?k; (case a => k_is); (case i => k_is); (case l => k_is); (case c => k_is); (case k => k_is)))
    (case m_create => (refine' Sv.mt_mk ?a ?i ?l ?c ?k; (case a => k_is); (case i => k_is); (case l => k_is); (case c => k_is); (case k => k_is)))
    (case m_has_size => (refine' Sv.mt_mk ?a ?i ?l ?c ?k; (case a => k_is); (case i => k_is); (case l => k_is); (case c => k_is); (case k => k_is)))
    (case m_amount_now => (refine' Sv.mt_mk ?a ?i ?l ?c ?k; (case a => k_is); (case i => k_is); (case l => k_is); (case c => k_is); (case k => k_is)))
    (case m_add_size => (refine' Sv.mt_mk ?a ?i ?l ?c ?k; (case a => k_is); (case i => k_is); (case l => k_is); (case c => k_is); (case k => k_is)))
    (case m_get_sizes => (refine' Sv.mt_mk ?a ?i ?l ?c ?k; (case a => k_is); (case i => k_is); (case l => k_is); (case c => k_is); (case k => k_is)))
    (case m_remove_last_size => (refine' Sv.mt_mk ?a ?i ?l ?c ?k; (case a => k_is); (case i => k_is); (case l => k_is); (case c => k_is); (case k => k_is)))
    (case m_set_size => (refine' Sv.mt_mk ?a ?i ?l ?c ?k; (case a => k_is); (case i => k_is); (case l => k_is); (case c => k_is); (case k => k_is)))
    (case m_set_sieves => (refine' Sv.mt_mk ?a ?i ?l ?c ?k; (case a => k_is); (case i => k_is); (case l => k_is); (case c => k_is); (case k => k_is)))
    (case m_get_sieves => (refine' Sv.mt_mk ?a ?i ?l ?c ?k; (case a => k_is); (case i => k_is); (case l => k_is); (case c => k_is); (case k => k_is)))
    (case m_get_classes => (refine' Sv.mt_mk ?a ?i ?l ?c ?k; (case a => k_is); (case i => k_is); (case l => k_is); (case c => k_is); (case k => k_is)))
    (case m_purity => (refine' Sv.mt_mk ?a ?i ?l ?c ?k; (case a => k_is); (case i => k_is); (case l => k_is); (case c => k_is); (case k => k_is)))
    (case m_best_sieves => (refine' Sv.mt_mk ?a ?i ?l ?c ?k; (case a => k_is); (case i => k_is); (case l => k_is); (case c => k_is); (case k => k_is)))
    (case m_most_even_sieves => (refine' Sv.mt_mk ?a ?i ?l ?c ?k; (case a => k_is); (case i => k_is); (case l => k_is); (case c => k_is); (case k => k_is)))
    (case m_apply_best_sieves => (refine' Sv.mt_mk ?a ?i ?l ?c ?k; (case a => k_is); (case i => k_is); (case l => k_is); (case c => k_is); (case k => k_is)))
    (case m_sieves_needed => (refine' Sv.mt_mk ?a ?i ?l ?c ?k; (case a => k_is); (case i => k_is); (case l => k_is); (case c => k_is); (case k => k_is)))
    (case m_lower_bound => (refine' Sv.mt_mk ?a ?i ?l ?c ?k; (case a => k_is); (case i => k_is); (case l => k_is); (case c => k_is); (case k => k_is)))
    (case m_add_sieve => (refine' Sv.mt_mk ?a ?i ?l ?c ?k; (case a => k_is); (case i => k_is); (case l => k_is); (case c => k_is); (case k => k_is)))
    (case m_remove_sieve => (refine' Sv.mt_mk ?a ?i ?l ?c ?k; (case a => k_is); (case i => k_is); (case l => k_is); (case c => k_is); (case k => k_is)))
    (case m_gain_of_sieve => (refine' Sv.mt_mk ?a ?i ?l ?c ?k; (case a => k_is); (case i => k_is); (case l => k_is); (case c => k_is); (case k => k_is)))
    (case m_evaluate_sieves => (refine' Sv.mt_mk ?a ?i ?l ?c ?k; (case a => k_is); (case i => k_is); (case l => k_is); (case c => k_is); (case k => k_is)))
    (case m_destination => (refine' Sv.mt_mk ?a ?i ?l ?c ?k; (case a => k_is); (case i => k_is); (case l => k_is); (case c => k_is); (case k => k_is)))
    (case m_yields => (refine' Sv.mt_mk ?a ?i ?l ?c ?k; (case a => k_is); (case i => k_is); (case l => k_is); (case c => k_is); (case k => k_is)))
    (case d_flour_between => (refine' Sv.df_mk KX G ?a ?l ?c ?k; (case a => k_is); (case l => k_is); (case c => k_is); (case k => k_is)))
    (case d_bran_between => (refine' Sv.df_mk KX G ?a ?l ?c ?k; (case a => k_is); (case l => k_is); (case c => k_is); (case k => k_is)))
    (case d_classes_of => (refine' Sv.df_mk KX G ?a ?l ?c ?k; (case a => k_is); (case l => k_is); (case c => k_is); (case k => k_is)))
    (case d_misplaced_of => (refine' Sv.df_mk KX G ?a ?l ?c ?k; (case a => k_is); (case l => k_is); (case c => k_is); (case k => k_is)))
    (case d_heaviest_of => (refine' Sv.df_mk KX G ?a ?l ?c ?k; (case a => k_is); (case l => k_is); (case c => k_is); (case k => k_is)))
    (case d_goes_to_flour => (refine' Sv.df_mk KX G ?a ?l ?c ?k; (case a => k_is); (case l => k_is); (case c => k_is); (case k => k_is)))
    (case d_class_at => (refine' Sv.df_mk KX G ?a ?l ?c ?k; (case a => k_is); (case l => k_is); (case c => k_is); (case k => k_is)))
    (case d_lower_bound_of => (refine' Sv.df_mk KX G ?a ?l ?c ?k; (case a => k_is); (case l => k_is); (case c => k_is); (case k => k_is)))
    (case d_is_position => (refine' Sv.df_mk KX G ?a ?l ?c ?k; (case a => k_is); (case l => k_is); (case c => k_is); (case k => k_is)))
    (case d_are_positions => (refine' Sv.df_mk KX G ?a ?l ?c ?k; (case a => k_is); (case l => k_is); (case c => k_is); (case k => k_is)))
    (case d_longer_lists => (refine' Sv.df_mk KX G ?a ?l ?c ?k; (case a => k_is); (case l => k_is); (case c => k_is); (case k => k_is)))
    (case d_all_lists => (refine' Sv.df_mk KX G ?a ?l ?c ?k; (case a => k_is); (case l => k_is); (case c => k_is); (case k => k_is)))
    (case d_best_of => (refine' Sv.df_mk KX G ?a ?l ?c ?k; (case a => k_is); (case l => k_is); (case c => k_is); (case k => k_is)))
    (case d_most_even_of => (refine' Sv.df_mk KX G ?a ?l ?c ?k; (case a => k_is); (case l => k_is); (case c => k_is); (case k => k_is)))
    (case d_best_amount => (refine' Sv.df_mk KX G ?a ?l ?c ?k; (case a => k_is); (case l => k_is); (case c => k_is); (case k => k_is)))
    (case d_common_divisor => (refine' Sv.df_mk KX G ?a ?l ?c ?k; (case a => k_is); (case l => k_is); (case c => k_is); (case k => k_is)))
    (case d_in_lowest_terms => (refine' Sv.df_mk KX G ?a ?l ?c ?k; (case a => k_is); (case l => k_is); (case c => k_is); (case k => k_is)))
    (case d_is_amount => (refine' Sv.df_mk KX G ?a ?l ?c ?k; (case a => k_is); (case l => k_is); (case c => k_is); (case k => k_is)))
    (case d_answer_of_sizes => (refine' Sv.df_mk KX G ?a ?l ?c ?k; (case a => k_is); (case l => k_is); (case c => k_is); (case k => k_is)))
    (case d_answer_of_sieves => (refine' Sv.df_mk KX G ?a ?l ?c ?k; (case a => k_is); (case l => k_is); (case c => k_is); (case k => k_is)))
    (case d_answer_of_best => (refine' Sv.df_mk KX G ?a ?l ?c ?k; (case a => k_is); (case l => k_is); (case c => k_is); (case k => k_is)))
    (case d_answer_of_others => (refine' Sv.df_mk KX G ?a ?l ?c ?k; (case a => k_is); (case l => k_is); (case c => k_is); (case k => k_is)))
    (case d_answer_of => (refine' Sv.df_mk KX G ?a ?l ?c ?k; (case a => k_is); (case l => k_is); (case c => k_is); (case k => k_is)))
    (case d_answered => (refine' Sv.df_mk KX G ?a ?l ?c ?k; (case a => k_is); (case l => k_is); (case c => k_is); (case k => k_is)))
    (case d_answers => (refine' Sv.df_mk KX G ?a ?l ?c ?k; (case a => k_is); (case l => k_is); (case c => k_is); (case k => k_is)))
  case S =>
    intro K H xs a hO hwi hask hx
    cases hx with
    | cons h1 h2 =>
      cases h2
      cases h1 with
      | lst hs ha =>
        have e := L2.ints_dw a.1 _ ha
        subst e
        exact ⟨_, a.1, rfl, hs, hask, fun H' p hp => .lst (L2.SqL.of hp) (L2.dw_ints _)⟩
#print axioms PySem.Challenge.cw_sievecuts_s01_answers_holds
