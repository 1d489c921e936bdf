import PyProof.Rows.All
import Wide.All
import OpenK.AllK
import Wide.FinOn
import Open.SpecLaws
import KE.OsGo
import HandS.ForSpec
import HandS.Comp
import HandS.Iter
import HandS.SortKw
import KE.KDictZip
import HandS.Walk
import KE.BitLaws
import PySem.Challenge.RW_stembunches_s01_answers
set_option Elab.async false
set_option linter.all false
set_option maxRecDepth 100000
set_option maxHeartbeats 4000000
namespace Sb
open Kh434
/-! ### the sort -/
theorem ins_perm (x : Nat) : ∀ l : List Nat, (insertDescending x l).Perm (x :: l)
  | [] => List.Perm.refl _
  | y :: r => by
    unfold insertDescending
    split
    · exact List.Perm.refl _
    · exact ((ins_perm x r).cons y).trans (List.Perm.swap x y r)
theorem sort_perm : ∀ l : List Nat, (sortDescending l).Perm l
  | [] => List.Perm.refl _
  | x :: r => (ins_perm x (sortDescending r)).trans ((sort_perm r).cons x)
theorem ins_sorted (x : Nat) : ∀ {l : List Nat}, l.Pairwise (· ≥ ·) → (insertDescending x l).Pairwise (· ≥ ·)
  | [], _ => by simp [insertDescending]
  | y :: r, h => by
    unfold insertDescending
    rw [List.pairwise_cons] at h
    split
    · rename_i c
      rw [List.pairwise_cons]
      refine ⟨fun z hz => ?_, List.pairwise_cons.mpr h⟩
      rcases List.mem_cons.mp hz with e | m
      · rw [e]; exact c
      · exact Nat.le_trans (h.1 z m) c
    · rename_i c
      rw [List.pairwise_cons]
      refine ⟨fun z hz => ?_, ins_sorted x h.2⟩
      rcases List.mem_cons.mp ((ins_perm x r).mem_iff.mp hz) with e | m
      · rw [e]; omega
      · exact h.1 z m
theorem sort_sorted : ∀ l : List Nat, (sortDescending l).Pairwise (· ≥ ·)
  | [] => List.Pairwise.nil
  | x :: r => ins_sorted x (sort_sorted r)
theorem sort_length (l : List Nat) : (sortDescending l).length = l.length := (sort_perm l).length_eq
/-- what sorted(.., reverse=True) hands over is the specification's own sort -/
theorem sort_is {l : List Nat} {ns : List Int} (hp : ns.Perm (l.map fun n : Nat => (n : Int))) (ho : ns.Pairwise (· ≥ ·)) : ns = (sortDescending l).map fun n : Nat => (n : Int) := by
  refine List.Perm.eq_of_pairwise (le := fun a b : Int => a ≥ b) (fun a b _ _ h1 h2 => Int.le_antisymm h2 h1) ho ?_ (hp.trans ((sort_perm l).map _).symm)
  rw [List.pairwise_map]
  exact (sort_sorted l).imp fun h => Int.ofNat_le.mpr h

/-! ### the shortest -/
theorem foldl_min_le : ∀ (r : List Nat) (x : Nat), r.foldl min x ≤ x ∧ ∀ y ∈ r, r.foldl min x ≤ y
  | [], x => ⟨Nat.le_refl _, fun y h => absurd h (by simp)⟩
  | z :: r, x => by
    obtain ⟨h1, h2⟩ := foldl_min_le r (min x z)
    refine ⟨Nat.le_trans h1 (Nat.min_le_left _ _), fun y hy => ?_⟩
    rcases List.mem_cons.mp hy with e | m
    · rw [e]; exact Nat.le_trans h1 (Nat.min_le_right _ _)
    · exact h2 y m
theorem foldl_min_mem : ∀ (r : List Nat) (x : Nat), r.foldl min x = x ∨ r.foldl min x ∈ r
  | [], x => .inl rfl
  | z :: r, x => by
    show r.foldl min (min x z) = x ∨ r.foldl min (min x z) ∈ z :: r
    rcases foldl_min_mem r (min x z) with e | m
    · rw [e]
      by_cases c : x ≤ z
      · exact .inl (Nat.min_eq_left c)
      · exact .inr (by rw [Nat.min_eq_right (by omega)]; exact List.mem_cons_self)
    · exact .inr (List.mem_cons_of_mem _ m)
theorem shortest_mem {l : List Nat} (h : l ≠ []) : shortest l ∈ l := by
  cases l with
  | nil => exact absurd rfl h
  | cons x r =>
    show r.foldl min x ∈ x :: r
    rcases foldl_min_mem r x with e | m
    · rw [e]; exact List.mem_cons_self
    · exact List.mem_cons_of_mem _ m
theorem shortest_le {l : List Nat} {y : Nat} (h : y ∈ l) : shortest l ≤ y := by
  cases l with
  | nil => exact absurd h (by simp)
  | cons x r =>
    show r.foldl min x ≤ y
    rcases List.mem_cons.mp h with e | m
    · rw [e]; exact (foldl_min_le r x).1
    · exact (foldl_min_le r x).2 y m
/-- min(..) of a list -/
theorem shortest_is {l : List Nat} {m : Int} (hm : m ∈ l.map fun n : Nat => (n : Int)) (hl : ∀ y ∈ l.map fun n : Nat => (n : Int), m ≤ y) : m = ((shortest l : Nat) : Int) := by
  obtain ⟨n, hn, rfl⟩ := List.mem_map.mp hm
  have e1 : shortest l ≤ n := shortest_le hn
  have ne : l ≠ [] := fun z => by rw [z] at hn; cases hn
  have e2 := hl _ (List.mem_map.mpr ⟨_, shortest_mem ne, rfl⟩)
  omega

/-! ### pieces -/
theorem pieces_nil : ∀ (f size : Nat) {l : List Nat}, l.length < size → pieces f size l = []
  | 0, _, _, _ => rfl
  | f + 1, size, l, h => by
    unfold pieces
    rw [if_pos (.inl h)]
theorem pieces_cons (f size : Nat) {l : List Nat} (h : size ≤ l.length) (hs : 0 < size) : pieces (f + 1) size l = l.take size :: pieces f size (l.drop size) := by
  conv => lhs; unfold pieces
  rw [if_neg (by omega)]
theorem div_sub {n s : Nat} (hs : 0 < s) (h : s ≤ n) : n / s = (n - s) / s + 1 := by
  rw [Nat.div_eq n s, if_pos ⟨hs, h⟩]
/-- the pieces by their places -/
theorem pieces_range {size : Nat} (hs : 0 < size) : ∀ (f : Nat) (l : List Nat), l.length ≤ f → pieces f size l = (List.range (l.length / size)).map fun k => (l.drop (k * size)).take size
  | 0, l, h => by
    have e : l.length = 0 := by omega
    rw [e, Nat.zero_div]
    rfl
  | f + 1, l, h => by
    by_cases c : size ≤ l.length
    · rw [pieces_cons f size c hs, div_sub hs c, List.range_succ_eq_map, List.map_cons, List.map_map, pieces_range hs f (l.drop size) (by rw [List.length_drop]; omega), List.length_drop]
      congr 1
      · rw [Nat.zero_mul]; rfl
      · refine List.map_congr_left fun k _ => ?_
        show ((l.drop size).drop (k * size)).take size = (l.drop ((k + 1) * size)).take size
        rw [List.drop_drop, Nat.succ_mul, Nat.add_comm]
    · rw [pieces_nil _ _ (by omega), Nat.div_eq_of_lt (by omega)]
      rfl
theorem pieces_size {size : Nat} : ∀ (f : Nat) (l : List Nat) {b : List Nat}, b ∈ pieces f size l → b.length = size ∧ 0 < size
  | 0, _, b, h => absurd h (by simp [pieces])
  | f + 1, l, b, h => by
    unfold pieces at h
    split at h
    · exact absurd h (by simp)
    · rename_i c
      rcases List.mem_cons.mp h with e | m
      · rw [e, List.length_take]; omega
      · exact pieces_size f _ m
theorem bestBunches_range (s : Stock) (hs : 0 < s.bunchSize) : bestBunches s = (List.range (s.stems.length / s.bunchSize)).map fun k => ((sortDescending s.stems).drop (k * s.bunchSize)).take s.bunchSize := by
  unfold bestBunches
  rw [pieces_range hs _ _ (by rw [sort_length]; exact Nat.le_refl _), sort_length]
theorem bestBunches_length (s : Stock) (hs : 0 < s.bunchSize) : (bestBunches s).length = s.stems.length / s.bunchSize := by
  rw [bestBunches_range s hs, List.length_map, List.length_range]
theorem bestBunches_nil (s : Stock) (hs : 0 < s.bunchSize) : bestBunches s = [] ↔ s.stems.length / s.bunchSize = 0 := by
  rw [← bestBunches_length s hs, List.length_eq_zero_iff]
theorem leftover_is (s : Stock) (hs : 0 < s.bunchSize) : leftover s = (sortDescending s.stems).drop (s.stems.length / s.bunchSize * s.bunchSize) := by
  unfold leftover
  rw [bestBunches_length s hs, Nat.mul_comm]
/-! ### the value, as it is told by the table, the stems and the size -/
def bval (table : List (Nat × Nat)) (b : List Nat) : Nat := b.length * priceOf table (shortest b)
def bv (table : List (Nat × Nat)) (stems : List Nat) (size : Nat) : Nat := ((pieces stems.length size (sortDescending stems)).map (bval table)).sum
theorem bestValue_is (s : Stock) : bestValue s = bv s.priceTable s.stems s.bunchSize := rfl
theorem bunchValue_is (s : Stock) (b : List Nat) : Kh434.bunchValue s b = bval s.priceTable b := rfl

/-! ### prices: a longer stem has no lower price -/
structure Table (t : List (Nat × Nat)) : Prop where
  srt : isSortedTable t = true
theorem sorted_tail {x : Nat × Nat} {t : List (Nat × Nat)} (h : isSortedTable (x :: t) = true) : isSortedTable t = true := by
  cases t with
  | nil => rfl
  | cons y r =>
    have e : (decide (x.1 < y.1) && (decide (x.2 ≤ y.2) && isSortedTable (y :: r))) = true := h
    simp only [Bool.and_eq_true] at e
    exact e.2.2
theorem sorted_head : ∀ {t : List (Nat × Nat)} {x : Nat × Nat}, isSortedTable (x :: t) = true → ∀ y ∈ t, x.1 < y.1 ∧ x.2 ≤ y.2
  | [], _, _, _, h => absurd h (by simp)
  | y :: r, x, h, z, hz => by
    have e : (decide (x.1 < y.1) && (decide (x.2 ≤ y.2) && isSortedTable (y :: r))) = true := h
    simp only [Bool.and_eq_true, decide_eq_true_eq] at e
    rcases List.mem_cons.mp hz with q | m
    · rw [q]; exact ⟨e.1, e.2.1⟩
    · obtain ⟨h1, h2⟩ := sorted_head e.2.2 z m
      exact ⟨Nat.lt_trans e.1 h1, Nat.le_trans e.2.1 h2⟩
def step (length : Nat) (price : Nat) (row : Nat × Nat) : Nat := if row.1 ≤ length then row.2 else price
theorem fold_all (n : Nat) : ∀ (r : List (Nat × Nat)) (p q : Nat), p ≤ q → (∀ z ∈ r, p ≤ z.2) → p ≤ r.foldl (step n) q
  | [], _, _, h, _ => h
  | z :: r, p, q, hq, hr => by
    show p ≤ r.foldl (step n) (if z.1 ≤ n then z.2 else q)
    refine fold_all n r p _ ?_ fun w hw => hr w (List.mem_cons_of_mem _ hw)
    split
    · exact hr z List.mem_cons_self
    · exact hq
theorem fold_none (n : Nat) : ∀ (r : List (Nat × Nat)) (p : Nat), (∀ z ∈ r, n < z.1) → r.foldl (step n) p = p
  | [], _, _ => rfl
  | z :: r, p, h => by
    show r.foldl (step n) (if z.1 ≤ n then z.2 else p) = p
    rw [if_neg (by have := h z List.mem_cons_self; omega)]
    exact fold_none n r p fun w hw => h w (List.mem_cons_of_mem _ hw)
theorem fold_mono {a b : Nat} (hab : a ≤ b) : ∀ (t : List (Nat × Nat)) (p q : Nat), isSortedTable t = true → (∀ z ∈ t, p ≤ z.2) → p ≤ q → t.foldl (step a) p ≤ t.foldl (step b) q
  | [], _, _, _, _, h => h
  | y :: r, p, q, hs, hp, h => by
    have hh := sorted_head hs
    show r.foldl (step a) (if y.1 ≤ a then y.2 else p) ≤ r.foldl (step b) (if y.1 ≤ b then y.2 else q)
    by_cases c : y.1 ≤ a
    · rw [if_pos c, if_pos (by omega)]
      exact fold_mono hab r _ _ (sorted_tail hs) (fun z hz => (hh z hz).2) (Nat.le_refl _)
    · rw [if_neg c, fold_none a r p fun z hz => by have := (hh z hz).1; omega]
      refine fold_all b r p _ ?_ fun z hz => hp z (List.mem_cons_of_mem _ hz)
      split
      · exact hp y List.mem_cons_self
      · exact h
theorem priceOf_mono {t : List (Nat × Nat)} (hs : isSortedTable t = true) {a b : Nat} (h : a ≤ b) : priceOf t a ≤ priceOf t b :=
  fold_mono h t 0 0 hs (fun _ _ => Nat.zero_le _) (Nat.le_refl _)

/-! ### a further stem never reduces the best value -/
/-- place by place no shorter, and no fewer -/
def Dom : List Nat → List Nat → Prop
  | [], _ => True
  | _ :: _, [] => False
  | a :: l, b :: r => a ≤ b ∧ Dom l r
theorem Dom.refl : ∀ l : List Nat, Dom l l
  | [] => trivial
  | _ :: l => ⟨Nat.le_refl _, Dom.refl l⟩
theorem Dom.length : ∀ {l r : List Nat}, Dom l r → l.length ≤ r.length
  | [], _, _ => Nat.zero_le _
  | _ :: l, [], h => h.elim
  | _ :: l, _ :: r, h => Nat.succ_le_succ (Dom.length h.2)
theorem Dom.drop : ∀ {l r : List Nat} (k : Nat), Dom l r → Dom (l.drop k) (r.drop k)
  | l, r, 0, h => h
  | [], r, k + 1, _ => by rw [List.drop_nil]; trivial
  | _ :: l, [], _ + 1, h => h.elim
  | _ :: l, _ :: r, k + 1, h => Dom.drop k h.2
theorem Dom.take : ∀ {l r : List Nat} (k : Nat), Dom l r → Dom (l.take k) (r.take k)
  | l, r, 0, h => trivial
  | [], r, k + 1, _ => trivial
  | _ :: l, [], _ + 1, h => h.elim
  | _ :: l, _ :: r, k + 1, h => ⟨h.1, Dom.take k h.2⟩
theorem dom_min : ∀ {l r : List Nat} (x y : Nat), l.length = r.length → Dom l r → x ≤ y → l.foldl min x ≤ r.foldl min y
  | [], [], _, _, _, _, h => h
  | [], _ :: _, _, _, e, _, _ => nomatch e
  | _ :: _, [], _, _, _, h, _ => h.elim
  | a :: l, b :: r, x, y, e, h, c => by
    refine dom_min (l := l) (r := r) (min x a) (min y b) (Nat.succ.inj e) h.2 ?_
    have := h.1
    omega
theorem Dom.shortest {l r : List Nat} (e : l.length = r.length) (h : Dom l r) : shortest l ≤ shortest r := by
  cases l with
  | nil => exact Nat.zero_le _
  | cons a l =>
    cases r with
    | nil => exact h.elim
    | cons b r => exact dom_min a b (Nat.succ.inj e) h.2 h.1
theorem Dom.value {t : List (Nat × Nat)} (hs : isSortedTable t = true) {size : Nat} (h0 : 0 < size) : ∀ (f g : Nat) (l r : List Nat), Dom l r → l.length ≤ f → r.length ≤ g → ((pieces f size l).map (bval t)).sum ≤ ((pieces g size r).map (bval t)).sum
  | 0, _, _, _, _, _, _ => Nat.zero_le _
  | f + 1, g, l, r, h, hl, hr => by
    by_cases c : size ≤ l.length
    · have c2 : size ≤ r.length := Nat.le_trans c h.length
      obtain ⟨g, rfl⟩ : ∃ k, g = k + 1 := ⟨g - 1, by omega⟩
      rw [pieces_cons f size c h0, pieces_cons g size c2 h0, List.map_cons, List.map_cons, List.sum_cons, List.sum_cons]
      refine Nat.add_le_add ?_ (Dom.value hs h0 f g _ _ (h.drop size) (by rw [List.length_drop]; omega) (by rw [List.length_drop]; omega))
      have e1 : (l.take size).length = size := by rw [List.length_take]; omega
      have e2 : (r.take size).length = size := by rw [List.length_take]; omega
      unfold bval
      rw [e1, e2]
      exact Nat.mul_le_mul (Nat.le_refl _) (priceOf_mono hs ((h.take size).shortest (by rw [e1, e2])))
    · rw [pieces_nil _ _ (by omega)]
      exact Nat.zero_le _
/-- below a bound y all of l: l stays below r with y put in -/
theorem dom_in (y : Nat) : ∀ (l r : List Nat) (a : Nat), Dom l r → a ≤ y → (∀ z ∈ l, z ≤ y) → Dom (a :: l) (insertDescending y r)
  | [], [], a, _, h, _ => ⟨h, trivial⟩
  | l, [], a, hd, h, _ => by
    cases l with
    | nil => exact ⟨h, trivial⟩
    | cons b l => exact hd.elim
  | l, b :: r, a, hd, h, hl => by
    unfold insertDescending
    split
    · exact ⟨h, hd⟩
    · rename_i c
      refine ⟨by omega, ?_⟩
      cases l with
      | nil => trivial
      | cons a2 l => exact dom_in y l r a2 hd.2 (hl a2 List.mem_cons_self) fun z hz => hl z (List.mem_cons_of_mem _ hz)
theorem dom_ins (y : Nat) : ∀ (l r : List Nat), l.Pairwise (· ≥ ·) → Dom l r → Dom (insertDescending y l) (insertDescending y r)
  | [], r, _, _ => dom_in y [] r y trivial (Nat.le_refl _) (fun _ h => absurd h (by simp))
  | a :: l, [], _, h => h.elim
  | a :: l, b :: r, hs, h => by
    rw [List.pairwise_cons] at hs
    by_cases c : a ≤ y
    · have e : insertDescending y (a :: l) = y :: a :: l := by unfold insertDescending; rw [if_pos c]
      rw [e]
      by_cases d : b ≤ y
      · have e2 : insertDescending y (b :: r) = y :: b :: r := by unfold insertDescending; rw [if_pos d]
        rw [e2]
        exact ⟨Nat.le_refl _, h⟩
      · have e2 : insertDescending y (b :: r) = b :: insertDescending y r := by conv => lhs; unfold insertDescending; rw [if_neg d]
        rw [e2]
        exact ⟨by omega, dom_in y l r a h.2 c fun z hz => Nat.le_trans (hs.1 z hz) c⟩
    · have d : ¬ b ≤ y := by have := h.1; omega
      have e : insertDescending y (a :: l) = a :: insertDescending y l := by conv => lhs; unfold insertDescending; rw [if_neg c]
      have e2 : insertDescending y (b :: r) = b :: insertDescending y r := by conv => lhs; unfold insertDescending; rw [if_neg d]
      rw [e, e2]
      exact ⟨h.1, dom_ins y l r hs.2 h.2⟩
/-- put into a sorted list: place by place no shorter -/
theorem dom_put (y : Nat) : ∀ (l : List Nat), l.Pairwise (· ≥ ·) → Dom l (insertDescending y l)
  | [], _ => trivial
  | a :: l, hs => by
    rw [List.pairwise_cons] at hs
    unfold insertDescending
    split
    · rename_i c
      refine ⟨c, ?_⟩
      have : ∀ (l : List Nat) (a : Nat), (∀ z ∈ l, z ≤ a) → l.Pairwise (· ≥ ·) → Dom l (a :: l) := by
        intro l
        induction l with
        | nil => intro a _ _; trivial
        | cons b l ih =>
          intro a h1 h2
          rw [List.pairwise_cons] at h2
          exact ⟨h1 b List.mem_cons_self, ih b h2.1 h2.2⟩
      exact this l a hs.1 hs.2
    · exact ⟨Nat.le_refl _, dom_put y l hs.2⟩
/-- without one stem -/
theorem dom_without (x : Nat) : ∀ (p q : List Nat), Dom (sortDescending (p ++ q)) (sortDescending (p ++ x :: q))
  | [], q => dom_put x _ (sort_sorted q)
  | a :: p, q => dom_ins a _ _ (sort_sorted (p ++ q)) (dom_without x p q)
theorem bv_more {t : List (Nat × Nat)} (hs : isSortedTable t = true) {size : Nat} (h0 : 0 < size) (p q : List Nat) (x : Nat) : bv t (p ++ q) size ≤ bv t (p ++ x :: q) size :=
  Dom.value hs h0 _ _ _ _ (dom_without x p q) (by rw [sort_length]; exact Nat.le_refl _) (by rw [sort_length]; exact Nat.le_refl _)
theorem bv_add {t : List (Nat × Nat)} (hs : isSortedTable t = true) {size : Nat} (h0 : 0 < size) (l : List Nat) (x : Nat) : bv t l size ≤ bv t (l ++ [x]) size := by
  have := bv_more hs h0 l [] x
  rwa [List.append_nil] at this
theorem bv_erase {t : List (Nat × Nat)} (hs : isSortedTable t = true) {size : Nat} (h0 : 0 < size) (l : List Nat) (i : Nat) : bv t (l.eraseIdx i) size ≤ bv t l size := by
  by_cases c : i < l.length
  · have e : l = l.take i ++ l[i] :: l.drop (i + 1) := by rw [List.getElem_cons_drop, List.take_append_drop]
    rw [List.eraseIdx_eq_take_drop_succ]
    conv => rhs; rw [e]
    exact bv_more hs h0 _ _ _
  · rw [List.eraseIdx_of_length_le (by omega)]
    exact Nat.le_refl _
theorem bv_perm {t : List (Nat × Nat)} {l r : List Nat} (h : l.Perm r) (size : Nat) : bv t l size = bv t r size := by
  have e : sortDescending l = sortDescending r := List.Perm.eq_of_pairwise (le := fun a b : Nat => a ≥ b) (fun a b _ _ h1 h2 => Nat.le_antisymm h2 h1) (sort_sorted l) (sort_sorted r) (((sort_perm l).trans h).trans (sort_perm r).symm)
  unfold bv
  rw [e, h.length_eq]
end Sb

namespace Sb
open Kh434
/-! ### groups, masks -/
theorem filter_map_succ (f : Nat → Bool) (g : Nat → Nat) (n : Nat) : ((((List.range n).map Nat.succ).filter f).map g) = ((List.range n).filter fun i => f (i + 1)).map fun i => g (i + 1) := by
  rw [List.filter_map, List.map_map]
  rfl
theorem group_zip (g : Nat) : ∀ (stems grouping : List Nat), grouping.length = stems.length →
    ((List.range stems.length).filter fun i => elementAt grouping i == g).map (elementAt stems) = ((stems.zip grouping).filter fun p => p.2 == g).map (·.1)
  | [], _, _ => rfl
  | a :: l, [], h => nomatch h
  | a :: l, b :: r, h => by
    have ih := group_zip g l r (Nat.succ.inj h)
    have ih2 : ((List.range l.length).filter fun i => elementAt (b :: r) (i + 1) == g).map (fun i => elementAt (a :: l) (i + 1)) = ((l.zip r).filter fun p => p.2 == g).map (·.1) := ih
    show ((List.range (l.length + 1)).filter fun i => elementAt (b :: r) i == g).map (elementAt (a :: l)) = _
    rw [List.range_succ_eq_map, List.filter_cons, List.zip_cons_cons, List.filter_cons]
    have e0 : elementAt (b :: r) 0 = b := rfl
    rw [e0]
    by_cases c : (b == g) = true
    · rw [if_pos c, if_pos c, List.map_cons, List.map_cons, filter_map_succ, ih2]
      rfl
    · rw [if_neg c, if_neg c, filter_map_succ, ih2]
def groups (stems grouping : List Nat) : List (List Nat) := (List.range 9).map fun g => ((stems.zip grouping).filter fun p => p.2 == g).map (·.1)
theorem all_nonempty {size : Nat} : ∀ (l : List (List Nat)), (l.all fun b => b.length == 0 || b.length == size) = ((l.filter fun b => !b.isEmpty).all fun b => b.length == size)
  | [] => rfl
  | b :: l => by
    rw [List.all_cons, List.filter_cons, all_nonempty l]
    cases b with
    | nil => simp
    | cons x r => simp
theorem sum_nonempty (t : List (Nat × Nat)) : ∀ (l : List (List Nat)), (l.map (bval t)).sum = ((l.filter fun b => !b.isEmpty).map (bval t)).sum
  | [] => rfl
  | b :: l => by
    rw [List.map_cons, List.sum_cons, List.filter_cons, sum_nonempty t l]
    cases b with
    | nil =>
      have e : bval t [] = 0 := Nat.zero_mul _
      rw [e]; simp
    | cons x r => simp
theorem valid_is (s : Stock) (grouping : List Nat) (hl : grouping.length = s.stems.length) (hg : grouping.all (fun g => decide (g ≤ 9)) = true) :
    isValidGrouping s grouping = ((groups s.stems grouping).filter fun b => !b.isEmpty).all fun b => b.length == s.bunchSize := by
  unfold isValidGrouping
  rw [decide_eq_true hl, hg, Bool.true_and, Bool.true_and, ← all_nonempty]
  unfold groups
  rw [List.all_map]
  congr 1
  funext g
  unfold groupOf
  rw [group_zip g s.stems grouping hl]
  rfl
theorem gvalue_is (s : Stock) (grouping : List Nat) (hl : grouping.length = s.stems.length) :
    groupingValue s grouping = (((groups s.stems grouping).filter fun b => !b.isEmpty).map (bval s.priceTable)).sum := by
  rw [← sum_nonempty]
  unfold groupingValue groups
  rw [List.map_map]
  congr 1
  refine List.map_congr_left fun g _ => ?_
  unfold groupOf
  rw [group_zip g s.stems grouping hl]
  rfl

/-! ### tables -/
def evens : List Nat → List Nat
  | a :: _ :: r => a :: evens r
  | [a] => [a]
  | [] => []
def odds : List Nat → List Nat
  | _ :: b :: r => b :: odds r
  | _ => []
theorem rows_zip : ∀ l : List Nat, tableRows l = (evens l).zip (odds l)
  | [] => rfl
  | [a] => rfl
  | a :: b :: r => by
    show (a, b) :: tableRows r = (a, b) :: (evens r).zip (odds r)
    rw [rows_zip r]
theorem evens_length : ∀ l : List Nat, (evens l).length = (l.length + 1) / 2
  | [] => by simp [evens]
  | [a] => by simp [evens]
  | a :: b :: r => by
    show (evens r).length + 1 = (r.length + 1 + 1 + 1) / 2
    rw [evens_length r]; omega
theorem odds_length : ∀ l : List Nat, (odds l).length = l.length / 2
  | [] => by simp [odds]
  | [a] => by simp [odds]
  | a :: b :: r => by
    show (odds r).length + 1 = (r.length + 1 + 1) / 2
    rw [odds_length r]; omega
theorem evens_get : ∀ (l : List Nat) (k : Nat), (evens l)[k]? = l[2 * k]?
  | [], k => by simp [evens]
  | [a], 0 => rfl
  | [a], k + 1 => by simp [evens]
  | a :: b :: r, 0 => rfl
  | a :: b :: r, k + 1 => by
    show (evens r)[k]? = (a :: b :: r)[2 * (k + 1)]?
    rw [evens_get r k, show 2 * (k + 1) = 2 * k + 1 + 1 from by omega]
    rfl
theorem odds_get : ∀ (l : List Nat) (k : Nat), (odds l)[k]? = l[2 * k + 1]?
  | [], k => by simp [odds]
  | [a], k => by simp [odds]
  | a :: b :: r, 0 => rfl
  | a :: b :: r, k + 1 => by
    show (odds r)[k]? = (a :: b :: r)[2 * (k + 1) + 1]?
    rw [odds_get r k, show 2 * (k + 1) + 1 = 2 * k + 1 + 1 + 1 from by omega]
    rfl
/-- each below the next -/
def rising (f : Nat → Nat → Bool) (l : List Nat) : Bool := (l.zip (l.drop 1)).all fun p => f p.1 p.2
theorem rising_cons (f : Nat → Nat → Bool) (a b : Nat) (r : List Nat) : rising f (a :: b :: r) = (f a b && rising f (b :: r)) := rfl
def ltB (a b : Nat) : Bool := decide (a < b)
def leB (a b : Nat) : Bool := decide (a ≤ b)
theorem sorted_zip : ∀ (l r : List Nat), l.length = r.length → isSortedTable (l.zip r) = (rising ltB l && rising leB r)
  | [], [], _ => rfl
  | [], _ :: _, h => nomatch h
  | _ :: _, [], h => nomatch h
  | [a], [b], _ => rfl
  | [a], b :: c :: r, h => nomatch h
  | a :: c :: l, [b], h => nomatch h
  | a :: c :: l, b :: d :: r, h => by
    have ih := sorted_zip (c :: l) (d :: r) (Nat.succ.inj h)
    show (decide (a < c) && (decide (b ≤ d) && isSortedTable ((c :: l).zip (d :: r)))) = _
    rw [ih, rising_cons, rising_cons]
    show (decide (a < c) && (decide (b ≤ d) && (rising ltB (c :: l) && rising leB (d :: r)))) = (decide (a < c) && rising ltB (c :: l) && (decide (b ≤ d) && rising leB (d :: r)))
    cases decide (a < c) <;> cases decide (b ≤ d) <;> cases rising ltB (c :: l) <;> rfl
theorem all_zip : ∀ (l r : List Nat), l.length = r.length → ((l.zip r).all fun row => decide (row.1 ≤ 120) && decide (row.2 ≤ 99)) = (l.all (fun x => decide (x ≤ 120)) && r.all fun x => decide (x ≤ 99))
  | [], [], _ => rfl
  | [], _ :: _, h => nomatch h
  | _ :: _, [], h => nomatch h
  | a :: l, b :: r, h => by
    have ih := all_zip l r (Nat.succ.inj h)
    rw [List.zip_cons_cons, List.all_cons, List.all_cons, List.all_cons, ih]
    dsimp only
    generalize decide (a ≤ 120) = p
    generalize decide (b ≤ 99) = q
    generalize (l.all fun x => decide (x ≤ 120)) = u
    cases p <;> cases q <;> cases u <;> rfl
/-- the program's look at a table -/
def tabOk (l : List Nat) : Bool := (evens l).all (fun x => decide (x ≤ 120)) && (rising ltB (evens l) && ((odds l).all (fun x => decide (x ≤ 99)) && rising leB (odds l)))
theorem table_is {l : List Nat} (h10 : l.length ≤ 10) : isPriceTable l = (decide (l.length % 2 = 0) && tabOk l) := by
  unfold isPriceTable tabOk
  rw [decide_eq_true h10, Bool.true_and]
  by_cases c : l.length % 2 = 0
  · have e : (evens l).length = (odds l).length := by rw [evens_length, odds_length]; omega
    rw [rows_zip, sorted_zip _ _ e, all_zip _ _ e]
    generalize (evens l).all (fun x => decide (x ≤ 120)) = p
    generalize (odds l).all (fun x => decide (x ≤ 99)) = q
    generalize rising ltB (evens l) = u
    generalize rising leB (odds l) = v
    cases p <;> cases q <;> cases u <;> cases v <;> rfl
  · rw [decide_eq_false c, Bool.false_and, Bool.false_and]
theorem sorted_of_table {l : List Nat} (h : isPriceTable l = true) : isSortedTable (tableRows l) = true := by
  unfold isPriceTable at h
  simp only [Bool.and_eq_true] at h
  exact h.2.2.1

/-! ### the best size -/
def bestSize (v : Nat → Nat) : Nat := [1, 2, 3, 4, 5].foldl (fun best size => if v best < v size then size else best) 1
theorem bestSize_is (v : Nat → Nat) : 1 ≤ bestSize v ∧ bestSize v ≤ 5 ∧ (∀ k, 1 ≤ k → k ≤ 5 → v k ≤ v (bestSize v)) ∧ ∀ k, 1 ≤ k → k < bestSize v → v k < v (bestSize v) := by
  have key : ∀ (l : List Nat) (n b : Nat), l = (List.range' (n + 1) l.length) → 1 ≤ b → b ≤ n → (∀ k, 1 ≤ k → k ≤ n → v k ≤ v b) → (∀ k, 1 ≤ k → k < b → v k < v b) →
      1 ≤ l.foldl (fun best size => if v best < v size then size else best) b ∧ l.foldl (fun best size => if v best < v size then size else best) b ≤ n + l.length ∧
      (∀ k, 1 ≤ k → k ≤ n + l.length → v k ≤ v (l.foldl (fun best size => if v best < v size then size else best) b)) ∧ ∀ k, 1 ≤ k → k < l.foldl (fun best size => if v best < v size then size else best) b → v k < v (l.foldl (fun best size => if v best < v size then size else best) b) := by
    intro l
    induction l with
    | nil => intro n b _ h1 h2 h3 h4; exact ⟨h1, h2, h3, h4⟩
    | cons x r ih =>
      intro n b e h1 h2 h3 h4
      rw [List.length_cons, List.range'_succ] at e
      injection e with e1 e2
      have q := ih (n + 1) (if v b < v x then x else b) e2
      rw [List.foldl_cons, List.length_cons, show n + (r.length + 1) = n + 1 + r.length from by omega]
      subst e1
      by_cases c : v b < v (n + 1)
      · rw [if_pos c] at q ⊢
        refine q (by omega) (Nat.le_refl _) (fun k k1 k2 => ?_) fun k k1 k2 => ?_
        · by_cases z : k = n + 1
          · rw [z]; exact Nat.le_refl _
          · have := h3 k k1 (by omega); omega
        · have := h3 k k1 (by omega); omega
      · rw [if_neg c] at q ⊢
        refine q h1 (by omega) (fun k k1 k2 => ?_) h4
        by_cases z : k = n + 1
        · rw [z]; omega
        · exact h3 k k1 (by omega)
  have z := key [2, 3, 4, 5] 1 1 rfl (Nat.le_refl _) (Nat.le_refl _) (fun k k1 k2 => by rw [show k = 1 from by omega]; exact Nat.le_refl _) (fun k k1 k2 => by omega)
  have e : bestSize v = [2, 3, 4, 5].foldl (fun best size => if v best < v size then size else best) 1 := by
    unfold bestSize
    rw [List.foldl_cons, if_neg (Nat.lt_irrefl _)]
  rw [e]
  exact z

/-! ### the widest bunch -/
theorem foldl_max_ge : ∀ (r : List Nat) (x : Nat), x ≤ r.foldl max x ∧ ∀ y ∈ r, y ≤ r.foldl max x
  | [], x => ⟨Nat.le_refl _, fun y h => absurd h (by simp)⟩
  | z :: r, x => by
    obtain ⟨h1, h2⟩ := foldl_max_ge r (max x z)
    refine ⟨Nat.le_trans (Nat.le_max_left _ _) h1, fun y hy => ?_⟩
    rcases List.mem_cons.mp hy with e | m
    · rw [e]; exact Nat.le_trans (Nat.le_max_right _ _) h1
    · exact h2 y m
theorem foldl_max_le : ∀ (r : List Nat) (x m : Nat), x ≤ m → (∀ y ∈ r, y ≤ m) → r.foldl max x ≤ m
  | [], x, m, h, _ => h
  | z :: r, x, m, h, hr => foldl_max_le r (max x z) m (Nat.max_le.mpr ⟨h, hr z List.mem_cons_self⟩) fun y hy => hr y (List.mem_cons_of_mem _ hy)
/-- a list's greatest, told by what max says -/
theorem greatest_is {l : List Nat} {m : Int} (hm : m ∈ l.map fun n : Nat => (n : Int)) (hl : ∀ y ∈ l.map fun n : Nat => (n : Int), y ≤ m) : m = ((l.foldl max 0 : Nat) : Int) := by
  obtain ⟨n, hn, rfl⟩ := List.mem_map.mp hm
  have h1 := (foldl_max_ge l 0).2 n hn
  have h2 := foldl_max_le l 0 n (Nat.zero_le _) fun y hy => by have := hl _ (List.mem_map.mpr ⟨y, hy, rfl⟩); omega
  omega
theorem head_max {x : Nat} {r : List Nat} (h : (x :: r).Pairwise (· ≥ ·)) : (x :: r).foldl max 0 = x := by
  rw [List.pairwise_cons] at h
  have h1 := (foldl_max_ge (x :: r) 0).2 x List.mem_cons_self
  have h2 := foldl_max_le (x :: r) 0 x (Nat.zero_le _) fun y hy => by
    rcases List.mem_cons.mp hy with e | m
    · rw [e]; exact Nat.le_refl _
    · exact h.1 y m
  omega
theorem last_min {l : List Nat} {y : Nat} (h : (l ++ [y]).Pairwise (· ≥ ·)) : shortest (l ++ [y]) = y := by
  have h1 : shortest (l ++ [y]) ≤ y := shortest_le (List.mem_append_right _ List.mem_cons_self)
  have h2 := shortest_mem (l := l ++ [y]) (by simp)
  rw [List.pairwise_append] at h
  rcases List.mem_append.mp h2 with m | m
  · have := h.2.2 _ m y List.mem_cons_self; omega
  · simpa using m
theorem piece_sorted {l : List Nat} (h : l.Pairwise (· ≥ ·)) (k n : Nat) : ((l.drop k).take n).Pairwise (· ≥ ·) :=
  (h.sublist (List.drop_sublist _ _)).sublist (List.take_sublist _ _)
theorem bestBunch_sorted {s : Stock} (hs : 0 < s.bunchSize) {b : List Nat} (h : b ∈ bestBunches s) : b.Pairwise (· ≥ ·) ∧ b.length = s.bunchSize := by
  have hz := pieces_size _ _ h
  rw [bestBunches_range s hs] at h
  obtain ⟨k, _, rfl⟩ := List.mem_map.mp h
  exact ⟨piece_sorted (sort_sorted _) _ _, hz.1⟩
def width (b : List Nat) : Nat := b.foldl max 0 - shortest b
theorem widest_is (s : Stock) : widestBunch s = ((bestBunches s).map width).foldl max 0 := rfl
end Sb

namespace Sb
open Kh434
/-! ### the calls, one behind another -/
theorem whole_id (c : List (List Int)) : PyKh434.whole c = c := by
  unfold PyKh434.whole
  split <;> rfl
theorem map_whole (cs : List (List (List Int))) : cs.map PyKh434.whole = cs := by
  have e : PyKh434.whole = id := funext whole_id
  rw [e, List.map_id]
def nums (k : Nat) : Nat := [1, 1, 1, 2, 0, 1, 1, 0, 1, 1, 0, 0, 0, 0, 0, 1, 1, 0, 2, 1, 0, 0, 0, 0].getD k 0
def hasList (k : Nat) : Bool := k == 4 || k == 12
theorem shape_is {p : Int} {q : Nat × Nat} (h : PyKh434.shape p = some q) : ∃ k : Nat, k ≤ 23 ∧ p = (k : Int) ∧ q = (nums k, if hasList k = true then 1 else 0) := by
  by_cases h0 : p = 0
  · rw [h0] at h; exact ⟨0, by omega, h0, (Option.some.inj h).symm⟩
  by_cases h1 : p = 1
  · rw [h1] at h; exact ⟨1, by omega, h1, (Option.some.inj h).symm⟩
  by_cases h2 : p = 2
  · rw [h2] at h; exact ⟨2, by omega, h2, (Option.some.inj h).symm⟩
  by_cases h3 : p = 3
  · rw [h3] at h; exact ⟨3, by omega, h3, (Option.some.inj h).symm⟩
  by_cases h4 : p = 4
  · rw [h4] at h; exact ⟨4, by omega, h4, (Option.some.inj h).symm⟩
  by_cases h5 : p = 5
  · rw [h5] at h; exact ⟨5, by omega, h5, (Option.some.inj h).symm⟩
  by_cases h6 : p = 6
  · rw [h6] at h; exact ⟨6, by omega, h6, (Option.some.inj h).symm⟩
  by_cases h7 : p = 7
  · rw [h7] at h; exact ⟨7, by omega, h7, (Option.some.inj h).symm⟩
  by_cases h8 : p = 8
  · rw [h8] at h; exact ⟨8, by omega, h8, (Option.some.inj h).symm⟩
  by_cases h9 : p = 9
  · rw [h9] at h; exact ⟨9, by omega, h9, (Option.some.inj h).symm⟩
  by_cases h10 : p = 10
  · rw [h10] at h; exact ⟨10, by omega, h10, (Option.some.inj h).symm⟩
  by_cases h11 : p = 11
  · rw [h11] at h; exact ⟨11, by omega, h11, (Option.some.inj h).symm⟩
  by_cases h12 : p = 12
  · rw [h12] at h; exact ⟨12, by omega, h12, (Option.some.inj h).symm⟩
  by_cases h13 : p = 13
  · rw [h13] at h; exact ⟨13, by omega, h13, (Option.some.inj h).symm⟩
  by_cases h14 : p = 14
  · rw [h14] at h; exact ⟨14, by omega, h14, (Option.some.inj h).symm⟩
  by_cases h15 : p = 15
  · rw [h15] at h; exact ⟨15, by omega, h15, (Option.some.inj h).symm⟩
  by_cases h16 : p = 16
  · rw [h16] at h; exact ⟨16, by omega, h16, (Option.some.inj h).symm⟩
  by_cases h17 : p = 17
  · rw [h17] at h; exact ⟨17, by omega, h17, (Option.some.inj h).symm⟩
  by_cases h18 : p = 18
  · rw [h18] at h; exact ⟨18, by omega, h18, (Option.some.inj h).symm⟩
  by_cases h19 : p = 19
  · rw [h19] at h; exact ⟨19, by omega, h19, (Option.some.inj h).symm⟩
  by_cases h20 : p = 20
  · rw [h20] at h; exact ⟨20, by omega, h20, (Option.some.inj h).symm⟩
  by_cases h21 : p = 21
  · rw [h21] at h; exact ⟨21, by omega, h21, (Option.some.inj h).symm⟩
  by_cases h22 : p = 22
  · rw [h22] at h; exact ⟨22, by omega, h22, (Option.some.inj h).symm⟩
  by_cases h23 : p = 23
  · rw [h23] at h; exact ⟨23, by omega, h23, (Option.some.inj h).symm⟩
  unfold PyKh434.shape at h
  rw [if_neg h0, if_neg h1, if_neg h2, if_neg h3, if_neg h4, if_neg h5, if_neg h6, if_neg h7, if_neg h8, if_neg h9, if_neg h10, if_neg h11, if_neg h12, if_neg h13, if_neg h14, if_neg h15, if_neg h16, if_neg h17, if_neg h18, if_neg h19, if_neg h20, if_neg h21, if_neg h22, if_neg h23] at h
  cases h
/-- a call by its number, its numbers, its list -/
def decF (k a b : Nat) (tl : List Nat) : Kh434.Call := match k with
  | 0 => .create a
  | 1 => .addStem a
  | 2 => .removeStem a
  | 3 => .trimStem a b
  | 4 => .setPriceTable tl
  | 5 => .setBunchSize a
  | 6 => .sellBunch a
  | 7 => .sellBestBunches
  | 8 => .priceOf a
  | 9 => .bunchValue a
  | 10 => .bestBunches
  | 11 => .bestValue
  | 12 => .evaluateGrouping tl
  | 13 => .leftoverStems
  | 14 => .valueSingly
  | 15 => .gainByStem a
  | 16 => .valueIfBunchSize a
  | 17 => .bestBunchSize
  | 18 => .valueIfTrimmed a b
  | 19 => .stemContribution a
  | 20 => .widestBunch
  | 21 => .listStems
  | 22 => .listPrices
  | _ => .totals
theorem decode_is (c : List (List Int)) : Kh434Neutral.decodeCall c = decF (((c.getD 0 []).getD 0 0).toNat) (((c.getD 0 []).getD 1 0).toNat) (((c.getD 0 []).getD 2 0).toNat) ((c.getD 1 []).map Int.toNat) := rfl
/-- numbers that are not negative -/
def iL (l : List Nat) : List Int := l.map fun n : Nat => (n : Int)
theorem iL_toNat : ∀ {l : List Int}, (∀ x ∈ l, 0 ≤ x) → iL (l.map Int.toNat) = l
  | [], _ => rfl
  | x :: r, h => by
    have h1 := h x List.mem_cons_self
    have ih := iL_toNat (l := r) fun y hy => h y (List.mem_cons_of_mem _ hy)
    show ((x.toNat : Nat) : Int) :: iL (r.map Int.toNat) = x :: r
    rw [ih, Int.toNat_of_nonneg h1]
theorem toNat_iL (l : List Nat) : (iL l).map Int.toNat = l := by
  unfold iL
  rw [List.map_map]
  exact (List.map_congr_left fun a _ => Int.toNat_natCast a).trans (List.map_id' l)
/-- how a call is written -/
def encC (k : Nat) (xs tl : List Nat) : List Int := (k : Int) :: (iL xs ++ if hasList k = true then (tl.length : Int) :: iL tl else [])
theorem rows_one {l : List Int} {xs : List (List Int)} {t : List Int} (h : PyFlat.rows 1 l = some (xs, t)) : ∃ (n : Int) (r x : List Int), l = n :: r ∧ 0 ≤ n ∧ n.toNat ≤ r.length ∧ x = r.take n.toNat ∧ xs = [x] ∧ t = r.drop n.toNat := by
  unfold PyFlat.rows PyFlat.row at h
  cases l with
  | nil => cases h
  | cons n r =>
    dsimp only at h
    by_cases c : 0 ≤ n ∧ n.toNat ≤ r.length
    · rw [if_pos c] at h
      dsimp only [PyFlat.rows] at h
      have e := Option.some.inj h
      injection e with e1 e2
      exact ⟨n, r, r.take n.toNat, rfl, c.1, c.2, rfl, e1.symm, e2.symm⟩
    · rw [if_neg c] at h
      cases h
/-- one call off the list -/
theorem parse_step {f : Nat} {p : Int} {r : List Int} {cs : List (List (List Int))} (h : PyFlat.calls PyKh434.shape f (p :: r) = some cs) (hn : ∀ x ∈ p :: r, 0 ≤ x) :
    ∃ (k : Nat) (xs tl : List Nat) (rest : List Int) (c : List (List Int)) (cs' : List (List (List Int))) (f' : Nat), k ≤ 23 ∧ xs.length = nums k ∧ (hasList k = false → tl = []) ∧ p :: r = encC k xs tl ++ rest ∧
      cs = c :: cs' ∧ PyFlat.calls PyKh434.shape f' rest = some cs' ∧ Kh434Neutral.decodeCall c = decF k (xs.getD 0 0) (xs.getD 1 0) tl := by
  cases f with
  | zero => cases h
  | succ f =>
    unfold PyFlat.calls at h
    unfold PyFlat.call at h
    dsimp only at h
    cases hs : PyKh434.shape p with
    | none => rw [hs] at h; cases h
    | some q =>
      rw [hs] at h
      obtain ⟨k, hk, hp, hq⟩ := shape_is hs
      subst hq
      subst hp
      dsimp only at h
      by_cases c : r.length < nums k
      · rw [if_pos c] at h; cases h
      · rw [if_neg c] at h
        have hxs : ∀ x ∈ r.take (nums k), 0 ≤ x := fun x hx => hn x (List.mem_cons_of_mem _ (List.mem_of_mem_take hx))
        have hlen : ((r.take (nums k)).map Int.toNat).length = nums k := by rw [List.length_map, List.length_take]; omega
        have g0 : ∀ j, (((k : Int) :: r.take (nums k)).getD (j + 1) 0).toNat = ((r.take (nums k)).map Int.toNat).getD j 0 := fun j => by
          show ((r.take (nums k)).getD j 0).toNat = _
          rw [List.getD_eq_getElem?_getD, List.getD_eq_getElem?_getD, List.getElem?_map]
          cases (r.take (nums k))[j]? <;> rfl
        cases hl : hasList k with
        | false =>
          rw [hl] at h
          rw [if_neg Bool.false_ne_true] at h
          dsimp only [PyFlat.rows] at h
          cases hc : PyFlat.calls PyKh434.shape f (r.drop (nums k)) with
          | none => rw [hc] at h; cases h
          | some cs' =>
            rw [hc] at h
            have e := Option.some.inj h
            refine ⟨k, (r.take (nums k)).map Int.toNat, [], r.drop (nums k), [(k : Int) :: r.take (nums k)], cs', f, hk, hlen, fun _ => rfl, ?_, e.symm, hc, ?_⟩
            · unfold encC
              rw [hl, if_neg Bool.false_ne_true, List.append_nil, iL_toNat hxs, List.cons_append, List.take_append_drop]
            · rw [decode_is]
              show decF (k : Int).toNat ((((k : Int) :: r.take (nums k)).getD (0 + 1) 0).toNat) ((((k : Int) :: r.take (nums k)).getD (1 + 1) 0).toNat) [] = _
              rw [g0 0, g0 1, Int.toNat_natCast]
        | true =>
          rw [hl] at h
          rw [if_pos rfl] at h
          cases hr : PyFlat.rows 1 (r.drop (nums k)) with
          | none => rw [hr] at h; cases h
          | some q =>
            obtain ⟨xs, t⟩ := q
            rw [hr] at h
            dsimp only at h
            obtain ⟨n, r', x, e1, h0, h1, e2, e3, e4⟩ := rows_one hr
            cases hc : PyFlat.calls PyKh434.shape f t with
            | none => rw [hc] at h; cases h
            | some cs' =>
              rw [hc] at h
              have e := Option.some.inj h
              have hx : ∀ y ∈ x, 0 ≤ y := fun y hy => by
                rw [e2] at hy
                have m : y ∈ r.drop (nums k) := by rw [e1]; exact List.mem_cons_of_mem _ (List.mem_of_mem_take hy)
                exact hn y (List.mem_cons_of_mem _ (List.mem_of_mem_drop m))
              have hxl : ((x.map Int.toNat).length : Int) = n := by
                rw [List.length_map, e2, List.length_take, Nat.min_eq_left h1, Int.toNat_of_nonneg h0]
              refine ⟨k, (r.take (nums k)).map Int.toNat, x.map Int.toNat, t, [(k : Int) :: r.take (nums k), x], cs', f, hk, hlen, fun z => absurd (hl.symm.trans z) (by decide), ?_, ?_, hc, ?_⟩
              · unfold encC
                rw [hl, if_pos rfl, iL_toNat hxs, iL_toNat hx, hxl, e4, e2, List.cons_append, List.append_assoc, List.cons_append, List.take_append_drop, ← e1, List.take_append_drop]
              · rw [← e, e3]
              · rw [decode_is]
                show decF (k : Int).toNat ((((k : Int) :: r.take (nums k)).getD (0 + 1) 0).toNat) ((((k : Int) :: r.take (nums k)).getD (1 + 1) 0).toNat) (x.map Int.toNat) = _
                rw [g0 0, g0 1, Int.toNat_natCast]
/-- a row of an answer -/
def rowOf (r : Result) : List Int := r.status :: r.values
/-- what is told from a state on -/
def from_ (st : Option Stock) (cs : List (List (List Int))) : List Int := PyFlat.told (PyFlat.played Kh434Neutral.step st cs)
theorem from_nil (st : Option Stock) : from_ st [] = [] := rfl
theorem from_cons (st : Option Stock) (c : List (List Int)) (cs : List (List (List Int))) :
    from_ st (c :: cs) = ((rowOf (execute st (Kh434Neutral.decodeCall c)).2).length : Int) :: (rowOf (execute st (Kh434Neutral.decodeCall c)).2 ++ from_ (execute st (Kh434Neutral.decodeCall c)).1 cs) := rfl
theorem answers_is {l : List Int} {cs : List (List (List Int))} (h : PyFlat.calls PyKh434.shape l.length l = some cs) : PyKh434.answers l = from_ none cs := by
  unfold PyKh434.answers PyKh434.calls
  rw [h]
  show from_ none (cs.map PyKh434.whole) = from_ none cs
  rw [map_whole]
theorem asked_parse {l : List Int} (h : PyKh434.answers_asked l = true) : ∃ cs, PyFlat.calls PyKh434.shape l.length l = some cs ∧ (PyKh434.answers l).length ≤ 10000000 := by
  unfold PyKh434.answers_asked at h
  cases hc : PyFlat.calls PyKh434.shape l.length l with
  | none => rw [hc] at h; cases h
  | some cs =>
    rw [hc] at h
    simp only [Bool.and_eq_true] at h
    exact ⟨cs, rfl, of_decide_eq_true h.2⟩
end Sb

namespace Sb
open PySem PySem.Spec PyProof.Rows L2
/-! ### xs[i::2] -/
def evG {α : Type} : List α → List α
  | a :: _ :: r => a :: evG r
  | [a] => [a]
  | [] => []
theorem evG_length {α : Type} : ∀ l : List α, (evG l).length ≤ l.length
  | [] => Nat.le_refl _
  | [a] => Nat.le_refl _
  | a :: b :: r => by
    have := evG_length r
    show (evG r).length + 1 ≤ r.length + 1 + 1
    omega
theorem evG_map {α β : Type} (f : α → β) : ∀ l : List α, evG (l.map f) = (evG l).map f
  | [] => rfl
  | [a] => rfl
  | a :: b :: r => by
    show f a :: evG (r.map f) = f a :: (evG r).map f
    rw [evG_map f r]
theorem evG_vals : ∀ {xs : List V} {us : List Value}, Vals xs us → Vals (evG xs) (evG us)
  | _, _, .nil => .nil
  | _, _, .cons r .nil => .cons r .nil
  | _, _, .cons r (.cons _ t) => .cons r (evG_vals t)
theorem evG_pick {α : Type} : ∀ l : List α, (List.range ((l.length + 1) / 2)).filterMap (fun k => l[2 * k]?) = evG l
  | [] => by simp [evG]
  | [a] => by simp [evG]
  | a :: b :: r => by
    have ih := evG_pick r
    have e : ((a :: b :: r).length + 1) / 2 = (r.length + 1) / 2 + 1 := by
      show (r.length + 1 + 1 + 1) / 2 = _
      omega
    rw [e, List.range_succ_eq_map, List.filterMap_cons]
    show a :: ((List.range ((r.length + 1) / 2)).map Nat.succ).filterMap (fun k => (a :: b :: r)[2 * k]?) = a :: evG r
    rw [List.filterMap_map, ← ih]
    congr 1
theorem at2 (its : List Value) (i k : Nat) : its.toArray[min i its.length + 2 * k]? = (its.drop i)[2 * k]? := by
  rw [List.getElem?_toArray, List.getElem?_drop]
  by_cases c : i ≤ its.length
  · rw [Nat.min_eq_left c]
  · rw [Nat.min_eq_right (by omega), List.getElem?_eq_none (by omega), List.getElem?_eq_none (by omega)]
theorem pick2 (its : List Value) (i : Nat) : slicePick its.toArray (some (i : Int)) none (some 2) = (evG (its.drop i)).toArray := by
  have e0 : sliceBounds (some (i : Int)) none (some 2) its.toArray.size = (((min i its.length : Nat) : Int), (its.length : Int), 2) := by
    simp only [sliceBounds, Option.getD_some, show (2 : Int) > 0 by decide, if_true, List.size_toArray]
    rw [if_neg (by omega)]
    refine Prod.ext ?_ rfl
    show max 0 (min (i : Int) (its.length : Int)) = ((min i its.length : Nat) : Int)
    omega
  have e1 : sliceRange ((min i its.length : Nat) : Int) (its.length : Int) 2 = (List.range (((its.drop i).length + 1) / 2)).map fun k => min i its.length + 2 * k := by
    have e2 : (if (2 : Int) > 0 then (if ((min i its.length : Nat) : Int) < (its.length : Int) then ((its.length : Int) - ((min i its.length : Nat) : Int) + 2 - 1) / 2 else 0) else (if ((min i its.length : Nat) : Int) > (its.length : Int) then (((min i its.length : Nat) : Int) - (its.length : Int) - 2 - 1) / (-2) else 0)) = (((its.length - i + 1) / 2 : Nat) : Int) := by
      rw [if_pos (by decide)]
      split <;> omega
    unfold sliceRange
    dsimp only
    rw [e2, List.length_drop, Int.toNat_natCast]
    refine List.map_congr_left fun k _ => ?_
    omega
  unfold slicePick
  rw [e0]
  dsimp only
  have ef : ((fun j => its.toArray[j]?) ∘ fun k => min i its.length + 2 * k) = fun k => (its.drop i)[2 * k]? := by
    funext k
    exact at2 its i k
  rw [e1, List.filterMap_map, ef, evG_pick (its.drop i)]
def tEv (K : PySem.W.Frag) (i : Nat) (te : TE) : TE := fun σ H Q => te σ H fun x H1 => ∃ a xs, x = .ref a ∧ SqL K H1 a xs ∧ ∀ p, H1 p = none → Q (.ref p) (upd H1 p (.lst (evG (xs.drop i))))
theorem pe_ev {X : Cx} {e : Expr} {te : TE} {i : Int} {k k2 : Nat} {p1 p2 p3 pos : Pos} (n : Nat) (hi : i = (n : Int)) (he : PE X e te) :
    PE X (.Subscript e (.Slice (some (.Constant (.int i) k p1)) none (some (.Constant (.int 2) k2 p2)) p3) pos) (tEv X.K n te) := by
  refine ⟨fun pins s σ H Q I h => ?_⟩
  subst hi
  refine Subscript_ (thn (he.run pins s σ H _ I h) fun v s1 ⟨x, H1, I1, r1, a, xs, ex, hx, q⟩ => ?_)
  subst ex
  cases r1
  have h0 : PO X (some (.Constant (.int (n : Int)) k p1)) (tPart (tC (.int (n : Int)))) := po_some pe_int
  have h2 : PO X (some (.Constant (.int 2) k2 p2)) (tPart (tC (.int 2))) := po_some pe_int
  refine wpAny_Slice (thn (h0.run pins s1 σ H1 (fun o H2 => o = some (n : Int) ∧ H2 = H1) I1 ⟨(n : Int), rfl, rfl, rfl⟩) fun vl s2 ⟨l, H2, I2, pl, el, e2⟩ => ?_)
  subst el e2
  refine thn (po_none.run pins s2 σ H2 (fun o H3 => o = none ∧ H3 = H2) I2 ⟨rfl, rfl⟩) fun vu s3 ⟨u, H3, I3, pu, eu, e3⟩ => ?_
  subst eu e3
  refine thn (h2.run pins s3 σ H3 (fun o H4 => o = some 2 ∧ H4 = H3) I3 ⟨2, rfl, rfl, rfl⟩) fun vs s4 ⟨o, H4, I4, ps, eo, e4⟩ => ?_
  subst eo e4
  have I5 : Inv X pins σ H4 { s4 with heap := s4.heap.push { cls := .type "slice", data := .fields #[vl, vu, vs] } } := I4.kept (t' := s4.toks) fun b ob q => Heap.get?_push_of_some _ q
  obtain ⟨its, r, ht, hz⟩ := I5.list hx
  have hlen := r.length
  show wpAny (model X.prog X.w) X.A (subscriptTail e _ (.ref a) (.ref s4.heap.objs.size)) (EP X pins σ Q) X.xe { s4 with heap := s4.heap.push { cls := .type "slice", data := .fields #[vl, vu, vs] } }
  refine tail_any (ops := [.ref a, .ref s4.heap.objs.size]) ht.isList.typeIs (PySem.slot_list_getitem.lookup) ?_ (by with_unfolding_all rfl)
  refine wpAny_getItem_list_slice ht.isList (Heap.IsSliceOf.new _ vl vu vs) pl pu ps (by decide) ?_ (by rw [List.size_toArray]; omega)
  rw [pick2]
  have hle : (evG (xs.drop n)).length ≤ xs.length := Nat.le_trans (evG_length _) (by rw [List.length_drop]; omega)
  refine ⟨.ref _, _, I5.laid (t' := s4.toks) (o := .lst (evG (xs.drop n))) (fun b ob q => Heap.get?_push_of_some _ q) (Nat.le_refl _) ?_, rfl, q _ (I5.hok.fresh (Nat.le_refl _))⟩
  exact ⟨by omega, _, 0, evG_vals (r.drop n), Heap.get?_push_size _ rfl⟩

/-! ### max(xs, default=d), whole numbers -/
def dKw (d : Value) : List (Str × Value) := [(Str.ofString "default", d)]
def IsBest (its : Array Value) (val : Nat → Int) (i : Nat) (old : Array Value) : Prop := (i = 0 ∧ old = #[]) ∨ ∃ (j : Nat) (vb : Value), j < i ∧ its[j]? = some vb ∧ old = #[vb, vb] ∧ ∀ m, m < i → val m ≤ val j
section
variable {prog : Program} {w : World} {A : Around}
theorem gt_ints {its : Array Value} {val : Nat → Int} (hval : ∀ (i : Nat) (v : Value), its[i]? = some v → ∃ t, v = Value.int (val i) t) : CmpOf prog w A.in1 .Gt (fun i v => its[i]? = some v) (fun i j => decide (val i > val j)) := CmpOf.ints_gt val hval
theorem loopD {R : Result → Shared → Prop} {I l S : Addr} (hh : A.handled = none) {its : Array Value} {val : Nat → Int} {d : Value} (hval : ∀ (i : Nat) (v : Value), its[i]? = some v → ∃ t, v = Value.int (val i) t) (nl : l ≠ I) (nI : S ≠ I) (nS : S ≠ l) :
    ∀ (k i : Nat) (s : Shared) (old : Array Value) (c : Nat), its.size - i = k → i ≤ its.size → s.heap.IsListIter I l i ∧ s.heap.IsList l its → IsBest its val i old →
      s.heap.get? S = some { cls := .type "list", dict := none, data := .seq old c, slots := #[] } →
      (∀ v h' tk, ((its.size = 0 ∧ v = d) ∨ ∃ j : Nat, its[j]? = some v ∧ ∀ m, m < its.size → val m ≤ val j) → (∀ b o, b ≠ I → b ≠ S → s.heap.get? b = some o → h'.get? b = some o) → R (.ok (.ret v)) { s with heap := h', toks := tk }) →
      codeAny (model prog w) A (.builtin "max.loop" ⟨[.ref I, .none, .ref S], dKw d⟩) R s := by
  have W := Walks.list (prog := prog) (w := w) (A := A.in1) hh I l nl its
  have Sw : S ∉ [I] := by simpa using nI
  have name : (toString "max" ++ toString ".loop" : String) = "max.loop" := by decide
  intro k
  induction k with
  | zero =>
    intro i s old c hk hi st B hS out
    obtain rfl : i = its.size := by omega
    refine codeAny_builtin PySem.F.entry_max_loop ?_
    rw [Around.under_plainId PySem.F.plain_max_loop _]
    show wpAny _ A.in1 (seqItems? (.ref S) >>= _) _ _ s
    refine wpAny_bind (wpAny_seqItems hS rfl ?_)
    show wpAny _ A.in1 (tryCatch (pyNext (.ref I)) _ >>= _) _ _ s
    refine wpAny_bind (wpAny_tryCatch (W.done s _ _ st fun h1 tk kp => ?_))
    have kp1 : ∀ b o, b ≠ I → s.heap.get? b = some o → h1.get? b = some o := fun b o hb e => kp b o (by simpa using hb) e
    have hS1 := kp1 S _ nI hS
    rcases B with ⟨e0, eo⟩ | ⟨j, vb, hj, ej, eo, hb⟩
    · subst eo
      show wpAny _ A.in1 (rule _ >>= _) _ _ _
      exact wpAny_bind (wpAny_rule (wpAny_pure (out d h1 tk (.inl ⟨e0, rfl⟩) fun b o n1 _ e => kp1 b o n1 e)))
    · subst eo
      show wpAny _ A.in1 (updateSeq S (fun _ => #[]) >>= _) _ _ _
      refine wpAny_bind (wpAny_updateSeq hS1 rfl (wpAny_bind (wpAny_letGo (wpAny_pure ?_))))
      exact out vb _ tk (.inr ⟨j, ej, hb⟩) fun b o n1 n2 e => (Heap.get?_update_other _ _ (Ne.symm n2)).trans (kp1 b o n1 e)
  | succ k ih =>
    intro i s old c hk hi st B hS out
    have lt : i < its.size := by omega
    refine codeAny_builtin PySem.F.entry_max_loop ?_
    rw [Around.under_plainId PySem.F.plain_max_loop _]
    show wpAny _ A.in1 (seqItems? (.ref S) >>= _) _ _ s
    refine wpAny_bind (wpAny_seqItems hS rfl ?_)
    show wpAny _ A.in1 (tryCatch (pyNext (.ref I)) _ >>= _) _ _ s
    refine wpAny_bind (wpAny_tryCatch (W.item i s _ _ lt st fun v h1 tk hv st1 kp => ?_))
    have kp1 : ∀ b o, b ≠ I → s.heap.get? b = some o → h1.get? b = some o := fun b o hb e => kp b o (by simpa using hb) e
    have hS1 := kp1 S _ nI hS
    have go : ∀ (h2 : Heap) (tk2 : Nat) (old2 : Array Value) (c2 : Nat), (∀ b o, b ≠ S → h1.get? b = some o → h2.get? b = some o) → IsBest its val (i + 1) old2 → h2.get? S = some { cls := .type "list", dict := none, data := .seq old2 c2, slots := #[] } →
        codeAny (model prog w) A (.builtin "max.loop" ⟨[.ref I, .none, .ref S], dKw d⟩) R { s with heap := h2, toks := tk2 } := fun h2 tk2 old2 c2 k2 B2 hS2 =>
      ih (i + 1) { s with heap := h2, toks := tk2 } old2 c2 (by omega) (by omega) (W.frame _ _ _ st1 fun b hb o e => k2 b o (fun z => by
        subst z
        rcases List.mem_cons.mp hb with z | z
        · exact nI z
        · exact nS (by simpa using z)) e) B2 hS2 fun v' h3 tk3 hv' k3 => out v' h3 tk3 hv' fun b o n1 n2 e => k3 b o n1 n2 (k2 b o n2 (kp1 b o n1 e))
    have upd1 : ∀ (f : Array Value → Array Value) (b : Addr) (o : Obj), b ≠ S → h1.get? b = some o → (h1.update S (Obj.mapSeq f)).get? b = some o := fun f b o n e => (Heap.get?_update_other _ _ (Ne.symm n)).trans e
    rcases B with ⟨e0, eo⟩ | ⟨j, vb, hj, ej, eo, hb⟩
    · subst eo
      subst e0
      show wpAny _ A.in1 (updateSeq S (fun _ => #[v, v]) >>= _) _ _ _
      refine wpAny_bind (wpAny_updateSeq hS1 rfl ?_)
      rw [name]
      exact wpAny_pure ⟨plainId_quiet PySem.F.plain_max_loop _, go _ tk #[v, v] _ (upd1 _) (.inr ⟨0, v, by omega, hv, rfl, fun m hm => by rw [show m = 0 by omega]; exact Int.le_refl _⟩) (Heap.get?_update_self _ hS1 rfl)⟩
    · subst eo
      show wpAny _ A.in1 (tryCatch (holding [v, v] (richCompare .Gt v vb >>= _)) _ >>= _) _ _ _
      refine wpAny_bind (wpAny_tryCatch (wpAny_holding (wpAny_bind (gt_ints hval i j v vb _ _ _ hv ej ?_))))
      refine wpAny_bind (wpAny_holding (wpAny_truthy_bool ?_))
      refine wpAny_bind (wpAny_letGo (wpAny_pure ?_))
      by_cases c : val i > val j
      · rw [if_pos (show (fun i j => decide (val i > val j)) i j = true from decide_eq_true c)]
        show wpAny _ A.in1 (updateSeq S (fun _ => #[v, v]) >>= _) _ _ _
        refine wpAny_bind (wpAny_updateSeq hS1 rfl (wpAny_bind (wpAny_letGo ?_)))
        rw [name]
        refine wpAny_pure ⟨plainId_quiet PySem.F.plain_max_loop _, go _ tk #[v, v] _ (upd1 _) (.inr ⟨i, v, by omega, hv, rfl, fun m hm => ?_⟩) (Heap.get?_update_self _ hS1 rfl)⟩
        by_cases z : m = i
        · rw [z]; exact Int.le_refl _
        · have := hb m (by omega); omega
      · rw [if_neg (show ¬ (fun i j => decide (val i > val j)) i j = true from of_decide_eq_false (by rw [show decide ((fun i j => decide (val i > val j)) i j = true) = decide (val i > val j) by simp]; exact decide_eq_false c))]
        show wpAny _ A.in1 (letGo [v, v] >>= _) _ _ _
        refine wpAny_bind (wpAny_letGo ?_)
        rw [name]
        refine wpAny_pure ⟨plainId_quiet PySem.F.plain_max_loop _, go h1 tk #[vb, vb] _ (fun b o _ e => e) (.inr ⟨j, vb, by omega, ej, rfl, fun m hm => ?_⟩) hS1⟩
        by_cases z : m = i
        · rw [z]; omega
        · exact hb m (by omega)
theorem args_maxD (a d : Value) : argsOk "max" ⟨[a], dKw d⟩ := by unfold argsOk dKw; kernel_rfl
theorem call_maxD {E : Value → Shared → Prop} {Q : Value → Shared → Prop} {s : Shared} {l : Addr} {its : Array Value} {val : Nat → Int} {d : Value} (hh : A.handled = none) (hl : s.heap.IsList l its) (hval : ∀ (i : Nat) (v : Value), its[i]? = some v → ∃ t, v = Value.int (val i) t)
    (out : ∀ v h' tk, ((its.size = 0 ∧ v = d) ∨ ∃ j : Nat, its[j]? = some v ∧ ∀ m, m < its.size → val m ≤ val j) → (∀ b o, s.heap.get? b = some o → h'.get? b = some o) → Q v { s with heap := h', toks := tk }) :
    wpAny (model prog w) A (call (.builtin "max") [.ref l] (dKw d)) Q E s := by
  have name : (toString "max" ++ toString ".loop" : String) = "max.loop" := by decide
  have hc : wpAny (model prog w) A.in1 (Builtin.«max» ⟨[.ref l], dKw d⟩) (fun fin s' => match fin with
      | .done f => (match (Except.ok f : Result) with | .ok (.ret v) => Q v s' | .ok _ => False | .error e => E e s')
      | .again c' => c'.quiet = true ∧ codeAny (model prog w) A c' (fun r s' => match r with | .ok (.ret v) => Q v s' | .ok _ => False | .error e => E e s') s') E s := by
    show wpAny _ A.in1 (Builtin.Builtins.bindParams "max" ["key", "default"] 0 ⟨[], dKw d⟩ >>= _) _ _ s
    refine wpAny_bind (wpAny_of_eq (show Builtin.Builtins.bindParams "max" ["key", "default"] 0 ⟨[], dKw d⟩ = pure [none, some d] from rfl) ?_)
    refine wpAny_bind (wpAny_pure ?_)
    refine wpAny_bind (wpAny_pyIter_list hl ?_)
    refine wpAny_bind (wpAny_newObj_type ?_)
    rw [name]
    have hlt : l < s.heap.objs.size := let ⟨_, e, _⟩ := hl; Heap.lt_size e
    have z1 : (s.heap.push { cls := .type "list_iterator", data := .fields #[.ref l, .int 0 0] }).objs.size = s.heap.objs.size + 1 := Heap.size_push ..
    refine wpAny_pure ⟨plainId_quiet PySem.F.plain_max_loop _, loopD hh hval (Nat.ne_of_lt hlt) (by rw [z1]; exact Nat.ne_of_gt (Nat.lt_succ_self _)) (by rw [z1]; exact Nat.ne_of_gt (Nat.lt_succ_of_lt hlt)) its.size 0 _ #[] _ rfl (Nat.zero_le _)
      ⟨⟨_, Heap.get?_push_of_some _ (Heap.get?_push_size _ rfl), rfl, rfl⟩, (hl.push _).push _⟩ (.inl ⟨rfl, rfl⟩) (Heap.get?_push_size _ rfl) fun v h' tk hv kp => ?_⟩
    refine out v h' tk hv fun b o e => kp b o (Nat.ne_of_lt (Heap.lt_size e)) ?_ (Heap.get?_push_of_some _ (Heap.get?_push_of_some _ e))
    rw [z1]
    exact Nat.ne_of_lt (Nat.lt_succ_of_lt (Heap.lt_size e))
  refine wpAny_call (codeAny_call_builtin PySem.F.plain_max PySem.F.entry_max ?_)
  have ha := args_maxD (.ref l) d
  simp only [checkBuiltinCall, PySem.F.kind_max]
  cases hsig : Manifest.signature? "max" with
  | none => exact wpAny_pure hc
  | some sig =>
    have h2 : Bind.checkArgs "max" sig ⟨[.ref l], dKw d⟩ = pure () := by simpa only [argsOk, hsig] using ha
    simp only [h2]
    exact wpAny_pure hc
end
def rMaxD (K : PySem.W.Frag) : List V → List V → Hp → VK → Prop := fun vs zs H Q => ∃ (a : Addr) (ns : List Int) (d : Int), vs = [V.ref a] ∧ zs = [V.int d] ∧ SqL K H a (ns.map V.int) ∧
  ∀ m : Int, ((ns = [] ∧ m = d) ∨ (m ∈ ns ∧ ∀ y ∈ ns, y ≤ m)) → Q (.int m) H
theorem cr_maxD {X : Cx} (hc : X.calm = true) : CallRK X (.builtin "max") [Str.ofString "default"] (rMaxD X.K) := by
  intro pins s σ H xs zs us ws Q I r rz h
  obtain ⟨a, ns, d, rfl, rfl, hs, q⟩ := h
  obtain ⟨u, rfl, ru⟩ := vals1 r
  obtain ⟨w1, rfl, t1, rfl⟩ := vals1 rz
  cases ru
  obtain ⟨its, rv, hl, hz⟩ := I.list hs
  have hlen : ns.length = its.length := by have := rv.length; rwa [List.length_map] at this
  have at_ : ∀ (i : Nat) (v : Value), its.toArray[i]? = some v → ∃ n t, ns[i]? = some n ∧ v = .int n t := fun i v e => by
    rw [List.getElem?_toArray] at e
    have hi : i < ns.length := by rw [hlen]; exact (List.getElem?_eq_some_iff.mp e).1
    obtain ⟨u, hu, t, rfl⟩ := rv.get (i := i) (x := V.int ns[i]) (by rw [List.getElem?_map, List.getElem?_eq_getElem hi]; rfl)
    rw [e] at hu
    cases hu
    exact ⟨_, t, List.getElem?_eq_getElem hi, rfl⟩
  refine call_maxD (val := fun i => ns.getD i 0) (I.ok.hd hc) hl.isList (fun i v e => ?_) fun v h' tk hv kp => ?_
  · obtain ⟨n, t, e1, rfl⟩ := at_ i v e
    exact ⟨t, by rw [List.getD_eq_getElem?_getD, e1]; rfl⟩
  · rcases hv with ⟨e0, rfl⟩ | ⟨j, ej, hb⟩
    · refine ⟨.int d, H, I.kept kp, ⟨_, rfl⟩, q d (.inl ⟨?_, rfl⟩)⟩
      rw [List.size_toArray] at e0
      exact List.eq_nil_of_length_eq_zero (by omega)
    · obtain ⟨n, t, e1, rfl⟩ := at_ j v ej
      refine ⟨.int n, H, I.kept kp, ⟨_, rfl⟩, q n (.inr ⟨List.mem_of_getElem? e1, fun y hy => ?_⟩)⟩
      obtain ⟨m, hm⟩ := List.mem_iff_getElem?.mp hy
      have hlt := (List.getElem?_eq_some_iff.mp hm).1
      have := hb m (by rw [List.size_toArray]; omega)
      rw [List.getD_eq_getElem?_getD, List.getD_eq_getElem?_getD, hm, e1] at this
      exact this
end Sb

namespace Sb
open PySem PySem.Spec PyProof.Rows L2 PySem.W
/-! ### list(zip(xs, ys)) of two lists -/
theorem zip_no_len : typeLookup (.type "zip") "__len__" = pure none := am_miss_of_fast (by decide +kernel)
theorem zip_no_hint : typeLookup (.type "zip") "__length_hint__" = pure none := am_miss_of_fast (by decide +kernel)
theorem far_of {a lo c : Addr} (h : lo ≤ a) (g : c < lo) : a ≠ c := Nat.ne_of_gt (Nat.lt_of_lt_of_le g h)
/-- the zip at z behind i pairs; S: the list that is filled -/
structure ZSt (z TI TO i1 i2 l1 l2 S : Addr) (xs ys : Array Value) (i : Nat) (h : Heap) : Prop where
  pI : IsPair h TI (.ref i1) (.ref i2)
  w1 : h.IsListIter i1 l1 i
  w2 : h.IsListIter i2 l2 i
  s1 : h.IsList l1 xs
  s2 : h.IsList l2 ys
  zz : (IsZip h z TI TO .none ∧ ∃ a b, IsPair h TO a b) ∨ ∃ T f oT, IsZipHeld h z TI TO T f ∧ h.get? T = some oT ∧ T ≠ z ∧ T ≠ i1 ∧ T ≠ i2 ∧ T ≠ S
structure ZFar (z TI TO i1 i2 l1 l2 S : Addr) : Prop where
  z : S ≠ z
  TI : S ≠ TI
  TO : S ≠ TO
  i1 : S ≠ i1
  i2 : S ≠ i2
  l1 : S ≠ l1
  l2 : S ≠ l2
theorem ZSt.frame {z TI TO i1 i2 l1 l2 S : Addr} {xs ys : Array Value} {i : Nat} {h h' : Heap} (F : ZFar z TI TO i1 i2 l1 l2 S) (st : ZSt z TI TO i1 i2 l1 l2 S xs ys i h) (k : ∀ b o, b ≠ S → h.get? b = some o → h'.get? b = some o) : ZSt z TI TO i1 i2 l1 l2 S xs ys i h' := by
  obtain ⟨a, b, c, d, e, f⟩ := st
  refine ⟨k _ _ F.TI.symm a, b.at fun o q => k _ o F.i1.symm q, c.at fun o q => k _ o F.i2.symm q, d.at fun o q => k _ o F.l1.symm q, e.at fun o q => k _ o F.l2.symm q, ?_⟩
  rcases f with ⟨f1, u, v, f2⟩ | ⟨T, f, oT, f1, f2, f3, f4, f5, f6⟩
  · exact .inl ⟨k _ _ F.z.symm f1, u, v, k _ _ F.TO.symm f2⟩
  · exact .inr ⟨T, f, oT, k _ _ F.z.symm f1, k _ _ f6 f2, f3, f4, f5, f6⟩
/-- the pairs made so far, at as -/
structure Made2 (lo : Addr) (xs ys : Array Value) (as : List Addr) (h : Heap) : Prop where
  rise : as.Pairwise (· < ·)
  above : ∀ a ∈ as, lo ≤ a
  pairs : ∀ (j : Nat) (a : Addr), as[j]? = some a → ∃ x y, xs[j]? = some x ∧ ys[j]? = some y ∧ IsPair h a x y
theorem Made2.lt {lo : Addr} {xs ys : Array Value} {as : List Addr} {h : Heap} (g : Made2 lo xs ys as h) {a : Addr} (ha : a ∈ as) : a < h.objs.size := by
  obtain ⟨j, hj⟩ := List.mem_iff_getElem?.mp ha
  obtain ⟨x, y, _, _, e⟩ := g.pairs j a hj
  exact Heap.lt_size e
section
variable {prog : Program} {w : World} {A : Around} {z TI TO i1 i2 l1 l2 S lo : Addr} {xs ys : Array Value}
theorem zitem (D : ZipApart z TI TO i1 i2 l1 l2) {s : Shared} {i : Nat} {Q : Option Value → Shared → Prop} {E : Value → Shared → Prop} (st : ZSt z TI TO i1 i2 l1 l2 S xs ys i s.heap) (hS : S < s.heap.objs.size) {x y : Value} (hx : xs[i]? = some x) (hy : ys[i]? = some y)
    (out : ∀ h', ZSt z TI TO i1 i2 l1 l2 S xs ys (i + 1) h' → IsPair h' s.heap.objs.size x y → h'.objs.size = s.heap.objs.size + 1 → (∀ c o, c ≠ z → c ≠ TO → c ≠ i1 → c ≠ i2 → s.heap.get? c = some o → h'.get? c = some o) → Q (some (.ref s.heap.objs.size)) { s with heap := h' }) :
    wpAny (model prog w) A (pyNext (.ref z)) Q E s := by
  obtain ⟨pI, w1, w2, s1, s2, zz⟩ := st
  have far : ∀ {c : Addr} {o : Obj}, s.heap.get? c = some o → s.heap.objs.size ≠ c := fun e => Nat.ne_of_gt (Heap.lt_size e)
  have n1 : s.heap.objs.size ≠ i1 := let ⟨_, e, _⟩ := w1; far e
  have n2 : s.heap.objs.size ≠ i2 := let ⟨_, e, _⟩ := w2; far e
  rcases zz with ⟨f1, u, v, f2⟩ | ⟨T, f, oT, f1, f2, f3, f4, f5, f6⟩
  · refine wpAny_pyNext_zip_item D f1 pI f2 w1 w2 s1 s2 hx hy fun h' a1 a2 a3 a4 a5 a6 kp => out h' ⟨?_, a3, a4, ?_, ?_, .inr ⟨s.heap.objs.size, false, _, a1, a5, far f1, n1, n2, Nat.ne_of_gt hS⟩⟩ a5 a6 kp
    · exact kp _ _ D.TIz D.TITO D.TIi1 D.TIi2 pI
    · exact s1.at fun o e => kp _ o D.l1z D.l1TO D.l1i1 D.l1i2 e
    · exact s2.at fun o e => kp _ o D.l2z D.l2TO D.l2i1 D.l2i2 e
  · refine wpAny_pyNext_zip_item_held D f1 f2 pI w1 w2 s1 s2 hx hy fun h' a1 a3 a4 a5 a6 kp => out h' ⟨?_, a3, a4, ?_, ?_, .inr ⟨T, true, oT, a1, kp _ _ f3 f4 f5 f2, f3, f4, f5, f6⟩⟩ a5 a6 fun c o c1 _ c3 c4 e => kp c o c1 c3 c4 e
    · exact kp _ _ D.TIz D.TIi1 D.TIi2 pI
    · exact s1.at fun o e => kp _ o D.l1z D.l1i1 D.l1i2 e
    · exact s2.at fun o e => kp _ o D.l2z D.l2i1 D.l2i2 e
theorem zdone (hh : A.handled = none) (D : ZipApart z TI TO i1 i2 l1 l2) {s : Shared} {i : Nat} {Q : Option Value → Shared → Prop} {E : Value → Shared → Prop} (st : ZSt z TI TO i1 i2 l1 l2 S xs ys i s.heap) (he : xs[i]? = none ∨ ys[i]? = none)
    (out : ∀ h', (∀ c o, c ≠ z → c ≠ TO → c ≠ i1 → c ≠ i2 → s.heap.get? c = some o → h'.get? c = some o) → Q none { s with heap := h' }) : wpAny (model prog w) A (pyNext (.ref z)) Q E s := by
  obtain ⟨pI, w1, w2, s1, s2, zz⟩ := st
  rcases zz with ⟨f1, u, v, f2⟩ | ⟨T, f, oT, f1, f2, f3, f4, f5, f6⟩
  · exact wpAny_pyNext_zip_end hh D f1 pI f2 w1 w2 s1 s2 he fun h' kp => out h' kp
  · exact wpAny_pyNext_zip_end_held hh D f1 f2 pI w1 w2 s1 s2 he fun h' kp => out h' fun c o c1 _ c3 c4 e => kp c o c1 c3 c4 e
theorem zloop {R : Result → Shared → Prop} {s0 : Shared} {h0 : Heap} (hh : A.handled = none) (D : ZipApart z TI TO i1 i2 l1 l2) (F : ZFar z TI TO i1 i2 l1 l2 S) (res : Value) (hn : min xs.size ys.size ≤ sizeLine)
    (hz : z < lo) (hTO : TO < lo) (hi1 : i1 < lo) (hi2 : i2 < lo) (hS0 : S < lo)
    (out : ∀ h' tk acc c as, (∀ b o, b ≠ z → b ≠ TO → b ≠ i1 → b ≠ i2 → b ≠ S → h0.get? b = some o → h'.get? b = some o) → h'.get? S = some { cls := .type "list", dict := none, data := .seq acc c, slots := #[] } → as.length = min xs.size ys.size →
      Made2 lo xs ys as h' → acc.toList = as.map Value.ref → R (.ok (.ret res)) { s0 with heap := h', toks := tk }) :
    ∀ (k i : Nat) (h : Heap) (tk c : Nat) (acc : Array Value) (as : List Addr), min xs.size ys.size - i = k → i ≤ min xs.size ys.size → ZSt z TI TO i1 i2 l1 l2 S xs ys i h → lo ≤ h.objs.size →
      (∀ b o, b ≠ z → b ≠ TO → b ≠ i1 → b ≠ i2 → b ≠ S → h0.get? b = some o → h.get? b = some o) → h.get? S = some { cls := .type "list", dict := none, data := .seq acc c, slots := #[] } → acc.toList = as.map Value.ref → as.length = i → Made2 lo xs ys as h →
      codeAny (model prog w) A (.builtin "list.extend.loop" ⟨[.ref S, .ref z, res], []⟩) R { s0 with heap := h, toks := tk } := by
  intro k
  induction k with
  | zero =>
    intro i h tk c acc as hk hi st hlo kp hS hacc hal hM
    have hie : i = min xs.size ys.size := by omega
    refine codeAny_builtin PySem.F.entry_extend_loop ?_
    rw [Around.under_plainId PySem.F.plain_extend_loop _]
    show wpAny _ A.in1 (pyNext (.ref z) >>= _) _ _ _
    have he : xs[i]? = none ∨ ys[i]? = none := by
      rcases Nat.le_total xs.size ys.size with q | q
      · exact .inl (Array.getElem?_eq_none (by omega))
      · exact .inr (Array.getElem?_eq_none (by omega))
    refine wpAny_bind (zdone (s := { s0 with heap := h, toks := tk }) (A := A.in1) hh D st he fun h' k2 => wpAny_pure ?_)
    refine out h' tk acc c as (fun b o n1 n2 n3 n4 n5 e => k2 b o n1 n2 n3 n4 (kp b o n1 n2 n3 n4 n5 e)) (k2 S _ F.z F.TO F.i1 F.i2 hS) (by omega) ⟨hM.rise, hM.above, fun j a hj => ?_⟩ hacc
    obtain ⟨x, y, e1, e2, e3⟩ := hM.pairs j a hj
    have ab := hM.above a (List.mem_of_getElem? hj)
    exact ⟨x, y, e1, e2, k2 a _ (far_of ab hz) (far_of ab hTO) (far_of ab hi1) (far_of ab hi2) e3⟩
  | succ k ih =>
    intro i h tk c acc as hk hi st hlo kp hS hacc hal hM
    have h1 : i < xs.size := by omega
    have h2 : i < ys.size := by omega
    have hsz : acc.size = i := by rw [← Array.length_toList, hacc, List.length_map, hal]
    refine codeAny_builtin PySem.F.entry_extend_loop ?_
    rw [Around.under_plainId PySem.F.plain_extend_loop _]
    show wpAny _ A.in1 (pyNext (.ref z) >>= _) _ _ _
    refine wpAny_bind (zitem (s := { s0 with heap := h, toks := tk }) (A := A.in1) D st (Nat.lt_of_lt_of_le hS0 hlo) (Array.getElem?_eq_getElem h1) (Array.getElem?_eq_getElem h2) fun h' st' pr sz k2 => ?_)
    dsimp only at pr sz k2 ⊢
    have hS' := k2 S _ F.z F.TO F.i1 F.i2 hS
    have up : ∀ b o, b ≠ S → h'.get? b = some o → (h'.update S (Obj.mapSeq (·.push (Value.ref h.objs.size)))).get? b = some o := fun b o n e => (Heap.get?_update_other _ _ (Ne.symm n)).trans e
    show wpAny _ A.in1 (updateSeq S (·.push (Value.ref h.objs.size)) >>= _) _ _ _
    refine wpAny_bind (wpAny_updateSeq hS' rfl (wpAny_pure ⟨plainId_quiet PySem.F.plain_extend_loop _, ih (i + 1) _ tk _ (acc.push (Value.ref h.objs.size)) (as ++ [h.objs.size]) (by omega) (by omega) (st'.frame F fun b o n e => up b o n e) ?_
      (fun b o n1 n2 n3 n4 n5 e => up b o n5 (k2 b o n1 n2 n3 n4 (kp b o n1 n2 n3 n4 n5 e))) (Heap.get?_update_self _ hS' rfl) (by rw [Array.toList_push, hacc, List.map_append]; rfl) (by rw [List.length_append, hal]; rfl) ⟨?_, ?_, ?_⟩⟩) (by rw [hsz]; omega) (by show (acc.push (Value.ref h.objs.size)).size ≤ sizeLine + 1; rw [Array.size_push, hsz]; omega))
    · rw [Heap.size_update, sz]; exact Nat.le_succ_of_le hlo
    · refine List.pairwise_append.mpr ⟨hM.rise, List.pairwise_singleton _ _, fun a ha b hb => ?_⟩
      rw [List.mem_singleton.mp hb]
      exact hM.lt ha
    · intro a ha
      rcases List.mem_append.mp ha with m | m
      · exact hM.above a m
      · rw [List.mem_singleton.mp m]; exact hlo
    · intro j b hj
      by_cases q : j < as.length
      · rw [List.getElem?_append_left q] at hj
        obtain ⟨x, y, e1, e2, e3⟩ := hM.pairs j b hj
        have ab := hM.above b (List.mem_of_getElem? hj)
        exact ⟨x, y, e1, e2, up b _ (far_of ab hS0) (k2 b _ (far_of ab hz) (far_of ab hTO) (far_of ab hi1) (far_of ab hi2) e3)⟩
      · rw [List.getElem?_append_right (by omega)] at hj
        have hj0 : j = i := by
          have := (List.getElem?_eq_some_iff.mp hj).1
          simp at this
          omega
        subst hj0
        have hb : h.objs.size = b := by rw [hal, Nat.sub_self] at hj; exact Option.some.inj hj
        subst hb
        exact ⟨_, _, Array.getElem?_eq_getElem h1, Array.getElem?_eq_getElem h2, up _ _ (far_of hlo hS0) pr⟩
theorem zhint {s : Shared} {E : Value → Shared → Prop} {Q : Bool → Shared → Prop} (hT : s.TypeIs (.ref z) "zip") (h : Q true s) : wpAny (model prog w) A (Builtin.List.listLengthHint (.ref z)) Q E s := by
  unfold Builtin.List.listLengthHint
  refine wpAny_bind (wpAny_specialOf hT zip_no_len ?_)
  refine wpAny_ite_split (fun c => absurd c (by decide)) (fun _ => ?_)
  refine wpAny_ite_split (fun c => absurd c (by decide)) (fun _ => ?_)
  refine wpAny_bind (wpAny_specialOf hT zip_no_hint ?_)
  exact wpAny_pure h
theorem zextend {R : Result → Shared → Prop} {s : Shared} (hh : A.handled = none) (D : ZipApart z TI TO i1 i2 l1 l2) (F : ZFar z TI TO i1 i2 l1 l2 S) (res : Value) (hn : min xs.size ys.size ≤ sizeLine) (st : ZSt z TI TO i1 i2 l1 l2 S xs ys 0 s.heap)
    (hz : IsZip s.heap z TI TO .none) (hlz : z < lo) (hTO : TO < lo) (hi1 : i1 < lo) (hi2 : i2 < lo) (hS0 : S < lo) (hlo : lo ≤ s.heap.objs.size) {c0 : Nat} (hS : s.heap.get? S = some { cls := .type "list", data := .seq #[] c0 })
    (out : ∀ h' tk acc c as, (∀ b o, b ≠ z → b ≠ TO → b ≠ i1 → b ≠ i2 → b ≠ S → s.heap.get? b = some o → h'.get? b = some o) → h'.get? S = some { cls := .type "list", dict := none, data := .seq acc c, slots := #[] } → as.length = min xs.size ys.size →
      Made2 lo xs ys as h' → acc.toList = as.map Value.ref → R (.ok (.ret res)) { s with heap := h', toks := tk }) :
    wpAny (model prog w) A.in1 (Builtin.List.listExtendWith (.ref S) (.ref z) res)
      (fun fin s' => match fin with | .done f => R (.ok f) s' | .again c' => c'.quiet = true ∧ codeAny (model prog w) A c' R s') (fun e s' => R (.error e) s') s := by
  have key : ∀ (h : Heap) (c1 tk : Nat), (∀ b o, b ≠ S → s.heap.get? b = some o → h.get? b = some o) → s.heap.objs.size = h.objs.size → h.get? S = some { cls := .type "list", data := .seq #[] c1 } →
      codeAny (model prog w) A (.builtin "list.extend.loop" ⟨[.ref S, .ref z, res], []⟩) R { s with heap := h, toks := tk } := fun h c1 tk kp sz hS1 =>
    zloop (h0 := s.heap) (s0 := s) hh D F res hn hlz hTO hi1 hi2 hS0 out _ 0 h tk c1 #[] [] (Nat.sub_zero _) (Nat.zero_le _) (st.frame F kp) (by rw [← sz]; exact hlo) (fun b o _ _ _ _ n e => kp b o n e) hS1 rfl rfl
      ⟨List.Pairwise.nil, fun _ m => absurd m (by simp), fun j a e => by simp at e⟩
  have hTy : s.TypeIs (.ref z) "zip" := ⟨_, hz, rfl⟩
  unfold Builtin.List.listExtendWith
  refine wpAny_bind (wpAny_typeOf (T := "zip") hTy ?_)
  have q1 : Builtin.List.listSameRef (.ref S) (.ref z) = false := by simp [Builtin.List.listSameRef, F.z]
  have q2 : (Value.type "zip" == Value.type "list") = false := by decide
  have q3 : (Value.type "zip" == Value.type "tuple") = false := by decide
  simp only [q1, q2, q3, Bool.or_false, Bool.false_eq_true, if_false]
  refine wpAny_bind (wpAny_pyIter_zip hz ?_)
  refine wpAny_bind (wpAny_holding (zhint hTy ?_))
  refine wpAny_ite_split (fun _ => ?_) (fun _ => wpAny_pure ⟨plainId_quiet PySem.F.plain_extend_loop _, key _ c0 _ (fun b o _ e => e) rfl hS⟩)
  refine wpAny_bind (wpAny_rule ?_)
  refine wpAny_bind ?_
  show wpAny _ _ (updateSeq S (·.push .none) >>= fun _ => updateSeq S (·.pop)) _ _ _
  refine wpAny_bind (wpAny_updateSeq hS rfl ?_)
  have hS2 := Heap.get?_update_self (Obj.mapSeq (·.push Value.none)) hS rfl
  refine wpAny_updateSeq (hz := by seq_fits) hS2 rfl ?_
  have hS3 := Heap.get?_update_self (Obj.mapSeq (·.pop)) hS2 rfl
  refine wpAny_pure ⟨plainId_quiet PySem.F.plain_extend_loop _, key _ _ _ (fun b o n e => ?_) ?_ hS3⟩
  · exact (Heap.get?_update_other _ _ (Ne.symm n)).trans ((Heap.get?_update_other _ _ (Ne.symm n)).trans e)
  · rw [Heap.size_update, Heap.size_update]
theorem zcall {E : Value → Shared → Prop} {s : Shared} {Q : Value → Shared → Prop} {u v : Value} (hh : A.handled = none) (D : ZipApart z TI TO i1 i2 l1 l2) (hz : IsZip s.heap z TI TO .none) (pI : IsPair s.heap TI (.ref i1) (.ref i2)) (pO : IsPair s.heap TO u v)
    (w1 : s.heap.IsListIter i1 l1 0) (w2 : s.heap.IsListIter i2 l2 0) (s1 : s.heap.IsList l1 xs) (s2 : s.heap.IsList l2 ys) (hn : min xs.size ys.size ≤ sizeLine)
    (out : ∀ h' tk acc c as, (∀ b o, b ≠ z → b ≠ TO → b ≠ i1 → b ≠ i2 → s.heap.get? b = some o → h'.get? b = some o) → h'.get? s.heap.objs.size = some { cls := .type "list", dict := none, data := .seq acc c, slots := #[] } → as.length = min xs.size ys.size →
      Made2 (s.heap.objs.size + 1) xs ys as h' → acc.toList = as.map Value.ref → Q (.ref s.heap.objs.size) { s with heap := h', toks := tk }) :
    wpAny (model prog w) A (call (.type "list") [.ref z]) Q E s := by
  have lz : z < s.heap.objs.size := Heap.lt_size hz
  have lO : TO < s.heap.objs.size := Heap.lt_size pO
  have lI : TI < s.heap.objs.size := Heap.lt_size pI
  have li1 : i1 < s.heap.objs.size := let ⟨_, e, _⟩ := w1; Heap.lt_size e
  have li2 : i2 < s.heap.objs.size := let ⟨_, e, _⟩ := w2; Heap.lt_size e
  have ll1 : l1 < s.heap.objs.size := let ⟨_, e, _⟩ := s1; Heap.lt_size e
  have ll2 : l2 < s.heap.objs.size := let ⟨_, e, _⟩ := s2; Heap.lt_size e
  refine callType_codes (Q₁ := fun obj t => obj = .ref s.heap.objs.size ∧ t = { s with heap := s.heap.push { cls := .type "list", data := .seq #[] } }) PySem.F.called_list (PySem.F.typeCall_list_1 _) PySem.F.entry_list_init
    (code_list_new _ ⟨rfl, rfl⟩) fun obj t ht => ?_
  obtain ⟨rfl, rfl⟩ := ht
  have hS : (s.heap.push { cls := .type "list", data := .seq #[] }).get? s.heap.objs.size = some { cls := .type "list", data := .seq #[] } := Heap.get?_push_size _ rfl
  have F : ZFar z TI TO i1 i2 l1 l2 s.heap.objs.size := ⟨Nat.ne_of_gt lz, Nat.ne_of_gt lI, Nat.ne_of_gt lO, Nat.ne_of_gt li1, Nat.ne_of_gt li2, Nat.ne_of_gt ll1, Nat.ne_of_gt ll2⟩
  refine ⟨⟨_, hS, rfl⟩, PySem.F.args_list_init_2 _ _, ?_⟩
  show wpAny _ _ (do let old ← Builtin.List.listItems (.ref s.heap.objs.size); Builtin.List.listUpdate (.ref s.heap.objs.size) (fun _ => #[]); letGo old.toList.reverse; Builtin.List.listExtendWith (.ref s.heap.objs.size) (.ref z) .none) _ _ _
  refine wpAny_bind ?_
  unfold Builtin.List.listItems
  refine wpAny_bind (wpAny_seqItems hS rfl (wpAny_pure ?_))
  show wpAny _ _ (updateSeq s.heap.objs.size (fun _ => #[]) >>= fun _ => letGo (#[] : Array Value).toList.reverse >>= fun _ => Builtin.List.listExtendWith (.ref s.heap.objs.size) (.ref z) .none) _ _ _
  refine wpAny_bind (wpAny_updateSeq hS rfl ?_)
  have hS2 := Heap.get?_update_self (Obj.mapSeq (fun _ => (#[] : Array Value))) hS rfl
  have oth : ∀ b o, s.heap.get? b = some o → ((s.heap.push { cls := .type "list", data := .seq #[] }).update s.heap.objs.size (Obj.mapSeq (fun _ => (#[] : Array Value)))).get? b = some o := fun b o e =>
    (Heap.get?_update_other _ _ (Nat.ne_of_gt (Heap.lt_size e))).trans (Heap.get?_push_of_some _ e)
  refine wpAny_bind (wpAny_letGo ?_)
  have hsz : ((s.heap.push { cls := .type "list", data := .seq #[] }).update s.heap.objs.size (Obj.mapSeq (fun _ => (#[] : Array Value)))).objs.size = s.heap.objs.size + 1 := by rw [Heap.size_update, Heap.size_push]
  refine zextend (A := A.in1) (lo := s.heap.objs.size + 1) hh D F .none hn ⟨oth _ _ pI, w1.at fun o e => oth _ o e, w2.at fun o e => oth _ o e, s1.at fun o e => oth _ o e, s2.at fun o e => oth _ o e, .inl ⟨oth _ _ hz, u, v, oth _ _ pO⟩⟩ (oth _ _ hz)
    (Nat.lt_succ_of_lt lz) (Nat.lt_succ_of_lt lO) (Nat.lt_succ_of_lt li1) (Nat.lt_succ_of_lt li2) (Nat.lt_succ_self _) (Nat.le_of_eq hsz.symm) hS2 fun h' tk acc c as kp e1 e2 e3 e4 => ?_
  exact ⟨rfl, out h' tk acc c as (fun b o n1 n2 n3 n4 e => kp b o n1 n2 n3 n4 (Nat.ne_of_lt (Heap.lt_size e)) (oth b o e)) e1 e2 e3 e4⟩
end
/-- tuples of two tracked at their addresses -/
def putP : Hp → List Addr → List (V × V) → Hp
  | H, a :: as, p :: ps => putP (upd H a (.tup [p.1, p.2])) as ps
  | H, _, _ => H
theorem putP_off {b : Addr} : ∀ (as : List Addr) (ps : List (V × V)) (H : Hp), b ∉ as → putP H as ps b = H b
  | [], _, _, _ => rfl
  | _ :: _, [], _, _ => rfl
  | a :: as, p :: ps, H, h => by
    have n : b ≠ a := fun q => h (by rw [q]; exact List.mem_cons_self)
    have m : b ∉ as := fun q => h (List.mem_cons_of_mem _ q)
    exact (putP_off as ps _ m).trans (upd_ne n)
theorem putP_at : ∀ (as : List Addr) (ps : List (V × V)) (H : Hp), as.length = ps.length → as.Nodup → ∀ (j : Nat) (a : Addr) (p : V × V), as[j]? = some a → ps[j]? = some p → putP H as ps a = some (.tup [p.1, p.2])
  | [], _, _, _, _, j, a, p, h, _ => by simp at h
  | _ :: _, [], _, h, _, _, _, _, _, _ => by cases h
  | b :: as, q :: ps, H, h, hn, 0, a, p, h1, h2 => by
    have e1 : b = a := Option.some.inj h1
    have e2 : q = p := Option.some.inj h2
    subst e1
    subst e2
    exact (putP_off as ps _ (List.nodup_cons.mp hn).1).trans upd_same
  | b :: as, q :: ps, H, h, hn, j + 1, a, p, h1, h2 => putP_at as ps _ (Nat.succ.inj h) (List.nodup_cons.mp hn).2 j a p h1 h2
theorem refs_vals : ∀ as : List Addr, Vals (as.map V.ref) (as.map Value.ref)
  | [] => .nil
  | _ :: as => .cons rfl (refs_vals as)
/-- t is a list of tuples at ts -/
def TupsAt (H : Hp) (ts : List Addr) (ps : List (V × V)) : Prop := ts.length = ps.length ∧ ∀ (j : Nat) (t : Addr) (p : V × V), ts[j]? = some t → ps[j]? = some p → H t = some (.tup [p.1, p.2])
def rListZip (K : PySem.W.Frag) : List V → Hp → VK → Prop := fun vs H Q => ∃ (a b : Addr) (xs ys : List V), vs = [.ref a, .ref b] ∧ SqL K H a xs ∧ SqL K H b ys ∧
  ∀ (H' : Hp) (p : Addr) (ts : List Addr), Same H H' → H p = none → (∀ t ∈ ts, H t = none) → H' p = some (.lst (ts.map V.ref)) → TupsAt H' ts (xs.zip ys) → Q (.ref p) H'
def tListZip (K : PySem.W.Frag) (t : TA) : TE := fun σ H Q => t σ H fun vs H1 => rListZip K vs H1 Q
theorem pe_listZip {X : Cx} {e e2 : Expr} {ta : TA} {p p2 q pos : Pos} (hc : X.calm = true) (hg : Gl X "list") (hm : X.mg "list" = none) (hg2 : Gl X "zip") (hm2 : X.mg "zip" = none) (ha : PA X [e, e2] ta)
    (hs : starEach [.Call (.Name "zip" p2) [e, e2] [] q] X.env = (false, eval (.Call (.Name "zip" p2) [e, e2] [] q) X.env) :: starEach [] X.env := by rfl)
    (hs2 : starEach [e, e2] X.env = (false, eval e X.env) :: starEach [e2] X.env := by rfl) (hpl : (backTo q (starEach [e2] X.env)).any (·.1) = false := by rfl) :
    PE X (.Call (.Name "list" p) [.Call (.Name "zip" p2) [e, e2] [] q] [] pos) (tListZip X.K ta) := by
  refine ⟨fun pins s σ H Q I h => ?_⟩
  refine Call_ (ld_blt I hg hm PyProof.Rows.boot_list ?_)
  refine PyProof.Rows.callWith_type1 (PyProof.Rows.args_cons ?_ hs) hs rfl
  refine Call_ (ld_blt I hg2 hm2 PyProof.Rows.boot_zip (PyProof.Rows.callWith_type1 (thn (ha.run q pins s σ H _ I h) fun us s1 ⟨vs, H1, I1, r1, a, b, xs, ys, ev, sx, sy, out⟩ => ?_) hs2 hpl))
  subst ev
  obtain ⟨u1, u2, rfl, ru1, ru2⟩ := vals2 r1
  cases ru1
  cases ru2
  obtain ⟨its, rv, p1, hz1⟩ := I1.list sx
  obtain ⟨its2, rv2, p2', hz2⟩ := I1.list sy
  have hl1 := rv.length
  have hl2 := rv2.length
  refine call_zip_2 p1.isList p2'.isList fun h' hz hTI hTO w1 w2 hsz kp => ?_
  refine PyProof.Rows.args_nil ?_
  have I2 : Inv X pins σ H1 { s1 with heap := h' } := I1.kept (t' := s1.toks) kp
  have D := PySem.W.ktu_apart s1.heap.objs.size a b p1.lt p2'.lt
  have bel : ∀ c o, s1.heap.get? c = some o → c ≠ s1.heap.objs.size + 4 ∧ c ≠ s1.heap.objs.size + 3 ∧ c ≠ s1.heap.objs.size ∧ c ≠ s1.heap.objs.size + 1 := fun c o e => by
    have q := Heap.lt_size e
    exact ⟨Nat.ne_of_lt (Nat.lt_add_right 4 q), Nat.ne_of_lt (Nat.lt_add_right 3 q), Nat.ne_of_lt q, Nat.ne_of_lt (Nat.lt_add_right 1 q)⟩
  refine zcall (s := { s1 with heap := h' }) (xs := its.toArray) (ys := its2.toArray) (I.ok.hd hc) D hz hTI hTO w1 w2 (p1.isList.at fun o e => kp _ o e) (p2'.isList.at fun o e => kp _ o e) (by rw [List.size_toArray, List.size_toArray]; omega) fun h2 tk acc c as k2 hS hal hM hacc => ?_
  dsimp only at k2 hS hM ⊢
  have kold : ∀ c o, s1.heap.get? c = some o → h2.get? c = some o := fun c o e => let ⟨n1, n2, n3, n4⟩ := bel c o e; k2 c o n1 n2 n3 n4 (kp c o e)
  have halz : as.length = (xs.zip ys).length := by rw [hal, List.length_zip, List.size_toArray, List.size_toArray, hl1, hl2]
  have nd : as.Nodup := hM.rise.imp fun h => Nat.ne_of_lt h
  have hle : s1.heap.objs.size ≤ h'.objs.size := by rw [hsz]; exact Nat.le_add_right _ _
  have newS : H1 h'.objs.size = none := I1.hok.fresh hle
  have newT : ∀ t ∈ as, H1 t = none := fun t ht => I1.hok.fresh (Nat.le_trans hle (Nat.le_of_lt (hM.above t ht)))
  have Sno : h'.objs.size ∉ as := fun m => absurd (hM.above _ m) (Nat.not_succ_le_self _)
  have pOff : ∀ c, c ∉ as → c ≠ h'.objs.size → putP (upd H1 h'.objs.size (.lst (as.map V.ref))) as (xs.zip ys) c = H1 c := fun c n1 n2 => (putP_off as _ _ n1).trans (upd_ne n2)
  have pS : putP (upd H1 h'.objs.size (.lst (as.map V.ref))) as (xs.zip ys) h'.objs.size = some (.lst (as.map V.ref)) := (putP_off as _ _ Sno).trans upd_same
  have keep : ∀ c o, H1 c = some o → putP (upd H1 h'.objs.size (.lst (as.map V.ref))) as (xs.zip ys) c = some o := fun c o e => by
    rw [pOff c (fun m => by rw [newT c m] at e; cases e) (fun m => by rw [m, newS] at e; cases e)]
    exact e
  have at_ := putP_at as (xs.zip ys) (upd H1 h'.objs.size (.lst (as.map V.ref))) halz nd
  refine ⟨.ref h'.objs.size, putP (upd H1 h'.objs.size (.lst (as.map V.ref))) as (xs.zip ys), ?_, rfl, out _ _ as keep newS newT pS ⟨halz, at_⟩⟩
  refine I1.call' (s' := { s1 with heap := h2, toks := tk }) (ch := []) rfl ⟨fun b o q _ _ _ => kold b o q, fun b o q _ _ _ => ⟨o.slots, kold b o q⟩, fun b o q n _ => ?_, fun b o q _ => ⟨o, kold b o q⟩, fun b xs q => keep b _ q, fun b o u q => keep b _ q, fun b ps q => ⟨#[], by rw [keep b _ q]; simp⟩⟩ (fun b u q => ?_) I1.bare fun b z => by simp at z
  · have lt := Heap.lt_size q
    rw [pOff b (fun m => absurd (Nat.lt_of_lt_of_le lt (Nat.le_trans hle (Nat.le_of_lt (hM.above b m)))) (Nat.lt_irrefl _)) (Nat.ne_of_lt (Nat.lt_of_lt_of_le lt hle))]
    exact n
  · by_cases hb : b ∈ as
    · obtain ⟨j, hj⟩ := List.mem_iff_getElem?.mp hb
      have jl : j < (xs.zip ys).length := by rw [← halz]; exact (List.getElem?_eq_some_iff.mp hj).1
      have e1 := at_ j b _ hj (List.getElem?_eq_getElem jl)
      rw [e1] at q
      cases q
      obtain ⟨x, y, ex, ey, pr⟩ := hM.pairs j b hj
      have jx : j < xs.length := by rw [List.length_zip] at jl; omega
      have jy : j < ys.length := by rw [List.length_zip] at jl; omega
      obtain ⟨x2, ex2, rx⟩ := rv.get (List.getElem?_eq_getElem jx)
      obtain ⟨y2, ey2, ry⟩ := rv2.get (List.getElem?_eq_getElem jy)
      rw [List.getElem?_toArray] at ex ey
      rw [ex] at ex2
      cases ex2
      rw [ey] at ey2
      cases ey2
      rw [List.getElem_zip]
      exact ⟨by show 2 ≤ sizeLine; decide, [x, y], .cons rx (.cons ry .nil), ⟨_, pr, rfl, _, rfl⟩⟩
    · by_cases hb2 : b = h'.objs.size
      · rw [hb2] at q ⊢
        rw [pS] at q
        cases q
        refine ⟨by rw [List.length_map, halz, List.length_zip]; omega, acc.toList, c, by rw [hacc]; exact refs_vals as, ?_⟩
        rw [Array.toArray_toList]
        exact hS
      · rw [pOff b hb hb2] at q
        exact (I1.hok b u q).stay (fun d v _ y => kold d v y) (fun d y => keep d _ y) fun d xs y => keep d _ y
end Sb

namespace Sb
open PySem PySem.Spec PyProof.Rows L2
/-! ### the text by its places -/
def top (i : Nat) : Stmt := PySem.Challenge.pw_stembunches_s01_answers.main.body.getD i (.Pass ⟨0, 0, 0, 0⟩)
/-! ### a def of the module, by its name -/
structure GF (K : PySem.W.Frag) (mg : Str → Option Value) (x : Str) (st : Stmt) : Prop where
  ex : ∃ (f : Addr) (fd : FuncData), Fun K x x st f fd ∧ mg x = some (.ref f)
structure Def (P : Program) (w : World) (K : PySem.W.Frag) (mg : Str → Option Value) (base : Heap) (k : Nat) (x : Str) (ps : List Str) (sp : Sp) : Prop where
  ex : ∃ (f : Addr) (fd : FuncData), FnOk P w K mg base CX0 k f fd ps sp ∧ mg x = some (.ref f) ∧ PySem.W.keepIn K (.ref f) = true ∧ Binds K fd ps []
theorem def_of {P : Program} {w : World} {K : PySem.W.Frag} {mg : Str → Option Value} {base : Heap} {x : Str} {st : Stmt} {N ps : List Str} {k : Nat} {sp : Sp} (G : GF K mg x st) (S : FnScope N ps (defScope st))
    (hb : ∀ (kV doc pm : Value) (an : Option Addr) (cdv ct : Value) (us : List Value), us.length = ps.length → bindArgs (PySem.W.fnOf x x (defArgs st) (defBody st) (defScope st) .none kV doc pm an cdv ct) ⟨us, []⟩ = pure (ps.zip us))
    (len : ∀ vs H Q E, sp vs H Q E → vs.length = ps.length)
    (hbody : ∀ (f : Addr) (cdv : Value) (A : Around) (outer : List Env) (s : Shared) (H : Hp) (vs : List V) (Q : VK) (E : XK), Room k (A.deeper (envOfC x (defScope st) s.heap.objs.size f cdv)) → sp vs H Q E →
      ∃ t, PSs (cxOf CX0 P w K mg base N x (defScope st) f cdv A outer s H E).nox (defBody st) t ∧ t { nx := fun _ H' => Q .non H', rt := Q } (L2.start N vs) H) : Def P w K mg base (k + 1) x ps sp := by
  obtain ⟨f, fd, F, hm⟩ := G.ex
  exact ⟨f, fd, F.ok S len (hbody f), hm, F.kp, F.binds hb⟩
theorem pe_def {X : Cx} {k j : Nat} {x : Str} {ps : List Str} {sp : Sp} {p pos : Pos} {e : Expr} {es : List Expr} {t : TA} (D : Def X.prog X.w X.K X.mg X.base k x ps sp) (hr : Room j X.A) (ha : PA X (e :: es) t) (hg : Gl X x := by rfl) (hk : k ≤ j := by decide)
    (hdb : (x == ("__debug__" : Str)) = false := by decide) (he : starEach (e :: es) X.env = (false, eval e X.env) :: starEach es X.env := by rfl) (hpl : (backTo pos (starEach es X.env)).any (·.1) = false := by rfl) :
    PE X (.Call (.Name x p) (e :: es) [] pos) (tCall sp [] E0 t) := by
  obtain ⟨f, fd, F, hm, kp, b⟩ := D.ex
  exact pe_call F (hr.mono hk) hg hm kp b .nil pass0 ha hdb he hpl
/-- a module's constant, a whole number -/
theorem pe_k {X : Cx} {x : Str} {i : Int} {pos : Pos} (h : ∃ t, X.mg x = some (.int i t)) (hg : Gl X x := by rfl) (hd : (x == ("__debug__" : Str)) = false := by decide) : PE X (.Name x pos) (tC (.int i)) := by
  obtain ⟨t, h⟩ := h
  exact pe_glob hg h ⟨t, rfl⟩ hd
/-! ### the data as it lies -/
def nV (l : List Nat) : List V := (iL l).map V.int
theorem nV_length (l : List Nat) : (nV l).length = l.length := by unfold nV iL; rw [List.length_map, List.length_map]
theorem nV_get (l : List Nat) (i : Nat) : (nV l)[i]? = l[i]?.map fun n : Nat => V.int (n : Int) := by unfold nV iL; rw [List.getElem?_map, List.getElem?_map, Option.map_map]; rfl
theorem nV_at {l : List Nat} {i n : Nat} (h : l[i]? = some n) : (nV l)[i]? = some (V.int (n : Int)) := by rw [nV_get, h]; rfl
theorem nV_of {l : List Nat} {i : Nat} {y : V} (h : (nV l)[i]? = some y) : ∃ n, l[i]? = some n ∧ y = V.int (n : Int) := by
  rw [nV_get] at h
  cases e : l[i]? with
  | none => rw [e] at h; cases h
  | some n => rw [e] at h; exact ⟨n, rfl, (Option.some.inj h).symm⟩
theorem nV_append (l r : List Nat) : nV (l ++ r) = nV l ++ nV r := by unfold nV iL; rw [List.map_append, List.map_append]
theorem take_more {α : Type} {l : List α} {i : Nat} {x : α} (h : l[i]? = some x) : l.take (i + 1) = l.take i ++ [x] := by rw [List.take_add_one, h]; rfl
def rowV (r : Nat × Nat) : V × V := (.int (r.1 : Int), .int (r.2 : Int))
/-- a price table at p -/
def TabAt (H : Hp) (p : Addr) (tbl : List (Nat × Nat)) : Prop := ∃ ts : List Addr, H p = some (.lst (ts.map V.ref)) ∧ TupsAt H ts (tbl.map rowV)
theorem TupsAt.keep {H H' : Hp} {ts : List Addr} {ps : List (V × V)} (h : TupsAt H ts ps) (k : ∀ b xs, H b = some (.tup xs) → H' b = some (.tup xs)) : TupsAt H' ts ps :=
  ⟨h.1, fun j t p e1 e2 => k t _ (h.2 j t p e1 e2)⟩
theorem TabAt.same {H H' : Hp} {p : Addr} {tbl : List (Nat × Nat)} (h : TabAt H p tbl) (k : Same H H') : TabAt H' p tbl := by
  obtain ⟨ts, h1, h2⟩ := h
  exact ⟨ts, k _ _ h1, h2.keep fun b xs e => k b _ e⟩
theorem ref_of {ts : List Addr} {i : Nat} {y : V} (h : (ts.map V.ref)[i]? = some y) : ∃ t, ts[i]? = some t ∧ y = V.ref t := by
  rw [List.getElem?_map] at h
  cases e : ts[i]? with
  | none => rw [e] at h; cases h
  | some t => rw [e] at h; exact ⟨t, rfl, (Option.some.inj h).symm⟩
theorem TupsAt.row {H : Hp} {ts : List Addr} {tbl : List (Nat × Nat)} (h : TupsAt H ts (tbl.map rowV)) {i : Nat} {t : Addr} (e : ts[i]? = some t) : ∃ r, tbl[i]? = some r ∧ H t = some (.tup [.int (r.1 : Int), .int (r.2 : Int)]) := by
  have hl : i < tbl.length := by
    have := h.1
    rw [List.length_map] at this
    rw [← this]
    exact (List.getElem?_eq_some_iff.mp e).1
  exact ⟨tbl[i], List.getElem?_eq_getElem hl, h.2 i t (rowV tbl[i]) e (by rw [List.getElem?_map, List.getElem?_eq_getElem hl]; rfl)⟩
theorem Same.new {H : Hp} {p : Addr} {o : HO} (h : H p = none) : Same H (upd H p o) := fun b u e => by rw [upd_ne (ne_of_none e h)]; exact e
/-! ### price_of -/
abbrev sPrice : Stmt := top 3
def spPrice : Sp := fun vs H Q _ => ∃ (p : Addr) (tbl : List (Nat × Nat)) (n : Nat), vs = [.ref p, .int (n : Int)] ∧ TabAt H p tbl ∧ Q (.int (Kh434.priceOf tbl n : Nat)) H
theorem scPrice : FnScope ["prices", "length", "price", "least", "told"] ["prices", "length"] (defScope sPrice) := ⟨rfl, rfl, rfl, by decide +kernel, rfl, by decide +kernel, by decide +kernel⟩
section
variable {P : Program} {w : World} {K : PySem.W.Frag} {mg : Str → Option Value} {base : Heap}
theorem price_step (tbl : List (Nat × Nat)) (n i : Nat) {r : Nat × Nat} (h : tbl[i]? = some r) : (tbl.take (i + 1)).foldl (step n) 0 = if r.1 ≤ n then r.2 else (tbl.take i).foldl (step n) 0 := by
  rw [take_more h, List.foldl_append]
  rfl
theorem ok_price (G : GF K mg "price_of" sPrice) : Def P w K mg base 1 "price_of" ["prices", "length"] spPrice := by
  refine def_of G scPrice (fun _ _ _ _ _ _ us hl => match us, hl with | [_, _], _ => rfl) (fun vs H Q E h => ?_) fun f cdv A outer s H vs Q E hr h => ?_
  · obtain ⟨p, tbl, n, rfl, _⟩ := h
    rfl
  · obtain ⟨p, tbl, n, rfl, ⟨ts, hp, ht⟩, q⟩ := h
    refine ⟨_, pss_cons (ps_set (i := 2) scPrice.nd rfl (Or.inl rfl) pe_int)
      (pss_cons (ps_for PassesOwn.never rfl (pi_list (pv 0)) (pg_tup rfl (pgs_cons (pg_name (i := 3) scPrice.nd rfl (Or.inl rfl)) (pgs_cons (pg_name (i := 4) scPrice.nd rfl (Or.inl rfl)) pgs_nil)))
        (pss_one (ps_if (pt_cmpR op_le (pv 3) (pv 1) (nomark _)) (pss_one (ps_set (i := 2) scPrice.nd rfl (Or.inl rfl) (pv 4))) pss_nil)))
      (pss_one (ps_ret (pv 2)))), ?_⟩
    refine ⟨_, rfl, p, rfl, ⟨_, SqL.of hp⟩, for_list (K := K) (a := p) (xs := ts.map V.ref) (fun i σ H' => ∃ v3 v4 : Option V, σ = [some (.ref p), some (.int (n : Int)), some (.int (((tbl.take i).foldl (step n) 0 : Nat) : Int)), v3, v4] ∧ H' = H)
      ⟨none, none, rfl, rfl⟩ (fun i σ H' _ ⟨_, _, _, e⟩ => by rw [e]; exact SqL.of hp) ?_ ?_⟩
    · rintro i y σ H' hi ⟨v3, v4, rfl, rfl⟩
      obtain ⟨t, ht1, rfl⟩ := ref_of hi
      obtain ⟨r, hr1, hr2⟩ := ht.row ht1
      refine ⟨t, _, rfl, SqT.of hr2, rfl, _, _, rfl, _, _, rfl, rfl, ?_⟩
      refine ⟨_, rfl, _, rfl, _, _, rfl, rfl, _, rfl, ite2 (fun c => ?_) fun c => ?_⟩
      · have c1 : r.1 ≤ n := by have := of_decide_eq_true c; omega
        refine ⟨_, rfl, some (.int (r.1 : Int)), some (.int (r.2 : Int)), ?_, rfl⟩
        rw [price_step tbl n i hr1, if_pos c1]
        rfl
      · have c1 : ¬ r.1 ≤ n := fun z => c (decide_eq_true (by omega))
        refine ⟨some (.int (r.1 : Int)), some (.int (r.2 : Int)), ?_, rfl⟩
        rw [price_step tbl n i hr1, if_neg c1]
        rfl
    · rintro σ H' ⟨v3, v4, rfl, rfl⟩
      refine ⟨_, rfl, ?_⟩
      rw [List.length_map, ht.1, List.length_map, List.take_length]
      exact q
end
end Sb

namespace Sb
open PySem PySem.Spec PyProof.Rows L2
/-- the built-in names that the module leaves as they are -/
structure Blt (mg : Str → Option Value) : Prop where
  len : mg "len" = none
  min : mg "min" = none
  max : mg "max" = none
  sorted : mg "sorted" = none
  range : mg "range" = none
  sum : mg "sum" = none
  zip : mg "zip" = none
  list : mg "list" = none
  all : mg "all" = none
section
variable {P : Program} {w : World} {K : PySem.W.Frag} {mg : Str → Option Value} {base : Heap}
/-! ### bunch_value -/
abbrev sBval : Stmt := top 4
def spBval : Sp := fun vs H Q _ => ∃ (p b : Addr) (tbl : List (Nat × Nat)) (l : List Nat), vs = [.ref p, .ref b] ∧ TabAt H p tbl ∧ H b = some (.lst (nV l)) ∧ l ≠ [] ∧ l.length ≤ 1000 ∧ Q (.int (bval tbl l : Nat)) H
theorem scBval : FnScope ["prices", "bunch"] ["prices", "bunch"] (defScope sBval) := ⟨rfl, rfl, rfl, by decide +kernel, rfl, by decide +kernel, by decide +kernel⟩
theorem ok_bval (G : GF K mg "bunch_value" sBval) (B : Blt mg) (D : Def P w K mg base 1 "price_of" ["prices", "length"] spPrice) : Def P w K mg base 2 "bunch_value" ["prices", "bunch"] spBval := by
  refine def_of G scBval (fun _ _ _ _ _ _ us hl => match us, hl with | [_, _], _ => rfl) (fun vs H Q E h => ?_) fun f cdv A outer s H vs Q E hr h => ?_
  · obtain ⟨p, b, tbl, l, rfl, _⟩ := h
    rfl
  · obtain ⟨p, b, tbl, l, rfl, hp, hb, ne, hz, q⟩ := h
    refine ⟨_, pss_one (ps_ret (pe_op op_mul (pe_callB call_len_seq (by rfl) B.len PySem.boot_len (pa_cons (pv 1) pa_nil))
      (pe_def D hr (pa_cons (pv 0) (pa_cons (pe_callB (cr_min rfl) (by rfl) B.min PyProof.Rows.boot_min (pa_cons (pv 1) pa_nil)) pa_nil))))), ?_⟩
    refine ⟨_, rfl, b, _, rfl, .inl (SqL.of hb), _, rfl, _, rfl, b, iL l, rfl, SqL.of hb, ?_, fun m hm hle => ?_⟩
    · unfold iL
      rw [List.length_map]
      exact List.length_pos_iff.mpr ne
    · obtain rfl := shortest_is hm hle
      refine ⟨p, tbl, Kh434.shortest l, rfl, hp, _, _, rfl, rfl, .inl ⟨?_, ?_⟩, ?_⟩
      · rw [nV_length]; omega
      · rw [nV_length]; omega
      · rw [nV_length]
        have e : ((l.length : Int) * ((Kh434.priceOf tbl (Kh434.shortest l) : Nat) : Int)) = ((bval tbl l : Nat) : Int) := by unfold bval; rw [Int.natCast_mul]
        show Q (.int ((l.length : Int) * ((Kh434.priceOf tbl (Kh434.shortest l) : Nat) : Int))) H
        rw [e]
        exact q
/-! ### from_longest -/
abbrev sLong : Stmt := top 5
def spLong : Sp := fun vs H Q _ => ∃ (a : Addr) (l : List Nat), vs = [.ref a] ∧ H a = some (.lst (nV l)) ∧ ∀ p, H p = none → Q (.ref p) (upd H p (.lst (nV (Kh434.sortDescending l))))
theorem scLong : FnScope ["stems"] ["stems"] (defScope sLong) := ⟨rfl, rfl, rfl, by decide +kernel, rfl, by decide +kernel, by decide +kernel⟩
theorem ok_long (G : GF K mg "from_longest" sLong) (B : Blt mg) : Def P w K mg base 1 "from_longest" ["stems"] spLong := by
  refine def_of G scLong (fun _ _ _ _ _ _ us hl => match us, hl with | [_], _ => rfl) (fun vs H Q E h => ?_) fun f cdv A outer s H vs Q E hr h => ?_
  · obtain ⟨a, l, rfl, _⟩ := h
    rfl
  · obtain ⟨a, l, rfl, ha, q⟩ := h
    refine ⟨_, pss_one (ps_ret (pe_callBK (cr_sortedRev (b := true)) (by rfl) B.sorted PyProof.Rows.boot_sorted (pa_cons (pv 0) pa_nil) (pk_cons pe_bl pk_nil))), ?_⟩
    refine ⟨_, rfl, a, iL l, rfl, rfl, SqL.of ha, fun ns p h1 h2 hp => ?_⟩
    have e : ns = iL (Kh434.sortDescending l) := sort_is h1 h2
    rw [e]
    exact q p hp
/-! ### best_bunches -/
abbrev sBest : Stmt := top 6
/-- a list of new lists -/
def ListsAt (H : Hp) (p : Addr) (bs : List (List Nat)) : Prop := ∃ ts : List Addr, H p = some (.lst (ts.map V.ref)) ∧ ts.length = bs.length ∧ ∀ (i : Nat) (t : Addr) (b : List Nat), ts[i]? = some t → bs[i]? = some b → H t = some (.lst (nV b))
theorem ListsAt.same {H H' : Hp} {p : Addr} {bs : List (List Nat)} (h : ListsAt H p bs) (k : Same H H') : ListsAt H' p bs := by
  obtain ⟨ts, h1, h2, h3⟩ := h
  exact ⟨ts, k _ _ h1, h2, fun i t b e1 e2 => k _ _ (h3 i t b e1 e2)⟩
theorem ListsAt.item {H : Hp} {ts : List Addr} {bs : List (List Nat)} (h2 : ts.length = bs.length) (h3 : ∀ (i : Nat) (t : Addr) (b : List Nat), ts[i]? = some t → bs[i]? = some b → H t = some (.lst (nV b))) {i : Nat} {t : Addr} (e : ts[i]? = some t) :
    ∃ b, bs[i]? = some b ∧ H t = some (.lst (nV b)) := by
  have hl : i < bs.length := by rw [← h2]; exact (List.getElem?_eq_some_iff.mp e).1
  exact ⟨bs[i], List.getElem?_eq_getElem hl, h3 i t _ e (List.getElem?_eq_getElem hl)⟩
/-- one list more at its end -/
theorem ListsAt.snoc {H : Hp} {D t : Addr} {ts : List Addr} {bs : List (List Nat)} {b : List Nat} (hD : H D = some (.lst (ts.map V.ref))) (h2 : ts.length = bs.length) (h3 : ∀ (i : Nat) (t : Addr) (b : List Nat), ts[i]? = some t → bs[i]? = some b → H t = some (.lst (nV b)))
    (ht : H t = some (.lst (nV b))) (nD : ∀ u ∈ ts, u ≠ D) (nt : t ≠ D) : ListsAt (upd H D (.lst (ts.map V.ref ++ [.ref t]))) D (bs ++ [b]) := by
  refine ⟨ts ++ [t], ?_, ?_, fun i u c e1 e2 => ?_⟩
  · rw [upd_same, List.map_append]; rfl
  · rw [List.length_append, List.length_append, h2]; rfl
  · by_cases c1 : i < ts.length
    · rw [List.getElem?_append_left c1] at e1
      rw [List.getElem?_append_left (by omega)] at e2
      rw [upd_ne (nD u (List.mem_of_getElem? e1))]
      exact h3 i u c e1 e2
    · rw [List.getElem?_append_right (by omega)] at e1
      rw [List.getElem?_append_right (by omega)] at e2
      have z : i - ts.length = 0 := by
        have := (List.getElem?_eq_some_iff.mp e1).1
        simp at this
        omega
      have z2 : i - bs.length = 0 := by omega
      rw [z] at e1
      rw [z2] at e2
      obtain rfl := Option.some.inj e1
      obtain rfl := Option.some.inj e2
      rw [upd_ne nt]
      exact ht
theorem rgC_of {n size : Nat} (h1 : 1 ≤ size) (h2 : size ≤ 1000) (h3 : n ≤ 1000) : RgC 0 ((n : Int) - (size : Int) + 1) (size : Int) (n / size) := by
  have hs : Builtin.Range.rangeSize 0 ((n : Int) - (size : Int) + 1) (size : Int) = ((n / size : Nat) : Int) := by
    unfold Builtin.Range.rangeSize
    rw [if_pos (by omega)]
    by_cases c : size ≤ n
    · rw [if_pos (by omega)]
      have e : (n : Int) - (size : Int) + 1 - 0 - 1 = ((n - size : Nat) : Int) := by omega
      rw [e, ← Int.natCast_ediv, div_sub (by omega) c]
      omega
    · rw [if_neg (by omega), Nat.div_eq_of_lt (by omega)]
      rfl
  have hb : n / size ≤ 1000 := Nat.le_trans (Nat.div_le_self _ _) h3
  refine ⟨by omega, by omega, ?_, hs⟩
  unfold Builtin.Range.small
  rw [hs]
  generalize n / size = qn at hb
  have hc : (size : Int) > 0 := by omega
  simp only [Builtin.Range.rangeFitsLong, hc, if_true, Bool.and_eq_true, Bool.or_eq_true, decide_eq_true_eq, beq_iff_eq]
  omega
theorem yes_of {σ : L2.St} {H : Hp} {A B : Hp → Prop} (h : A H) : tYes σ H fun b H3 => if b = true then A H3 else B H3 := by
  show (if true = true then A H else B H)
  rw [if_pos rfl]
  exact h
theorem small_line {n : Nat} (h : n ≤ 1000) : n < sizeLine := Nat.lt_of_le_of_lt h (by decide)
def spBest : Sp := fun vs H Q _ => ∃ (a : Addr) (l : List Nat) (size : Nat), vs = [.ref a, .int (size : Int)] ∧ H a = some (.lst (nV l)) ∧ 1 ≤ size ∧ size ≤ 1000 ∧ l.length ≤ 1000 ∧
  ∀ (H' : Hp) (p : Addr), Same H H' → H p = none → ListsAt H' p (Kh434.pieces l.length size (Kh434.sortDescending l)) → Q (.ref p) H'
theorem scBest : FnScope ["stems", "size", "ordered", "place"] ["stems", "size"] (defScope sBest) := ⟨rfl, rfl, rfl, by decide +kernel, rfl, by decide +kernel, by decide +kernel⟩
theorem cut_is (o : List Nat) (k size : Nat) : cutV (nV o) (some ((0 : Int) + (k : Int) * (size : Int))) (some ((0 : Int) + (k : Int) * (size : Int) + (size : Int))) = nV ((o.drop (k * size)).take size) := by
  unfold cutV
  have e1 : (0 : Int) + (k : Int) * (size : Int) = ((k * size : Nat) : Int) := by rw [Int.natCast_mul]; omega
  have e2 : ((k * size : Nat) : Int) + (size : Int) = ((k * size + size : Nat) : Int) := by omega
  rw [e1, e2, HT.sIx_nat, HT.sIx_nat, nV_length]
  unfold nV iL
  rw [List.map_map, ← List.map_drop, ← List.map_take, List.map_map]
  congr 1
  by_cases c : k * size ≤ o.length
  · rw [Nat.min_eq_left c]
    by_cases d : k * size + size ≤ o.length
    · rw [Nat.min_eq_left d]; congr 1; omega
    · rw [List.take_of_length_le (by rw [List.length_drop]; omega), List.take_of_length_le (by rw [List.length_drop]; omega)]
  · rw [Nat.min_eq_right (show o.length ≤ k * size by omega), List.drop_of_length_le (Nat.le_refl o.length), List.drop_of_length_le (show o.length ≤ k * size by omega), List.take_nil, List.take_nil]
theorem ok_best (G : GF K mg "best_bunches" sBest) (B : Blt mg) (DL : Def P w K mg base 1 "from_longest" ["stems"] spLong) : Def P w K mg base 2 "best_bunches" ["stems", "size"] spBest := by
  refine def_of G scBest (fun _ _ _ _ _ _ us hl => match us, hl with | [_, _], _ => rfl) (fun vs H Q E h => ?_) fun f cdv A outer s H vs Q E hr h => ?_
  · obtain ⟨a, l, size, rfl, _⟩ := h
    rfl
  · obtain ⟨a, l, size, rfl, ha, z1, z2, z3, q⟩ := h
    refine ⟨_, pss_cons (ps_set (i := 2) scBest.nd rfl (Or.inr rfl) (pe_def DL hr (pa_cons (pv 0) pa_nil)))
      (pss_one (ps_ret (pe_lc (own := [("place", 3)]) (g := gName 3) (tt := tYes) rfl scBest.nd
        (pi_range3 rfl B.range (pa_cons pe_int (pa_cons (pe_op op_add (pe_op op_sub (pe_callB call_len_seq (by rfl) B.len PySem.boot_len (pa_cons (pv 2) pa_nil)) (pv 1)) pe_int) (pa_cons (pv 1) pa_nil))))
        (blkOk_by (N := ["stems", "size", "ordered", "place"]) (sc := defScope sBest) (by decide +kernel)) (fun _ _ _ _ _ => pg_name (i := 3) scBest.nd rfl (Or.inl rfl)) (fun _ _ _ _ _ => pts_nil)
        (fun _ _ _ _ _ => pe_slice (r := rSlL K) sl_list (pv 2) (po_some (pv 3)) (po_some (pe_op op_add (pv 3) (pv 1))))))), ?_⟩
    refine ⟨_, rfl, a, l, rfl, ha, fun o ho => ?_⟩
    have s1 : Same H (upd H o (.lst (nV (Kh434.sortDescending l)))) := Same.new ho
    refine ⟨_, rfl, o, _, rfl, .inl (SqL.of upd_same), _, rfl, _, _, rfl, rfl, _, _, rfl, rfl, _, rfl, 0, _, _, l.length / size, rfl, ?_, fun D hD => ?_⟩
    · rw [nV_length, sort_length]
      exact rgC_of z1 z2 z3
    · have nDo : D ≠ o := fun e => by rw [e, upd_same] at hD; cases hD
      have pc : Kh434.pieces l.length size (Kh434.sortDescending l) = (List.range (l.length / size)).map fun k => ((Kh434.sortDescending l).drop (k * size)).take size := by
        rw [pieces_range (by omega) _ _ (by rw [sort_length]; exact Nat.le_refl _), sort_length]
      refine lc_it walk_rangeC (fun i H' => Same (upd H o (.lst (nV (Kh434.sortDescending l)))) H' ∧ ∃ ts : List Addr, H' D = some (.lst (ts.map V.ref)) ∧ ts.length = i ∧
        (∀ (k : Nat) (t : Addr), ts[k]? = some t → t ≠ D ∧ H' t = some (.lst (nV (((Kh434.sortDescending l).drop (k * size)).take size))))) ⟨Same.new hD, [], upd_same, rfl, fun k t e => by simp at e⟩ (fun _ _ _ _ => trivial) ?_ ?_
      · rintro i y H1 H1' hi ⟨sm, ts, hts, hlen, hit⟩ ⟨rfl, rfl⟩
        refine ⟨rfl, ?_⟩
        refine yes_of ?_
        refine ⟨_, rfl, _, rfl, _, rfl, _, rfl, _, rfl, _, _, rfl, rfl, _, rfl, o, _, rfl, SqL.of (sm _ _ upd_same), fun t ht => ?_⟩
        have ntD : t ≠ D := fun e => by rw [e, hts] at ht; cases ht
        have kp : Same H1' (upd H1' t (.lst (cutV (nV (Kh434.sortDescending l)) (some ((0 : Int) + (i : Int) * (size : Int))) (some ((0 : Int) + (i : Int) * (size : Int) + (size : Int)))))) := Same.new ht
        refine ⟨_, kp _ _ hts, ?_, ?_, ts ++ [t], ?_, ?_, ?_⟩
        · rw [List.length_map, hlen]
          exact small_line (by have := Nat.div_le_self l.length size; omega)
        · intro b u e
          have nb : b ≠ D := fun z => by rw [z] at e; rw [e] at hD; cases hD
          rw [upd_ne nb]
          exact kp _ _ (sm _ _ e)
        · rw [upd_same, List.map_append]; rfl
        · rw [List.length_append, hlen]; rfl
        · intro k u e
          by_cases c1 : k < ts.length
          · rw [List.getElem?_append_left c1] at e
            obtain ⟨h1, h2⟩ := hit k u e
            exact ⟨h1, by rw [upd_ne h1]; exact kp _ _ h2⟩
          · rw [List.getElem?_append_right (by omega)] at e
            have z : k - ts.length = 0 := by
              have := (List.getElem?_eq_some_iff.mp e).1
              simp at this
              omega
            rw [z] at e
            obtain rfl := Option.some.inj e
            have ek : k = i := by omega
            subst ek
            refine ⟨ntD, ?_⟩
            rw [upd_ne ntD, upd_same, cut_is]
      · rintro H' ⟨sm, ts, hts, hlen, hit⟩
        refine q H' D (s1.trans sm) (s1.free hD) ⟨ts, hts, ?_, fun i t b e1 e2 => ?_⟩
        · rw [pc, List.length_map, List.length_range, hlen]
        · rw [pc, List.getElem?_map] at e2
          have hi : i < l.length / size := by rw [← hlen]; exact (List.getElem?_eq_some_iff.mp e1).1
          rw [List.getElem?_range hi] at e2
          obtain rfl := Option.some.inj e2
          exact (hit i t e1).2
end
end Sb

namespace Sb
open PySem PySem.Spec PyProof.Rows L2
theorem cut_to (l : List Nat) (k : Nat) : cutV (nV l) none (some (k : Int)) = nV (l.take k) := by
  unfold cutV
  rw [HT.sIx_none, HT.sIx_nat, nV_length, List.drop_zero, Nat.sub_zero]
  unfold nV iL
  rw [← List.map_take, ← List.map_take]
  congr 2
  by_cases c : k ≤ l.length
  · rw [Nat.min_eq_left c]
  · rw [Nat.min_eq_right (by omega), List.take_of_length_le (Nat.le_refl _), List.take_of_length_le (by omega)]
theorem cut_from (l : List Nat) (k : Nat) : cutV (nV l) (some (k : Int)) none = nV (l.drop k) := by
  unfold cutV
  rw [HT.sIx_none, HT.sIx_nat, nV_length]
  unfold nV iL
  rw [← List.map_drop, ← List.map_drop, ← List.map_take, ← List.map_take]
  congr 2
  by_cases c : k ≤ l.length
  · rw [Nat.min_eq_left c, List.take_of_length_le (by rw [List.length_drop]; omega)]
  · rw [Nat.min_eq_right (show l.length ≤ k by omega), Nat.sub_self, List.take_zero, List.drop_of_length_le (by omega)]
theorem iL_sum : ∀ l : List Nat, (iL l).sum = ((l.sum : Nat) : Int)
  | [] => rfl
  | a :: l => by
    show ((a : Int) :: iL l).sum = (((a :: l).sum : Nat) : Int)
    rw [List.sum_cons, List.sum_cons, iL_sum l]
    omega
theorem bit_is (mask i : Nat) : Builtin.bitAnd ((mask : Int) / 2 ^ ((0 : Int) + (i : Int)).toNat) 1 = ((mask / 2 ^ i % 2 : Nat) : Int) := by
  have e : ((0 : Int) + (i : Int)).toNat = i := by omega
  rw [e, bitAnd_m1, two_pow_cast, ← Int.natCast_ediv]
  omega
/-- a list that is filled with new lists -/
def Fill (H : Hp) (D : Addr) (i : Nat) (f : Nat → List Nat) : Prop := ∃ ts : List Addr, H D = some (.lst (ts.map V.ref)) ∧ ts.length = i ∧ ∀ (k : Nat) (t : Addr), ts[k]? = some t → t ≠ D ∧ H t = some (.lst (nV (f k)))
theorem Fill.nil {H : Hp} {D : Addr} {f : Nat → List Nat} (h : H D = some (.lst [])) : Fill H D 0 f := ⟨[], h, rfl, fun k t e => by simp at e⟩
theorem Fill.same {H H' : Hp} {D : Addr} {i : Nat} {f : Nat → List Nat} (h : Fill H D i f) (k : Same H H') : Fill H' D i f := by
  obtain ⟨ts, h1, h2, h3⟩ := h
  exact ⟨ts, k _ _ h1, h2, fun j t e => ⟨(h3 j t e).1, k _ _ (h3 j t e).2⟩⟩
theorem Fill.snoc {H : Hp} {D t : Addr} {i : Nat} {f : Nat → List Nat} (h : Fill H D i f) (ht : H t = some (.lst (nV (f i)))) (nt : t ≠ D) : ∃ acc, H D = some (.lst acc) ∧ acc.length = i ∧ Fill (upd H D (.lst (acc ++ [.ref t]))) D (i + 1) f := by
  obtain ⟨ts, h1, h2, h3⟩ := h
  refine ⟨ts.map V.ref, h1, by rw [List.length_map, h2], ts ++ [t], ?_, ?_, fun k u e => ?_⟩
  · rw [upd_same, List.map_append]; rfl
  · rw [List.length_append, h2]; rfl
  · by_cases c1 : k < ts.length
    · rw [List.getElem?_append_left c1] at e
      obtain ⟨a1, a2⟩ := h3 k u e
      exact ⟨a1, by rw [upd_ne a1]; exact a2⟩
    · rw [List.getElem?_append_right (by omega)] at e
      have z : k - ts.length = 0 := by
        have := (List.getElem?_eq_some_iff.mp e).1
        simp at this
        omega
      rw [z] at e
      obtain rfl := Option.some.inj e
      have ek : k = i := by omega
      subst ek
      exact ⟨nt, by rw [upd_ne nt]; exact ht⟩
theorem Fill.lists {H : Hp} {D : Addr} {n : Nat} {f : Nat → List Nat} (h : Fill H D n f) : ListsAt H D ((List.range n).map f) := by
  obtain ⟨ts, h1, h2, h3⟩ := h
  refine ⟨ts, h1, by rw [h2, List.length_map, List.length_range], fun i t b e1 e2 => ?_⟩
  have hi : i < n := by rw [← h2]; exact (List.getElem?_eq_some_iff.mp e1).1
  rw [List.getElem?_map, List.getElem?_range hi] at e2
  obtain rfl := Option.some.inj e2
  exact (h3 i t e1).2
section
variable {P : Program} {w : World} {K : PySem.W.Frag} {mg : Str → Option Value} {base : Heap}
/-! ### left_over -/
abbrev sLeft : Stmt := top 7
def spLeft : Sp := fun vs H Q _ => ∃ (a : Addr) (l : List Nat) (size : Nat), vs = [.ref a, .int (size : Int)] ∧ H a = some (.lst (nV l)) ∧ 1 ≤ size ∧ size ≤ 1000 ∧ l.length ≤ 1000 ∧
  ∀ (H' : Hp) (p : Addr), Same H H' → H p = none → H' p = some (.lst (nV ((Kh434.sortDescending l).drop (l.length / size * size)))) → Q (.ref p) H'
theorem scLeft : FnScope ["stems", "size"] ["stems", "size"] (defScope sLeft) := ⟨rfl, rfl, rfl, by decide +kernel, rfl, by decide +kernel, by decide +kernel⟩
theorem ok_left (G : GF K mg "left_over" sLeft) (B : Blt mg) (DL : Def P w K mg base 1 "from_longest" ["stems"] spLong) : Def P w K mg base 2 "left_over" ["stems", "size"] spLeft := by
  refine def_of G scLeft (fun _ _ _ _ _ _ us hl => match us, hl with | [_, _], _ => rfl) (fun vs H Q E h => ?_) fun f cdv A outer s H vs Q E hr h => ?_
  · obtain ⟨a, l, size, rfl, _⟩ := h
    rfl
  · obtain ⟨a, l, size, rfl, ha, z1, z2, z3, q⟩ := h
    refine ⟨_, pss_one (ps_ret (pe_slice sl_list (pe_def DL hr (pa_cons (pv 0) pa_nil))
      (po_some (pe_op op_mul (pe_op op_fdiv (pe_callB call_len_seq (by rfl) B.len PySem.boot_len (pa_cons (pv 0) pa_nil)) (pv 1)) (pv 1))) po_none)), ?_⟩
    refine ⟨_, rfl, a, l, rfl, ha, fun o ho => ?_⟩
    have s1 : Same H (upd H o (.lst (nV (Kh434.sortDescending l)))) := Same.new ho
    have hq : l.length / size ≤ 1000 := Nat.le_trans (Nat.div_le_self _ _) z3
    have e1 : ((nV l).length : Int) / (size : Int) = ((l.length / size : Nat) : Int) := by rw [nV_length, Int.natCast_ediv]
    refine ⟨_, rfl, a, _, rfl, .inl (SqL.of (s1 _ _ ha)), _, rfl, _, _, rfl, rfl, ⟨by omega, by omega⟩, _, rfl, _, _, rfl, rfl, .inr ⟨by omega, by omega⟩, _, rfl, o, _, rfl, SqL.of upd_same, fun p hp => ?_⟩
    rw [e1, ← Int.natCast_mul, cut_from]
    exact q _ p (s1.trans (Same.new hp)) (s1.free hp) upd_same
/-! ### best_value -/
abbrev sBv : Stmt := top 8
def spBv : Sp := fun vs H Q _ => ∃ (p a : Addr) (tbl : List (Nat × Nat)) (l : List Nat) (size : Nat), vs = [.ref p, .ref a, .int (size : Int)] ∧ TabAt H p tbl ∧ H a = some (.lst (nV l)) ∧ 1 ≤ size ∧ size ≤ 1000 ∧ l.length ≤ 1000 ∧
  ∀ H' : Hp, Same H H' → Q (.int (bv tbl l size : Nat)) H'
theorem scBv : FnScope ["prices", "stems", "size", "bunch"] ["prices", "stems", "size"] (defScope sBv) := ⟨rfl, rfl, rfl, by decide +kernel, rfl, by decide +kernel, by decide +kernel⟩
theorem ok_bv (G : GF K mg "best_value" sBv) (B : Blt mg) (DB : Def P w K mg base 2 "best_bunches" ["stems", "size"] spBest) (DV : Def P w K mg base 2 "bunch_value" ["prices", "bunch"] spBval) : Def P w K mg base 3 "best_value" ["prices", "stems", "size"] spBv := by
  refine def_of G scBv (fun _ _ _ _ _ _ us hl => match us, hl with | [_, _, _], _ => rfl) (fun vs H Q E h => ?_) fun f cdv A outer s H vs Q E hr h => ?_
  · obtain ⟨p, a, tbl, l, size, rfl, _⟩ := h
    rfl
  · obtain ⟨p, a, tbl, l, size, rfl, hp, ha, z1, z2, z3, q⟩ := h
    refine ⟨_, pss_one (ps_ret (pe_callB (cr_sum rfl) (by rfl) B.sum PyProof.Rows.boot_sum (pa_cons (pe_lc (own := [("bunch", 3)]) (g := gName 3) (tt := tYes) rfl scBv.nd (pi_list (pe_def DB hr (pa_cons (pv 1) (pa_cons (pv 2) pa_nil))))
      (blkOk_by (N := ["prices", "stems", "size", "bunch"]) (sc := defScope sBv) (by decide +kernel)) (fun _ _ _ _ _ => pg_name (i := 3) scBv.nd rfl (Or.inl rfl)) (fun _ _ _ _ _ => pts_nil)
      (fun _ _ _ _ _ => pe_def DV hr (pa_cons (pv 0) (pa_cons (pv 3) pa_nil)))) pa_nil))), ?_⟩
    refine ⟨_, rfl, _, rfl, a, l, size, rfl, ha, z1, z2, z3, fun H1 b s1 hb hL => ?_⟩
    obtain ⟨ts, ht1, ht2, ht3⟩ := hL
    refine ⟨b, rfl, ⟨_, SqL.of ht1⟩, fun D hD => ?_⟩
    refine lc_list (xs := ts.map V.ref) (fun i H2 => Same H1 H2 ∧ H2 D = some (.lst (nV (((Kh434.pieces l.length size (Kh434.sortDescending l)).take i).map (bval tbl))))) ⟨Same.new hD, upd_same⟩ (fun i H2 _ h => SqL.of (h.1 _ _ ht1)) ?_ ?_
    · rintro i y H2 hi ⟨sm, hD2⟩
      obtain ⟨t, ht, rfl⟩ := ref_of hi
      obtain ⟨bu, hbu, htb⟩ := ListsAt.item ht2 ht3 ht
      have hsz := pieces_size _ _ (List.mem_of_getElem? hbu)
      refine ⟨rfl, yes_of ?_⟩
      refine ⟨_, rfl, _, rfl, p, t, tbl, bu, rfl, (hp.same s1).same sm, sm _ _ htb, fun e => ?_, by omega, _, hD2, ?_, ?_, ?_⟩
      · rw [e] at hsz
        exact absurd hsz.1 (by show ¬ 0 = size; omega)
      · rw [nV_length, List.length_map, List.length_take]
        refine small_line (Nat.le_trans (Nat.min_le_right _ _) ?_)
        rw [pieces_range (by omega) _ _ (by rw [sort_length]; exact Nat.le_refl _), List.length_map, List.length_range, sort_length]
        exact Nat.le_trans (Nat.div_le_self _ _) z3
      · intro c o e
        have nc : c ≠ D := fun z => by rw [z] at e; rw [e] at hD; cases hD
        rw [upd_ne nc]
        exact sm _ _ e
      · rw [upd_same, take_more hbu, List.map_append, nV_append]
        rfl
    · rintro H2 ⟨sm, hD2⟩
      rw [List.length_map, ht2, List.take_length] at hD2
      refine ⟨D, iL ((Kh434.pieces l.length size (Kh434.sortDescending l)).map (bval tbl)), rfl, SqL.of hD2, ?_⟩
      rw [iL_sum]
      exact q H2 (s1.trans sm)
/-! ### stems_in, stems_outside -/
abbrev sIn : Stmt := top 9
abbrev sOut : Stmt := top 10
def inOf (l : List Nat) (mask : Nat) : List Nat := ((List.range l.length).filter (Kh434.isMember mask)).map (Kh434.elementAt l)
def outOf (l : List Nat) (mask : Nat) : List Nat := ((List.range l.length).filter fun i => !Kh434.isMember mask i).map (Kh434.elementAt l)
def spPick (g : List Nat → Nat → List Nat) : Sp := fun vs H Q _ => ∃ (a : Addr) (l : List Nat) (mask : Nat), vs = [.ref a, .int (mask : Int)] ∧ H a = some (.lst (nV l)) ∧ l.length ≤ 1000 ∧
  ∀ (H' : Hp) (p : Addr), Same H H' → H p = none → H' p = some (.lst (nV (g l mask))) → Q (.ref p) H'
theorem scIn : FnScope ["stems", "mask", "place"] ["stems", "mask"] (defScope sIn) := ⟨rfl, rfl, rfl, by decide +kernel, rfl, by decide +kernel, by decide +kernel⟩
theorem scOut : FnScope ["stems", "mask", "place"] ["stems", "mask"] (defScope sOut) := ⟨rfl, rfl, rfl, by decide +kernel, rfl, by decide +kernel, by decide +kernel⟩
/-- one place more of a comprehension under a test -/
theorem pick_step (l : List Nat) (f : Nat → Bool) (i : Nat) : ((List.range (i + 1)).filter f).map (Kh434.elementAt l) = if f i = true then ((List.range i).filter f).map (Kh434.elementAt l) ++ [Kh434.elementAt l i] else ((List.range i).filter f).map (Kh434.elementAt l) := by
  rw [List.range_succ, List.filter_append, List.filter_cons, List.filter_nil]
  split
  · rw [List.map_append]; rfl
  · rw [List.append_nil]
theorem pick_len (l : List Nat) (f : Nat → Bool) (i : Nat) : (((List.range i).filter f).map (Kh434.elementAt l)).length ≤ i := by
  rw [List.length_map]
  exact Nat.le_trans (List.length_filter_le _ _) (by rw [List.length_range]; exact Nat.le_refl _)
theorem elem_at {l : List Nat} {i : Nat} (h : i < l.length) : l[i]? = some (Kh434.elementAt l i) := by
  unfold Kh434.elementAt
  rw [List.getD_eq_getElem?_getD, List.getElem?_eq_getElem h]
  rfl
theorem ok_in (G : GF K mg "stems_in" sIn) (B : Blt mg) : Def P w K mg base 1 "stems_in" ["stems", "mask"] (spPick inOf) := by
  refine def_of G scIn (fun _ _ _ _ _ _ us hl => match us, hl with | [_, _], _ => rfl) (fun vs H Q E h => ?_) fun f cdv A outer s H vs Q E hr h => ?_
  · obtain ⟨a, l, mask, rfl, _⟩ := h
    rfl
  · obtain ⟨a, l, mask, rfl, ha, z, q⟩ := h
    refine ⟨_, pss_one (ps_ret (pe_lc (own := [("place", 2)]) (g := gName 2) rfl scIn.nd (pi_range1 rfl B.range (pa_cons (pe_callB call_len_seq (by rfl) B.len PySem.boot_len (pa_cons (pv 0) pa_nil)) pa_nil))
      (blkOk_by (N := ["stems", "mask", "place"]) (sc := defScope sIn) (by decide +kernel)) (fun _ _ _ _ _ => pg_name (i := 2) scIn.nd rfl (Or.inl rfl))
      (fun _ _ _ _ _ => pts_one (pt_cmpR op_eq (pe_op op_and (pe_op op_shr (pv 1) (pv 2)) pe_int) pe_int (nomark _))) (fun _ _ _ _ _ => pe_ix (r := rIxL K) ix_list (pv 0) (pv 2) (fun _ _ => rfl)))), ?_⟩
    refine ⟨_, rfl, a, _, rfl, .inl (SqL.of ha), _, rfl, ?_, ?_, fun D hD => ?_⟩
    · rw [nV_length]; omega
    · rw [nV_length]; omega
    · have en : (((nV l).length : Int)).toNat = l.length := by rw [nV_length, Int.toNat_natCast]
      rw [en]
      refine lc_range (lo := 0) (n := l.length) (fun i H2 => Same H H2 ∧ H2 D = some (.lst (nV (((List.range i).filter (Kh434.isMember mask)).map (Kh434.elementAt l))))) ⟨Same.new hD, upd_same⟩ ?_ ?_
      · rintro i H2 hi ⟨sm, hD2⟩
        refine ⟨rfl, _, rfl, _, rfl, _, _, rfl, rfl, by omega, _, _, rfl, rfl, rfl, _, rfl, ?_⟩
        refine ite2 (fun c => ?_) fun c => ?_
        · have cm : Kh434.isMember mask i = true := by
            have e : Builtin.bitAnd ((mask : Int) / 2 ^ ((0 : Int) + (i : Int)).toNat) 1 = 1 := V.int.inj (of_decide_eq_true c)
            rw [bit_is] at e
            unfold Kh434.isMember
            rw [beq_iff_eq]
            omega
          refine ⟨_, rfl, _, rfl, a, _, _, _, rfl, rfl, SqL.of (sm _ _ ha), at_of (j := i) (by omega) (nV_at (elem_at hi)), _, hD2, ?_, ?_, ?_⟩
          · rw [nV_length]
            exact small_line (by have := pick_len l (Kh434.isMember mask) i; omega)
          · intro b o e
            have nb : b ≠ D := fun z => by rw [z] at e; rw [e] at hD; cases hD
            rw [upd_ne nb]
            exact sm _ _ e
          · rw [upd_same, pick_step, if_pos cm, nV_append]
            rfl
        · have cm : ¬ Kh434.isMember mask i = true := fun e => c (decide_eq_true (show V.int (Builtin.bitAnd ((mask : Int) / 2 ^ ((0 : Int) + (i : Int)).toNat) 1) = V.int 1 by
            unfold Kh434.isMember at e
            rw [beq_iff_eq] at e
            rw [bit_is, e]; rfl))
          exact ⟨sm, by rw [hD2, pick_step, if_neg cm]⟩
      · rintro H2 ⟨sm, hD2⟩
        exact q H2 D sm hD hD2
theorem ok_out (G : GF K mg "stems_outside" sOut) (B : Blt mg) : Def P w K mg base 1 "stems_outside" ["stems", "mask"] (spPick outOf) := by
  refine def_of G scOut (fun _ _ _ _ _ _ us hl => match us, hl with | [_, _], _ => rfl) (fun vs H Q E h => ?_) fun f cdv A outer s H vs Q E hr h => ?_
  · obtain ⟨a, l, mask, rfl, _⟩ := h
    rfl
  · obtain ⟨a, l, mask, rfl, ha, z, q⟩ := h
    refine ⟨_, pss_one (ps_ret (pe_lc (own := [("place", 2)]) (g := gName 2) rfl scOut.nd (pi_range1 rfl B.range (pa_cons (pe_callB call_len_seq (by rfl) B.len PySem.boot_len (pa_cons (pv 0) pa_nil)) pa_nil))
      (blkOk_by (N := ["stems", "mask", "place"]) (sc := defScope sOut) (by decide +kernel)) (fun _ _ _ _ _ => pg_name (i := 2) scOut.nd rfl (Or.inl rfl))
      (fun _ _ _ _ _ => pts_one (pt_cmpR op_eq (pe_op op_and (pe_op op_shr (pv 1) (pv 2)) pe_int) pe_int (nomark _))) (fun _ _ _ _ _ => pe_ix (r := rIxL K) ix_list (pv 0) (pv 2) (fun _ _ => rfl)))), ?_⟩
    refine ⟨_, rfl, a, _, rfl, .inl (SqL.of ha), _, rfl, ?_, ?_, fun D hD => ?_⟩
    · rw [nV_length]; omega
    · rw [nV_length]; omega
    · have en : (((nV l).length : Int)).toNat = l.length := by rw [nV_length, Int.toNat_natCast]
      rw [en]
      refine lc_range (lo := 0) (n := l.length) (fun i H2 => Same H H2 ∧ H2 D = some (.lst (nV (((List.range i).filter fun i => !Kh434.isMember mask i).map (Kh434.elementAt l))))) ⟨Same.new hD, upd_same⟩ ?_ ?_
      · rintro i H2 hi ⟨sm, hD2⟩
        refine ⟨rfl, _, rfl, _, rfl, _, _, rfl, rfl, by omega, _, _, rfl, rfl, rfl, _, rfl, ?_⟩
        refine ite2 (fun c => ?_) fun c => ?_
        · have cm : (!Kh434.isMember mask i) = true := by
            have e : Builtin.bitAnd ((mask : Int) / 2 ^ ((0 : Int) + (i : Int)).toNat) 1 = 0 := V.int.inj (of_decide_eq_true c)
            rw [bit_is] at e
            unfold Kh434.isMember
            rw [Bool.not_eq_true', beq_eq_false_iff_ne]
            omega
          refine ⟨_, rfl, _, rfl, a, _, _, _, rfl, rfl, SqL.of (sm _ _ ha), at_of (j := i) (by omega) (nV_at (elem_at hi)), _, hD2, ?_, ?_, ?_⟩
          · rw [nV_length]
            exact small_line (by have := pick_len l (fun i => !Kh434.isMember mask i) i; omega)
          · intro b o e
            have nb : b ≠ D := fun z => by rw [z] at e; rw [e] at hD; cases hD
            rw [upd_ne nb]
            exact sm _ _ e
          · rw [upd_same, pick_step, if_pos cm, nV_append]
            rfl
        · have cm : ¬ (!Kh434.isMember mask i) = true := fun e => c (decide_eq_true (show V.int (Builtin.bitAnd ((mask : Int) / 2 ^ ((0 : Int) + (i : Int)).toNat) 1) = V.int 0 by
            unfold Kh434.isMember at e
            rw [Bool.not_eq_true', beq_eq_false_iff_ne] at e
            have : mask / 2 ^ i % 2 = 0 := by omega
            rw [bit_is, this]; rfl))
          exact ⟨sm, by rw [hD2, pick_step, if_neg cm]⟩
      · rintro H2 ⟨sm, hD2⟩
        exact q H2 D sm hD hD2
end
end Sb

namespace Sb
open PySem PySem.Spec PyProof.Rows L2
section
variable {P : Program} {w : World} {K : PySem.W.Frag} {mg : Str → Option Value} {base : Heap}
/-! ### groups_of -/
abbrev sGroups : Stmt := top 11
def grp (stems grouping : List Nat) (g : Nat) : List Nat := ((stems.zip grouping).filter fun p => p.2 == g).map (·.1)
theorem groups_grp (stems grouping : List Nat) : groups stems grouping = (List.range 9).map (grp stems grouping) := rfl
def spGroups : Sp := fun vs H Q _ => ∃ (a b : Addr) (stems grouping : List Nat), vs = [.ref a, .ref b] ∧ H a = some (.lst (nV stems)) ∧ H b = some (.lst (nV grouping)) ∧ stems.length ≤ 1000 ∧
  ∀ (H' : Hp) (p : Addr), Same H H' → H p = none → ListsAt H' p (groups stems grouping) → Q (.ref p) H'
theorem scGroups : FnScope ["stems", "grouping", "groups", "group", "length", "told"] ["stems", "grouping"] (defScope sGroups) := ⟨rfl, rfl, rfl, by decide +kernel, rfl, by decide +kernel, by decide +kernel⟩
theorem grp_step (stems grouping : List Nat) (g i : Nat) {x y : Nat} (hx : stems[i]? = some x) (hy : grouping[i]? = some y) :
    (((stems.zip grouping).take (i + 1)).filter fun p => p.2 == g).map (·.1) = if y == g then (((stems.zip grouping).take i).filter fun p => p.2 == g).map (·.1) ++ [x] else (((stems.zip grouping).take i).filter fun p => p.2 == g).map (·.1) := by
  have e : (stems.zip grouping)[i]? = some (x, y) := by rw [List.getElem?_zip_eq_some]; exact ⟨hx, hy⟩
  rw [take_more e, List.filter_append, List.filter_cons, List.filter_nil]
  split
  · rw [List.map_append]; rfl
  · rw [List.append_nil]
theorem grp_len (stems grouping : List Nat) (g i : Nat) : ((((stems.zip grouping).take i).filter fun p => p.2 == g).map (·.1)).length ≤ stems.length := by
  rw [List.length_map]
  refine Nat.le_trans (List.length_filter_le _ _) (Nat.le_trans (by rw [List.length_take]; exact Nat.min_le_right _ _) ?_)
  rw [List.length_zip]
  exact Nat.min_le_left _ _
theorem ok_groups (G : GF K mg "groups_of" sGroups) (B : Blt mg) (c9 : ∃ t, mg "MOST_GROUPS" = some (.int 9 t)) : Def P w K mg base 1 "groups_of" ["stems", "grouping"] spGroups := by
  refine def_of G scGroups (fun _ _ _ _ _ _ us hl => match us, hl with | [_, _], _ => rfl) (fun vs H Q E h => ?_) fun f cdv A outer s H vs Q E hr h => ?_
  · obtain ⟨a, b, stems, grouping, rfl, _⟩ := h
    rfl
  · obtain ⟨a, b, stems, grouping, rfl, ha, hb, z, q⟩ := h
    refine ⟨_, pss_cons (ps_set (i := 2) scGroups.nd rfl (Or.inl rfl) (pe_lst pa_nil))
      (pss_cons (ps_for PassesOwn.never rfl (pi_range1 rfl B.range (pa_cons (pe_k c9) pa_nil)) (pg_name (i := 3) scGroups.nd rfl (Or.inr rfl))
        (pss_one (ps_expr (pe_bm PySem.F.plainAttrs_list PySem.F.slot_list_append PySem.F.type_list_append mt_append (pv 2) (pa_cons
          (pe_lc (own := [("length", 4), ("told", 5)]) (g := gTup K 2 (gCons (gName 4) (gCons (gName 5) gNil))) rfl scGroups.nd (pi_zip (by rfl) B.zip (pa_cons (pv 0) (pa_cons (pv 1) pa_nil)))
            (blkOk_by (N := ["stems", "grouping", "groups", "group", "length", "told"]) (sc := defScope sGroups) (by decide +kernel))
            (fun _ _ _ _ _ => pg_tup rfl (pgs_cons (pg_name (i := 4) scGroups.nd rfl (Or.inl rfl)) (pgs_cons (pg_name (i := 5) scGroups.nd rfl (Or.inl rfl)) pgs_nil)))
            (fun _ _ _ _ _ => pts_one (pt_cmpR op_eq (pv 5) (pv 3) (nomark _))) (fun _ _ _ _ _ => pv 4)) pa_nil)))))
      (pss_one (ps_ret (pv 2)))), ?_⟩
    refine ⟨Nat.zero_le _, fun gq hq => ?_⟩
    have sq : Same H (upd H gq (.lst [])) := Same.new hq
    refine ⟨9, rfl, by decide, by decide, for_range (lo := 0) (n := 9) (fun i σ H' => ∃ v : Option V, σ = [some (.ref a), some (.ref b), some (.ref gq), v, none, none] ∧ Same H H' ∧ Fill H' gq i (grp stems grouping))
      ⟨none, rfl, sq, Fill.nil upd_same⟩ ?_ ?_⟩
    · rintro i σ H1 hi ⟨v, rfl, s1, F1⟩
      have hgq : ∃ acc, H1 gq = some (.lst acc) := let ⟨ts, e, _⟩ := F1; ⟨_, e⟩
      obtain ⟨acc0, hacc0⟩ := hgq
      refine ⟨_, rfl, .inl ⟨rfl, _, SqL.of hacc0⟩, _, rfl, _, rfl, a, b, nV stems, nV grouping, rfl, SqL.of (s1 _ _ ha), SqL.of (s1 _ _ hb), fun D hD => ?_⟩
      refine lc_it (walk_zip (xs := nV stems) (ys := nV grouping) rfl) (fun j H2 => Same H1 H2 ∧ H2 D = some (.lst (nV ((((stems.zip grouping).take j).filter fun p => p.2 == i).map (·.1))))) ⟨Same.new hD, upd_same⟩ (fun j H2 _ h => ⟨SqL.of (h.1 _ _ (s1 _ _ ha)), SqL.of (h.1 _ _ (s1 _ _ hb))⟩) ?_ ?_
      · rintro j y H2 H2' hj ⟨sm, hD2⟩ ⟨T, x', y', rfl, hT, rfl, hx, hy⟩
        obtain ⟨x, hx1, rfl⟩ := nV_of hx
        obtain ⟨g, hy1, rfl⟩ := nV_of hy
        have nT : D ≠ T := fun e => by rw [e, hT] at hD2; cases hD2
        have hD3 : upd H2 T (.tup [V.int (x : Int), V.int (g : Int)]) D = some (.lst (nV ((((stems.zip grouping).take j).filter fun p => p.2 == i).map (·.1)))) := by rw [upd_ne nT]; exact hD2
        have sm3 : Same H1 (upd H2 T (.tup [V.int (x : Int), V.int (g : Int)])) := sm.trans (Same.new hT)
        refine ⟨T, _, rfl, SqT.of upd_same, rfl, _, _, rfl, _, _, rfl, rfl, ?_⟩
        refine ⟨rfl, _, rfl, _, rfl, rfl, _, rfl, ite2 (fun c => ?_) fun c => ?_⟩
        · have cg : (g == i) = true := by
            have e : (g : Int) = (0 : Int) + (i : Int) := V.int.inj (of_decide_eq_true c)
            rw [beq_iff_eq]; omega
          refine ⟨_, rfl, _, hD3, ?_, ?_, ?_⟩
          · rw [nV_length]
            exact small_line (Nat.le_trans (grp_len _ _ _ _) z)
          · intro c' o e
            have nb : c' ≠ D := fun z => by rw [z] at e; rw [e] at hD; cases hD
            rw [upd_ne nb]
            exact sm3 _ _ e
          · rw [upd_same, grp_step stems grouping i j hx1 hy1, if_pos cg, nV_append]
            rfl
        · have cg : ¬ (g == i) = true := fun e => c (decide_eq_true (by
            rw [beq_iff_eq] at e
            show V.int (g : Int) = V.int ((0 : Int) + (i : Int))
            rw [e, Int.zero_add]))
          exact ⟨sm3, by rw [hD3, grp_step stems grouping i j hx1 hy1, if_neg cg]⟩
      · rintro H2 ⟨sm, hD2⟩
        have hn : min (nV stems).length (nV grouping).length = (stems.zip grouping).length := by rw [nV_length, nV_length, List.length_zip]
        rw [hn, List.take_length] at hD2
        have nDq : D ≠ gq := fun e => by rw [e, hacc0] at hD; cases hD
        obtain ⟨acc, h1, h2, F2⟩ := (F1.same sm).snoc hD2 nDq
        refine ⟨gq, acc, _, rfl, rfl, h1, ?_, _, rfl, ?_, F2⟩
        · rw [h2]; exact small_line (by omega)
        · intro c o e
          have nb : c ≠ gq := fun z => by rw [z] at e; rw [e] at hq; cases hq
          rw [upd_ne nb]
          exact sm _ _ (s1 _ _ e)
    · rintro σ H1 ⟨v, rfl, s1, F1⟩
      refine ⟨_, rfl, ?_⟩
      exact q H1 gq s1 hq F1.lists
/-! ### without, trimmed -/
abbrev sWithout : Stmt := top 12
def spWithout : Sp := fun vs H Q _ => ∃ (a : Addr) (l : List Nat) (i : Nat), vs = [.ref a, .int (i : Int)] ∧ H a = some (.lst (nV l)) ∧ l.length ≤ 1000 ∧
  ∀ (H' : Hp) (p : Addr), Same H H' → H p = none → H' p = some (.lst (nV (l.eraseIdx i))) → Q (.ref p) H'
theorem scWithout : FnScope ["stems", "place"] ["stems", "place"] (defScope sWithout) := ⟨rfl, rfl, rfl, by decide +kernel, rfl, by decide +kernel, by decide +kernel⟩
theorem ok_without (G : GF K mg "without" sWithout) : Def P w K mg base 1 "without" ["stems", "place"] spWithout := by
  refine def_of G scWithout (fun _ _ _ _ _ _ us hl => match us, hl with | [_, _], _ => rfl) (fun vs H Q E h => ?_) fun f cdv A outer s H vs Q E hr h => ?_
  · obtain ⟨a, l, i, rfl, _⟩ := h
    rfl
  · obtain ⟨a, l, i, rfl, ha, z, q⟩ := h
    refine ⟨_, pss_one (ps_ret (pe_op op_cat (pe_slice sl_list (pv 0) po_none (po_some (pv 1))) (pe_slice sl_list (pv 0) (po_some (pe_op op_add (pv 1) pe_int)) po_none))), ?_⟩
    refine ⟨_, rfl, _, rfl, _, rfl, a, _, rfl, SqL.of ha, fun p1 hp1 => ?_⟩
    rw [cut_to]
    have s1 : Same H (upd H p1 (.lst (nV (l.take i)))) := Same.new hp1
    refine ⟨_, rfl, _, rfl, _, _, rfl, rfl, _, rfl, a, _, rfl, SqL.of (s1 _ _ ha), fun p2 hp2 => ?_⟩
    have e2 : cutV (nV l) (some ((i : Int) + 1)) none = nV (l.drop (i + 1)) := cut_from l (i + 1)
    rw [e2]
    have s2 := Same.new (o := .lst (nV (l.drop (i + 1)))) hp2
    refine ⟨p1, p2, _, _, rfl, rfl, s2 _ _ upd_same, upd_same, ?_, fun p hp => ?_⟩
    · rw [nV_length, nV_length, List.length_take, List.length_drop]
      exact Nat.le_of_lt (small_line (by omega))
    · have s3 := (s1.trans s2).trans (Same.new (o := .lst (nV (l.take i) ++ nV (l.drop (i + 1)))) hp)
      refine q _ p s3 ((s1.trans s2).free hp) ?_
      rw [upd_same, ← nV_append, List.eraseIdx_eq_take_drop_succ]
abbrev sTrimmed : Stmt := top 13
def spTrimmed : Sp := fun vs H Q _ => ∃ (a : Addr) (l : List Nat) (i n : Nat), vs = [.ref a, .int (i : Int), .int (n : Int)] ∧ H a = some (.lst (nV l)) ∧ l.length ≤ 1000 ∧ i < l.length ∧
  ∀ (H' : Hp) (p : Addr), Same H H' → H p = none → H' p = some (.lst (nV (l.set i n))) → Q (.ref p) H'
theorem scTrimmed : FnScope ["stems", "place", "length"] ["stems", "place", "length"] (defScope sTrimmed) := ⟨rfl, rfl, rfl, by decide +kernel, rfl, by decide +kernel, by decide +kernel⟩
theorem ok_trimmed (G : GF K mg "trimmed" sTrimmed) : Def P w K mg base 1 "trimmed" ["stems", "place", "length"] spTrimmed := by
  refine def_of G scTrimmed (fun _ _ _ _ _ _ us hl => match us, hl with | [_, _, _], _ => rfl) (fun vs H Q E h => ?_) fun f cdv A outer s H vs Q E hr h => ?_
  · obtain ⟨a, l, i, n, rfl, _⟩ := h
    rfl
  · obtain ⟨a, l, i, n, rfl, ha, z, hi, q⟩ := h
    refine ⟨_, pss_one (ps_ret (pe_op op_cat (pe_op op_cat (pe_slice sl_list (pv 0) po_none (po_some (pv 1))) (pe_lst (pa_cons (pv 2) pa_nil))) (pe_slice sl_list (pv 0) (po_some (pe_op op_add (pv 1) pe_int)) po_none))), ?_⟩
    refine ⟨_, rfl, _, rfl, _, rfl, a, _, rfl, SqL.of ha, fun p1 hp1 => ?_⟩
    rw [cut_to]
    have s1 : Same H (upd H p1 (.lst (nV (l.take i)))) := Same.new hp1
    refine ⟨_, rfl, by show 1 ≤ sizeLine; decide, fun p2 hp2 => ?_⟩
    have s2 := Same.new (o := .lst [V.int (n : Int)]) hp2
    refine ⟨p1, p2, _, _, rfl, rfl, s2 _ _ upd_same, upd_same, ?_, fun p3 hp3 => ?_⟩
    · rw [nV_length, List.length_take]
      exact Nat.le_of_lt (small_line (by show min i l.length + 1 ≤ 1000; omega))
    · have s3 := Same.new (o := .lst (nV (l.take i) ++ [V.int (n : Int)])) hp3
      have s13 := (s1.trans s2).trans s3
      refine ⟨_, rfl, _, rfl, _, _, rfl, rfl, _, rfl, a, _, rfl, SqL.of (s13 _ _ ha), fun p4 hp4 => ?_⟩
      have e2 : cutV (nV l) (some ((i : Int) + 1)) none = nV (l.drop (i + 1)) := cut_from l (i + 1)
      rw [e2]
      have s4 := Same.new (o := .lst (nV (l.drop (i + 1)))) hp4
      refine ⟨p3, p4, _, _, rfl, rfl, s4 _ _ upd_same, upd_same, ?_, fun p hp => ?_⟩
      · rw [List.length_append, nV_length, nV_length, List.length_take, List.length_drop]
        exact Nat.le_of_lt (small_line (by show min i l.length + 1 + (l.length - (i + 1)) ≤ 1000; omega))
      · have s5 := (s13.trans s4).trans (Same.new (o := .lst (nV (l.take i) ++ [V.int (n : Int)] ++ nV (l.drop (i + 1)))) hp)
        refine q _ p s5 ((s13.trans s4).free hp) ?_
        rw [upd_same]
        have e3 : nV (l.set i n) = nV (l.take i) ++ [V.int (n : Int)] ++ nV (l.drop (i + 1)) := by
          rw [List.set_eq_take_append_cons_drop, if_pos hi, nV_append, List.append_assoc]
          rfl
        rw [e3]
end
end Sb

namespace Sb
open PySem PySem.Spec PyProof.Rows L2
/-! ### the stock and the desk as they lie -/
structure Own where
  a : Addr
  l : Addr
  p : Addr
def sF (size : Nat) (l p : Addr) (sold rev : Nat) : List (Str × V) := [("size", .int (size : Int)), ("stems", .ref l), ("prices", .ref p), ("sold", .int (sold : Int)), ("revenue", .int (rev : Int))]
theorem lookA {k : Str} {v : V} {r : List (Str × V)} : List.lookup k ((k, v) :: r) = some v := by
  have e : (k == k) = true := beq_self_eq_true k
  simp only [List.lookup, e]
theorem lookB {k g : Str} {v : V} {r : List (Str × V)} (h : (k == g) = false) : List.lookup k ((g, v) :: r) = List.lookup k r := by
  simp only [List.lookup, h]
theorem putA {f : Str} {v x : V} {r : List (Str × V)} : putF f v ((f, x) :: r) = (f, v) :: r := if_pos rfl
theorem putB {f g : Str} {v x : V} {r : List (Str × V)} (h : ¬ g = f) : putF f v ((g, x) :: r) = (g, x) :: putF f v r := if_neg h
section
variable {size : Nat} {l p : Addr} {sold rev : Nat}
theorem sF_size : (sF size l p sold rev).lookup ("size" : Str) = some (.int (size : Int)) := lookA
theorem sF_stems : (sF size l p sold rev).lookup ("stems" : Str) = some (.ref l) := (lookB (by decide +kernel)).trans lookA
theorem sF_prices : (sF size l p sold rev).lookup ("prices" : Str) = some (.ref p) := (lookB (by decide +kernel)).trans ((lookB (by decide +kernel)).trans lookA)
theorem sF_sold : (sF size l p sold rev).lookup ("sold" : Str) = some (.int (sold : Int)) := (lookB (by decide +kernel)).trans ((lookB (by decide +kernel)).trans ((lookB (by decide +kernel)).trans lookA))
theorem sF_rev : (sF size l p sold rev).lookup ("revenue" : Str) = some (.int (rev : Int)) := (lookB (by decide +kernel)).trans ((lookB (by decide +kernel)).trans ((lookB (by decide +kernel)).trans ((lookB (by decide +kernel)).trans lookA)))
theorem pF_size (n : Nat) : putF "size" (.int (n : Int)) (sF size l p sold rev) = sF n l p sold rev := putA
theorem pF_stems (q : Addr) : putF "stems" (.ref q) (sF size l p sold rev) = sF size q p sold rev := (putB (by decide +kernel)).trans (congrArg _ putA)
theorem pF_prices (q : Addr) : putF "prices" (.ref q) (sF size l p sold rev) = sF size l q sold rev := (putB (by decide +kernel)).trans (congrArg _ ((putB (by decide +kernel)).trans (congrArg _ putA)))
theorem pF_sold (n : Nat) : putF "sold" (.int (n : Int)) (sF size l p sold rev) = sF size l p n rev := (putB (by decide +kernel)).trans (congrArg _ ((putB (by decide +kernel)).trans (congrArg _ ((putB (by decide +kernel)).trans (congrArg _ putA)))))
theorem pF_rev (n : Nat) : putF "revenue" (.int (n : Int)) (sF size l p sold rev) = sF size l p sold n := (putB (by decide +kernel)).trans (congrArg _ ((putB (by decide +kernel)).trans (congrArg _ ((putB (by decide +kernel)).trans (congrArg _ ((putB (by decide +kernel)).trans (congrArg _ putA)))))))
theorem pF_new (n : Nat) : putF "revenue" (.int 0) (putF "sold" (.int 0) (putF "prices" (.ref p) (putF "stems" (.ref l) (putF "size" (.int (n : Int)) [])))) = sF n l p 0 0 := by
  have e1 : putF "stems" (.ref l) (putF "size" (.int (n : Int)) []) = ([("size", .int (n : Int)), ("stems", .ref l)] : List (Str × V)) := putB (by decide +kernel)
  have e2 : putF "prices" (.ref p) ([("size", .int (n : Int)), ("stems", .ref l)] : List (Str × V)) = ([("size", .int (n : Int)), ("stems", .ref l), ("prices", .ref p)] : List (Str × V)) := (putB (by decide +kernel)).trans (congrArg _ (putB (by decide +kernel)))
  have e3 : putF "sold" (.int 0) ([("size", .int (n : Int)), ("stems", .ref l), ("prices", .ref p)] : List (Str × V)) = ([("size", .int (n : Int)), ("stems", .ref l), ("prices", .ref p), ("sold", .int 0)] : List (Str × V)) := (putB (by decide +kernel)).trans (congrArg _ ((putB (by decide +kernel)).trans (congrArg _ (putB (by decide +kernel)))))
  rw [e1, e2, e3]
  exact (putB (by decide +kernel)).trans (congrArg _ ((putB (by decide +kernel)).trans (congrArg _ ((putB (by decide +kernel)).trans (congrArg _ (putB (by decide +kernel)))))))
end
/-- the stock s stands at o -/
structure StAt (C : Addr) (H : Hp) (o : Own) (s : Kh434.Stock) : Prop where
  obj : ∃ dx, H o.a = some (.ins C dx (sF s.bunchSize o.l o.p s.sold s.revenue))
  stems : H o.l = some (.lst (nV s.stems))
  tab : TabAt H o.p s.priceTable
  ne : o.l ≠ o.p
theorem StAt.same {C : Addr} {H H' : Hp} {o : Own} {s : Kh434.Stock} (h : StAt C H o s) (k : Same H H') : StAt C H' o s :=
  ⟨let ⟨dx, e⟩ := h.obj; ⟨dx, k _ _ e⟩, k _ _ h.stems, h.tab.same k, h.ne⟩
theorem StAt.al {C : Addr} {H : Hp} {o : Own} {s : Kh434.Stock} (h : StAt C H o s) : o.a ≠ o.l := let ⟨dx, e⟩ := h.obj; ne_of e h.stems (by intro z; cases z)
theorem StAt.ap {C : Addr} {H : Hp} {o : Own} {s : Kh434.Stock} (h : StAt C H o s) : o.a ≠ o.p := let ⟨dx, e⟩ := h.obj; let ⟨ts, e2, _⟩ := h.tab; ne_of e e2 (by intro z; cases z)
/-- what holds of every stock that is met -/
structure Good (s : Kh434.Stock) : Prop where
  lo : 1 ≤ s.bunchSize
  hi : s.bunchSize ≤ 5
  few : s.stems.length ≤ 9
  srt : Kh434.isSortedTable s.priceTable = true
  rows : s.priceTable.length ≤ 400
theorem Good.z {s : Kh434.Stock} (g : Good s) : s.stems.length ≤ 1000 := Nat.le_trans g.few (by decide)
theorem Good.hi2 {s : Kh434.Stock} (g : Good s) : s.bunchSize ≤ 1000 := Nat.le_trans g.hi (by decide)
/-- the classes and constants of the module -/
structure Txt (K : PySem.W.Frag) (mg : Str → Option Value) (CS CD : Addr) : Prop where
  cl : Cls K CS
  nSize : NoAttr K CS "size"
  nStems : NoAttr K CS "stems"
  nPrices : NoAttr K CS "prices"
  nSold : NoAttr K CS "sold"
  nRev : NoAttr K CS "revenue"
  clD : Cls K CD
  nStock : NoAttr K CD "stock"
  gS : mg "Stock" = some (.ref CS)
  gD : mg "Desk" = some (.ref CD)
  cNot : ∃ t, mg "NOT_THERE" = some (.int (-2) t)
  cInv : ∃ t, mg "INVALID" = some (.int (-22) t)
  cMany : ∃ t, mg "TOO_MANY" = some (.int (-28) t)
  cUndef : ∃ t, mg "UNDEFINED" = some (.int (-33) t)
  cNoSt : ∃ t, mg "NO_STOCK" = some (.int (-61) t)
  cStems : ∃ t, mg "MOST_STEMS" = some (.int 9 t)
  cSize : ∃ t, mg "MOST_SIZE" = some (.int 5 t)
  cLeast : ∃ t, mg "LEAST_LENGTH" = some (.int 10 t)
  cMost : ∃ t, mg "MOST_LENGTH" = some (.int 120 t)
  cPrice : ∃ t, mg "MOST_PRICE" = some (.int 99 t)
  b : Blt mg
/-- a row of numbers, new -/
def rV (row : List Int) : HO := .lst (row.map V.int)
/-- a query: the heap as it was, the answer new -/
def Gives (H : Hp) (Q : VK) (row : List Int) : Prop := ∀ (H' : Hp) (r : Addr), Same H H' → H r = none → H' r = some (rV row) → Q (.ref r) H'
/-- what a change of the stock may change -/
structure Moves (H H' : Hp) (o o' : Own) : Prop where
  keep : ∀ b u, H b = some u → b ≠ o.a → b ≠ o.l → b ≠ o.p → H' b = some u
  ea : o'.a = o.a
  el : o'.l = o.l ∨ H o'.l = none
  ep : o'.p = o.p ∨ H o'.p = none
def Changes (C : Addr) (H : Hp) (o : Own) (Q : VK) (c : Kh434.Call) (s : Kh434.Stock) : Prop :=
  ∀ (H' : Hp) (o' : Own) (r : Addr), StAt C H' o' (Kh434.apply s c).1 → Moves H H' o o' → H r = none → H' r = some (rV (rowOf (Kh434.apply s c).2)) → Q (.ref r) H'
theorem Moves.same {H H' : Hp} (o : Own) (k : Same H H') : Moves H H' o o := ⟨fun b u e _ _ _ => k b u e, rfl, .inl rfl, .inl rfl⟩
/-- an error: the stock stays -/
theorem Changes.err {C : Addr} {H : Hp} {o : Own} {Q : VK} {c : Kh434.Call} {s : Kh434.Stock} {row : List Int} (h : Changes C H o Q c s) (st : StAt C H o s) (e1 : (Kh434.apply s c).1 = s) (e2 : rowOf (Kh434.apply s c).2 = row) : Gives H Q row := fun H' r sm hr hrow =>
  h H' o r (by rw [e1]; exact st.same sm) (Moves.same o sm) hr (by rw [e2]; exact hrow)
theorem Gives.one {H : Hp} {Q : VK} {row : List Int} (h : Gives H Q row) {p : Addr} (hp : H p = none) : Q (.ref p) (upd H p (rV row)) := h _ p (Same.new hp) hp upd_same
theorem one_line : 1 ≤ sizeLine := by decide
section
variable {P : Program} {w : World} {K : PySem.W.Frag} {mg : Str → Option Value} {base : Heap} {CS CD : Addr}
/-! ### Stock.__init__ -/
abbrev sInitS : Stmt := inClass (top 2) 0
def spInitS (CS : Addr) : Sp := fun vs H Q _ => ∃ (x dx : Addr) (n : Nat), vs = [.ref x, .int (n : Int)] ∧ H x = some (.ins CS dx []) ∧
  ∀ (H' : Hp) (l p : Addr), H l = none → H p = none → l ≠ p → H' x = some (.ins CS dx (sF n l p 0 0)) → H' l = some (.lst []) → H' p = some (.lst []) → (∀ b u, H b = some u → b ≠ x → H' b = some u) → Q .non H'
theorem scInitS : FnScope ["self", "size"] ["self", "size"] (defScope sInitS) := ⟨rfl, rfl, rfl, by decide +kernel, rfl, by decide +kernel, by decide +kernel⟩
theorem ok_initS {f : Addr} {fd : FuncData} (F : Fun K "__init__" "Stock.__init__" sInitS f fd) (T : Txt K mg CS CD) : FnOk P w K mg base CX0 1 f fd ["self", "size"] (spInitS CS) := by
  refine F.ok scInitS (fun vs H Q E h => ?_) (fun cdv A outer s H vs Q E hr h => ?_)
  · obtain ⟨x, dx, n, rfl, _⟩ := h
    rfl
  · obtain ⟨x, dx, n, rfl, hx, k⟩ := h
    refine ⟨_, pss_cons (ps_fld (pv 0) (pv 1) rfl) (pss_cons (ps_fld (pv 0) (pe_lst pa_nil) rfl) (pss_cons (ps_fld (pv 0) (pe_lst pa_nil) rfl) (pss_cons (ps_fld (pv 0) pe_int rfl) (pss_one (ps_fld (pv 0) pe_int rfl))))), ?_⟩
    refine ⟨_, rfl, _, rfl, x, CS, dx, _, rfl, hx, T.cl, T.nSize, by show 0 < 1000; decide, ?_⟩
    refine ⟨Nat.zero_le _, fun l hl => ?_⟩
    have nlx : l ≠ x := fun e => by rw [e, upd_same] at hl; cases hl
    have hl0 : H l = none := by rw [upd_ne nlx] at hl; exact hl
    refine ⟨_, rfl, x, CS, dx, _, rfl, by rw [upd_ne nlx.symm]; exact upd_same, T.cl, T.nStems, by show 1 < 1000; decide, ?_⟩
    refine ⟨Nat.zero_le _, fun p hp => ?_⟩
    have npx : p ≠ x := fun e => by rw [e, upd_same] at hp; cases hp
    have npl : p ≠ l := fun e => by rw [e, upd_ne nlx, upd_same] at hp; cases hp
    have hp0 : H p = none := by rw [upd_ne npx, upd_ne npl, upd_ne npx] at hp; exact hp
    refine ⟨_, rfl, x, CS, dx, _, rfl, by rw [upd_ne npx.symm]; exact upd_same, T.cl, T.nPrices, by show 2 < 1000; decide, ?_⟩
    refine ⟨_, rfl, x, CS, dx, _, rfl, upd_same, T.cl, T.nSold, by show 3 < 1000; decide, ?_⟩
    refine ⟨_, rfl, x, CS, dx, _, rfl, upd_same, T.cl, T.nRev, by show 4 < 1000; decide, ?_⟩
    refine k _ l p hl0 hp0 npl.symm ?_ ?_ ?_ fun b u e nb => ?_
    · rw [upd_same]
      exact congrArg (fun q => some (HO.ins CS dx q)) (pF_new n)
    · rw [upd_ne nlx, upd_ne nlx, upd_ne nlx, upd_ne npl.symm, upd_ne nlx, upd_same]
    · rw [upd_ne npx, upd_ne npx, upd_ne npx, upd_same]
    · have nl : b ≠ l := fun z => by rw [z, hl0] at e; cases e
      have np : b ≠ p := fun z => by rw [z, hp0] at e; cases e
      rw [upd_ne nb, upd_ne nb, upd_ne nb, upd_ne np, upd_ne nb, upd_ne nl, upd_ne nb]
      exact e
/-! ### is_size, is_length -/
abbrev sIsSize : Stmt := top 28
def sizeOk (n : Nat) : Bool := decide (1 ≤ n ∧ n ≤ 5)
def lenOk (n : Nat) : Bool := decide (10 ≤ n ∧ n ≤ 120)
def spIs (g : Nat → Bool) : Sp := fun vs H Q _ => ∃ n : Nat, vs = [.int (n : Int)] ∧ Q (.bl (g n)) H
theorem scIsSize : FnScope ["size"] ["size"] (defScope sIsSize) := ⟨rfl, rfl, rfl, by decide +kernel, rfl, by decide +kernel, by decide +kernel⟩
theorem bl_eq {Q : VK} {H : Hp} {a b : Bool} (q : Q (.bl a) H) (e : a = b) : Q (.bl b) H := by rw [← e]; exact q
theorem ok_isSize (G : GF K mg "is_size" sIsSize) (T : Txt K mg CS CD) : Def P w K mg base 1 "is_size" ["size"] (spIs sizeOk) := by
  refine def_of G scIsSize (fun _ _ _ _ _ _ us hl => match us, hl with | [_], _ => rfl) (fun vs H Q E h => ?_) fun f cdv A outer s H vs Q E hr h => ?_
  · obtain ⟨n, rfl, _⟩ := h
    rfl
  · obtain ⟨n, rfl, q⟩ := h
    refine ⟨_, pss_one (ps_ret (pe_chain op_le op_le pe_int (pv 0) (pe_k T.cSize))), ?_⟩
    refine ⟨_, rfl, _, _, rfl, rfl, _, rfl, ite2 (fun c => ?_) fun c => ?_⟩
    · refine ⟨_, _, rfl, rfl, bl_eq q ?_⟩
      have c1 := of_decide_eq_true c
      unfold sizeOk
      rw [decide_eq_decide]
      omega
    · have c1 : ¬ (1 : Int) ≤ (n : Int) := fun z => c (decide_eq_true z)
      refine bl_eq q ?_
      unfold sizeOk
      rw [decide_eq_false_iff_not]
      omega
abbrev sIsLength : Stmt := top 29
theorem scIsLength : FnScope ["length"] ["length"] (defScope sIsLength) := ⟨rfl, rfl, rfl, by decide +kernel, rfl, by decide +kernel, by decide +kernel⟩
theorem ok_isLength (G : GF K mg "is_length" sIsLength) (T : Txt K mg CS CD) : Def P w K mg base 1 "is_length" ["length"] (spIs lenOk) := by
  refine def_of G scIsLength (fun _ _ _ _ _ _ us hl => match us, hl with | [_], _ => rfl) (fun vs H Q E h => ?_) fun f cdv A outer s H vs Q E hr h => ?_
  · obtain ⟨n, rfl, _⟩ := h
    rfl
  · obtain ⟨n, rfl, q⟩ := h
    refine ⟨_, pss_one (ps_ret (pe_chain op_le op_le (pe_k T.cLeast) (pv 0) (pe_k T.cMost))), ?_⟩
    refine ⟨_, rfl, _, _, rfl, rfl, _, rfl, ite2 (fun c => ?_) fun c => ?_⟩
    · refine ⟨_, _, rfl, rfl, bl_eq q ?_⟩
      have c1 := of_decide_eq_true c
      unfold lenOk
      rw [decide_eq_decide]
      omega
    · have c1 : ¬ (10 : Int) ≤ (n : Int) := fun z => c (decide_eq_true z)
      refine bl_eq q ?_
      unfold lenOk
      rw [decide_eq_false_iff_not]
      omega
end
end Sb

namespace Sb
open PySem PySem.Spec PyProof.Rows L2
/-! ### the desk -/
def dF (v : V) : List (Str × V) := [("stock", v)]
theorem dF_stock (v : V) : (dF v).lookup ("stock" : Str) = some v := lookA
theorem dF_put (v u : V) : putF "stock" u (dF v) = dF u := putA
/-! ### what stays -/
theorem TabAt.keep {H H' : Hp} {p : Addr} {tbl : List (Nat × Nat)} (h : TabAt H p tbl) (kp : ∀ u, H p = some u → H' p = some u) (kt : ∀ b xs, H b = some (.tup xs) → H' b = some (.tup xs)) : TabAt H' p tbl := by
  obtain ⟨ts, h1, h2⟩ := h
  exact ⟨ts, kp _ h1, h2.keep kt⟩
/-- a list or an object is written: tuples stay -/
theorem tup_upd {H : Hp} {a : Addr} {o u : HO} (ha : H a = some o) (n : ∀ xs, o ≠ .tup xs) : ∀ b xs, H b = some (.tup xs) → upd H a u b = some (.tup xs) := fun b xs e => by
  rw [upd_ne (ne_of e ha fun z => n xs z.symm)]
  exact e
theorem StAt.setL {C : Addr} {H : Hp} {o : Own} {s : Kh434.Stock} (h : StAt C H o s) (st : List Nat) : StAt C (upd H o.l (.lst (nV st))) o { s with stems := st } :=
  ⟨let ⟨dx, e⟩ := h.obj; ⟨dx, by rw [upd_ne h.al]; exact e⟩, upd_same, h.tab.keep (fun u e => by rw [upd_ne h.ne.symm]; exact e) (tup_upd h.stems fun xs z => by cases z), h.ne⟩
theorem Moves.setL {H : Hp} {o : Own} {u : HO} : Moves H (upd H o.l u) o o := ⟨fun b v e _ n _ => by rw [upd_ne n]; exact e, rfl, .inl rfl, .inl rfl⟩
theorem Moves.then {H H1 H2 : Hp} {o o' : Own} (m : Moves H H1 o o') (k : Same H1 H2) : Moves H H2 o o' := ⟨fun b u e n1 n2 n3 => k _ _ (m.keep b u e n1 n2 n3), m.ea, m.el, m.ep⟩
theorem upd_none {H : Hp} {a b : Addr} {o u : HO} (ha : H a = some o) (h : upd H a u b = none) : H b = none := by
  have n : b ≠ a := fun z => by rw [z, upd_same] at h; cases h
  rw [upd_ne n] at h
  exact h
section
variable {P : Program} {w : World} {K : PySem.W.Frag} {mg : Str → Option Value} {base : Heap} {CS CD : Addr}
/-! ### create -/
abbrev sCreate : Stmt := top 30
def spCreate (CS CD : Addr) : Sp := fun vs H Q _ => ∃ (d dx : Addr) (v : V) (n : Nat), vs = [.ref d, .int (n : Int)] ∧ H d = some (.ins CD dx (dF v)) ∧ (sizeOk n = false → Gives H Q [-22]) ∧
  (sizeOk n = true → ∀ (H' : Hp) (o : Own) (r : Addr), StAt CS H' o ⟨n, [], [], 0, 0⟩ → H' d = some (.ins CD dx (dF (.ref o.a))) → (∀ b u, H b = some u → b ≠ d → H' b = some u) →
    H o.a = none → H o.l = none → H o.p = none → H r = none → H' r = some (rV [0]) → Q (.ref r) H')
theorem scCreate : FnScope ["desk", "size"] ["desk", "size"] (defScope sCreate) := ⟨rfl, rfl, rfl, by decide +kernel, rfl, by decide +kernel, by decide +kernel⟩
theorem ok_create {fI : Addr} {fdI : FuncData} (G : GF K mg "create" sCreate) (T : Txt K mg CS CD) (DS : Def P w K mg base 1 "is_size" ["size"] (spIs sizeOk)) (M : Mk K CS fI) (FI : FnOk P w K mg base CX0 1 fI fdI ["self", "size"] (spInitS CS)) (bI : Binds K fdI ["self", "size"] []) :
    Def P w K mg base 3 "create" ["desk", "size"] (spCreate CS CD) := by
  refine def_of G scCreate (fun _ _ _ _ _ _ us hl => match us, hl with | [_, _], _ => rfl) (fun vs H Q E h => ?_) fun f cdv A outer s H vs Q E hr h => ?_
  · obtain ⟨d, dx, v, n, rfl, _⟩ := h
    rfl
  · obtain ⟨d, dx, v, n, rfl, hd, q1, q2⟩ := h
    refine ⟨_, pss_cons (ps_if (pt_not (pt_val (pe_def DS hr (pa_cons (pv 1) pa_nil)))) (pss_one (ps_ret (pe_lst (pa_cons (pe_k T.cInv) pa_nil)))) pss_nil)
      (pss_cons (ps_fld (pv 0) (pe_make M FI hr rfl T.gS bI .nil pass0 (pa_cons (pv 1) pa_nil)) rfl) (pss_one (ps_ret (pe_lst (pa_cons pe_int pa_nil))))), ?_⟩
    refine ⟨_, rfl, n, rfl, _, rfl, ite2 (fun c => ?_) fun c => ?_⟩
    · exact ⟨one_line, fun p hp => (q1 (by simpa using c)).one hp⟩
    · have c1 : sizeOk n = true := by simpa using c
      refine ⟨_, rfl, fun x dx1 hx hdx ne => ?_⟩
      refine ⟨x, dx1, n, rfl, upd_same, fun H1 l p hl hp nlp e1 e2 e3 kp => ⟨rfl, ?_⟩⟩
      have ndx : d ≠ dx1 := ne_of_none hd hdx
      have ndxx : d ≠ x := ne_of_none hd hx
      have old : ∀ b u, H b = some u → H1 b = some u := fun b u e => kp b u (by rw [upd_ne (ne_of_none e hx), upd_ne (ne_of_none e hdx)]; exact e) (ne_of_none e hx)
      have nlx : l ≠ x := fun z => by rw [z, upd_same] at hl; cases hl
      have npx : p ≠ x := fun z => by rw [z, upd_same] at hp; cases hp
      have nld : l ≠ dx1 := fun z => by rw [z, upd_ne ne, upd_same] at hl; cases hl
      have npd : p ≠ dx1 := fun z => by rw [z, upd_ne ne, upd_same] at hp; cases hp
      have hl0 : H l = none := by rw [upd_ne nlx, upd_ne nld] at hl; exact hl
      have hp0 : H p = none := by rw [upd_ne npx, upd_ne npd] at hp; exact hp
      have hd1 := old d _ hd
      refine ⟨_, rfl, d, CD, dx, _, rfl, hd1, T.clD, T.nStock, by show 1 < 1000; decide, ?_⟩
      rw [dF_put]
      refine ⟨one_line, fun r hr2 => ?_⟩
      have nrd : r ≠ d := fun z => by rw [z, upd_same] at hr2; cases hr2
      have hr1 : H1 r = none := by rw [upd_ne nrd] at hr2; exact hr2
      have hr0 : H r = none := by
        cases z : H r with
        | none => rfl
        | some u => rw [old r u z] at hr1; cases hr1
      have new : Same (upd H1 d (.ins CD dx (dF (.ref x)))) (upd (upd H1 d (.ins CD dx (dF (.ref x)))) r (rV [0])) := Same.new hr2
      have nxd : x ≠ d := ndxx.symm
      have nldd : l ≠ d := fun z => by rw [z, hd] at hl0; cases hl0
      have npdd : p ≠ d := fun z => by rw [z, hd] at hp0; cases hp0
      refine q2 c1 _ ⟨x, l, p⟩ r ⟨⟨dx1, new _ _ ?_⟩, new _ _ ?_, ⟨[], new _ _ ?_, rfl, fun j t q e _ => by simp at e⟩, nlp⟩ (new _ _ upd_same) (fun b u e nb => new _ _ ?_) hx hl0 hp0 hr0 upd_same
      · rw [upd_ne nxd]; exact e1
      · rw [upd_ne nldd]; exact e2
      · rw [upd_ne npdd]; exact e3
      · rw [upd_ne nb]; exact old b u e
/-! ### add_stem -/
abbrev sAdd : Stmt := top 31
theorem ap_add1 {s : Kh434.Stock} {n : Nat} (h : lenOk n = false) : Kh434.apply s (.addStem n) = (s, Kh434.single (-22)) := by
  unfold lenOk at h
  rw [decide_eq_false_iff_not] at h
  exact if_pos (by omega)
theorem ap_add2 {s : Kh434.Stock} {n : Nat} (h : lenOk n = true) (h2 : 9 ≤ s.stems.length) : Kh434.apply s (.addStem n) = (s, Kh434.single (-28)) := by
  unfold lenOk at h
  rw [decide_eq_true_eq] at h
  exact (if_neg (by omega)).trans (if_pos h2)
theorem ap_add3 {s : Kh434.Stock} {n : Nat} (h : lenOk n = true) (h2 : ¬ 9 ≤ s.stems.length) : Kh434.apply s (.addStem n) = (Kh434.withStem s n, Kh434.single s.stems.length) := by
  unfold lenOk at h
  rw [decide_eq_true_eq] at h
  exact (if_neg (by omega)).trans (if_neg h2)
def spAdd (CS : Addr) : Sp := fun vs H Q _ => ∃ (o : Own) (s : Kh434.Stock) (n : Nat), vs = [.ref o.a, .int (n : Int)] ∧ StAt CS H o s ∧ Good s ∧ Changes CS H o Q (.addStem n) s
theorem scAdd : FnScope ["stock", "length"] ["stock", "length"] (defScope sAdd) := ⟨rfl, rfl, rfl, by decide +kernel, rfl, by decide +kernel, by decide +kernel⟩
theorem ok_add (G : GF K mg "add_stem" sAdd) (T : Txt K mg CS CD) (DL : Def P w K mg base 1 "is_length" ["length"] (spIs lenOk)) : Def P w K mg base 2 "add_stem" ["stock", "length"] (spAdd CS) := by
  refine def_of G scAdd (fun _ _ _ _ _ _ us hl => match us, hl with | [_, _], _ => rfl) (fun vs H Q E h => ?_) fun f cdv A outer s H vs Q E hr h => ?_
  · obtain ⟨o, st, n, rfl, _⟩ := h
    rfl
  · obtain ⟨o, st, n, rfl, S, g, q⟩ := h
    refine ⟨_, pss_cons (ps_if (pt_not (pt_val (pe_def DL hr (pa_cons (pv 1) pa_nil)))) (pss_one (ps_ret (pe_lst (pa_cons (pe_k T.cInv) pa_nil)))) pss_nil)
      (pss_cons (ps_if (pt_cmpR op_eq (pe_callB call_len_seq (by rfl) T.b.len PySem.boot_len (pa_cons (pe_fld (pv 0) rfl) pa_nil)) (pe_k T.cStems) (nomark _)) (pss_one (ps_ret (pe_lst (pa_cons (pe_k T.cMany) pa_nil)))) pss_nil)
      (pss_cons (ps_expr (pe_bm PySem.F.plainAttrs_list PySem.F.slot_list_append PySem.F.type_list_append mt_append (pe_fld (pv 0) rfl) (pa_cons (pv 1) pa_nil)))
      (pss_one (ps_ret (pe_lst (pa_cons (pe_op op_sub (pe_callB call_len_seq (by rfl) T.b.len PySem.boot_len (pa_cons (pe_fld (pv 0) rfl) pa_nil)) pe_int) pa_nil)))))), ?_⟩
    obtain ⟨dx, hobj⟩ := S.obj
    refine ⟨_, rfl, n, rfl, _, rfl, ite2 (fun c => ?_) fun c => ?_⟩
    · have c1 : lenOk n = false := by simpa using c
      exact ⟨one_line, fun p hp => (q.err (row := [-22]) S (by rw [ap_add1 c1]) (by rw [ap_add1 c1]; rfl)).one hp⟩
    · have c1 : lenOk n = true := by simpa using c
      refine ⟨_, rfl, o.a, CS, dx, _, _, rfl, hobj, T.cl, T.nStems, sF_stems, o.l, _, rfl, .inl (SqL.of S.stems), rfl, _, rfl, ite2 (fun c2 => ?_) fun c2 => ?_⟩
      · have c3 : 9 ≤ st.stems.length := by
          have e : ((nV st.stems).length : Int) = 9 := V.int.inj (of_decide_eq_true c2)
          rw [nV_length] at e
          omega
        exact ⟨one_line, fun p hp => (q.err (row := [-28]) S (by rw [ap_add2 c1 c3]) (by rw [ap_add2 c1 c3]; rfl)).one hp⟩
      · have c3 : ¬ 9 ≤ st.stems.length := fun z => c2 (decide_eq_true (by
          have := g.few
          rw [nV_length, show st.stems.length = 9 by omega]; rfl))
        refine ⟨_, rfl, o.a, CS, dx, _, _, rfl, hobj, T.cl, T.nStems, sF_stems, .inl ⟨rfl, _, SqL.of S.stems⟩, _, rfl, o.l, _, _, rfl, rfl, S.stems, ?_, ?_⟩
        · rw [nV_length]; exact small_line (by omega)
        · have e1 : nV st.stems ++ [V.int (n : Int)] = nV (st.stems ++ [n]) := by rw [nV_append]; rfl
          rw [e1]
          have S1 := S.setL (st.stems ++ [n])
          obtain ⟨dx1, hobj1⟩ := S1.obj
          refine ⟨_, rfl, o.a, CS, dx1, _, _, rfl, hobj1, T.cl, T.nStems, sF_stems, o.l, _, rfl, .inl (SqL.of S1.stems), _, _, rfl, rfl, one_line, fun r hr1 => ?_⟩
          have new := Same.new (o := rV [((nV (st.stems ++ [n])).length : Int) - 1]) hr1
          refine q _ o r ?_ (Moves.setL.then new) (upd_none S.stems hr1) ?_
          · rw [ap_add3 c1 c3]
            exact S1.same new
          · rw [ap_add3 c1 c3]
            show upd _ r (rV [((nV (st.stems ++ [n])).length : Int) - 1]) r = some (rV [(st.stems.length : Int)])
            have e2 : ((nV (st.stems ++ [n])).length : Int) - 1 = (st.stems.length : Int) := by rw [nV_length, List.length_append, List.length_singleton]; omega
            rw [upd_same, e2]
/-! ### is_stem, remove_stem -/
abbrev sIsStem : Stmt := top 32
def spIsStem (CS : Addr) : Sp := fun vs H Q _ => ∃ (o : Own) (s : Kh434.Stock) (i : Nat), vs = [.ref o.a, .int (i : Int)] ∧ StAt CS H o s ∧ Q (.bl (Kh434.isStem s i)) H
theorem scIsStem : FnScope ["stock", "stem"] ["stock", "stem"] (defScope sIsStem) := ⟨rfl, rfl, rfl, by decide +kernel, rfl, by decide +kernel, by decide +kernel⟩
theorem ok_isStem (G : GF K mg "is_stem" sIsStem) (T : Txt K mg CS CD) : Def P w K mg base 1 "is_stem" ["stock", "stem"] (spIsStem CS) := by
  refine def_of G scIsStem (fun _ _ _ _ _ _ us hl => match us, hl with | [_, _], _ => rfl) (fun vs H Q E h => ?_) fun f cdv A outer s H vs Q E hr h => ?_
  · obtain ⟨o, st, n, rfl, _⟩ := h
    rfl
  · obtain ⟨o, st, i, rfl, S, q⟩ := h
    obtain ⟨dx, hobj⟩ := S.obj
    refine ⟨_, pss_one (ps_ret (pe_cmpR op_lt (pv 1) (pe_callB call_len_seq (by rfl) T.b.len PySem.boot_len (pa_cons (pe_fld (pv 0) rfl) pa_nil)) (nomark _))), ?_⟩
    refine ⟨_, rfl, _, rfl, o.a, CS, dx, _, _, rfl, hobj, T.cl, T.nStems, sF_stems, o.l, _, rfl, .inl (SqL.of S.stems), _, _, rfl, rfl, bl_eq q ?_⟩
    unfold Kh434.isStem
    rw [decide_eq_decide, nV_length]
    omega
abbrev sRemove : Stmt := top 33
def spRemove (CS : Addr) : Sp := fun vs H Q _ => ∃ (o : Own) (s : Kh434.Stock) (i : Nat), vs = [.ref o.a, .int (i : Int)] ∧ StAt CS H o s ∧ Good s ∧ Changes CS H o Q (.removeStem i) s
theorem scRemove : FnScope ["stock", "stem"] ["stock", "stem"] (defScope sRemove) := ⟨rfl, rfl, rfl, by decide +kernel, rfl, by decide +kernel, by decide +kernel⟩
theorem ap_rem1 {s : Kh434.Stock} {i : Nat} (h : Kh434.isStem s i = false) : Kh434.apply s (.removeStem i) = (s, Kh434.single (-2)) := if_pos h
theorem ap_rem2 {s : Kh434.Stock} {i : Nat} (h : Kh434.isStem s i = true) : Kh434.apply s (.removeStem i) = ({ s with stems := s.stems.eraseIdx i }, Kh434.single (s.stems.length - 1 : Nat)) := if_neg (by rw [h]; decide)
theorem nV_erase (l : List Nat) (i : Nat) : (nV l).eraseIdx i = nV (l.eraseIdx i) := by
  rw [List.eraseIdx_eq_take_drop_succ, List.eraseIdx_eq_take_drop_succ, nV_append]
  unfold nV iL
  rw [List.map_take, List.map_take, List.map_drop, List.map_drop]
theorem ok_remove (G : GF K mg "remove_stem" sRemove) (T : Txt K mg CS CD) (DI : Def P w K mg base 1 "is_stem" ["stock", "stem"] (spIsStem CS)) : Def P w K mg base 2 "remove_stem" ["stock", "stem"] (spRemove CS) := by
  refine def_of G scRemove (fun _ _ _ _ _ _ us hl => match us, hl with | [_, _], _ => rfl) (fun vs H Q E h => ?_) fun f cdv A outer s H vs Q E hr h => ?_
  · obtain ⟨o, st, n, rfl, _⟩ := h
    rfl
  · obtain ⟨o, st, i, rfl, S, g, q⟩ := h
    obtain ⟨dx, hobj⟩ := S.obj
    refine ⟨_, pss_cons (ps_if (pt_not (pt_val (pe_def DI hr (pa_cons (pv 0) (pa_cons (pv 1) pa_nil))))) (pss_one (ps_ret (pe_lst (pa_cons (pe_k T.cNot) pa_nil)))) pss_nil)
      (pss_cons (ps_expr (pe_bm PySem.F.plainAttrs_list PySem.F.slot_list_pop PySem.F.type_list_pop mt_popAt (pe_fld (pv 0) rfl) (pa_cons (pv 1) pa_nil)))
      (pss_one (ps_ret (pe_lst (pa_cons (pe_callB call_len_seq (by rfl) T.b.len PySem.boot_len (pa_cons (pe_fld (pv 0) rfl) pa_nil)) pa_nil))))), ?_⟩
    refine ⟨_, rfl, _, rfl, o, st, i, rfl, S, _, rfl, ite2 (fun c => ?_) fun c => ?_⟩
    · have c1 : Kh434.isStem st i = false := by simpa using c
      exact ⟨one_line, fun p hp => (q.err (row := [-2]) S (by rw [ap_rem1 c1]) (by rw [ap_rem1 c1]; rfl)).one hp⟩
    · have c1 : Kh434.isStem st i = true := by simpa using c
      have ci : i < st.stems.length := of_decide_eq_true c1
      have few := g.few
      refine ⟨_, rfl, o.a, CS, dx, _, _, rfl, hobj, T.cl, T.nStems, sF_stems, .inl ⟨rfl, _, SqL.of S.stems⟩, _, rfl, o.l, _, _, i, _, rfl, rfl, S.stems, by omega, by omega, ?_, nV_at (elem_at ci), ?_⟩
      · exact PySem.StrLaws.seqIndex_nonneg (by omega) (by rw [nV_length]; omega)
      · rw [nV_erase]
        have S1 := S.setL (st.stems.eraseIdx i)
        obtain ⟨dx1, hobj1⟩ := S1.obj
        refine ⟨_, rfl, o.a, CS, dx1, _, _, rfl, hobj1, T.cl, T.nStems, sF_stems, o.l, _, rfl, .inl (SqL.of S1.stems), one_line, fun r hr1 => ?_⟩
        have new := Same.new (o := rV [((nV (st.stems.eraseIdx i)).length : Int)]) hr1
        refine q _ o r ?_ (Moves.setL.then new) (upd_none S.stems hr1) ?_
        · rw [ap_rem2 c1]
          exact S1.same new
        · rw [ap_rem2 c1]
          show upd _ r (rV [((nV (st.stems.eraseIdx i)).length : Int)]) r = some (rV [((st.stems.length - 1 : Nat) : Int)])
          have e2 : ((nV (st.stems.eraseIdx i)).length : Int) = ((st.stems.length - 1 : Nat) : Int) := by rw [nV_length, List.length_eraseIdx_of_lt ci]
          rw [upd_same, e2]
end
end Sb

namespace Sb
open PySem PySem.Spec PyProof.Rows L2
section
variable {P : Program} {w : World} {K : PySem.W.Frag} {mg : Str → Option Value} {base : Heap} {CS CD : Addr}
/-! ### trim_error -/
abbrev sTErr : Stmt := top 34
def trimErr (s : Kh434.Stock) (i n : Nat) : Int := if Kh434.isStem s i = false then -2 else if n < 10 ∨ Kh434.elementAt s.stems i < n then -22 else 0
def spTErr (CS : Addr) : Sp := fun vs H Q _ => ∃ (o : Own) (s : Kh434.Stock) (i n : Nat), vs = [.ref o.a, .int (i : Int), .int (n : Int)] ∧ StAt CS H o s ∧ Good s ∧ Q (.int (trimErr s i n)) H
theorem scTErr : FnScope ["stock", "stem", "length"] ["stock", "stem", "length"] (defScope sTErr) := ⟨rfl, rfl, rfl, by decide +kernel, rfl, by decide +kernel, by decide +kernel⟩
theorem int_eq {Q : VK} {H : Hp} {a b : Int} (q : Q (.int a) H) (e : a = b) : Q (.int b) H := by rw [← e]; exact q
theorem ok_tErr (G : GF K mg "trim_error" sTErr) (T : Txt K mg CS CD) (DI : Def P w K mg base 1 "is_stem" ["stock", "stem"] (spIsStem CS)) : Def P w K mg base 2 "trim_error" ["stock", "stem", "length"] (spTErr CS) := by
  refine def_of G scTErr (fun _ _ _ _ _ _ us hl => match us, hl with | [_, _, _], _ => rfl) (fun vs H Q E h => ?_) fun f cdv A outer s H vs Q E hr h => ?_
  · obtain ⟨o, st, i, n, rfl, _⟩ := h
    rfl
  · obtain ⟨o, st, i, n, rfl, S, g, q⟩ := h
    obtain ⟨dx, hobj⟩ := S.obj
    refine ⟨_, pss_cons (ps_if (pt_not (pt_val (pe_def DI hr (pa_cons (pv 0) (pa_cons (pv 1) pa_nil))))) (pss_one (ps_ret (pe_k T.cNot))) pss_nil)
      (pss_one (ps_ret (pe_ifExp (PW.pt (pw_or (pt_cmpR op_lt (pv 2) (pe_k T.cLeast) (nomark _)) (pw_or1 (pt_cmpR op_gt (pv 2) (pe_ix ix_list (pe_fld (pv 0) rfl) (pv 1) (fun _ _ => rfl)) (nomark _))))) (pe_k T.cInv) pe_int))), ?_⟩
    refine ⟨_, rfl, _, rfl, o, st, i, rfl, S, _, rfl, ite2 (fun c => ?_) fun c => ?_⟩
    · have c1 : Kh434.isStem st i = false := by simpa using c
      exact int_eq q (if_pos c1)
    · have c1 : Kh434.isStem st i = true := by simpa using c
      have c1n : ¬ Kh434.isStem st i = false := by rw [c1]; decide
      have ci : i < st.stems.length := of_decide_eq_true c1
      refine ⟨_, rfl, _, _, rfl, rfl, _, rfl, ite2 (fun c2 => ?_) fun c2 => ?_⟩
      · have c3 := of_decide_eq_true c2
        exact iteT (int_eq q ((if_neg c1n).trans (if_pos (.inl (by omega)))))
      · have c3 : ¬ (n : Int) < 10 := fun z => c2 (decide_eq_true z)
        refine ⟨_, rfl, _, rfl, o.a, CS, dx, _, _, rfl, hobj, T.cl, T.nStems, sF_stems, _, rfl, o.l, _, _, _, rfl, rfl, SqL.of S.stems, at_of (j := i) rfl (nV_at (elem_at ci)), _, _, rfl, rfl, _, rfl, ite2 (fun c4 => ?_) fun c4 => ?_⟩
        · have c5 := of_decide_eq_true c4
          exact int_eq q ((if_neg c1n).trans (if_pos (.inr (by omega))))
        · have c5 : ¬ ((Kh434.elementAt st.stems i : Nat) : Int) < (n : Int) := fun z => c4 (decide_eq_true z)
          exact int_eq q ((if_neg c1n).trans (if_neg (by omega)))
/-! ### trim_stem -/
abbrev sTrim : Stmt := top 35
theorem ap_trim1 {s : Kh434.Stock} {i n : Nat} (h : trimErr s i n ≠ 0) : Kh434.apply s (.trimStem i n) = (s, Kh434.single (trimErr s i n)) := by
  show (if Kh434.isStem s i = false then (s, Kh434.single (-2)) else if n < 10 ∨ Kh434.elementAt s.stems i < n then (s, Kh434.single (-22)) else _) = _
  unfold trimErr at h ⊢
  split
  · rfl
  · rename_i c
    rw [if_neg c] at h
    split
    · rfl
    · rename_i c2
      rw [if_neg c2] at h
      exact absurd rfl h
theorem ap_trim2 {s : Kh434.Stock} {i n : Nat} (h : trimErr s i n = 0) : i < s.stems.length ∧ Kh434.apply s (.trimStem i n) = ({ s with stems := s.stems.set i n }, Kh434.single (Kh434.elementAt s.stems i)) := by
  have h0 := h
  unfold trimErr at h
  split at h
  · cases h
  · rename_i c
    split at h
    · cases h
    · rename_i c2
      have c1 : Kh434.isStem s i = true := by cases q : Kh434.isStem s i with | true => rfl | false => exact absurd q c
      exact ⟨of_decide_eq_true c1, (if_neg c).trans (if_neg c2)⟩
def spTrim (CS : Addr) : Sp := fun vs H Q _ => ∃ (o : Own) (s : Kh434.Stock) (i n : Nat), vs = [.ref o.a, .int (i : Int), .int (n : Int)] ∧ StAt CS H o s ∧ Good s ∧ Changes CS H o Q (.trimStem i n) s
theorem scTrim : FnScope ["stock", "stem", "length", "error", "before"] ["stock", "stem", "length"] (defScope sTrim) := ⟨rfl, rfl, rfl, by decide +kernel, rfl, by decide +kernel, by decide +kernel⟩
theorem nV_set (l : List Nat) (i n : Nat) : (nV l).set i (V.int (n : Int)) = nV (l.set i n) := by
  unfold nV iL
  rw [List.map_set, List.map_set]
theorem ok_trim (G : GF K mg "trim_stem" sTrim) (T : Txt K mg CS CD) (DT : Def P w K mg base 2 "trim_error" ["stock", "stem", "length"] (spTErr CS)) : Def P w K mg base 3 "trim_stem" ["stock", "stem", "length"] (spTrim CS) := by
  refine def_of G scTrim (fun _ _ _ _ _ _ us hl => match us, hl with | [_, _, _], _ => rfl) (fun vs H Q E h => ?_) fun f cdv A outer s H vs Q E hr h => ?_
  · obtain ⟨o, st, i, n, rfl, _⟩ := h
    rfl
  · obtain ⟨o, st, i, n, rfl, S, g, q⟩ := h
    obtain ⟨dx, hobj⟩ := S.obj
    refine ⟨_, pss_cons (ps_set (i := 3) scTrim.nd rfl (Or.inl rfl) (pe_def DT hr (pa_cons (pv 0) (pa_cons (pv 1) (pa_cons (pv 2) pa_nil)))))
      (pss_cons (ps_if (pt_cmpR op_ne (pv 3) pe_int (nomark _)) (pss_one (ps_ret (pe_lst (pa_cons (pv 3) pa_nil)))) pss_nil)
      (pss_cons (ps_set (i := 4) scTrim.nd rfl (Or.inl rfl) (pe_ix ix_list (pe_fld (pv 0) rfl) (pv 1) (fun _ _ => rfl)))
      (pss_cons (ps_asg (pv 2) (pg_sub (pe_fld (pv 0) rfl) (pv 1) set_list))
      (pss_one (ps_ret (pe_lst (pa_cons (pv 4) pa_nil))))))), ?_⟩
    refine ⟨_, rfl, _, rfl, _, rfl, o, st, i, n, rfl, S, g, ?_⟩
    refine ⟨_, rfl, rfl, _, rfl, ite2 (fun c => ?_) fun c => ?_⟩
    · have c1 : trimErr st i n ≠ 0 := fun z => by rw [z] at c; simp at c
      exact ⟨_, rfl, one_line, fun p hp => (q.err (row := [trimErr st i n]) S (by rw [ap_trim1 c1]) (by rw [ap_trim1 c1]; rfl)).one hp⟩
    · have c1 : trimErr st i n = 0 := by simpa using c
      obtain ⟨ci, ap⟩ := ap_trim2 c1
      refine ⟨_, rfl, o.a, CS, dx, _, _, rfl, hobj, T.cl, T.nStems, sF_stems, _, rfl, o.l, _, _, _, rfl, rfl, SqL.of S.stems, at_of (j := i) rfl (nV_at (elem_at ci)), ?_⟩
      refine ⟨_, rfl, _, rfl, o.a, CS, dx, _, _, rfl, hobj, T.cl, T.nStems, sF_stems, _, rfl, o.l, _, _, i, rfl, rfl, S.stems, ?_, ?_⟩
      · unfold ixN
        rw [if_pos (by omega), if_pos (by rw [nV_length]; omega), Int.toNat_natCast]
      · rw [nV_set]
        have S1 := S.setL (st.stems.set i n)
        refine ⟨_, rfl, one_line, fun r hr1 => ?_⟩
        have new := Same.new (o := rV [((Kh434.elementAt st.stems i : Nat) : Int)]) hr1
        refine q _ o r ?_ (Moves.setL.then new) (upd_none S.stems hr1) ?_
        · rw [ap]
          exact S1.same new
        · rw [ap]
          exact upd_same
/-! ### set_bunch_size -/
abbrev sSetSize : Stmt := top 38
theorem ap_size1 {s : Kh434.Stock} {n : Nat} (h : sizeOk n = false) : Kh434.apply s (.setBunchSize n) = (s, Kh434.single (-22)) := by
  unfold sizeOk at h
  rw [decide_eq_false_iff_not] at h
  exact if_pos (by omega)
theorem ap_size2 {s : Kh434.Stock} {n : Nat} (h : sizeOk n = true) : Kh434.apply s (.setBunchSize n) = ({ s with bunchSize := n }, Kh434.single s.bunchSize) := by
  unfold sizeOk at h
  rw [decide_eq_true_eq] at h
  exact if_neg (by omega)
def spSetSize (CS : Addr) : Sp := fun vs H Q _ => ∃ (o : Own) (s : Kh434.Stock) (n : Nat), vs = [.ref o.a, .int (n : Int)] ∧ StAt CS H o s ∧ Changes CS H o Q (.setBunchSize n) s
theorem scSetSize : FnScope ["stock", "size", "before"] ["stock", "size"] (defScope sSetSize) := ⟨rfl, rfl, rfl, by decide +kernel, rfl, by decide +kernel, by decide +kernel⟩
/-- the object is written: its fields -/
theorem StAt.setA {H : Hp} {o : Own} {s s' : Kh434.Stock} {dx : Addr} (h : StAt CS H o s) (hobj : ∃ u, H o.a = some u ∧ ∀ xs, u ≠ .tup xs) (e1 : s'.stems = s.stems) (e2 : s'.priceTable = s.priceTable) :
    StAt CS (upd H o.a (.ins CS dx (sF s'.bunchSize o.l o.p s'.sold s'.revenue))) o s' := by
  obtain ⟨u, hu, nu⟩ := hobj
  refine ⟨⟨dx, upd_same⟩, ?_, ?_, h.ne⟩
  · rw [upd_ne h.al.symm, e1]; exact h.stems
  · rw [e2]
    exact h.tab.keep (fun v e => by rw [upd_ne h.ap.symm]; exact e) (tup_upd hu nu)
theorem Moves.setA {H : Hp} {o : Own} {u : HO} : Moves H (upd H o.a u) o o := ⟨fun b v e n _ _ => by rw [upd_ne n]; exact e, rfl, .inl rfl, .inl rfl⟩
theorem ok_setSize (G : GF K mg "set_bunch_size" sSetSize) (T : Txt K mg CS CD) (DS : Def P w K mg base 1 "is_size" ["size"] (spIs sizeOk)) : Def P w K mg base 2 "set_bunch_size" ["stock", "size"] (spSetSize CS) := by
  refine def_of G scSetSize (fun _ _ _ _ _ _ us hl => match us, hl with | [_, _], _ => rfl) (fun vs H Q E h => ?_) fun f cdv A outer s H vs Q E hr h => ?_
  · obtain ⟨o, st, n, rfl, _⟩ := h
    rfl
  · obtain ⟨o, st, n, rfl, S, q⟩ := h
    obtain ⟨dx, hobj⟩ := S.obj
    refine ⟨_, pss_cons (ps_if (pt_not (pt_val (pe_def DS hr (pa_cons (pv 1) pa_nil)))) (pss_one (ps_ret (pe_lst (pa_cons (pe_k T.cInv) pa_nil)))) pss_nil)
      (pss_cons (ps_set (i := 2) scSetSize.nd rfl (Or.inl rfl) (pe_fld (pv 0) rfl)) (pss_cons (ps_fld (pv 0) (pv 1) rfl) (pss_one (ps_ret (pe_lst (pa_cons (pv 2) pa_nil)))))), ?_⟩
    refine ⟨_, rfl, n, rfl, _, rfl, ite2 (fun c => ?_) fun c => ?_⟩
    · have c1 : sizeOk n = false := by simpa using c
      exact ⟨one_line, fun p hp => (q.err (row := [-22]) S (by rw [ap_size1 c1]) (by rw [ap_size1 c1]; rfl)).one hp⟩
    · have c1 : sizeOk n = true := by simpa using c
      refine ⟨_, rfl, o.a, CS, dx, _, _, rfl, hobj, T.cl, T.nSize, sF_size, ?_⟩
      refine ⟨_, rfl, _, rfl, o.a, CS, dx, _, rfl, hobj, T.cl, T.nSize, by show 5 < 1000; decide, ?_⟩
      rw [pF_size]
      have S1 : StAt CS (upd H o.a (.ins CS dx (sF n o.l o.p st.sold st.revenue))) o { st with bunchSize := n } := S.setA (s' := { st with bunchSize := n }) ⟨_, hobj, fun xs z => by cases z⟩ rfl rfl
      refine ⟨_, rfl, one_line, fun r hr1 => ?_⟩
      have new := Same.new (o := rV [((st.bunchSize : Nat) : Int)]) hr1
      refine q _ o r ?_ (Moves.setA.then new) (upd_none hobj hr1) ?_
      · rw [ap_size2 c1]
        exact S1.same new
      · rw [ap_size2 c1]
        exact upd_same
end
end Sb

namespace Sb
open PySem PySem.Spec PyProof.Rows L2
theorem evens_evG : ∀ l : List Nat, evG l = evens l
  | [] => by simp [evG, evens]
  | [a] => by simp [evG, evens]
  | a :: b :: r => by
    show a :: evG r = a :: evens r
    rw [evens_evG r]
theorem odds_evG : ∀ l : List Nat, evG (l.drop 1) = odds l
  | [] => by simp [evG, odds]
  | [a] => by simp [evG, odds]
  | a :: b :: r => by
    have ih := odds_evG r
    cases r with
    | nil => simp [evG, odds]
    | cons c t =>
      show b :: evG ((c :: t).drop 1) = b :: odds (c :: t)
      rw [ih]
theorem evG_nV (l : List Nat) (i : Nat) : evG ((nV l).drop i) = nV (evG (l.drop i)) := by
  unfold nV iL
  rw [← List.map_drop, ← List.map_drop, evG_map, evG_map]
theorem ev0 (l : List Nat) : evG ((nV l).drop 0) = nV (evens l) := by rw [evG_nV, List.drop_zero, evens_evG]
theorem ev1 (l : List Nat) : evG ((nV l).drop 1) = nV (odds l) := by rw [evG_nV, odds_evG]
/-- what max says of a bound -/
theorem max_all {l : List Nat} {m : Int} (b : Nat) (h : (iL l = [] ∧ m = 0) ∨ (m ∈ iL l ∧ ∀ y ∈ iL l, y ≤ m)) : (l.all fun x => decide (x ≤ b)) = decide (m ≤ (b : Int)) := by
  rcases h with ⟨e, rfl⟩ | ⟨h1, h2⟩
  · have e2 : l = [] := by
      unfold iL at e
      exact List.map_eq_nil_iff.mp e
    rw [e2, decide_eq_true (show (0 : Int) ≤ (b : Int) by omega)]
    rfl
  · by_cases c : m ≤ (b : Int)
    · rw [decide_eq_true c, List.all_eq_true]
      intro x hx
      have := h2 (x : Int) (List.mem_map.mpr ⟨x, hx, rfl⟩)
      exact decide_eq_true (by omega)
    · rw [decide_eq_false c, List.all_eq_false]
      obtain ⟨x, hx, rfl⟩ := List.mem_map.mp h1
      exact ⟨x, hx, by rw [decide_eq_true_eq]; omega⟩
theorem zip_rows : ∀ (l r : List Nat), (nV l).zip (nV r) = (l.zip r).map rowV
  | [], _ => rfl
  | _ :: _, [] => rfl
  | a :: l, b :: r => by
    have ih := zip_rows l r
    show (V.int (a : Int), V.int (b : Int)) :: (nV l).zip (nV r) = rowV (a, b) :: (l.zip r).map rowV
    rw [ih]
    rfl
def pairsB (f : Nat → Nat → Bool) (l : List Nat) : List Bool := (l.zip (l.drop 1)).map fun p => f p.1 p.2
theorem pairsB_all (f : Nat → Nat → Bool) (l : List Nat) : (pairsB f l).all id = rising f l := by
  unfold pairsB rising
  rw [List.all_map]
  rfl
section
variable {P : Program} {w : World} {K : PySem.W.Frag} {mg : Str → Option Value} {base : Heap} {CS CD : Addr}
/-- [one < other for one, other in zip(xs, xs[1:])] -/
theorem pairs_lc {l : List Nat} {f : Nat → Nat → Bool} {g2 : Int → Int → Bool} (hg : ∀ a b : Nat, g2 (a : Int) (b : Int) = f a b) {x0 x1 x2 : Option V} {i : Nat} {H : Hp} {a : Addr} (hi : ([x0, x1, x2, none, none] : L2.St)[i]? = some (some (.ref a))) (ha : H a = some (.lst (nV l))) (hl : l.length ≤ 1000) {Q : VK}
    (q : ∀ (H' : Hp) (D : Addr), Same H H' → H' D = some (.lst ((pairsB f l).map V.bl)) → Q (.ref D) H') :
    tLc (iZip K (tCons (tVar i) (tCons (tSl (rSlL K) (tVar i) (tPart (tC (.int 1))) tNoPart) tNil))) (gTup K 2 (gCons (gName 3) (gCons (gName 4) gNil))) tYes (tOp (rI0 fun i j => .bl (g2 i j)) (tVar 3) (tVar 4)) [3, 4] [x0, x1, x2, none, none] H Q := by
  refine ⟨_, hi, _, hi, _, rfl, a, _, rfl, SqL.of ha, fun b hb => ?_⟩
  have eb : cutV (nV l) (some (1 : Int)) none = nV (l.drop 1) := cut_from l 1
  rw [eb]
  have sb : Same H (upd H b (.lst (nV (l.drop 1)))) := Same.new hb
  refine ⟨a, b, nV l, nV (l.drop 1), rfl, SqL.of (sb _ _ ha), SqL.of upd_same, fun D hD => ?_⟩
  refine lc_it (walk_zip (xs := nV l) (ys := nV (l.drop 1)) rfl) (fun j H2 => Same (upd H b (.lst (nV (l.drop 1)))) H2 ∧ H2 D = some (.lst ((((l.zip (l.drop 1)).take j).map fun p => f p.1 p.2).map V.bl))) ⟨Same.new hD, upd_same⟩ (fun j H2 _ h => ⟨SqL.of (h.1 _ _ (sb _ _ ha)), SqL.of (h.1 _ _ upd_same)⟩) ?_ ?_
  · rintro j y H2 H2' hj ⟨sm, hD2⟩ ⟨T, x', y', rfl, hT, rfl, hx, hy⟩
    obtain ⟨x, hx1, rfl⟩ := nV_of hx
    obtain ⟨z, hy1, rfl⟩ := nV_of hy
    have nT : D ≠ T := fun e => by rw [e, hT] at hD2; cases hD2
    have sm3 := sm.trans (Same.new (o := .tup [V.int (x : Int), V.int (z : Int)]) hT)
    have ez : (l.zip (l.drop 1))[j]? = some (x, z) := by rw [List.getElem?_zip_eq_some]; exact ⟨hx1, hy1⟩
    refine ⟨T, _, rfl, SqT.of upd_same, rfl, _, _, rfl, _, _, rfl, rfl, ?_⟩
    refine ⟨rfl, yes_of ?_⟩
    refine ⟨_, rfl, _, rfl, _, _, rfl, rfl, _, (upd_ne nT).trans hD2, ?_, ?_, ?_⟩
    · rw [List.length_map, List.length_map, List.length_take, List.length_zip]
      exact small_line (by omega)
    · intro c o e
      have nb : c ≠ D := fun z => by rw [z] at e; rw [e] at hD; cases hD
      rw [upd_ne nb]
      exact sm3 _ _ e
    · rw [upd_same, take_more ez, List.map_append, List.map_append]
      show some (HO.lst (_ ++ [V.bl (g2 (x : Int) (z : Int))])) = _
      rw [hg]
      rfl
  · rintro H2 ⟨sm, hD2⟩
    have hn : min (nV l).length (nV (l.drop 1)).length = (l.zip (l.drop 1)).length := by rw [nV_length, nV_length, List.length_zip]
    rw [hn, List.take_length] at hD2
    exact q H2 D (sb.trans sm) hD2
/-! ### is_table -/
abbrev sIsTable : Stmt := top 36
def spIsTable : Sp := fun vs H Q _ => ∃ (b : Addr) (l : List Nat), vs = [.ref b] ∧ H b = some (.lst (nV l)) ∧ l.length ≤ 1000 ∧ ∀ H' : Hp, Same H H' → Q (.bl (Kh434.isPriceTable l)) H'
theorem scIsTable : FnScope ["told", "lengths", "prices", "one", "other"] ["told"] (defScope sIsTable) := ⟨rfl, rfl, rfl, by decide +kernel, rfl, by decide +kernel, by decide +kernel⟩
theorem tab_long {l : List Nat} (h : ¬ l.length ≤ 10) : Kh434.isPriceTable l = false := by
  unfold Kh434.isPriceTable
  rw [decide_eq_false h, Bool.false_and, Bool.and_false]
theorem tab_odd {l : List Nat} (h : ¬ l.length % 2 = 0) : Kh434.isPriceTable l = false := by
  unfold Kh434.isPriceTable
  rw [decide_eq_false h, Bool.false_and]
theorem ok_isTable (G : GF K mg "is_table" sIsTable) (T : Txt K mg CS CD) : Def P w K mg base 1 "is_table" ["told"] spIsTable := by
  refine def_of G scIsTable (fun _ _ _ _ _ _ us hl => match us, hl with | [_], _ => rfl) (fun vs H Q E h => ?_) fun f cdv A outer s H vs Q E hr h => ?_
  · obtain ⟨b, l, rfl, _⟩ := h
    rfl
  · obtain ⟨b, l, rfl, hb, hz, q⟩ := h
    refine ⟨_, pss_cons (ps_set (i := 1) scIsTable.nd rfl (Or.inl rfl) (pe_ev 0 rfl (pv 0)))
      (pss_cons (ps_set (i := 2) scIsTable.nd rfl (Or.inl rfl) (pe_ev 1 rfl (pv 0)))
      (pss_cons (ps_if (PW.pt (pw_or (pt_cmpR op_ne (pe_op op_mod (pe_callB call_len_seq (by rfl) T.b.len PySem.boot_len (pa_cons (pv 0) pa_nil)) pe_int) pe_int (nomark _))
          (pw_or (pt_cmpR op_gt (pe_callB call_len_seq (by rfl) T.b.len PySem.boot_len (pa_cons (pv 0) pa_nil)) pe_int (nomark _))
            (pw_or1 (pt_cmpR op_gt (pe_callBK (cr_maxD rfl) (by rfl) T.b.max PyProof.Rows.boot_max (pa_cons (pv 1) pa_nil) (pk_cons pe_int pk_nil)) (pe_k T.cMost) (nomark _)))))) (pss_one (ps_ret pe_bl)) pss_nil)
      (pss_cons (ps_if (pt_not (pt_val (pe_callB (cr_all rfl) (by rfl) T.b.all PyProof.Rows.boot_all (pa_cons
          (pe_lc (own := [("one", 3), ("other", 4)]) (g := gTup K 2 (gCons (gName 3) (gCons (gName 4) gNil))) (tt := tYes) rfl scIsTable.nd (pi_zip (by rfl) T.b.zip (pa_cons (pv 1) (pa_cons (pe_slice sl_list (pv 1) (po_some pe_int) po_none) pa_nil)))
            (blkOk_by (N := ["told", "lengths", "prices", "one", "other"]) (sc := defScope sIsTable) (by decide +kernel))
            (fun _ _ _ _ _ => pg_tup rfl (pgs_cons (pg_name (i := 3) scIsTable.nd rfl (Or.inl rfl)) (pgs_cons (pg_name (i := 4) scIsTable.nd rfl (Or.inl rfl)) pgs_nil)))
            (fun _ _ _ _ _ => pts_nil) (fun _ _ _ _ _ => pe_cmpR op_lt (pv 3) (pv 4) (nomark _))) pa_nil)))) (pss_one (ps_ret pe_bl)) pss_nil)
      (pss_one (ps_ret (pe_and (pe_cmpR op_le (pe_callBK (cr_maxD rfl) (by rfl) T.b.max PyProof.Rows.boot_max (pa_cons (pv 2) pa_nil) (pk_cons pe_int pk_nil)) (pe_k T.cPrice) (nomark _))
          (pe_one (pe_callB (cr_all rfl) (by rfl) T.b.all PyProof.Rows.boot_all (pa_cons
          (pe_lc (own := [("one", 3), ("other", 4)]) (g := gTup K 2 (gCons (gName 3) (gCons (gName 4) gNil))) (tt := tYes) rfl scIsTable.nd (pi_zip (by rfl) T.b.zip (pa_cons (pv 2) (pa_cons (pe_slice sl_list (pv 2) (po_some pe_int) po_none) pa_nil)))
            (blkOk_by (N := ["told", "lengths", "prices", "one", "other"]) (sc := defScope sIsTable) (by decide +kernel))
            (fun _ _ _ _ _ => pg_tup rfl (pgs_cons (pg_name (i := 3) scIsTable.nd rfl (Or.inl rfl)) (pgs_cons (pg_name (i := 4) scIsTable.nd rfl (Or.inl rfl)) pgs_nil)))
            (fun _ _ _ _ _ => pts_nil) (fun _ _ _ _ _ => pe_cmpR op_le (pv 3) (pv 4) (nomark _))) pa_nil))))))))), ?_⟩
    refine ⟨_, rfl, b, _, rfl, SqL.of hb, fun p1 h1 => ?_⟩
    rw [ev0]
    have s1 := Same.new (o := .lst (nV (evens l))) h1
    refine ⟨_, rfl, b, _, rfl, SqL.of (s1 _ _ hb), fun p2 h2 => ?_⟩
    rw [ev1]
    have s2 := Same.new (o := .lst (nV (odds l))) h2
    have s12 := s1.trans s2
    have he : upd (upd H p1 (.lst (nV (evens l)))) p2 (.lst (nV (odds l))) p1 = some (.lst (nV (evens l))) := s2 _ _ upd_same
    have ho : upd (upd H p1 (.lst (nV (evens l)))) p2 (.lst (nV (odds l))) p2 = some (.lst (nV (odds l))) := upd_same
    generalize upd (upd H p1 (.lst (nV (evens l)))) p2 (.lst (nV (odds l))) = H2 at s12 he ho
    have lenE : (evens l).length ≤ 1000 := by rw [evens_length]; omega
    have lenO : (odds l).length ≤ 1000 := by rw [odds_length]; omega
    refine ⟨_, rfl, b, _, rfl, .inl (SqL.of (s12 _ _ hb)), _, _, rfl, rfl, (by show (0 : Int) < 2; decide), rfl, _, rfl, ite2 (fun c => ?_) fun c => ?_⟩
    · have c1 : ¬ l.length % 2 = 0 := fun z => by
        have e : ((nV l).length : Int) % 2 = 0 := by rw [nV_length]; omega
        have c' : (!decide (V.int (((nV l).length : Int) % 2) = V.int 0)) = true := c
        rw [e] at c'
        simp at c'
      exact iteT (bl_eq (q H2 s12) (tab_odd c1))
    · have c1 : l.length % 2 = 0 := by
        have c' : (V.int (((nV l).length : Int) % 2)) = V.int 0 := by simpa using c
        have e := V.int.inj c'
        rw [nV_length] at e
        omega
      refine ⟨_, rfl, b, _, rfl, .inl (SqL.of (s12 _ _ hb)), _, _, rfl, rfl, _, rfl, ite2 (fun c2 => ?_) fun c2 => ?_⟩
      · have c3 := of_decide_eq_true c2
        rw [nV_length] at c3
        exact iteT (bl_eq (q H2 s12) (tab_long (by omega)))
      · have c3 : l.length ≤ 10 := by
          have c' : ¬ (10 : Int) < ((nV l).length : Int) := fun z => c2 (decide_eq_true z)
          rw [nV_length] at c'
          omega
        have tab := table_is c3
        rw [decide_eq_true c1, Bool.true_and] at tab
        refine ⟨_, rfl, p1, iL (evens l), 0, rfl, rfl, SqL.of he, fun m hm => ?_⟩
        have em := max_all 120 hm
        refine ⟨_, _, rfl, rfl, _, rfl, ite2 (fun c4 => ?_) fun c4 => ?_⟩
        · have c5 := of_decide_eq_true c4
          refine bl_eq (q H2 s12) ?_
          rw [tab]
          unfold tabOk
          rw [em, decide_eq_false (by omega), Bool.false_and]
        · have c5 : ¬ (120 : Int) < m := fun z => c4 (decide_eq_true z)
          rw [decide_eq_true (show m ≤ ((120 : Nat) : Int) by omega)] at em
          dsimp only [tNext, tSeq, tIfS, tNot, tB, tCB, tCons]
          refine pairs_lc (K := K) (x0 := some (.ref b)) (x1 := some (.ref p1)) (x2 := some (.ref p2)) (f := ltB) (g2 := fun i j => decide (i < j)) (fun a b => by unfold ltB; rw [decide_eq_decide]; omega) (i := 1) rfl he lenE fun H3 D s3 hD => ?_
          refine ⟨D, pairsB ltB (evens l), rfl, SqL.of hD, _, rfl, ite2 (fun c6 => ?_) fun c6 => ?_⟩
          · have c7 : rising ltB (evens l) = false := by rw [pairsB_all] at c6; simpa using c6
            refine bl_eq (q H3 (s12.trans s3)) ?_
            rw [tab]
            unfold tabOk
            rw [em, c7, Bool.false_and, Bool.true_and]
          · have c7 : rising ltB (evens l) = true := by rw [pairsB_all] at c6; simpa using c6
            refine ⟨_, rfl, p2, iL (odds l), 0, rfl, rfl, SqL.of (s3 _ _ ho), fun m2 hm2 => ?_⟩
            have em2 := max_all 99 hm2
            refine ⟨_, _, rfl, rfl, _, rfl, ite2 (fun c8 => ?_) fun c8 => ?_⟩
            · have c9 := of_decide_eq_true c8
              rw [decide_eq_true (show m2 ≤ ((99 : Nat) : Int) by omega)] at em2
              dsimp only [tNext, tSeq, tIfS, tNot, tB, tCB, tCons]
              refine pairs_lc (K := K) (x0 := some (.ref b)) (x1 := some (.ref p1)) (x2 := some (.ref p2)) (f := leB) (g2 := fun i j => decide (i ≤ j)) (fun a b => by unfold leB; rw [decide_eq_decide]; omega) (i := 2) rfl (s3 _ _ ho) lenO fun H4 D2 s4 hD2 => ?_
              refine ⟨D2, pairsB leB (odds l), rfl, SqL.of hD2, bl_eq (q H4 ((s12.trans s3).trans s4)) ?_⟩
              rw [tab, pairsB_all]
              unfold tabOk
              rw [em, c7, em2, Bool.true_and, Bool.true_and, Bool.true_and]
            · have c9 : ¬ m2 ≤ 99 := fun z => c8 (decide_eq_true z)
              refine bl_eq (q H3 (s12.trans s3)) ?_
              rw [tab]
              unfold tabOk
              rw [em, c7, em2, decide_eq_false (by omega), Bool.false_and, Bool.true_and, Bool.true_and]
end
end Sb

namespace Sb
open PySem PySem.Spec PyProof.Rows L2
section
variable {P : Program} {w : World} {K : PySem.W.Frag} {mg : Str → Option Value} {base : Heap} {CS CD : Addr}
/-! ### set_price_table -/
abbrev sSetTab : Stmt := top 37
theorem ap_tab1 {s : Kh434.Stock} {l : List Nat} (h : Kh434.isPriceTable l = false) : Kh434.apply s (.setPriceTable l) = (s, Kh434.single (-22)) := if_pos h
theorem ap_tab2 {s : Kh434.Stock} {l : List Nat} (h : Kh434.isPriceTable l = true) : Kh434.apply s (.setPriceTable l) = ({ s with priceTable := Kh434.tableRows l }, Kh434.single (Kh434.tableRows l).length) := if_neg (by rw [h]; decide)
def spSetTab (CS : Addr) : Sp := fun vs H Q _ => ∃ (o : Own) (s : Kh434.Stock) (b : Addr) (l : List Nat), vs = [.ref o.a, .ref b] ∧ StAt CS H o s ∧ H b = some (.lst (nV l)) ∧ l.length ≤ 1000 ∧ Changes CS H o Q (.setPriceTable l) s
theorem scSetTab : FnScope ["stock", "told"] ["stock", "told"] (defScope sSetTab) := ⟨rfl, rfl, rfl, by decide +kernel, rfl, by decide +kernel, by decide +kernel⟩
theorem ok_setTab (G : GF K mg "set_price_table" sSetTab) (T : Txt K mg CS CD) (DT : Def P w K mg base 1 "is_table" ["told"] spIsTable) : Def P w K mg base 2 "set_price_table" ["stock", "told"] (spSetTab CS) := by
  refine def_of G scSetTab (fun _ _ _ _ _ _ us hl => match us, hl with | [_, _], _ => rfl) (fun vs H Q E h => ?_) fun f cdv A outer s H vs Q E hr h => ?_
  · obtain ⟨o, st, b, l, rfl, _⟩ := h
    rfl
  · obtain ⟨o, st, b, l, rfl, S, hb, hz, q⟩ := h
    refine ⟨_, pss_cons (ps_if (pt_not (pt_val (pe_def DT hr (pa_cons (pv 1) pa_nil)))) (pss_one (ps_ret (pe_lst (pa_cons (pe_k T.cInv) pa_nil)))) pss_nil)
      (pss_cons (ps_fld (pv 0) (pe_listZip rfl rfl T.b.list rfl T.b.zip (pa_cons (pe_ev 0 rfl (pv 1)) (pa_cons (pe_ev 1 rfl (pv 1)) pa_nil))) rfl)
      (pss_one (ps_ret (pe_lst (pa_cons (pe_callB call_len_seq (by rfl) T.b.len PySem.boot_len (pa_cons (pe_fld (pv 0) rfl) pa_nil)) pa_nil))))), ?_⟩
    refine ⟨_, rfl, b, l, rfl, hb, hz, fun H1 s1 => ⟨_, rfl, ite2 (fun c => ?_) fun c => ?_⟩⟩
    · have c1 : Kh434.isPriceTable l = false := by simpa using c
      have gv := q.err (row := [-22]) S (by rw [ap_tab1 c1]) (by rw [ap_tab1 c1]; rfl)
      exact ⟨one_line, fun p hp => gv _ p (s1.trans (Same.new hp)) (s1.free hp) upd_same⟩
    · have c1 : Kh434.isPriceTable l = true := by simpa using c
      refine ⟨_, rfl, b, _, rfl, SqL.of (s1 _ _ hb), fun p1 h1 => ?_⟩
      rw [ev0]
      have s2 := s1.trans (Same.new (o := .lst (nV (evens l))) h1)
      refine ⟨_, rfl, b, _, rfl, SqL.of (s2 _ _ hb), fun p2 h2 => ?_⟩
      rw [ev1]
      have s3 := s2.trans (Same.new (o := .lst (nV (odds l))) h2)
      refine ⟨p1, p2, nV (evens l), nV (odds l), rfl, SqL.of (Same.new h2 _ _ upd_same), SqL.of upd_same, fun H2 p ts s4 hp hts hpl htup => ?_⟩
      have sA := s3.trans s4
      have hp0 : H p = none := s3.free hp
      rw [zip_rows, ← rows_zip] at htup
      have S2 := S.same sA
      obtain ⟨dx, hobj⟩ := S2.obj
      refine ⟨_, rfl, o.a, CS, dx, _, rfl, hobj, T.cl, T.nPrices, by show 5 < 1000; decide, ?_⟩
      rw [pF_prices]
      have npa : p ≠ o.a := fun z => by
        rw [z] at hp0
        obtain ⟨dx0, h0⟩ := S.obj
        rw [h0] at hp0
        cases hp0
      have npl : o.l ≠ p := fun z => by rw [← z, S.stems] at hp0; cases hp0
      have S3 : StAt CS (upd H2 o.a (.ins CS dx (sF st.bunchSize o.l p st.sold st.revenue))) ⟨o.a, o.l, p⟩ { st with priceTable := Kh434.tableRows l } :=
        ⟨⟨dx, upd_same⟩, (upd_ne S2.al.symm).trans S2.stems, ⟨ts, (upd_ne npa).trans hpl, htup.keep (tup_upd hobj fun xs z => by cases z)⟩, npl⟩
      have few : ts.length = (Kh434.tableRows l).length := by have := htup.1; rwa [List.length_map] at this
      refine ⟨_, rfl, o.a, CS, dx, _, _, rfl, upd_same, T.cl, T.nPrices, sF_prices, p, _, rfl, .inl (SqL.of ((upd_ne npa).trans hpl)), one_line, fun r hr1 => ?_⟩
      have new := Same.new (o := rV [((ts.map V.ref).length : Int)]) hr1
      have hr0 : H r = none := sA.free (upd_none hobj hr1)
      refine q _ ⟨o.a, o.l, p⟩ r ?_ ⟨fun b u e n1 _ _ => new _ _ ((upd_ne n1).trans (sA _ _ e)), rfl, .inl rfl, .inr hp0⟩ hr0 ?_
      · rw [ap_tab2 c1]
        exact S3.same new
      · rw [ap_tab2 c1]
        show upd _ r (rV [((ts.map V.ref).length : Int)]) r = some (rV [((Kh434.tableRows l).length : Int)])
        rw [upd_same, List.length_map, few]
/-! ### bunch_error -/
abbrev sBErr : Stmt := top 39
def bErr (s : Kh434.Stock) (mask : Nat) : Int := if 2 ^ s.stems.length ≤ mask then -22 else if (inOf s.stems mask).length = s.bunchSize then 0 else -33
def spBErr (CS : Addr) : Sp := fun vs H Q _ => ∃ (o : Own) (s : Kh434.Stock) (mask : Nat), vs = [.ref o.a, .int (mask : Int)] ∧ StAt CS H o s ∧ Good s ∧ ∀ H' : Hp, Same H H' → Q (.int (bErr s mask)) H'
theorem scBErr : FnScope ["stock", "mask"] ["stock", "mask"] (defScope sBErr) := ⟨rfl, rfl, rfl, by decide +kernel, rfl, by decide +kernel, by decide +kernel⟩
theorem shr_is (mask n : Nat) : ((mask : Int) / 2 ^ ((n : Nat) : Int).toNat) = ((mask / 2 ^ n : Nat) : Int) := by
  rw [Int.toNat_natCast, two_pow_cast, ← Int.natCast_ediv]
theorem ok_bErr (G : GF K mg "bunch_error" sBErr) (T : Txt K mg CS CD) (DI : Def P w K mg base 1 "stems_in" ["stems", "mask"] (spPick inOf)) : Def P w K mg base 2 "bunch_error" ["stock", "mask"] (spBErr CS) := by
  refine def_of G scBErr (fun _ _ _ _ _ _ us hl => match us, hl with | [_, _], _ => rfl) (fun vs H Q E h => ?_) fun f cdv A outer s H vs Q E hr h => ?_
  · obtain ⟨o, st, mask, rfl, _⟩ := h
    rfl
  · obtain ⟨o, st, mask, rfl, S, g, q⟩ := h
    obtain ⟨dx, hobj⟩ := S.obj
    refine ⟨_, pss_cons (ps_if (pt_cmpR op_ne (pe_op op_shr (pv 1) (pe_callB call_len_seq (by rfl) T.b.len PySem.boot_len (pa_cons (pe_fld (pv 0) rfl) pa_nil))) pe_int (nomark _)) (pss_one (ps_ret (pe_k T.cInv))) pss_nil)
      (pss_one (ps_ret (pe_ifExp (pt_cmpR op_eq (pe_callB call_len_seq (by rfl) T.b.len PySem.boot_len (pa_cons (pe_def DI hr (pa_cons (pe_fld (pv 0) rfl) (pa_cons (pv 1) pa_nil))) pa_nil)) (pe_fld (pv 0) rfl) (nomark _)) pe_int (pe_k T.cUndef)))), ?_⟩
    have es : ((mask : Int) / 2 ^ (((nV st.stems).length : Nat) : Int).toNat) = ((mask / 2 ^ st.stems.length : Nat) : Int) := by rw [shr_is, nV_length]
    refine ⟨_, rfl, _, rfl, o.a, CS, dx, _, _, rfl, hobj, T.cl, T.nStems, sF_stems, o.l, _, rfl, .inl (SqL.of S.stems), _, _, rfl, rfl, by omega, rfl, _, rfl, ite2 (fun c => ?_) fun c => ?_⟩
    · have c1 : 2 ^ st.stems.length ≤ mask := by
        have c' : (!decide (V.int ((mask : Int) / 2 ^ (((nV st.stems).length : Nat) : Int).toNat) = V.int 0)) = true := c
        rw [es] at c'
        by_cases z : 2 ^ st.stems.length ≤ mask
        · exact z
        · rw [Nat.div_eq_of_lt (by omega)] at c'
          simp at c'
      exact int_eq (q H (Same.refl H)) (if_pos c1)
    · have c1 : ¬ 2 ^ st.stems.length ≤ mask := fun z => by
        have c' : ¬ (!decide (V.int ((mask : Int) / 2 ^ (((nV st.stems).length : Nat) : Int).toNat) = V.int 0)) = true := c
        rw [es] at c'
        have pos : 0 < mask / 2 ^ st.stems.length := Nat.div_pos z (Nat.pow_pos (by decide))
        have e : V.int ((mask / 2 ^ st.stems.length : Nat) : Int) = V.int 0 := by simpa using c'
        have e2 := V.int.inj e
        omega
      refine ⟨_, rfl, o.a, CS, dx, _, _, rfl, hobj, T.cl, T.nStems, sF_stems, _, rfl, o.l, st.stems, mask, rfl, S.stems, g.z, fun H1 p s1 hp hpl => ?_⟩
      refine ⟨p, _, rfl, .inl (SqL.of hpl), _, rfl, o.a, CS, dx, _, _, rfl, s1 _ _ hobj, T.cl, T.nSize, sF_size, rfl, _, rfl, ite2 (fun c2 => ?_) fun c2 => ?_⟩
      · have c3 : (inOf st.stems mask).length = st.bunchSize := by
          have e : ((nV (inOf st.stems mask)).length : Int) = (st.bunchSize : Int) := V.int.inj (of_decide_eq_true c2)
          rw [nV_length] at e
          omega
        exact int_eq (q H1 s1) ((if_neg c1).trans (if_pos c3))
      · have c3 : ¬ (inOf st.stems mask).length = st.bunchSize := fun z => c2 (decide_eq_true (by rw [nV_length, z]))
        exact int_eq (q H1 s1) ((if_neg c1).trans (if_neg c3))
/-! ### sell -/
abbrev sSell : Stmt := top 40
def spSell (CS : Addr) : Sp := fun vs H Q _ => ∃ (a dx l p r : Addr) (size sold rev v c : Nat), vs = [.ref a, .int (v : Int), .int (c : Int), .ref r] ∧ H a = some (.ins CS dx (sF size l p sold rev)) ∧
  ∀ H' : Hp, H' a = some (.ins CS dx (sF size r p (sold + c) (rev + v))) → (∀ b u, H b = some u → b ≠ a → H' b = some u) → (∀ b, H' b = none → H b = none) → Q .non H'
theorem scSell : FnScope ["stock", "value", "count", "rest"] ["stock", "value", "count", "rest"] (defScope sSell) := ⟨rfl, rfl, rfl, by decide +kernel, rfl, by decide +kernel, by decide +kernel⟩
theorem ok_sell (G : GF K mg "sell" sSell) (T : Txt K mg CS CD) : Def P w K mg base 1 "sell" ["stock", "value", "count", "rest"] (spSell CS) := by
  refine def_of G scSell (fun _ _ _ _ _ _ us hl => match us, hl with | [_, _, _, _], _ => rfl) (fun vs H Q E h => ?_) fun f cdv A outer s H vs Q E hr h => ?_
  · obtain ⟨a, dx, l, p, r, size, sold, rev, v, c, rfl, _⟩ := h
    rfl
  · obtain ⟨a, dx, l, p, r, size, sold, rev, v, c, rfl, ha, q⟩ := h
    refine ⟨_, pss_cons (ps_fldaug (pv 0) (pv 2) in_add) (pss_cons (ps_fldaug (pv 0) (pv 1) in_add) (pss_one (ps_fld (pv 0) (pv 3) rfl))), ?_⟩
    refine ⟨_, rfl, a, CS, dx, _, _, rfl, ha, T.cl, T.nSold, sF_sold, _, rfl, _, _, rfl, rfl, dx, _, ha, by show 5 < 1000; decide, ?_⟩
    have e1 : putF "sold" (V.int ((sold : Int) + (c : Int))) (sF size l p sold rev) = sF size l p (sold + c) rev := pF_sold (sold + c)
    rw [e1]
    refine ⟨_, rfl, a, CS, dx, _, _, rfl, upd_same, T.cl, T.nRev, sF_rev, _, rfl, _, _, rfl, rfl, dx, _, upd_same, by show 5 < 1000; decide, ?_⟩
    have e2 : putF "revenue" (V.int ((rev : Int) + (v : Int))) (sF size l p (sold + c) rev) = sF size l p (sold + c) (rev + v) := pF_rev (rev + v)
    rw [e2]
    refine ⟨_, rfl, _, rfl, a, CS, dx, _, rfl, upd_same, T.cl, T.nStems, by show 5 < 1000; decide, ?_⟩
    rw [pF_stems]
    refine q _ upd_same (fun b u e n => ?_) fun b e => ?_
    · rw [upd_ne n, upd_ne n, upd_ne n]; exact e
    · have n : b ≠ a := fun z => by rw [z, upd_same] at e; cases e
      rw [upd_ne n, upd_ne n, upd_ne n] at e
      exact e
end
end Sb

namespace Sb
open PySem PySem.Spec PyProof.Rows L2
section
variable {P : Program} {w : World} {K : PySem.W.Frag} {mg : Str → Option Value} {base : Heap} {CS CD : Addr}
/-! ### sell_bunch -/
abbrev sSellB : Stmt := top 41
theorem ap_sell1 {s : Kh434.Stock} {mask : Nat} (h : bErr s mask ≠ 0) : Kh434.apply s (.sellBunch mask) = (s, Kh434.single (bErr s mask)) := by
  show (if 2 ^ s.stems.length ≤ mask then (s, Kh434.single (-22)) else if (inOf s.stems mask).length ≠ s.bunchSize then (s, Kh434.single (-33)) else _) = _
  unfold bErr at h ⊢
  by_cases c : 2 ^ s.stems.length ≤ mask
  · rw [if_pos c, if_pos c]
  · rw [if_neg c] at h ⊢
    rw [if_neg c]
    by_cases c2 : (inOf s.stems mask).length = s.bunchSize
    · rw [if_pos c2] at h
      exact absurd rfl h
    · rw [if_neg c2, if_pos c2]
theorem bErr_zero {s : Kh434.Stock} {mask : Nat} (h : bErr s mask = 0) : ¬ 2 ^ s.stems.length ≤ mask ∧ (inOf s.stems mask).length = s.bunchSize := by
  unfold bErr at h
  by_cases c : 2 ^ s.stems.length ≤ mask
  · rw [if_pos c] at h; cases h
  · rw [if_neg c] at h
    by_cases c2 : (inOf s.stems mask).length = s.bunchSize
    · exact ⟨c, c2⟩
    · rw [if_neg c2] at h; cases h
def soldB (s : Kh434.Stock) (mask : Nat) : Kh434.Stock := { s with stems := outOf s.stems mask, sold := s.sold + 1, revenue := s.revenue + bval s.priceTable (inOf s.stems mask) }
theorem ap_sell2 {s : Kh434.Stock} {mask : Nat} (h : bErr s mask = 0) : Kh434.apply s (.sellBunch mask) = (soldB s mask, Kh434.single (bval s.priceTable (inOf s.stems mask) : Nat)) := by
  obtain ⟨c, c2⟩ := bErr_zero h
  exact (if_neg c).trans (if_neg (by
    show ¬ (inOf s.stems mask).length ≠ s.bunchSize
    rw [c2]
    exact fun z => z rfl))
theorem inOf_len (l : List Nat) (mask : Nat) : (inOf l mask).length ≤ l.length := pick_len l _ _
theorem outOf_len (l : List Nat) (mask : Nat) : (outOf l mask).length ≤ l.length := pick_len l _ _
def spSellB (CS : Addr) : Sp := fun vs H Q _ => ∃ (o : Own) (s : Kh434.Stock) (mask : Nat), vs = [.ref o.a, .int (mask : Int)] ∧ StAt CS H o s ∧ Good s ∧ Changes CS H o Q (.sellBunch mask) s
theorem scSellB : FnScope ["stock", "mask", "error", "value"] ["stock", "mask"] (defScope sSellB) := ⟨rfl, rfl, rfl, by decide +kernel, rfl, by decide +kernel, by decide +kernel⟩
/-- behind sell: the stems in a new list -/
theorem StAt.sold {H H' : Hp} {o : Own} {s s' : Kh434.Stock} {p dx : Addr} {l : List Nat} (S : StAt CS H o s) (hp : H p = some (.lst (nV l))) (np : p ≠ o.p) (npa : p ≠ o.a) (e1 : H' o.a = some (.ins CS dx (sF s'.bunchSize p o.p s'.sold s'.revenue))) (kp : ∀ b u, H b = some u → b ≠ o.a → H' b = some u) (e2 : s'.stems = l) (e3 : s'.priceTable = s.priceTable) :
    StAt CS H' ⟨o.a, p, o.p⟩ s' := by
  obtain ⟨dx0, hobj⟩ := S.obj
  refine ⟨⟨dx, e1⟩, ?_, ?_, np⟩
  · rw [e2]; exact kp _ _ hp npa
  · rw [e3]
    exact S.tab.keep (fun u e => kp _ u e S.ap.symm) fun b xs e => kp b _ e (ne_of e hobj (by intro z; cases z))
theorem ok_sellB (G : GF K mg "sell_bunch" sSellB) (T : Txt K mg CS CD) (DE : Def P w K mg base 2 "bunch_error" ["stock", "mask"] (spBErr CS)) (DV : Def P w K mg base 2 "bunch_value" ["prices", "bunch"] spBval) (DI : Def P w K mg base 1 "stems_in" ["stems", "mask"] (spPick inOf))
    (DO : Def P w K mg base 1 "stems_outside" ["stems", "mask"] (spPick outOf)) (DS : Def P w K mg base 1 "sell" ["stock", "value", "count", "rest"] (spSell CS)) : Def P w K mg base 3 "sell_bunch" ["stock", "mask"] (spSellB CS) := by
  refine def_of G scSellB (fun _ _ _ _ _ _ us hl => match us, hl with | [_, _], _ => rfl) (fun vs H Q E h => ?_) fun f cdv A outer s H vs Q E hr h => ?_
  · obtain ⟨o, st, mask, rfl, _⟩ := h
    rfl
  · obtain ⟨o, st, mask, rfl, S, g, q⟩ := h
    refine ⟨_, pss_cons (ps_set (i := 2) scSellB.nd rfl (Or.inl rfl) (pe_def DE hr (pa_cons (pv 0) (pa_cons (pv 1) pa_nil))))
      (pss_cons (ps_if (pt_cmpR op_ne (pv 2) pe_int (nomark _)) (pss_one (ps_ret (pe_lst (pa_cons (pv 2) pa_nil)))) pss_nil)
      (pss_cons (ps_set (i := 3) scSellB.nd rfl (Or.inl rfl) (pe_def DV hr (pa_cons (pe_fld (pv 0) rfl) (pa_cons (pe_def DI hr (pa_cons (pe_fld (pv 0) rfl) (pa_cons (pv 1) pa_nil))) pa_nil))))
      (pss_cons (ps_expr (pe_def DS hr (pa_cons (pv 0) (pa_cons (pv 3) (pa_cons pe_int (pa_cons (pe_def DO hr (pa_cons (pe_fld (pv 0) rfl) (pa_cons (pv 1) pa_nil))) pa_nil))))))
      (pss_one (ps_ret (pe_lst (pa_cons (pv 3) pa_nil))))))), ?_⟩
    refine ⟨_, rfl, _, rfl, o, st, mask, rfl, S, g, fun H1 s1 => ?_⟩
    have S1 := S.same s1
    obtain ⟨dx, hobj⟩ := S1.obj
    refine ⟨_, rfl, rfl, _, rfl, ite2 (fun c => ?_) fun c => ?_⟩
    · have c1 : bErr st mask ≠ 0 := fun z => by rw [z] at c; simp at c
      have gv := q.err (row := [bErr st mask]) S (by rw [ap_sell1 c1]) (by rw [ap_sell1 c1]; rfl)
      exact ⟨_, rfl, one_line, fun p hp => gv _ p (s1.trans (Same.new hp)) (s1.free hp) upd_same⟩
    · have c1 : bErr st mask = 0 := by simpa using c
      obtain ⟨_, clen⟩ := bErr_zero c1
      have few := g.few
      have glo := g.lo
      have lin := inOf_len st.stems mask
      refine ⟨_, rfl, o.a, CS, dx, _, _, rfl, hobj, T.cl, T.nPrices, sF_prices, ?_⟩
      refine ⟨_, rfl, o.a, CS, dx, _, _, rfl, hobj, T.cl, T.nStems, sF_stems, _, rfl, o.l, st.stems, mask, rfl, S1.stems, g.z, fun H2 p2 s2 hp2 hl2 => ?_⟩
      have S2 := S1.same s2
      refine ⟨o.p, p2, st.priceTable, inOf st.stems mask, rfl, S2.tab, hl2, fun z => by rw [z] at clen; have : 0 = st.bunchSize := clen; omega, by omega, ?_⟩
      refine ⟨_, rfl, _, rfl, _, rfl, o.a, CS, dx, _, _, rfl, s2 _ _ hobj, T.cl, T.nStems, sF_stems, _, rfl, o.l, st.stems, mask, rfl, S2.stems, g.z, fun H3 p3 s3 hp3 hl3 => ?_⟩
      have S3 := S2.same s3
      have s123 := (s1.trans s2).trans s3
      have hp30 : H p3 = none := (s1.trans s2).free hp3
      refine ⟨o.a, dx, o.l, o.p, p3, st.bunchSize, st.sold, st.revenue, bval st.priceTable (inOf st.stems mask), 1, rfl, s3 _ _ (s2 _ _ hobj), fun H4 e4 kp4 nn4 => ?_⟩
      have np : p3 ≠ o.p := fun z => by
        obtain ⟨ts, h0, _⟩ := S.tab
        rw [z, h0] at hp30
        cases hp30
      have npa : p3 ≠ o.a := fun z => by
        obtain ⟨dx0, h0⟩ := S.obj
        rw [z, h0] at hp30
        cases hp30
      have S4 : StAt CS H4 ⟨o.a, p3, o.p⟩ (soldB st mask) := S3.sold hl3 np npa e4 kp4 rfl rfl
      refine ⟨_, rfl, one_line, fun r hr1 => ?_⟩
      have new := Same.new (o := rV [((bval st.priceTable (inOf st.stems mask) : Nat) : Int)]) hr1
      refine q _ ⟨o.a, p3, o.p⟩ r ?_ ⟨fun b u e n1 _ _ => new _ _ (kp4 _ _ (s123 _ _ e) n1), rfl, .inr hp30, .inl rfl⟩ (s123.free (nn4 _ hr1)) ?_
      · rw [ap_sell2 c1]
        exact S4.same new
      · rw [ap_sell2 c1]
        exact upd_same
/-! ### current_value -/
abbrev sCur : Stmt := top 42
def spCur (CS : Addr) : Sp := fun vs H Q _ => ∃ (o : Own) (s : Kh434.Stock), vs = [.ref o.a] ∧ StAt CS H o s ∧ Good s ∧ ∀ H' : Hp, Same H H' → Q (.int (Kh434.bestValue s : Nat)) H'
theorem scCur : FnScope ["stock"] ["stock"] (defScope sCur) := ⟨rfl, rfl, rfl, by decide +kernel, rfl, by decide +kernel, by decide +kernel⟩
theorem ok_cur (G : GF K mg "current_value" sCur) (T : Txt K mg CS CD) (DB : Def P w K mg base 3 "best_value" ["prices", "stems", "size"] spBv) : Def P w K mg base 4 "current_value" ["stock"] (spCur CS) := by
  refine def_of G scCur (fun _ _ _ _ _ _ us hl => match us, hl with | [_], _ => rfl) (fun vs H Q E h => ?_) fun f cdv A outer s H vs Q E hr h => ?_
  · obtain ⟨o, st, rfl, _⟩ := h
    rfl
  · obtain ⟨o, st, rfl, S, g, q⟩ := h
    obtain ⟨dx, hobj⟩ := S.obj
    refine ⟨_, pss_one (ps_ret (pe_def DB hr (pa_cons (pe_fld (pv 0) rfl) (pa_cons (pe_fld (pv 0) rfl) (pa_cons (pe_fld (pv 0) rfl) pa_nil))))), ?_⟩
    refine ⟨_, rfl, o.a, CS, dx, _, _, rfl, hobj, T.cl, T.nPrices, sF_prices, _, rfl, o.a, CS, dx, _, _, rfl, hobj, T.cl, T.nStems, sF_stems, _, rfl, o.a, CS, dx, _, _, rfl, hobj, T.cl, T.nSize, sF_size, ?_⟩
    exact ⟨o.p, o.l, st.priceTable, st.stems, st.bunchSize, rfl, S.tab, S.stems, g.lo, g.hi2, g.z, q⟩
/-! ### sell_best -/
abbrev sSellBest : Stmt := top 43
def soldBest (s : Kh434.Stock) : Kh434.Stock := { s with stems := Kh434.leftover s, sold := s.sold + (Kh434.bestBunches s).length, revenue := s.revenue + Kh434.bestValue s }
theorem ap_best1 {s : Kh434.Stock} (g : Good s) (h : s.stems.length / s.bunchSize = 0) : Kh434.apply s .sellBestBunches = (s, Kh434.single (-33)) := if_pos ((bestBunches_nil s g.lo).mpr h)
theorem ap_best2 {s : Kh434.Stock} (g : Good s) (h : ¬ s.stems.length / s.bunchSize = 0) : Kh434.apply s .sellBestBunches = (soldBest s, Kh434.withValues (Kh434.bestValue s) [(Kh434.bestBunches s).length]) := if_neg fun z => h ((bestBunches_nil s g.lo).mp z)
def spSellBest (CS : Addr) : Sp := fun vs H Q _ => ∃ (o : Own) (s : Kh434.Stock), vs = [.ref o.a] ∧ StAt CS H o s ∧ Good s ∧ Changes CS H o Q .sellBestBunches s
theorem scSellBest : FnScope ["stock", "count", "value"] ["stock"] (defScope sSellBest) := ⟨rfl, rfl, rfl, by decide +kernel, rfl, by decide +kernel, by decide +kernel⟩
theorem ok_sellBest (G : GF K mg "sell_best" sSellBest) (T : Txt K mg CS CD) (DC : Def P w K mg base 4 "current_value" ["stock"] (spCur CS)) (DL : Def P w K mg base 2 "left_over" ["stems", "size"] spLeft) (DS : Def P w K mg base 1 "sell" ["stock", "value", "count", "rest"] (spSell CS)) :
    Def P w K mg base 5 "sell_best" ["stock"] (spSellBest CS) := by
  refine def_of G scSellBest (fun _ _ _ _ _ _ us hl => match us, hl with | [_], _ => rfl) (fun vs H Q E h => ?_) fun f cdv A outer s H vs Q E hr h => ?_
  · obtain ⟨o, st, rfl, _⟩ := h
    rfl
  · obtain ⟨o, st, rfl, S, g, q⟩ := h
    obtain ⟨dx, hobj⟩ := S.obj
    refine ⟨_, pss_cons (ps_set (i := 1) scSellBest.nd rfl (Or.inl rfl) (pe_op op_fdiv (pe_callB call_len_seq (by rfl) T.b.len PySem.boot_len (pa_cons (pe_fld (pv 0) rfl) pa_nil)) (pe_fld (pv 0) rfl)))
      (pss_cons (ps_if (pt_cmpR op_eq (pv 1) pe_int (nomark _)) (pss_one (ps_ret (pe_lst (pa_cons (pe_k T.cUndef) pa_nil)))) pss_nil)
      (pss_cons (ps_set (i := 2) scSellBest.nd rfl (Or.inl rfl) (pe_def DC hr (pa_cons (pv 0) pa_nil)))
      (pss_cons (ps_expr (pe_def DS hr (pa_cons (pv 0) (pa_cons (pv 2) (pa_cons (pv 1) (pa_cons (pe_def DL hr (pa_cons (pe_fld (pv 0) rfl) (pa_cons (pe_fld (pv 0) rfl) pa_nil))) pa_nil))))))
      (pss_one (ps_ret (pe_lst (pa_cons (pv 2) (pa_cons (pv 1) pa_nil)))))))), ?_⟩
    have glo := g.lo
    have ghi := g.hi
    have e0 : ((nV st.stems).length : Int) / (st.bunchSize : Int) = ((st.stems.length / st.bunchSize : Nat) : Int) := by rw [nV_length, Int.natCast_ediv]
    refine ⟨_, rfl, o.a, CS, dx, _, _, rfl, hobj, T.cl, T.nStems, sF_stems, o.l, _, rfl, .inl (SqL.of S.stems), _, rfl, o.a, CS, dx, _, _, rfl, hobj, T.cl, T.nSize, sF_size, _, _, rfl, rfl, ⟨by omega, by omega⟩, ?_⟩
    have fd : (fun i j : Int => V.int (i / j)) ((nV st.stems).length : Int) (st.bunchSize : Int) = V.int ((st.stems.length / st.bunchSize : Nat) : Int) := congrArg V.int e0
    rw [fd]
    refine ⟨_, rfl, rfl, _, rfl, ite2 (fun c => ?_) fun c => ?_⟩
    · have c1 : st.stems.length / st.bunchSize = 0 := by
        have e := V.int.inj (of_decide_eq_true c)
        omega
      exact ⟨one_line, fun p hp => (q.err (row := [-33]) S (by rw [ap_best1 g c1]) (by rw [ap_best1 g c1]; rfl)).one hp⟩
    · have c1 : ¬ st.stems.length / st.bunchSize = 0 := fun z => c (decide_eq_true (by rw [z]; rfl))
      refine ⟨_, rfl, o, st, rfl, S, g, fun H1 s1 => ?_⟩
      have S1 := S.same s1
      refine ⟨_, rfl, _, rfl, _, rfl, _, rfl, o.a, CS, dx, _, _, rfl, s1 _ _ hobj, T.cl, T.nStems, sF_stems, _, rfl, o.a, CS, dx, _, _, rfl, s1 _ _ hobj, T.cl, T.nSize, sF_size, ?_⟩
      refine ⟨o.l, st.stems, st.bunchSize, rfl, S1.stems, g.lo, g.hi2, g.z, fun H3 p3 s3 hp3 hl3 => ?_⟩
      have S3 := S1.same s3
      have s13 := s1.trans s3
      have hp30 : H p3 = none := s1.free hp3
      have np : p3 ≠ o.p := fun z => by
        obtain ⟨ts, h0, _⟩ := S.tab
        rw [z, h0] at hp30
        cases hp30
      have npa : p3 ≠ o.a := fun z => by rw [z, hobj] at hp30; cases hp30
      rw [← leftover_is st g.lo] at hl3
      refine ⟨o.a, dx, o.l, o.p, p3, st.bunchSize, st.sold, st.revenue, Kh434.bestValue st, st.stems.length / st.bunchSize, rfl, s13 _ _ hobj, fun H4 e4 kp4 nn4 => ?_⟩
      rw [← bestBunches_length st g.lo] at e4
      have S4 : StAt CS H4 ⟨o.a, p3, o.p⟩ (soldBest st) := S3.sold hl3 np npa e4 kp4 rfl rfl
      refine ⟨_, rfl, _, rfl, by show 2 ≤ sizeLine; decide, fun r hr1 => ?_⟩
      have new := Same.new (o := rV [((Kh434.bestValue st : Nat) : Int), ((st.stems.length / st.bunchSize : Nat) : Int)]) hr1
      refine q _ ⟨o.a, p3, o.p⟩ r ?_ ⟨fun b u e n1 _ _ => new _ _ (kp4 _ _ (s13 _ _ e) n1), rfl, .inr hp30, .inl rfl⟩ (s13.free (nn4 _ hr1)) ?_
      · rw [ap_best2 g c1]
        exact S4.same new
      · rw [ap_best2 g c1]
        show upd H4 r _ r = some (rV [((Kh434.bestValue st : Nat) : Int), (((Kh434.bestBunches st).length : Nat) : Int)])
        rw [bestBunches_length st g.lo]
        exact upd_same
end
end Sb

namespace Sb
open PySem PySem.Spec PyProof.Rows L2
def spQ0 (CS : Addr) (c : Kh434.Call) : Sp := fun vs H Q _ => ∃ (o : Own) (s : Kh434.Stock), vs = [.ref o.a] ∧ StAt CS H o s ∧ Good s ∧ Gives H Q (rowOf (Kh434.apply s c).2)
def spQ1 (CS : Addr) (c : Nat → Kh434.Call) : Sp := fun vs H Q _ => ∃ (o : Own) (s : Kh434.Stock) (n : Nat), vs = [.ref o.a, .int (n : Int)] ∧ StAt CS H o s ∧ Good s ∧ Gives H Q (rowOf (Kh434.apply s (c n)).2)
def spQ2 (CS : Addr) (c : Nat → Nat → Kh434.Call) : Sp := fun vs H Q _ => ∃ (o : Own) (s : Kh434.Stock) (n m : Nat), vs = [.ref o.a, .int (n : Int), .int (m : Int)] ∧ StAt CS H o s ∧ Good s ∧ Gives H Q (rowOf (Kh434.apply s (c n m)).2)
theorem Gives.cast {H : Hp} {Q : VK} {a b : List Int} (h : Gives H Q a) (e : a = b) : Gives H Q b := by rw [← e]; exact h
theorem Gives.at {H H1 : Hp} {Q : VK} {row : List Int} (h : Gives H Q row) (k : Same H H1) {p : Addr} (hp : H1 p = none) : Q (.ref p) (upd H1 p (rV row)) := h _ p (k.trans (Same.new hp)) (k.free hp) upd_same
section
variable {P : Program} {w : World} {K : PySem.W.Frag} {mg : Str → Option Value} {base : Heap} {CS CD : Addr}
/-! ### tell_price -/
abbrev sTellP : Stmt := top 44
theorem ap_price1 {s : Kh434.Stock} {n : Nat} (h : 120 < n) : rowOf (Kh434.apply s (.priceOf n)).2 = [-22] := congrArg rowOf (if_pos h)
theorem ap_price2 {s : Kh434.Stock} {n : Nat} (h : ¬ 120 < n) : rowOf (Kh434.apply s (.priceOf n)).2 = [((Kh434.priceOf s.priceTable n : Nat) : Int)] := congrArg rowOf (if_neg h)
theorem scTellP : FnScope ["stock", "length"] ["stock", "length"] (defScope sTellP) := ⟨rfl, rfl, rfl, by decide +kernel, rfl, by decide +kernel, by decide +kernel⟩
theorem ok_tellP (G : GF K mg "tell_price" sTellP) (T : Txt K mg CS CD) (DP : Def P w K mg base 1 "price_of" ["prices", "length"] spPrice) : Def P w K mg base 2 "tell_price" ["stock", "length"] (spQ1 CS .priceOf) := by
  refine def_of G scTellP (fun _ _ _ _ _ _ us hl => match us, hl with | [_, _], _ => rfl) (fun vs H Q E h => ?_) fun f cdv A outer s H vs Q E hr h => ?_
  · obtain ⟨o, st, n, rfl, _⟩ := h
    rfl
  · obtain ⟨o, st, n, rfl, S, g, q⟩ := h
    obtain ⟨dx, hobj⟩ := S.obj
    refine ⟨_, pss_cons (ps_if (pt_cmpR op_gt (pv 1) (pe_k T.cMost) (nomark _)) (pss_one (ps_ret (pe_lst (pa_cons (pe_k T.cInv) pa_nil)))) pss_nil)
      (pss_one (ps_ret (pe_lst (pa_cons (pe_def DP hr (pa_cons (pe_fld (pv 0) rfl) (pa_cons (pv 1) pa_nil))) pa_nil)))), ?_⟩
    refine ⟨_, rfl, _, _, rfl, rfl, _, rfl, ite2 (fun c => ?_) fun c => ?_⟩
    · have c1 : 120 < n := by have := of_decide_eq_true c; omega
      exact ⟨one_line, fun p hp => (q.cast (ap_price1 c1)).one hp⟩
    · have c1 : ¬ 120 < n := fun z => c (decide_eq_true (by omega))
      refine ⟨_, rfl, o.a, CS, dx, _, _, rfl, hobj, T.cl, T.nPrices, sF_prices, _, rfl, o.p, st.priceTable, n, rfl, S.tab, ?_⟩
      exact ⟨one_line, fun p hp => (q.cast (ap_price2 c1)).one hp⟩
/-! ### tell_bunch -/
abbrev sTellB : Stmt := top 45
theorem ap_bun1 {s : Kh434.Stock} {mask : Nat} (h : bErr s mask ≠ 0) : rowOf (Kh434.apply s (.bunchValue mask)).2 = [bErr s mask] := by
  unfold bErr at h ⊢
  split
  · rename_i c
    exact congrArg rowOf (if_pos c)
  · rename_i c
    rw [if_neg c] at h
    split
    · rename_i c2
      rw [if_pos c2] at h
      exact absurd rfl h
    · rename_i c2
      exact congrArg rowOf ((if_neg c).trans (if_pos c2))
theorem ap_bun2 {s : Kh434.Stock} {mask : Nat} (h : bErr s mask = 0) : rowOf (Kh434.apply s (.bunchValue mask)).2 = [((bval s.priceTable (inOf s.stems mask) : Nat) : Int), ((Kh434.shortest (inOf s.stems mask) : Nat) : Int)] := by
  obtain ⟨h1, h2⟩ := bErr_zero h
  exact congrArg rowOf ((if_neg h1).trans (if_neg fun z => z h2))
theorem scTellB : FnScope ["stock", "mask", "error", "bunch"] ["stock", "mask"] (defScope sTellB) := ⟨rfl, rfl, rfl, by decide +kernel, rfl, by decide +kernel, by decide +kernel⟩
theorem ok_tellB (G : GF K mg "tell_bunch" sTellB) (T : Txt K mg CS CD) (DE : Def P w K mg base 2 "bunch_error" ["stock", "mask"] (spBErr CS)) (DV : Def P w K mg base 2 "bunch_value" ["prices", "bunch"] spBval) (DI : Def P w K mg base 1 "stems_in" ["stems", "mask"] (spPick inOf)) :
    Def P w K mg base 3 "tell_bunch" ["stock", "mask"] (spQ1 CS .bunchValue) := by
  refine def_of G scTellB (fun _ _ _ _ _ _ us hl => match us, hl with | [_, _], _ => rfl) (fun vs H Q E h => ?_) fun f cdv A outer s H vs Q E hr h => ?_
  · obtain ⟨o, st, mask, rfl, _⟩ := h
    rfl
  · obtain ⟨o, st, mask, rfl, S, g, q⟩ := h
    obtain ⟨dx, hobj⟩ := S.obj
    refine ⟨_, pss_cons (ps_set (i := 2) scTellB.nd rfl (Or.inl rfl) (pe_def DE hr (pa_cons (pv 0) (pa_cons (pv 1) pa_nil))))
      (pss_cons (ps_if (pt_cmpR op_ne (pv 2) pe_int (nomark _)) (pss_one (ps_ret (pe_lst (pa_cons (pv 2) pa_nil)))) pss_nil)
      (pss_cons (ps_set (i := 3) scTellB.nd rfl (Or.inl rfl) (pe_def DI hr (pa_cons (pe_fld (pv 0) rfl) (pa_cons (pv 1) pa_nil))))
      (pss_one (ps_ret (pe_lst (pa_cons (pe_def DV hr (pa_cons (pe_fld (pv 0) rfl) (pa_cons (pv 3) pa_nil))) (pa_cons (pe_callB (cr_min rfl) (by rfl) T.b.min PyProof.Rows.boot_min (pa_cons (pv 3) pa_nil)) pa_nil))))))), ?_⟩
    refine ⟨_, rfl, _, rfl, o, st, mask, rfl, S, g, fun H1 s1 => ?_⟩
    have S1 := S.same s1
    refine ⟨_, rfl, rfl, _, rfl, ite2 (fun c => ?_) fun c => ?_⟩
    · have c1 : bErr st mask ≠ 0 := fun z => by rw [z] at c; simp at c
      exact ⟨_, rfl, one_line, fun p hp => (q.cast (ap_bun1 c1)).at s1 hp⟩
    · have c1 : bErr st mask = 0 := by simpa using c
      obtain ⟨_, clen⟩ := bErr_zero c1
      have few := g.few
      have glo := g.lo
      have lin := inOf_len st.stems mask
      have pos : 0 < (inOf st.stems mask).length := by omega
      refine ⟨_, rfl, o.a, CS, dx, _, _, rfl, s1 _ _ hobj, T.cl, T.nStems, sF_stems, _, rfl, o.l, st.stems, mask, rfl, S1.stems, g.z, fun H2 p2 s2 hp2 hl2 => ?_⟩
      have S2 := S1.same s2
      have s12 := s1.trans s2
      refine ⟨_, rfl, o.a, CS, dx, _, _, rfl, s12 _ _ hobj, T.cl, T.nPrices, sF_prices, _, rfl, o.p, p2, st.priceTable, inOf st.stems mask, rfl, S2.tab, hl2, fun z => by rw [z] at pos; exact absurd pos (Nat.lt_irrefl 0), by omega, ?_⟩
      refine ⟨_, rfl, p2, iL (inOf st.stems mask), rfl, SqL.of hl2, by unfold iL; rw [List.length_map]; exact pos, fun m hm hle => ?_⟩
      obtain rfl := shortest_is hm hle
      exact ⟨by show 2 ≤ sizeLine; decide, fun p hp => (q.cast (ap_bun2 c1)).at s12 hp⟩
/-! ### with_count -/
abbrev sWithC : Stmt := top 48
def spWithC : Sp := fun vs H Q _ => ∃ (a : Addr) (l : List Nat), vs = [.ref a] ∧ H a = some (.lst (nV l)) ∧ l.length ≤ 1000 ∧ Gives H Q ((l.length : Int) :: iL l)
theorem scWithC : FnScope ["numbers"] ["numbers"] (defScope sWithC) := ⟨rfl, rfl, rfl, by decide +kernel, rfl, by decide +kernel, by decide +kernel⟩
theorem ok_withC (G : GF K mg "with_count" sWithC) (T : Txt K mg CS CD) : Def P w K mg base 1 "with_count" ["numbers"] spWithC := by
  refine def_of G scWithC (fun _ _ _ _ _ _ us hl => match us, hl with | [_], _ => rfl) (fun vs H Q E h => ?_) fun f cdv A outer s H vs Q E hr h => ?_
  · obtain ⟨a, l, rfl, _⟩ := h
    rfl
  · obtain ⟨a, l, rfl, ha, z, q⟩ := h
    refine ⟨_, pss_one (ps_ret (pe_op op_cat (pe_lst (pa_cons (pe_callB call_len_seq (by rfl) T.b.len PySem.boot_len (pa_cons (pv 0) pa_nil)) pa_nil)) (pv 0))), ?_⟩
    refine ⟨_, rfl, a, _, rfl, .inl (SqL.of ha), one_line, fun p1 h1 => ?_⟩
    have s1 := Same.new (o := .lst [V.int ((nV l).length : Int)]) h1
    refine ⟨_, rfl, p1, a, _, _, rfl, rfl, upd_same, s1 _ _ ha, ?_, fun p hp => ?_⟩
    · rw [nV_length]
      exact Nat.le_of_lt (Nat.lt_of_le_of_lt (show 1 + l.length ≤ 1001 by omega) (by decide))
    · rw [nV_length] at s1 hp ⊢
      exact q.at s1 hp
end
end Sb

namespace Sb
open PySem PySem.Spec PyProof.Rows L2
section
variable {P : Program} {w : World} {K : PySem.W.Frag} {mg : Str → Option Value} {base : Heap} {CS CD : Addr}
/-! ### gain_by_stem -/
abbrev sGain : Stmt := top 50
theorem ap_gain1 {s : Kh434.Stock} {n : Nat} (h : lenOk n = false) : rowOf (Kh434.apply s (.gainByStem n)).2 = [-22] := by
  unfold lenOk at h
  rw [decide_eq_false_iff_not] at h
  exact congrArg rowOf (if_pos (by omega))
theorem ap_gain2 {s : Kh434.Stock} {n : Nat} (g : Good s) (h : lenOk n = true) : rowOf (Kh434.apply s (.gainByStem n)).2 = [((bv s.priceTable (s.stems ++ [n]) s.bunchSize : Nat) : Int) - ((Kh434.bestValue s : Nat) : Int)] := by
  unfold lenOk at h
  rw [decide_eq_true_eq] at h
  have e : rowOf (Kh434.apply s (.gainByStem n)).2 = [((Kh434.bestValue (Kh434.withStem s n) - Kh434.bestValue s : Nat) : Int)] := congrArg rowOf (if_neg (by omega))
  rw [e]
  have le := bv_add g.srt (size := s.bunchSize) g.lo s.stems n
  rw [bestValue_is, bestValue_is]
  show [((bv s.priceTable (s.stems ++ [n]) s.bunchSize - bv s.priceTable s.stems s.bunchSize : Nat) : Int)] = _
  rw [Int.ofNat_sub le]
theorem scGain : FnScope ["stock", "length"] ["stock", "length"] (defScope sGain) := ⟨rfl, rfl, rfl, by decide +kernel, rfl, by decide +kernel, by decide +kernel⟩
theorem ok_gain (G : GF K mg "gain_by_stem" sGain) (T : Txt K mg CS CD) (DL : Def P w K mg base 1 "is_length" ["length"] (spIs lenOk)) (DB : Def P w K mg base 3 "best_value" ["prices", "stems", "size"] spBv) (DC : Def P w K mg base 4 "current_value" ["stock"] (spCur CS)) : Def P w K mg base 5 "gain_by_stem" ["stock", "length"] (spQ1 CS .gainByStem) := by
  refine def_of G scGain (fun _ _ _ _ _ _ us hl => match us, hl with | [_, _], _ => rfl) (fun vs H Q E h => ?_) fun f cdv A outer s H vs Q E hr h => ?_
  · obtain ⟨o, st, n, rfl, _⟩ := h
    rfl
  · obtain ⟨o, st, n, rfl, S, g, q⟩ := h
    obtain ⟨dx, hobj⟩ := S.obj
    refine ⟨_, pss_cons (ps_if (pt_not (pt_val (pe_def DL hr (pa_cons (pv 1) pa_nil)))) (pss_one (ps_ret (pe_lst (pa_cons (pe_k T.cInv) pa_nil)))) pss_nil)
      (pss_one (ps_ret (pe_lst (pa_cons (pe_op op_sub (pe_def DB hr (pa_cons (pe_fld (pv 0) rfl) (pa_cons (pe_op op_cat (pe_fld (pv 0) rfl) (pe_lst (pa_cons (pv 1) pa_nil))) (pa_cons (pe_fld (pv 0) rfl) pa_nil)))) (pe_def DC hr (pa_cons (pv 0) pa_nil))) pa_nil)))), ?_⟩
    refine ⟨_, rfl, n, rfl, _, rfl, ite2 (fun c => ?_) fun c => ?_⟩
    · have c1 : lenOk n = false := by simpa using c
      exact ⟨one_line, fun p hp => (q.cast (ap_gain1 c1)).one hp⟩
    · have c1 : lenOk n = true := by simpa using c
      have few := g.few
      refine ⟨_, rfl, o.a, CS, dx, _, _, rfl, hobj, T.cl, T.nPrices, sF_prices, _, rfl, o.a, CS, dx, _, _, rfl, hobj, T.cl, T.nStems, sF_stems, _, rfl, one_line, fun p1 h1 => ?_⟩
      have s1 := Same.new (o := .lst [V.int (n : Int)]) h1
      refine ⟨o.l, p1, _, _, rfl, rfl, s1 _ _ S.stems, upd_same, ?_, fun p2 h2 => ?_⟩
      · rw [nV_length]
        exact Nat.le_of_lt (small_line (show st.stems.length + 1 ≤ 1000 by omega))
      · have e2 : nV st.stems ++ [V.int (n : Int)] = nV (st.stems ++ [n]) := by rw [nV_append]; rfl
        rw [e2]
        have s2 := s1.trans (Same.new (o := .lst (nV (st.stems ++ [n]))) h2)
        have S2 := S.same s2
        refine ⟨_, rfl, o.a, CS, dx, _, _, rfl, s2 _ _ hobj, T.cl, T.nSize, sF_size, ?_⟩
        refine ⟨o.p, p2, st.priceTable, st.stems ++ [n], st.bunchSize, rfl, S2.tab, upd_same, g.lo, g.hi2, by rw [List.length_append]; show st.stems.length + 1 ≤ 1000; omega, fun H3 s3 => ?_⟩
        refine ⟨_, rfl, o, st, rfl, S2.same s3, g, fun H4 s4 => ?_⟩
        refine ⟨_, _, rfl, rfl, one_line, fun p hp => ?_⟩
        exact (q.cast (ap_gain2 g c1)).at ((s2.trans s3).trans s4) hp
/-! ### value_if_size -/
abbrev sIfSize : Stmt := top 51
theorem ap_ifs1 {s : Kh434.Stock} {n : Nat} (h : sizeOk n = false) : rowOf (Kh434.apply s (.valueIfBunchSize n)).2 = [-22] := by
  unfold sizeOk at h
  rw [decide_eq_false_iff_not] at h
  exact congrArg rowOf (if_pos (by omega))
theorem ap_ifs2 {s : Kh434.Stock} {n : Nat} (h : sizeOk n = true) : rowOf (Kh434.apply s (.valueIfBunchSize n)).2 = [((bv s.priceTable s.stems n : Nat) : Int)] := by
  unfold sizeOk at h
  rw [decide_eq_true_eq] at h
  exact congrArg rowOf (if_neg (by omega))
theorem scIfSize : FnScope ["stock", "size"] ["stock", "size"] (defScope sIfSize) := ⟨rfl, rfl, rfl, by decide +kernel, rfl, by decide +kernel, by decide +kernel⟩
theorem ok_ifSize (G : GF K mg "value_if_size" sIfSize) (T : Txt K mg CS CD) (DS : Def P w K mg base 1 "is_size" ["size"] (spIs sizeOk)) (DB : Def P w K mg base 3 "best_value" ["prices", "stems", "size"] spBv) : Def P w K mg base 4 "value_if_size" ["stock", "size"] (spQ1 CS .valueIfBunchSize) := by
  refine def_of G scIfSize (fun _ _ _ _ _ _ us hl => match us, hl with | [_, _], _ => rfl) (fun vs H Q E h => ?_) fun f cdv A outer s H vs Q E hr h => ?_
  · obtain ⟨o, st, n, rfl, _⟩ := h
    rfl
  · obtain ⟨o, st, n, rfl, S, g, q⟩ := h
    obtain ⟨dx, hobj⟩ := S.obj
    refine ⟨_, pss_cons (ps_if (pt_not (pt_val (pe_def DS hr (pa_cons (pv 1) pa_nil)))) (pss_one (ps_ret (pe_lst (pa_cons (pe_k T.cInv) pa_nil)))) pss_nil)
      (pss_one (ps_ret (pe_lst (pa_cons (pe_def DB hr (pa_cons (pe_fld (pv 0) rfl) (pa_cons (pe_fld (pv 0) rfl) (pa_cons (pv 1) pa_nil)))) pa_nil)))), ?_⟩
    refine ⟨_, rfl, n, rfl, _, rfl, ite2 (fun c => ?_) fun c => ?_⟩
    · have c1 : sizeOk n = false := by simpa using c
      exact ⟨one_line, fun p hp => (q.cast (ap_ifs1 c1)).one hp⟩
    · have c1 : sizeOk n = true := by simpa using c
      have c2 : 1 ≤ n ∧ n ≤ 5 := by unfold sizeOk at c1; rwa [decide_eq_true_eq] at c1
      refine ⟨_, rfl, o.a, CS, dx, _, _, rfl, hobj, T.cl, T.nPrices, sF_prices, _, rfl, o.a, CS, dx, _, _, rfl, hobj, T.cl, T.nStems, sF_stems, _, rfl, ?_⟩
      refine ⟨o.p, o.l, st.priceTable, st.stems, n, rfl, S.tab, S.stems, c2.1, by omega, g.z, fun H3 s3 => ?_⟩
      exact ⟨one_line, fun p hp => (q.cast (ap_ifs2 c1)).at s3 hp⟩
/-! ### value_if_trimmed -/
abbrev sIfTrim : Stmt := top 53
theorem ap_ift1 {s : Kh434.Stock} {i n : Nat} (h : trimErr s i n ≠ 0) : rowOf (Kh434.apply s (.valueIfTrimmed i n)).2 = [trimErr s i n] := by
  unfold trimErr at h ⊢
  split
  · rename_i c
    exact congrArg rowOf (if_pos c)
  · rename_i c
    rw [if_neg c] at h
    split
    · rename_i c2
      exact congrArg rowOf ((if_neg c).trans (if_pos c2))
    · rename_i c2
      rw [if_neg c2] at h
      exact absurd rfl h
theorem ap_ift2 {s : Kh434.Stock} {i n : Nat} (h : trimErr s i n = 0) : i < s.stems.length ∧ rowOf (Kh434.apply s (.valueIfTrimmed i n)).2 = [((bv s.priceTable (s.stems.set i n) s.bunchSize : Nat) : Int)] := by
  unfold trimErr at h
  split at h
  · cases h
  · rename_i c
    split at h
    · cases h
    · rename_i c2
      have c1 : Kh434.isStem s i = true := by cases q : Kh434.isStem s i with | true => rfl | false => exact absurd q c
      exact ⟨of_decide_eq_true c1, congrArg rowOf ((if_neg c).trans (if_neg c2))⟩
theorem scIfTrim : FnScope ["stock", "stem", "length", "error"] ["stock", "stem", "length"] (defScope sIfTrim) := ⟨rfl, rfl, rfl, by decide +kernel, rfl, by decide +kernel, by decide +kernel⟩
theorem ok_ifTrim (G : GF K mg "value_if_trimmed" sIfTrim) (T : Txt K mg CS CD) (DT : Def P w K mg base 2 "trim_error" ["stock", "stem", "length"] (spTErr CS)) (DM : Def P w K mg base 1 "trimmed" ["stems", "place", "length"] spTrimmed) (DB : Def P w K mg base 3 "best_value" ["prices", "stems", "size"] spBv) :
    Def P w K mg base 4 "value_if_trimmed" ["stock", "stem", "length"] (spQ2 CS .valueIfTrimmed) := by
  refine def_of G scIfTrim (fun _ _ _ _ _ _ us hl => match us, hl with | [_, _, _], _ => rfl) (fun vs H Q E h => ?_) fun f cdv A outer s H vs Q E hr h => ?_
  · obtain ⟨o, st, i, n, rfl, _⟩ := h
    rfl
  · obtain ⟨o, st, i, n, rfl, S, g, q⟩ := h
    obtain ⟨dx, hobj⟩ := S.obj
    refine ⟨_, pss_cons (ps_set (i := 3) scIfTrim.nd rfl (Or.inl rfl) (pe_def DT hr (pa_cons (pv 0) (pa_cons (pv 1) (pa_cons (pv 2) pa_nil)))))
      (pss_cons (ps_if (pt_cmpR op_ne (pv 3) pe_int (nomark _)) (pss_one (ps_ret (pe_lst (pa_cons (pv 3) pa_nil)))) pss_nil)
      (pss_one (ps_ret (pe_lst (pa_cons (pe_def DB hr (pa_cons (pe_fld (pv 0) rfl) (pa_cons (pe_def DM hr (pa_cons (pe_fld (pv 0) rfl) (pa_cons (pv 1) (pa_cons (pv 2) pa_nil)))) (pa_cons (pe_fld (pv 0) rfl) pa_nil)))) pa_nil))))), ?_⟩
    refine ⟨_, rfl, _, rfl, _, rfl, o, st, i, n, rfl, S, g, ?_⟩
    refine ⟨_, rfl, rfl, _, rfl, ite2 (fun c => ?_) fun c => ?_⟩
    · have c1 : trimErr st i n ≠ 0 := fun z => by rw [z] at c; simp at c
      exact ⟨_, rfl, one_line, fun p hp => (q.cast (ap_ift1 c1)).one hp⟩
    · have c1 : trimErr st i n = 0 := by simpa using c
      obtain ⟨ci, ap⟩ := ap_ift2 c1
      have few := g.few
      refine ⟨_, rfl, o.a, CS, dx, _, _, rfl, hobj, T.cl, T.nPrices, sF_prices, _, rfl, o.a, CS, dx, _, _, rfl, hobj, T.cl, T.nStems, sF_stems, _, rfl, _, rfl, ?_⟩
      refine ⟨o.l, st.stems, i, n, rfl, S.stems, g.z, ci, fun H1 p1 s1 hp1 hl1 => ?_⟩
      refine ⟨_, rfl, o.a, CS, dx, _, _, rfl, s1 _ _ hobj, T.cl, T.nSize, sF_size, ?_⟩
      refine ⟨o.p, p1, st.priceTable, st.stems.set i n, st.bunchSize, rfl, S.tab.same s1, hl1, g.lo, g.hi2, by rw [List.length_set]; exact g.z, fun H2 s2 => ?_⟩
      exact ⟨one_line, fun p hp => (q.cast ap).at (s1.trans s2) hp⟩
/-! ### contribution -/
abbrev sContr : Stmt := top 54
theorem ap_con1 {s : Kh434.Stock} {i : Nat} (h : Kh434.isStem s i = false) : rowOf (Kh434.apply s (.stemContribution i)).2 = [-2] := congrArg rowOf (if_pos h)
theorem ap_con2 {s : Kh434.Stock} {i : Nat} (g : Good s) (h : Kh434.isStem s i = true) : rowOf (Kh434.apply s (.stemContribution i)).2 = [((Kh434.bestValue s : Nat) : Int) - ((bv s.priceTable (s.stems.eraseIdx i) s.bunchSize : Nat) : Int)] := by
  have e : rowOf (Kh434.apply s (.stemContribution i)).2 = [((Kh434.bestValue s - Kh434.bestValue { s with stems := s.stems.eraseIdx i } : Nat) : Int)] := congrArg rowOf (if_neg (by rw [h]; decide))
  rw [e]
  have le := bv_erase g.srt (size := s.bunchSize) g.lo s.stems i
  rw [bestValue_is, bestValue_is]
  show [((bv s.priceTable s.stems s.bunchSize - bv s.priceTable (s.stems.eraseIdx i) s.bunchSize : Nat) : Int)] = _
  rw [Int.ofNat_sub le]
theorem scContr : FnScope ["stock", "stem"] ["stock", "stem"] (defScope sContr) := ⟨rfl, rfl, rfl, by decide +kernel, rfl, by decide +kernel, by decide +kernel⟩
theorem ok_contr (G : GF K mg "contribution" sContr) (T : Txt K mg CS CD) (DI : Def P w K mg base 1 "is_stem" ["stock", "stem"] (spIsStem CS)) (DC : Def P w K mg base 4 "current_value" ["stock"] (spCur CS)) (DW : Def P w K mg base 1 "without" ["stems", "place"] spWithout) (DB : Def P w K mg base 3 "best_value" ["prices", "stems", "size"] spBv) :
    Def P w K mg base 5 "contribution" ["stock", "stem"] (spQ1 CS .stemContribution) := by
  refine def_of G scContr (fun _ _ _ _ _ _ us hl => match us, hl with | [_, _], _ => rfl) (fun vs H Q E h => ?_) fun f cdv A outer s H vs Q E hr h => ?_
  · obtain ⟨o, st, i, rfl, _⟩ := h
    rfl
  · obtain ⟨o, st, i, rfl, S, g, q⟩ := h
    obtain ⟨dx, hobj⟩ := S.obj
    refine ⟨_, pss_cons (ps_if (pt_not (pt_val (pe_def DI hr (pa_cons (pv 0) (pa_cons (pv 1) pa_nil))))) (pss_one (ps_ret (pe_lst (pa_cons (pe_k T.cNot) pa_nil)))) pss_nil)
      (pss_one (ps_ret (pe_lst (pa_cons (pe_op op_sub (pe_def DC hr (pa_cons (pv 0) pa_nil)) (pe_def DB hr (pa_cons (pe_fld (pv 0) rfl) (pa_cons (pe_def DW hr (pa_cons (pe_fld (pv 0) rfl) (pa_cons (pv 1) pa_nil))) (pa_cons (pe_fld (pv 0) rfl) pa_nil))))) pa_nil)))), ?_⟩
    refine ⟨_, rfl, _, rfl, o, st, i, rfl, S, _, rfl, ite2 (fun c => ?_) fun c => ?_⟩
    · have c1 : Kh434.isStem st i = false := by simpa using c
      exact ⟨one_line, fun p hp => (q.cast (ap_con1 c1)).one hp⟩
    · have c1 : Kh434.isStem st i = true := by simpa using c
      have few := g.few
      refine ⟨_, rfl, o, st, rfl, S, g, fun H1 s1 => ?_⟩
      have S1 := S.same s1
      refine ⟨_, rfl, o.a, CS, dx, _, _, rfl, s1 _ _ hobj, T.cl, T.nPrices, sF_prices, _, rfl, o.a, CS, dx, _, _, rfl, s1 _ _ hobj, T.cl, T.nStems, sF_stems, _, rfl, ?_⟩
      refine ⟨o.l, st.stems, i, rfl, S1.stems, g.z, fun H2 p2 s2 hp2 hl2 => ?_⟩
      have s12 := s1.trans s2
      refine ⟨_, rfl, o.a, CS, dx, _, _, rfl, s12 _ _ hobj, T.cl, T.nSize, sF_size, ?_⟩
      have le : (st.stems.eraseIdx i).length ≤ st.stems.length := List.length_eraseIdx_le _ _
      refine ⟨o.p, p2, st.priceTable, st.stems.eraseIdx i, st.bunchSize, rfl, S.tab.same s12, hl2, g.lo, g.hi2, by omega, fun H3 s3 => ?_⟩
      refine ⟨_, _, rfl, rfl, one_line, fun p hp => ?_⟩
      exact (q.cast (ap_con2 g c1)).at (s12.trans s3) hp
end
end Sb

namespace Sb
open PySem PySem.Spec PyProof.Rows L2
/-! ### readings in a comprehension's block -/
def rLen (K : PySem.W.Frag) : List V → Hp → VK → Prop := fun xs H Q => ∃ p ys, xs = [.ref p] ∧ (SqL K H p ys ∨ SqT K H p ys) ∧ Q (.int ys.length) H
theorem cr_lenK {X : Cx} {K : PySem.W.Frag} (hK : X.K = K) : CallR X (.builtin "len") (rLen K) := by
  subst hK
  exact call_len_seq
theorem pe_fldK {X : Cx} {K : PySem.W.Frag} {e : Expr} {f : Str} {pos : Pos} {ta : TE} (hK : X.K = K) (he : PE X e ta) (hb : attributeBase e f X.env (eval e X.env) = eval e X.env) : PE X (.Attribute e f pos) (tFld K ta f) := by
  subst hK
  exact pe_fld he hb
theorem flat_pieces : ∀ (f size : Nat) (l : List Nat), (Kh434.pieces f size l).flatten.length ≤ l.length
  | 0, size, l => Nat.zero_le _
  | f + 1, size, l => by
    unfold Kh434.pieces
    split
    · exact Nat.zero_le _
    · rw [List.flatten_cons, List.length_append, List.length_take]
      have ih := flat_pieces f size (l.drop size)
      rw [List.length_drop] at ih
      omega
theorem flat_take (bs : List (List Nat)) (i : Nat) : (bs.take i).flatten.length ≤ bs.flatten.length := by
  conv => rhs; rw [← List.take_append_drop i bs, List.flatten_append, List.length_append]
  exact Nat.le_add_right _ _
section
variable {P : Program} {w : World} {K : PySem.W.Frag} {mg : Str → Option Value} {base : Heap} {CS CD : Addr}
/-! ### value_singly -/
abbrev sSingly : Stmt := top 49
def spSingly (CS : Addr) : Sp := fun vs H Q _ => ∃ (o : Own) (s : Kh434.Stock), vs = [.ref o.a] ∧ StAt CS H o s ∧ Good s ∧ ∀ H' : Hp, Same H H' → Q (.int (Kh434.valueSingly s : Nat)) H'
theorem scSingly : FnScope ["stock", "length"] ["stock"] (defScope sSingly) := ⟨rfl, rfl, rfl, by decide +kernel, rfl, by decide +kernel, by decide +kernel⟩
theorem ok_singly (G : GF K mg "value_singly" sSingly) (T : Txt K mg CS CD) (DP : Def P w K mg base 1 "price_of" ["prices", "length"] spPrice) : Def P w K mg base 2 "value_singly" ["stock"] (spSingly CS) := by
  refine def_of G scSingly (fun _ _ _ _ _ _ us hl => match us, hl with | [_], _ => rfl) (fun vs H Q E h => ?_) fun f cdv A outer s H vs Q E hr h => ?_
  · obtain ⟨o, st, rfl, _⟩ := h
    rfl
  · obtain ⟨o, st, rfl, S, g, q⟩ := h
    obtain ⟨dx, hobj⟩ := S.obj
    refine ⟨_, pss_one (ps_ret (pe_callB (cr_sum rfl) (by rfl) T.b.sum PyProof.Rows.boot_sum (pa_cons (pe_lc (own := [("length", 1)]) (g := gName 1) (tt := tYes) rfl scSingly.nd (pi_list (pe_fld (pv 0) rfl))
      (blkOk_by (N := ["stock", "length"]) (sc := defScope sSingly) (by decide +kernel)) (fun _ _ _ _ _ => pg_name (i := 1) scSingly.nd rfl (Or.inl rfl)) (fun _ _ _ _ _ => pts_nil)
      (fun _ _ _ _ _ => pe_def DP hr (pa_cons (pe_fldK (K := K) rfl (pv 0) rfl) (pa_cons (pv 1) pa_nil)))) pa_nil))), ?_⟩
    refine ⟨_, rfl, o.a, CS, dx, _, _, rfl, hobj, T.cl, T.nStems, sF_stems, o.l, rfl, ⟨_, SqL.of S.stems⟩, fun D hD => ?_⟩
    have few := g.few
    refine lc_list (xs := nV st.stems) (fun i H2 => Same H H2 ∧ H2 D = some (.lst (nV ((st.stems.take i).map (Kh434.priceOf st.priceTable))))) ⟨Same.new hD, upd_same⟩ (fun i H2 _ h => SqL.of (h.1 _ _ S.stems)) ?_ ?_
    · rintro i y H2 hi ⟨sm, hD2⟩
      obtain ⟨n, hn, rfl⟩ := nV_of hi
      refine ⟨rfl, yes_of ?_⟩
      refine ⟨_, rfl, o.a, CS, dx, _, _, rfl, sm _ _ hobj, T.cl, T.nPrices, sF_prices, _, rfl, o.p, st.priceTable, n, rfl, S.tab.same sm, _, hD2, ?_, ?_, ?_⟩
      · rw [nV_length, List.length_map, List.length_take]
        exact small_line (by omega)
      · intro c u e
        have nb : c ≠ D := fun z => by rw [z] at e; rw [e] at hD; cases hD
        rw [upd_ne nb]
        exact sm _ _ e
      · rw [upd_same, take_more hn, List.map_append, nV_append]
        rfl
    · rintro H2 ⟨sm, hD2⟩
      rw [nV_length, List.take_length] at hD2
      refine ⟨D, iL (st.stems.map (Kh434.priceOf st.priceTable)), rfl, SqL.of hD2, ?_⟩
      rw [iL_sum]
      exact q H2 sm
/-! ### tell_best -/
abbrev sTellBest : Stmt := top 46
theorem scTellBest : FnScope ["stock", "bunches", "answer", "bunch"] ["stock"] (defScope sTellBest) := ⟨rfl, rfl, rfl, by decide +kernel, rfl, by decide +kernel, by decide +kernel⟩
theorem nV_row (n : Nat) (l : List Nat) : HO.lst (V.int (n : Int) :: nV l) = rV ((n : Int) :: iL l) := rfl
theorem ok_tellBest (G : GF K mg "tell_best" sTellBest) (T : Txt K mg CS CD) (DB : Def P w K mg base 2 "best_bunches" ["stems", "size"] spBest) : Def P w K mg base 3 "tell_best" ["stock"] (spQ0 CS .bestBunches) := by
  refine def_of G scTellBest (fun _ _ _ _ _ _ us hl => match us, hl with | [_], _ => rfl) (fun vs H Q E h => ?_) fun f cdv A outer s H vs Q E hr h => ?_
  · obtain ⟨o, st, rfl, _⟩ := h
    rfl
  · obtain ⟨o, st, rfl, S, g, q⟩ := h
    obtain ⟨dx, hobj⟩ := S.obj
    refine ⟨_, pss_cons (ps_set (i := 1) scTellBest.nd rfl (Or.inl rfl) (pe_def DB hr (pa_cons (pe_fld (pv 0) rfl) (pa_cons (pe_fld (pv 0) rfl) pa_nil))))
      (pss_cons (ps_set (i := 2) scTellBest.nd rfl (Or.inl rfl) (pe_lst (pa_cons (pe_callB call_len_seq (by rfl) T.b.len PySem.boot_len (pa_cons (pv 1) pa_nil)) pa_nil)))
      (pss_cons (ps_for PassesOwn.never rfl (pi_list (pv 1)) (pg_name (i := 3) scTellBest.nd rfl (Or.inl rfl))
        (pss_one (ps_expr (pe_bm PySem.F.plainAttrs_list PySem.F.slot_list_extend PySem.F.type_list_extend mt_extend (pv 2) (pa_cons (pv 3) pa_nil)))))
      (pss_one (ps_ret (pv 2))))), ?_⟩
    refine ⟨_, rfl, o.a, CS, dx, _, _, rfl, hobj, T.cl, T.nStems, sF_stems, _, rfl, o.a, CS, dx, _, _, rfl, hobj, T.cl, T.nSize, sF_size, ?_⟩
    refine ⟨o.l, st.stems, st.bunchSize, rfl, S.stems, g.lo, g.hi2, g.z, fun H1 b s1 hb hL => ?_⟩
    obtain ⟨ts, ht1, ht2, ht3⟩ := hL
    have few := g.few
    have fl : (Kh434.bestBunches st).flatten.length ≤ st.stems.length := by
      have := flat_pieces st.stems.length st.bunchSize (Kh434.sortDescending st.stems)
      rwa [sort_length] at this
    refine ⟨_, rfl, b, _, rfl, .inl (SqL.of ht1), one_line, fun a ha => ?_⟩
    have ha0 : H a = none := s1.free ha
    refine ⟨_, rfl, b, rfl, ⟨_, SqL.of (Same.new ha _ _ ht1)⟩, for_list (xs := ts.map V.ref) (fun i σ H2 => (∃ v3 : Option V, σ = [some (.ref o.a), some (.ref b), some (.ref a), v3]) ∧ Same H1 H2 ∧ H2 a = some (rV (((Kh434.bestBunches st).length : Int) :: iL ((Kh434.bestBunches st).take i).flatten)))
      ⟨⟨none, rfl⟩, Same.new ha, ?_⟩ (fun i σ H2 _ h => SqL.of (h.2.1 _ _ ht1)) ?_ ?_⟩
    · rw [upd_same, List.length_map, ht2]
      rfl
    · rintro i y σ H2 hi ⟨⟨v3, rfl⟩, sm, hD2⟩
      obtain ⟨t, ht, rfl⟩ := ref_of hi
      obtain ⟨bu, hbu, htb⟩ := ListsAt.item ht2 ht3 ht
      refine ⟨_, rfl, .inl ⟨rfl, _, SqL.of hD2⟩, _, rfl, a, t, _, nV bu, rfl, rfl, hD2, sm _ _ htb, ?_, ⟨some (.ref t), rfl⟩, ?_, ?_⟩
      · have e := flat_take (Kh434.bestBunches st) (i + 1)
        rw [take_more (l := Kh434.bestBunches st) hbu, List.flatten_append, List.length_append] at e
        have e3 : ([bu] : List (List Nat)).flatten.length = bu.length := by simp
        rw [e3] at e
        rw [nV_length, List.length_map, List.length_cons]
        unfold iL
        rw [List.length_map]
        exact Nat.le_of_lt (small_line (by omega))
      · intro c u e
        have nb : c ≠ a := fun z => by rw [z] at e; rw [e] at ha; cases ha
        rw [upd_ne nb]
        exact sm _ _ e
      · rw [upd_same, take_more (l := Kh434.bestBunches st) hbu, List.flatten_append]
        have e3 : ([bu] : List (List Nat)).flatten = bu := by simp
        rw [e3]
        unfold rV iL nV iL
        rw [List.map_append]
        simp only [List.map_cons, List.map_append, List.cons_append]
    · rintro σ H2 ⟨⟨v3, rfl⟩, sm, hD2⟩
      have hl : (ts.map V.ref).length = (Kh434.bestBunches st).length := by rw [List.length_map, ht2]; rfl
      rw [hl, List.take_length] at hD2
      exact ⟨_, rfl, q H2 a (s1.trans sm) ha0 hD2⟩
/-! ### list_prices -/
abbrev sListP : Stmt := top 56
theorem scListP : FnScope ["stock", "answer", "pair"] ["stock"] (defScope sListP) := ⟨rfl, rfl, rfl, by decide +kernel, rfl, by decide +kernel, by decide +kernel⟩
def rows2 (t : List (Nat × Nat)) : List Nat := t.flatMap fun r => [r.1, r.2]
theorem rows2_length (t : List (Nat × Nat)) : (rows2 t).length = 2 * t.length := by
  induction t with
  | nil => rfl
  | cons a r ih =>
    unfold rows2 at ih ⊢
    rw [List.flatMap_cons, List.length_append, ih, List.length_cons]
    show 2 + 2 * r.length = 2 * (r.length + 1)
    omega
theorem ok_listP (G : GF K mg "list_prices" sListP) (T : Txt K mg CS CD) : Def P w K mg base 1 "list_prices" ["stock"] (spQ0 CS .listPrices) := by
  refine def_of G scListP (fun _ _ _ _ _ _ us hl => match us, hl with | [_], _ => rfl) (fun vs H Q E h => ?_) fun f cdv A outer s H vs Q E hr h => ?_
  · obtain ⟨o, st, rfl, _⟩ := h
    rfl
  · obtain ⟨o, st, rfl, S, g, q⟩ := h
    obtain ⟨dx, hobj⟩ := S.obj
    obtain ⟨ts, ht1, ht2⟩ := S.tab
    have hl : ts.length = st.priceTable.length := by have := ht2.1; rwa [List.length_map] at this
    have few := g.rows
    refine ⟨_, pss_cons (ps_set (i := 1) scListP.nd rfl (Or.inl rfl) (pe_lst (pa_cons (pe_callB call_len_seq (by rfl) T.b.len PySem.boot_len (pa_cons (pe_fld (pv 0) rfl) pa_nil)) pa_nil)))
      (pss_cons (ps_for PassesOwn.never rfl (pi_list (pe_fld (pv 0) rfl)) (pg_name (i := 2) scListP.nd rfl (Or.inl rfl))
        (pss_one (ps_expr (pe_bm PySem.F.plainAttrs_list PySem.F.slot_list_extend PySem.F.type_list_extend mt_extend (pv 1) (pa_cons (pe_callTy call_list_of (by rfl) T.b.list PyProof.Rows.boot_list (pa_cons (pv 2) pa_nil)) pa_nil)))))
      (pss_one (ps_ret (pv 1)))), ?_⟩
    refine ⟨_, rfl, o.a, CS, dx, _, _, rfl, hobj, T.cl, T.nPrices, sF_prices, o.p, _, rfl, .inl (SqL.of ht1), one_line, fun a ha => ?_⟩
    have sa := Same.new (o := .lst [V.int ((ts.map V.ref).length : Int)]) ha
    refine ⟨_, rfl, o.a, CS, dx, _, _, rfl, sa _ _ hobj, T.cl, T.nPrices, sF_prices, o.p, rfl, ⟨_, SqL.of (sa _ _ ht1)⟩, for_list (xs := ts.map V.ref) (fun i σ H2 => (∃ v3 : Option V, σ = [some (.ref o.a), some (.ref a), v3]) ∧ Same H H2 ∧ H2 a = some (rV ((st.priceTable.length : Int) :: iL (rows2 (st.priceTable.take i)))))
      ⟨⟨none, rfl⟩, sa, ?_⟩ (fun i σ H2 _ h => SqL.of (h.2.1 _ _ ht1)) ?_ ?_⟩
    · rw [upd_same, List.length_map, hl]
      rfl
    · rintro i y σ H2 hi ⟨⟨v3, rfl⟩, sm, hD2⟩
      obtain ⟨t, ht, rfl⟩ := ref_of hi
      obtain ⟨r, hr1, hr2⟩ := ht2.row ht
      refine ⟨_, rfl, .inl ⟨rfl, _, SqL.of hD2⟩, _, rfl, t, _, rfl, .inr (SqT.of (sm _ _ hr2)), fun b hb => ?_⟩
      have nba : a ≠ b := fun e => by rw [e, hb] at hD2; cases hD2
      refine ⟨a, b, _, _, rfl, rfl, (upd_ne nba).trans hD2, upd_same, ?_, ⟨some (.ref t), rfl⟩, ?_, ?_⟩
      · rw [List.length_map, List.length_cons]
        unfold iL
        rw [List.length_map, rows2_length, List.length_take]
        exact Nat.le_of_lt (small_line (show 2 * min i st.priceTable.length + 1 + 2 ≤ 1000 by omega))
      · intro c u e
        have nb : c ≠ a := fun z => by rw [z] at e; rw [e] at ha; cases ha
        rw [upd_ne nb]
        exact Same.new hb _ _ (sm _ _ e)
      · rw [upd_same, take_more hr1]
        unfold rows2
        rw [List.flatMap_append]
        unfold rV iL
        rw [List.map_append]
        simp only [List.map_cons, List.map_append, List.cons_append]
        rfl
    · rintro σ H2 ⟨⟨v3, rfl⟩, sm, hD2⟩
      have e : (ts.map V.ref).length = st.priceTable.length := by rw [List.length_map, hl]
      rw [e, List.take_length] at hD2
      exact ⟨_, rfl, q H2 a sm ha hD2⟩
end
end Sb

namespace Sb
open PySem PySem.Spec PyProof.Rows L2
/-! ### lists of numbers as data -/
def dI (l : List Nat) : PyData := .list (l.map fun n : Nat => PyData.int (n : Int))
theorem lay_ints : ∀ l : List Nat, PyData.canLayAll0 (l.map fun n : Nat => PyData.int (n : Int)) = true
  | [] => by unfold PyData.canLayAll0; rfl
  | a :: l => by
    rw [List.map_cons]
    unfold PyData.canLayAll0
    rw [lay_ints l]
    unfold PyData.canLay0
    rfl
theorem depth_ints : ∀ l : List Nat, PyData.depthAll (l.map fun n : Nat => PyData.int (n : Int)) = 0
  | [] => by unfold PyData.depthAll; rfl
  | a :: l => by
    rw [List.map_cons]
    unfold PyData.depthAll
    rw [depth_ints l]
    unfold PyData.depth
    rfl
theorem lay_dI (l : List Nat) : (dI l).canLay0 = true := by
  unfold dI PyData.canLay0
  exact lay_ints l
theorem depth_dI (l : List Nat) : (dI l).depth = 1 := by
  unfold dI PyData.depth
  rw [depth_ints l]
theorem shaped_dI (l : List Nat) : SeqAt.shaped (dI l) = true := by
  unfold SeqAt.shaped
  rw [lay_dI, depth_dI]
  rfl
theorem lay_lists : ∀ bs : List (List Nat), PyData.canLayAll0 (bs.map dI) = true
  | [] => by unfold PyData.canLayAll0; rfl
  | b :: bs => by
    rw [List.map_cons]
    unfold PyData.canLayAll0
    rw [lay_lists bs, lay_dI]
    rfl
theorem depth_lists : ∀ bs : List (List Nat), PyData.depthAll (bs.map dI) ≤ 1
  | [] => by unfold PyData.depthAll; exact Nat.zero_le _
  | b :: bs => by
    rw [List.map_cons]
    unfold PyData.depthAll
    rw [depth_dI]
    exact Nat.max_le.mpr ⟨Nat.le_refl _, depth_lists bs⟩
theorem shaped_lists (bs : List (List Nat)) : SeqAt.shaped (.list (bs.map dI)) = true := by
  unfold SeqAt.shaped
  have e1 : PyData.canLay0 (.list (bs.map dI)) = true := by unfold PyData.canLay0; exact lay_lists bs
  have e2 : PyData.depth (.list (bs.map dI)) ≤ 64 := by unfold PyData.depth; have := depth_lists bs; omega
  rw [e1, decide_eq_true e2]
  rfl
theorem shaped_nil : SeqAt.shaped (.list []) = true := shaped_dI []
theorem dp_ints {K : PySem.W.Frag} {H : Hp} : ∀ l : List Nat, DpAll K H (nV l) (l.map fun n : Nat => PyData.int (n : Int))
  | [] => .nil
  | a :: l => .cons (.int _) (dp_ints l)
theorem dp_dI {K : PySem.W.Frag} {H : Hp} {a : Addr} {l : List Nat} (h : H a = some (.lst (nV l))) : Dp K H (.ref a) (dI l) := .lst (SqL.of h) (dp_ints l)
theorem dp_lists {K : PySem.W.Frag} {H : Hp} : ∀ (ts : List Addr) (bs : List (List Nat)), ts.length = bs.length → (∀ (i : Nat) (t : Addr) (b : List Nat), ts[i]? = some t → bs[i]? = some b → H t = some (.lst (nV b))) → DpAll K H (ts.map V.ref) (bs.map dI)
  | [], [], _, _ => .nil
  | [], _ :: _, h, _ => nomatch h
  | _ :: _, [], h, _ => nomatch h
  | t :: ts, b :: bs, h, k => .cons (dp_dI (k 0 t b rfl rfl)) (dp_lists ts bs (Nat.succ.inj h) fun i t' b' e1 e2 => k (i + 1) t' b' e1 e2)
theorem eqv_nil {α : Type} (f : α → PyData) (l : List α) : PyData.eqv (.list (l.map f)) (.list []) = l.isEmpty := by
  cases l with
  | nil => simp [PyData.eqv, PyData.eqvAll]
  | cons a r => simp [PyData.eqv, PyData.eqvAll]
theorem op_neDK {X : Cx} {K : PySem.W.Frag} (hK : X.K = K) (hu : X.A.units + 64 < cLine) : OpR X (compareOp .NotEq) (rNeD K) := by
  subst hK
  exact op_neD hu
section
variable {P : Program} {w : World} {K : PySem.W.Frag} {mg : Str → Option Value} {base : Heap} {CS CD : Addr}
/-! ### best_size -/
abbrev sBestSize : Stmt := top 52
def bvs (s : Kh434.Stock) (k : Nat) : Nat := bv s.priceTable s.stems k
theorem ap_bsize (s : Kh434.Stock) : rowOf (Kh434.apply s .bestBunchSize).2 = [((bestSize (bvs s) : Nat) : Int), ((bvs s (bestSize (bvs s)) : Nat) : Int)] := rfl
def toldOf (v : Nat → Nat) (i : Nat) : List Nat := (List.range i).map fun k => v (1 + k)
theorem toldOf_get (v : Nat → Nat) {k : Nat} (h : k < 5) : (toldOf v 5)[k]? = some (v (1 + k)) := by
  unfold toldOf
  rw [List.getElem?_map, List.getElem?_range h]
  rfl
theorem scBestSize : FnScope ["stock", "told", "size"] ["stock"] (defScope sBestSize) := ⟨rfl, rfl, rfl, by decide +kernel, rfl, by decide +kernel, by decide +kernel⟩
theorem ok_bestSize (G : GF K mg "best_size" sBestSize) (T : Txt K mg CS CD) (DB : Def P w K mg base 3 "best_value" ["prices", "stems", "size"] spBv) : Def P w K mg base 4 "best_size" ["stock"] (spQ0 CS .bestBunchSize) := by
  refine def_of G scBestSize (fun _ _ _ _ _ _ us hl => match us, hl with | [_], _ => rfl) (fun vs H Q E h => ?_) fun f cdv A outer s H vs Q E hr h => ?_
  · obtain ⟨o, st, rfl, _⟩ := h
    rfl
  · obtain ⟨o, st, rfl, S, g, q⟩ := h
    obtain ⟨dx, hobj⟩ := S.obj
    refine ⟨_, pss_cons (ps_setLc (i := 1) (own := [("size", 2)]) (g := gName 2) (tt := tYes) rfl scBestSize.nd rfl rfl (sw_true rfl rfl rfl rfl) (pi_range2 rfl T.b.range (pa_cons pe_int (pa_cons (pe_op op_add (pe_k T.cSize) pe_int) pa_nil)))
        (blkOk_by (N := ["stock", "told", "size"]) (sc := defScope sBestSize) (by decide +kernel)) (fun _ _ _ _ _ => pg_name (i := 2) scBestSize.nd rfl (Or.inl rfl)) (fun _ _ _ _ _ => pts_nil)
        (fun _ _ _ _ _ => pe_def DB hr (pa_cons (pe_fldK (K := K) rfl (pv 0) rfl) (pa_cons (pe_fldK (K := K) rfl (pv 0) rfl) (pa_cons (pv 2) pa_nil)))))
      (pss_one (ps_ret (pe_lst (pa_cons (pe_op op_add (pe_bm PySem.F.plainAttrs_list PySem.F.slot_list_index PySem.F.type_list_index mt_index (pv 1) (pa_cons (pe_callB (cr_max rfl) (by rfl) T.b.max PyProof.Rows.boot_max (pa_cons (pv 1) pa_nil)) pa_nil)) pe_int)
        (pa_cons (pe_callB (cr_max rfl) (by rfl) T.b.max PyProof.Rows.boot_max (pa_cons (pv 1) pa_nil)) pa_nil))))), ?_⟩
    refine ⟨_, _, rfl, rfl, 1, _, rfl, ⟨by decide, by decide, by decide, by decide⟩, fun D hD => ?_⟩
    have few := g.few
    refine lc_range (lo := 1) (n := 5) (fun i H2 => Same H H2 ∧ H2 D = some (.lst (nV (toldOf (bvs st) i)))) ⟨Same.new hD, upd_same⟩ ?_ ?_
    · rintro i H2 hi ⟨sm, hD2⟩
      refine ⟨rfl, yes_of ?_⟩
      refine ⟨_, rfl, o.a, CS, dx, _, _, rfl, sm _ _ hobj, T.cl, T.nPrices, sF_prices, _, rfl, o.a, CS, dx, _, _, rfl, sm _ _ hobj, T.cl, T.nStems, sF_stems, _, rfl, ?_⟩
      refine ⟨o.p, o.l, st.priceTable, st.stems, 1 + i, rfl, S.tab.same sm, sm _ _ S.stems, by omega, by omega, g.z, fun H3 s3 => ?_⟩
      have hD3 := s3 _ _ hD2
      refine ⟨_, hD3, ?_, ?_, ?_⟩
      · rw [nV_length]
        unfold toldOf
        rw [List.length_map, List.length_range]
        exact small_line (by omega)
      · intro c u e
        have nb : c ≠ D := fun z => by rw [z] at e; rw [e] at hD; cases hD
        rw [upd_ne nb]
        exact s3 _ _ (sm _ _ e)
      · rw [upd_same]
        unfold toldOf
        rw [List.range_succ, List.map_append, nV_append]
        rfl
    · rintro H2 ⟨sm, hD2⟩
      obtain ⟨b1, b2, b3, b4⟩ := bestSize_is (bvs st)
      have mx : ∀ m : Int, m ∈ iL (toldOf (bvs st) 5) → (∀ y ∈ iL (toldOf (bvs st) 5), y ≤ m) → m = ((bvs st (bestSize (bvs st)) : Nat) : Int) := by
        intro m hm hle
        unfold iL toldOf at hm hle
        rw [List.map_map] at hm hle
        obtain ⟨k, hk, rfl⟩ := List.mem_map.mp hm
        have h1 := b3 (1 + k) (by omega) (by have := List.mem_range.mp hk; omega)
        have h2 := hle _ (List.mem_map.mpr ⟨bestSize (bvs st) - 1, List.mem_range.mpr (by omega), rfl⟩)
        have e : 1 + (bestSize (bvs st) - 1) = bestSize (bvs st) := by omega
        have h3 : ((bvs st (1 + (bestSize (bvs st) - 1)) : Nat) : Int) ≤ ((bvs st (1 + k) : Nat) : Int) := h2
        rw [e] at h3
        show ((bvs st (1 + k) : Nat) : Int) = _
        omega
      have pos : 0 < (iL (toldOf (bvs st) 5)).length := by unfold iL toldOf; simp
      refine ⟨_, rfl, .inl ⟨rfl, _, SqL.of hD2⟩, _, rfl, D, iL (toldOf (bvs st) 5), rfl, SqL.of hD2, pos, fun m hm hle => ?_⟩
      obtain rfl := mx m hm hle
      refine ⟨D, nV (toldOf (bvs st) 5), _, bestSize (bvs st) - 1, .int ((bvs st (1 + (bestSize (bvs st) - 1)) : Nat) : Int), rfl, rfl, SqL.of hD2, rfl, ?_, nV_at (toldOf_get _ (by omega)), ?_, ?_, ?_⟩
      · rw [List.all_eq_true]
        intro x hx
        unfold nV at hx
        obtain ⟨z, _, rfl⟩ := List.mem_map.mp hx
        rfl
      · have e : 1 + (bestSize (bvs st) - 1) = bestSize (bvs st) := by omega
        rw [e]
        exact beq_self_eq_true _
      · intro j z hj hz
        rw [nV_at (toldOf_get _ (show j < 5 by omega))] at hz
        obtain rfl := Option.some.inj hz
        have lt := b4 (1 + j) (by omega) (by omega)
        show (((bvs st (1 + j) : Nat) : Int) == ((bvs st (bestSize (bvs st)) : Nat) : Int)) = false
        rw [beq_eq_false_iff_ne]
        omega
      · refine ⟨_, _, rfl, rfl, _, rfl, D, iL (toldOf (bvs st) 5), rfl, SqL.of hD2, pos, fun m2 hm2 hle2 => ?_⟩
        obtain rfl := mx m2 hm2 hle2
        refine ⟨by show 2 ≤ sizeLine; decide, fun r hr1 => ?_⟩
        have e : (((bestSize (bvs st) - 1 : Nat) : Int) + 1) = ((bestSize (bvs st) : Nat) : Int) := by omega
        have q2 : Gives H Q [((bestSize (bvs st) - 1 : Nat) : Int) + 1, ((bvs st (bestSize (bvs st)) : Nat) : Int)] := q.cast (by rw [e]; exact ap_bsize st)
        exact q2.at sm hr1
/-! ### widest_bunch -/
abbrev sWidest : Stmt := top 55
theorem ap_wid1 {s : Kh434.Stock} (h : Kh434.bestBunches s = []) : rowOf (Kh434.apply s .widestBunch).2 = [-33] := congrArg rowOf (if_pos h)
theorem ap_wid2 {s : Kh434.Stock} (h : ¬ Kh434.bestBunches s = []) : rowOf (Kh434.apply s .widestBunch).2 = [((((Kh434.bestBunches s).map width).foldl max 0 : Nat) : Int)] := congrArg rowOf (if_neg h)
theorem scWidest : FnScope ["stock", "bunches", "bunch"] ["stock"] (defScope sWidest) := ⟨rfl, rfl, rfl, by decide +kernel, rfl, by decide +kernel, by decide +kernel⟩
theorem nV_last {l : List Nat} {y : Nat} : atI (nV (l ++ [y])) (-1) = some (.int (y : Int)) := by
  rw [nV_append]
  exact atI_last _ _
theorem width_ends {b : List Nat} (h : b.Pairwise (· ≥ ·)) (n : b ≠ []) : ∃ x y : Nat, b[0]? = some x ∧ atI (nV b) (-1) = some (.int (y : Int)) ∧ ((width b : Nat) : Int) = (x : Int) - (y : Int) := by
  obtain ⟨l, y, e⟩ : ∃ l y, b = l ++ [y] := ⟨b.dropLast, b.getLast n, (List.dropLast_concat_getLast n).symm⟩
  cases b with
  | nil => exact absurd rfl n
  | cons x r =>
    have h1 := head_max h
    have h2 : Kh434.shortest (x :: r) = y := by rw [e] at h ⊢; exact last_min h
    refine ⟨x, y, rfl, by rw [e]; exact nV_last, ?_⟩
    unfold width
    rw [h1, h2]
    have hy : y ∈ x :: r := by rw [e]; simp
    have le : y ≤ x := by
      rcases List.mem_cons.mp hy with z | z
      · omega
      · exact (List.pairwise_cons.mp h).1 y z
    omega
theorem ok_widest (G : GF K mg "widest_bunch" sWidest) (T : Txt K mg CS CD) (DB : Def P w K mg base 2 "best_bunches" ["stems", "size"] spBest) : Def P w K mg base 3 "widest_bunch" ["stock"] (spQ0 CS .widestBunch) := by
  refine def_of G scWidest (fun _ _ _ _ _ _ us hl => match us, hl with | [_], _ => rfl) (fun vs H Q E h => ?_) fun f cdv A outer s H vs Q E hr h => ?_
  · obtain ⟨o, st, rfl, _⟩ := h
    rfl
  · obtain ⟨o, st, rfl, S, g, q⟩ := h
    obtain ⟨dx, hobj⟩ := S.obj
    refine ⟨_, pss_cons (ps_set (i := 1) scWidest.nd rfl (Or.inl rfl) (pe_def DB hr (pa_cons (pe_fld (pv 0) rfl) (pa_cons (pe_fld (pv 0) rfl) pa_nil))))
      (pss_cons (ps_if (pt_cmpR (op_eqD hr.units) (pv 1) (pe_lst pa_nil) (nomark _)) (pss_one (ps_ret (pe_lst (pa_cons (pe_k T.cUndef) pa_nil)))) pss_nil)
      (pss_one (ps_ret (pe_lst (pa_cons (pe_callB (cr_max rfl) (by rfl) T.b.max PyProof.Rows.boot_max (pa_cons (pe_lc (own := [("bunch", 2)]) (g := gName 2) (tt := tYes) rfl scWidest.nd (pi_list (pv 1))
        (blkOk_by (N := ["stock", "bunches", "bunch"]) (sc := defScope sWidest) (by decide +kernel)) (fun _ _ _ _ _ => pg_name (i := 2) scWidest.nd rfl (Or.inl rfl)) (fun _ _ _ _ _ => pts_nil)
        (fun _ _ _ _ _ => pe_op op_sub (pe_ix (r := rIxL K) ix_list (pv 2) pe_int (fun _ _ => rfl)) (pe_ix (r := rIxL K) ix_list (pv 2) (pe_un un_neg pe_int) (fun _ _ => rfl)))) pa_nil)) pa_nil))))), ?_⟩
    refine ⟨_, rfl, o.a, CS, dx, _, _, rfl, hobj, T.cl, T.nStems, sF_stems, _, rfl, o.a, CS, dx, _, _, rfl, hobj, T.cl, T.nSize, sF_size, ?_⟩
    refine ⟨o.l, st.stems, st.bunchSize, rfl, S.stems, g.lo, g.hi2, g.z, fun H1 b s1 hb hL => ?_⟩
    have few := g.few
    have glo := g.lo
    have hlen := bestBunches_length st g.lo
    have hl9 : (Kh434.bestBunches st).length ≤ 9 := by rw [hlen]; exact Nat.le_trans (Nat.div_le_self _ _) few
    obtain ⟨ts, ht1, ht2, ht3⟩ := hL
    refine ⟨_, rfl, Nat.zero_le _, fun e he => ?_⟩
    have se := Same.new (o := .lst []) he
    refine ⟨.list ((Kh434.bestBunches st).map dI), .list [], .lst (SqL.of (se _ _ ht1)) (dp_lists ts _ ht2 fun i t c e1 e2 => se _ _ (ht3 i t c e1 e2)), .lst (SqL.of upd_same) .nil, shaped_lists _, shaped_nil, ?_⟩
    rw [eqv_nil]
    refine ⟨_, rfl, ite2 (fun c => ?_) fun c => ?_⟩
    · have c1 : Kh434.bestBunches st = [] := List.isEmpty_iff.mp c
      exact ⟨one_line, fun p hp => (q.cast (ap_wid1 c1)).at (s1.trans se) hp⟩
    · have c1 : ¬ Kh434.bestBunches st = [] := fun z => c (List.isEmpty_iff.mpr z)
      have s2 := s1.trans se
      refine ⟨_, rfl, b, rfl, ⟨_, SqL.of (se _ _ ht1)⟩, fun D hD => ?_⟩
      refine lc_list (xs := ts.map V.ref) (fun i H2 => Same (upd H1 e (.lst [])) H2 ∧ H2 D = some (.lst (nV (((Kh434.bestBunches st).take i).map width)))) ⟨Same.new hD, upd_same⟩ (fun i H2 _ h => SqL.of (h.1 _ _ (se _ _ ht1))) ?_ ?_
      · rintro i y H2 hi ⟨sm, hD2⟩
        obtain ⟨t, ht, rfl⟩ := ref_of hi
        obtain ⟨bu, hbu, htb⟩ := ListsAt.item ht2 ht3 ht
        have hbu2 : (Kh434.bestBunches st)[i]? = some bu := hbu
        obtain ⟨srt, hsz⟩ := bestBunch_sorted g.lo (List.mem_of_getElem? hbu2)
        have nn : bu ≠ [] := fun z => by rw [z] at hsz; have : 0 = st.bunchSize := hsz; omega
        obtain ⟨x0, y0, w1, w2, w3⟩ := width_ends srt nn
        have hb2 := sm _ _ (se _ _ htb)
        refine ⟨rfl, yes_of ?_⟩
        refine ⟨_, rfl, t, _, _, _, rfl, rfl, SqL.of hb2, at_of (j := 0) rfl (nV_at w1), _, rfl, _, rfl, t, _, _, _, rfl, rfl, SqL.of hb2, w2, _, _, rfl, rfl, _, hD2, ?_, ?_, ?_⟩
        · rw [nV_length, List.length_map, List.length_take]
          exact small_line (by omega)
        · intro c u e
          have nb : c ≠ D := fun z => by rw [z] at e; rw [e] at hD; cases hD
          rw [upd_ne nb]
          exact sm _ _ e
        · have ew : nV (List.map width [bu]) = [V.int ((x0 : Int) - (y0 : Int))] := by rw [← w3]; rfl
          rw [upd_same, take_more hbu2, List.map_append, nV_append, ew]
      · rintro H2 ⟨sm, hD2⟩
        have hl : (ts.map V.ref).length = (Kh434.bestBunches st).length := by rw [List.length_map, ht2]; rfl
        rw [hl, List.take_length] at hD2
        refine ⟨D, iL ((Kh434.bestBunches st).map width), rfl, SqL.of hD2, ?_, fun m hm hle => ?_⟩
        · unfold iL
          rw [List.length_map, List.length_map]
          exact List.length_pos_iff.mpr c1
        · obtain rfl := greatest_is hm hle
          exact ⟨one_line, fun p hp => (q.cast (ap_wid2 c1)).at (s2.trans sm) hp⟩
end
end Sb

namespace Sb
open PySem PySem.Spec PyProof.Rows L2
/-! ### lists that are kept by a test -/
def pickT (ts : List Addr) (bs : List (List Nat)) (i : Nat) : List Addr := (((ts.zip bs).take i).filter fun p => !p.2.isEmpty).map (·.1)
theorem pickT_step {ts : List Addr} {bs : List (List Nat)} {i : Nat} {t : Addr} {b : List Nat} (h1 : ts[i]? = some t) (h2 : bs[i]? = some b) : pickT ts bs (i + 1) = if (!b.isEmpty) = true then pickT ts bs i ++ [t] else pickT ts bs i := by
  have e : (ts.zip bs)[i]? = some (t, b) := by rw [List.getElem?_zip_eq_some]; exact ⟨h1, h2⟩
  unfold pickT
  rw [take_more e, List.filter_append, List.filter_cons, List.filter_nil]
  split
  · rw [List.map_append]; rfl
  · rw [List.append_nil]
theorem pickT_len (ts : List Addr) (bs : List (List Nat)) (i : Nat) : (pickT ts bs i).length ≤ ts.length := by
  unfold pickT
  rw [List.length_map]
  refine Nat.le_trans (List.length_filter_le _ _) (Nat.le_trans (by rw [List.length_take]; exact Nat.min_le_right _ _) ?_)
  rw [List.length_zip]
  exact Nat.min_le_left _ _
theorem zip_snd : ∀ (ts : List Addr) (bs : List (List Nat)), ts.length = bs.length → (((ts.zip bs).filter fun p => !p.2.isEmpty).map (·.2)) = bs.filter fun b => !b.isEmpty
  | [], [], _ => rfl
  | [], _ :: _, h => nomatch h
  | _ :: _, [], h => nomatch h
  | t :: ts, b :: bs, h => by
    have ih := zip_snd ts bs (Nat.succ.inj h)
    rw [List.zip_cons_cons, List.filter_cons, List.filter_cons]
    split
    · rw [List.map_cons, ih]
    · exact ih
theorem pickT_lists {H : Hp} {D : Addr} {ts : List Addr} {bs : List (List Nat)} (hl : ts.length = bs.length) (h3 : ∀ (i : Nat) (t : Addr) (b : List Nat), ts[i]? = some t → bs[i]? = some b → H t = some (.lst (nV b))) (hD : H D = some (.lst ((pickT ts bs bs.length).map V.ref))) :
    ListsAt H D (bs.filter fun b => !b.isEmpty) := by
  have e : pickT ts bs bs.length = ((ts.zip bs).filter fun p => !p.2.isEmpty).map (·.1) := by
    unfold pickT
    rw [List.take_of_length_le (by rw [List.length_zip]; omega)]
  rw [e] at hD
  refine ⟨_, hD, ?_, fun k t b e1 e2 => ?_⟩
  · rw [← zip_snd ts bs hl, List.length_map, List.length_map]
  · rw [← zip_snd ts bs hl] at e2
    rw [List.getElem?_map] at e1 e2
    cases h : ((ts.zip bs).filter fun p => !p.2.isEmpty)[k]? with
    | none => rw [h] at e1; cases e1
    | some p =>
      rw [h] at e1 e2
      obtain rfl := Option.some.inj e1
      obtain rfl := Option.some.inj e2
      have m := (List.mem_filter.mp (List.mem_of_getElem? h)).1
      obtain ⟨j, hj⟩ := List.getElem?_of_mem m
      have hz : (ts.zip bs)[j]? = some (p.1, p.2) := hj
      rw [List.getElem?_zip_eq_some] at hz
      exact h3 j _ _ hz.1 hz.2
theorem groups_len (stems grouping : List Nat) : (groups stems grouping).length = 9 := by unfold groups; rw [List.length_map, List.length_range]
theorem groups_small {stems grouping b : List Nat} (h : b ∈ groups stems grouping) : b.length ≤ stems.length := by
  rw [groups_grp] at h
  obtain ⟨g, _, rfl⟩ := List.mem_map.mp h
  have e := grp_len stems grouping g (stems.zip grouping).length
  rw [List.take_length] at e
  exact e
def kept (s : Kh434.Stock) (gr : List Nat) : List (List Nat) := (groups s.stems gr).filter fun b => !b.isEmpty
section
variable {P : Program} {w : World} {K : PySem.W.Frag} {mg : Str → Option Value} {base : Heap} {CS CD : Addr}
/-! ### evaluate_grouping -/
abbrev sEval : Stmt := top 47
theorem any_all (gr : List Nat) : (gr.any fun g => decide (9 < g)) = !gr.all fun g => decide (g ≤ 9) := by
  rw [List.not_all_eq_any_not]
  congr 1
  funext g
  by_cases c : g ≤ 9
  · rw [decide_eq_true c, decide_eq_false (by omega)]; rfl
  · rw [decide_eq_false c, decide_eq_true (by omega)]; rfl
theorem ap_ev1 {s : Kh434.Stock} {gr : List Nat} (h : ¬ gr.length = s.stems.length) : rowOf (Kh434.apply s (.evaluateGrouping gr)).2 = [-22] := congrArg rowOf (if_pos (.inl h))
theorem ap_ev2 {s : Kh434.Stock} {gr : List Nat} (h : (gr.all fun g => decide (g ≤ 9)) = false) : rowOf (Kh434.apply s (.evaluateGrouping gr)).2 = [-22] := congrArg rowOf (if_pos (.inr (by rw [any_all, h]; rfl)))
theorem ap_ev3 {s : Kh434.Stock} {gr : List Nat} (hl : gr.length = s.stems.length) (hg : (gr.all fun g => decide (g ≤ 9)) = true) (h : ((kept s gr).all fun b => b.length == s.bunchSize) = false) : rowOf (Kh434.apply s (.evaluateGrouping gr)).2 = [-33] := by
  have n : ¬ (gr.length ≠ s.stems.length ∨ (gr.any fun g => decide (9 < g)) = true) := by
    rintro (z | z)
    · exact z hl
    · rw [any_all, hg] at z; cases z
  exact congrArg rowOf ((if_neg n).trans (if_pos ((valid_is s gr hl hg).trans h)))
theorem ap_ev4 {s : Kh434.Stock} {gr : List Nat} (hl : gr.length = s.stems.length) (hg : (gr.all fun g => decide (g ≤ 9)) = true) (h : ((kept s gr).all fun b => b.length == s.bunchSize) = true) : rowOf (Kh434.apply s (.evaluateGrouping gr)).2 = [((((kept s gr).map (bval s.priceTable)).sum : Nat) : Int)] := by
  have n : ¬ (gr.length ≠ s.stems.length ∨ (gr.any fun g => decide (9 < g)) = true) := by
    rintro (z | z)
    · exact z hl
    · rw [any_all, hg] at z; cases z
  have v := (valid_is s gr hl hg).trans h
  have e : (Kh434.apply s (.evaluateGrouping gr)).2 = Kh434.single (Kh434.groupingValue s gr) := (if_neg n).trans (if_neg (by rw [v]; decide))
  rw [e, gvalue_is s gr hl]
  rfl
def spEval (CS : Addr) : Sp := fun vs H Q _ => ∃ (o : Own) (s : Kh434.Stock) (b : Addr) (gr : List Nat), vs = [.ref o.a, .ref b] ∧ StAt CS H o s ∧ Good s ∧ H b = some (.lst (nV gr)) ∧ gr.length ≤ 1000 ∧ Gives H Q (rowOf (Kh434.apply s (.evaluateGrouping gr)).2)
theorem scEval : FnScope ["stock", "grouping", "groups", "group"] ["stock", "grouping"] (defScope sEval) := ⟨rfl, rfl, rfl, by decide +kernel, rfl, by decide +kernel, by decide +kernel⟩
theorem ok_eval (G : GF K mg "evaluate_grouping" sEval) (T : Txt K mg CS CD) (DG : Def P w K mg base 1 "groups_of" ["stems", "grouping"] spGroups) (DV : Def P w K mg base 2 "bunch_value" ["prices", "bunch"] spBval) : Def P w K mg base 3 "evaluate_grouping" ["stock", "grouping"] (spEval CS) := by
  refine def_of G scEval (fun _ _ _ _ _ _ us hl => match us, hl with | [_, _], _ => rfl) (fun vs H Q E h => ?_) fun f cdv A outer s H vs Q E hr h => ?_
  · obtain ⟨o, st, b, gr, rfl, _⟩ := h
    rfl
  · obtain ⟨o, st, b, gr, rfl, S, g, hb, hz, q⟩ := h
    obtain ⟨dx, hobj⟩ := S.obj
    refine ⟨_, pss_cons (ps_if (PW.pt (pw_or (pt_cmpR op_ne (pe_callB call_len_seq (by rfl) T.b.len PySem.boot_len (pa_cons (pv 1) pa_nil)) (pe_callB call_len_seq (by rfl) T.b.len PySem.boot_len (pa_cons (pe_fld (pv 0) rfl) pa_nil)) (nomark _))
          (pw_or1 (pt_not (pt_val (pe_callB (cr_all rfl) (by rfl) T.b.all PyProof.Rows.boot_all (pa_cons
            (pe_lc (own := [("group", 3)]) (g := gName 3) (tt := tYes) rfl scEval.nd (pi_list (pv 1))
              (blkOk_by (N := ["stock", "grouping", "groups", "group"]) (sc := defScope sEval) (by decide +kernel)) (fun _ _ _ _ _ => pg_name (i := 3) scEval.nd rfl (Or.inl rfl)) (fun _ _ _ _ _ => pts_nil)
              (fun _ _ _ _ _ => pe_cmpR op_le (pv 3) pe_int (nomark _))) pa_nil))))))) (pss_one (ps_ret (pe_lst (pa_cons (pe_k T.cInv) pa_nil)))) pss_nil)
      (pss_cons (ps_setLc (i := 2) (own := [("group", 3)]) (g := gName 3) rfl scEval.nd rfl rfl (sw_true rfl rfl rfl rfl) (pi_list (pe_def DG hr (pa_cons (pe_fld (pv 0) rfl) (pa_cons (pv 1) pa_nil))))
        (blkOk_by (N := ["stock", "grouping", "groups", "group"]) (sc := defScope sEval) (by decide +kernel)) (fun _ _ _ _ _ => pg_name (i := 3) scEval.nd rfl (Or.inl rfl))
        (fun _ _ _ _ _ => pts_one (pt_cmpR (op_neDK (K := K) rfl hr.units) (pv 3) (pe_lst pa_nil) (nomark _))) (fun _ _ _ _ _ => pv 3))
      (pss_cons (ps_if (pt_not (pt_val (pe_callB (cr_all rfl) (by rfl) T.b.all PyProof.Rows.boot_all (pa_cons
            (pe_lc (own := [("group", 3)]) (g := gName 3) (tt := tYes) rfl scEval.nd (pi_list (pv 2))
              (blkOk_by (N := ["stock", "grouping", "groups", "group"]) (sc := defScope sEval) (by decide +kernel)) (fun _ _ _ _ _ => pg_name (i := 3) scEval.nd rfl (Or.inl rfl)) (fun _ _ _ _ _ => pts_nil)
              (fun _ _ _ _ _ => pe_cmpR op_eq (pe_callB (cr_lenK (K := K) rfl) (by rfl) T.b.len PySem.boot_len (pa_cons (pv 3) pa_nil)) (pe_fldK (K := K) rfl (pv 0) rfl) (nomark _))) pa_nil)))) (pss_one (ps_ret (pe_lst (pa_cons (pe_k T.cUndef) pa_nil)))) pss_nil)
      (pss_one (ps_ret (pe_lst (pa_cons (pe_callB (cr_sum rfl) (by rfl) T.b.sum PyProof.Rows.boot_sum (pa_cons
            (pe_lc (own := [("group", 3)]) (g := gName 3) (tt := tYes) rfl scEval.nd (pi_list (pv 2))
              (blkOk_by (N := ["stock", "grouping", "groups", "group"]) (sc := defScope sEval) (by decide +kernel)) (fun _ _ _ _ _ => pg_name (i := 3) scEval.nd rfl (Or.inl rfl)) (fun _ _ _ _ _ => pts_nil)
              (fun _ _ _ _ _ => pe_def DV hr (pa_cons (pe_fldK (K := K) rfl (pv 0) rfl) (pa_cons (pv 3) pa_nil)))) pa_nil)) pa_nil)))))), ?_⟩
    refine ⟨_, rfl, b, _, rfl, .inl (SqL.of hb), _, rfl, o.a, CS, dx, _, _, rfl, hobj, T.cl, T.nStems, sF_stems, o.l, _, rfl, .inl (SqL.of S.stems), rfl, _, rfl, ite2 (fun c => ?_) fun c => ?_⟩
    · have c1 : ¬ gr.length = st.stems.length := fun z => by
        have c' : (!decide (V.int ((nV gr).length : Int) = V.int ((nV st.stems).length : Int))) = true := c
        rw [nV_length, nV_length, z] at c'
        simp at c'
      exact iteT ⟨one_line, fun p hp => (q.cast (ap_ev1 c1)).one hp⟩
    · have c1 : gr.length = st.stems.length := by
        have c' : V.int ((nV gr).length : Int) = V.int ((nV st.stems).length : Int) := by simpa using c
        have e := V.int.inj c'
        rw [nV_length, nV_length] at e
        omega
      have few := g.few
      refine ⟨_, rfl, b, rfl, ⟨_, SqL.of hb⟩, fun D hD => ?_⟩
      refine lc_list (xs := nV gr) (fun i H2 => Same H H2 ∧ H2 D = some (.lst (((gr.take i).map fun g => decide (g ≤ 9)).map V.bl))) ⟨Same.new hD, upd_same⟩ (fun i H2 _ h => SqL.of (h.1 _ _ hb)) ?_ ?_
      · rintro i y H2 hi ⟨sm, hD2⟩
        obtain ⟨n, hn, rfl⟩ := nV_of hi
        refine ⟨rfl, yes_of ?_⟩
        refine ⟨_, rfl, _, _, rfl, rfl, _, hD2, ?_, ?_, ?_⟩
        · rw [List.length_map, List.length_map, List.length_take]
          exact small_line (by omega)
        · intro c u e
          have nb : c ≠ D := fun z => by rw [z] at e; rw [e] at hD; cases hD
          rw [upd_ne nb]
          exact sm _ _ e
        · have ed : decide ((n : Int) ≤ 9) = decide (n ≤ 9) := by rw [decide_eq_decide]; omega
          rw [upd_same, take_more hn, List.map_append, List.map_append]
          show some (HO.lst (_ ++ [V.bl (decide ((n : Int) ≤ 9))])) = _
          rw [ed]
          rfl
      · rintro H2 ⟨s2, hD2⟩
        rw [nV_length, List.take_length] at hD2
        refine ⟨D, gr.map fun g => decide (g ≤ 9), rfl, SqL.of hD2, ?_⟩
        have em : ((gr.map fun g => decide (g ≤ 9)).all id) = gr.all fun g => decide (g ≤ 9) := by rw [List.all_map]; rfl
        rw [em]
        refine ⟨_, rfl, ite2 (fun c2 => ?_) fun c2 => ?_⟩
        · have c3 : (gr.all fun g => decide (g ≤ 9)) = false := by simpa using c2
          exact ⟨one_line, fun p hp => (q.cast (ap_ev2 c3)).at s2 hp⟩
        · have c3 : (gr.all fun g => decide (g ≤ 9)) = true := by
            cases z : gr.all fun g => decide (g ≤ 9) with
            | true => rfl
            | false => rw [z] at c2; exact absurd rfl c2
          refine ⟨_, rfl, o.a, CS, dx, _, _, rfl, s2 _ _ hobj, T.cl, T.nStems, sF_stems, _, rfl, ?_⟩
          refine ⟨o.l, b, st.stems, gr, rfl, s2 _ _ S.stems, s2 _ _ hb, g.z, fun H3 b3 s3 hb3 hL => ?_⟩
          have s23 := s2.trans s3
          obtain ⟨ts, ht1, ht2, ht3⟩ := hL
          have hl9 : ts.length = 9 := by rw [ht2, groups_len]
          refine ⟨b3, rfl, ⟨_, SqL.of ht1⟩, fun D3 hD3 => ?_⟩
          refine lc_list (xs := ts.map V.ref) (fun i H4 => Same H3 H4 ∧ H4 D3 = some (.lst ((pickT ts (groups st.stems gr) i).map V.ref))) ⟨Same.new hD3, upd_same⟩ (fun i H4 _ h => SqL.of (h.1 _ _ ht1)) ?_ ?_
          · rintro i y H4 hi ⟨sm, hD4⟩
            obtain ⟨t, ht, rfl⟩ := ref_of hi
            obtain ⟨bu, hbu, htb⟩ := ListsAt.item ht2 ht3 ht
            refine ⟨rfl, _, rfl, Nat.zero_le _, fun p hp => ?_⟩
            have sp := Same.new (o := .lst []) hp
            have hD5 := sp _ _ hD4
            refine ⟨dI bu, .list [], dp_dI (sp _ _ (sm _ _ htb)), .lst (SqL.of upd_same) .nil, shaped_dI bu, shaped_nil, ?_⟩
            have ee : PyData.eqv (dI bu) (.list []) = bu.isEmpty := eqv_nil _ _
            rw [ee]
            refine ⟨_, rfl, ite2 (fun c4 => ?_) fun c4 => ?_⟩
            · refine ⟨_, rfl, _, hD5, ?_, ?_, ?_⟩
              · rw [List.length_map]
                exact small_line (Nat.le_trans (pickT_len _ _ _) (by omega))
              · intro c u e
                have nb : c ≠ D3 := fun z => by rw [z] at e; rw [e] at hD3; cases hD3
                rw [upd_ne nb]
                exact sp _ _ (sm _ _ e)
              · rw [upd_same, pickT_step ht hbu, if_pos c4, List.map_append]
                rfl
            · exact ⟨sm.trans sp, by rw [hD5, pickT_step ht hbu, if_neg c4]⟩
          · rintro H4 ⟨s4, hD4⟩
            rw [List.length_map, ht2] at hD4
            have L4 : ListsAt H4 D3 (kept st gr) := pickT_lists ht2 (fun i t c e1 e2 => s4 _ _ (ht3 i t c e1 e2)) hD4
            obtain ⟨us, hu1, hu2, hu3⟩ := L4
            have s234 := s23.trans s4
            have hk9 : (kept st gr).length ≤ 9 := by
              have := List.length_filter_le (fun b : List Nat => !b.isEmpty) (groups st.stems gr)
              rwa [groups_len] at this
            refine ⟨_, rfl, D3, rfl, ⟨_, SqL.of hu1⟩, fun D5 hD5 => ?_⟩
            refine lc_list (xs := us.map V.ref) (fun i H5 => Same H4 H5 ∧ H5 D5 = some (.lst ((((kept st gr).take i).map fun b => b.length == st.bunchSize).map V.bl))) ⟨Same.new hD5, upd_same⟩ (fun i H5 _ h => SqL.of (h.1 _ _ hu1)) ?_ ?_
            · rintro i y H5 hi ⟨sm, hD6⟩
              obtain ⟨t, ht, rfl⟩ := ref_of hi
              obtain ⟨bu, hbu, htb⟩ := ListsAt.item hu2 hu3 ht
              refine ⟨rfl, yes_of ?_⟩
              refine ⟨_, rfl, t, _, rfl, .inl (SqL.of (sm _ _ htb)), _, rfl, o.a, CS, dx, _, _, rfl, sm _ _ (s234 _ _ hobj), T.cl, T.nSize, sF_size, rfl, _, hD6, ?_, ?_, ?_⟩
              · rw [List.length_map, List.length_map, List.length_take]
                exact small_line (by omega)
              · intro c u e
                have nb : c ≠ D5 := fun z => by rw [z] at e; rw [e] at hD5; cases hD5
                rw [upd_ne nb]
                exact sm _ _ e
              · have ed : decide (V.int ((nV bu).length : Int) = V.int (st.bunchSize : Int)) = (bu.length == st.bunchSize) := by
                  rw [nV_length]
                  by_cases z : bu.length = st.bunchSize
                  · rw [decide_eq_true (by rw [z]), beq_iff_eq.mpr z]
                  · rw [decide_eq_false (fun e => z (by have := V.int.inj e; omega)), beq_eq_false_iff_ne.mpr z]
                rw [upd_same, take_more hbu, List.map_append, List.map_append, ed]
                rfl
            · rintro H5 ⟨s5, hD6⟩
              rw [List.length_map, hu2, List.take_length] at hD6
              refine ⟨D5, (kept st gr).map fun b => b.length == st.bunchSize, rfl, SqL.of hD6, ?_⟩
              have em2 : (((kept st gr).map fun b => b.length == st.bunchSize).all id) = (kept st gr).all fun b => b.length == st.bunchSize := by rw [List.all_map]; rfl
              rw [em2]
              have s5' := s234.trans s5
              refine ⟨_, rfl, ite2 (fun c5 => ?_) fun c5 => ?_⟩
              · have c6 : ((kept st gr).all fun b => b.length == st.bunchSize) = false := by simpa using c5
                exact ⟨one_line, fun p hp => (q.cast (ap_ev3 c1 c3 c6)).at s5' hp⟩
              · have c6 : ((kept st gr).all fun b => b.length == st.bunchSize) = true := by
                  cases z : (kept st gr).all fun b => b.length == st.bunchSize with
                  | true => rfl
                  | false => rw [z] at c5; exact absurd rfl c5
                refine ⟨_, rfl, D3, rfl, ⟨_, SqL.of (s5 _ _ hu1)⟩, fun D7 hD7 => ?_⟩
                refine lc_list (xs := us.map V.ref) (fun i H6 => Same H5 H6 ∧ H6 D7 = some (.lst (nV (((kept st gr).take i).map (bval st.priceTable))))) ⟨Same.new hD7, upd_same⟩ (fun i H6 _ h => SqL.of (h.1 _ _ (s5 _ _ hu1))) ?_ ?_
                · rintro i y H6 hi ⟨sm, hD8⟩
                  obtain ⟨t, ht, rfl⟩ := ref_of hi
                  obtain ⟨bu, hbu, htb⟩ := ListsAt.item hu2 hu3 ht
                  have mf := List.mem_filter.mp (List.mem_of_getElem? hbu)
                  have nn : bu ≠ [] := fun z => by rw [z] at mf; exact absurd mf.2 (by decide)
                  have sl := groups_small mf.1
                  refine ⟨rfl, yes_of ?_⟩
                  refine ⟨_, rfl, o.a, CS, dx, _, _, rfl, sm _ _ (s5' _ _ hobj), T.cl, T.nPrices, sF_prices, _, rfl, o.p, t, st.priceTable, bu, rfl, (S.tab.same s5').same sm, sm _ _ (s5 _ _ htb), nn, by omega, _, hD8, ?_, ?_, ?_⟩
                  · rw [nV_length, List.length_map, List.length_take]
                    exact small_line (by omega)
                  · intro c u e
                    have nb : c ≠ D7 := fun z => by rw [z] at e; rw [e] at hD7; cases hD7
                    rw [upd_ne nb]
                    exact sm _ _ e
                  · rw [upd_same, take_more hbu, List.map_append, nV_append]
                    rfl
                · rintro H6 ⟨s6, hD8⟩
                  rw [List.length_map, hu2, List.take_length] at hD8
                  refine ⟨D7, iL ((kept st gr).map (bval st.priceTable)), rfl, SqL.of hD8, ?_⟩
                  rw [iL_sum]
                  exact ⟨one_line, fun p hp => (q.cast (ap_ev4 c1 c3 c6)).at (s5'.trans s6) hp⟩
end
end Sb

namespace Sb
open PySem PySem.Spec PyProof.Rows L2
/-! ### what holds of every stock -/
theorem table_few {l : List Nat} (h : Kh434.isPriceTable l = true) : (Kh434.tableRows l).length ≤ 400 := by
  have h10 : l.length ≤ 10 := Decidable.byContradiction fun z => by rw [tab_long z] at h; cases h
  rw [rows_zip, List.length_zip, evens_length, odds_length]
  omega
theorem good_apply {s : Kh434.Stock} (g : Good s) (c : Kh434.Call) : Good (Kh434.apply s c).1 := by
  cases c with
  | addStem n =>
    cases h : lenOk n with
    | false => rw [ap_add1 h]; exact g
    | true =>
      by_cases h2 : 9 ≤ s.stems.length
      · rw [ap_add2 h h2]; exact g
      · rw [ap_add3 h h2]
        exact ⟨g.lo, g.hi, by show (s.stems ++ [n]).length ≤ 9; rw [List.length_append]; show s.stems.length + 1 ≤ 9; omega, g.srt, g.rows⟩
  | removeStem i =>
    cases h : Kh434.isStem s i with
    | false => rw [ap_rem1 h]; exact g
    | true =>
      rw [ap_rem2 h]
      exact ⟨g.lo, g.hi, Nat.le_trans (List.length_eraseIdx_le _ _) g.few, g.srt, g.rows⟩
  | trimStem i n =>
    by_cases h : trimErr s i n = 0
    · rw [(ap_trim2 h).2]
      exact ⟨g.lo, g.hi, by show (s.stems.set i n).length ≤ 9; rw [List.length_set]; exact g.few, g.srt, g.rows⟩
    · rw [ap_trim1 h]; exact g
  | setPriceTable l =>
    cases h : Kh434.isPriceTable l with
    | false => rw [ap_tab1 h]; exact g
    | true =>
      rw [ap_tab2 h]
      exact ⟨g.lo, g.hi, g.few, sorted_of_table h, table_few h⟩
  | setBunchSize n =>
    cases h : sizeOk n with
    | false => rw [ap_size1 h]; exact g
    | true =>
      rw [ap_size2 h]
      unfold sizeOk at h
      rw [decide_eq_true_eq] at h
      exact ⟨h.1, h.2, g.few, g.srt, g.rows⟩
  | sellBunch mask =>
    by_cases h : bErr s mask = 0
    · rw [ap_sell2 h]
      exact ⟨g.lo, g.hi, Nat.le_trans (outOf_len s.stems mask) g.few, g.srt, g.rows⟩
    · rw [ap_sell1 h]; exact g
  | sellBestBunches =>
    by_cases h : s.stems.length / s.bunchSize = 0
    · rw [ap_best1 g h]; exact g
    · rw [ap_best2 g h]
      refine ⟨g.lo, g.hi, ?_, g.srt, g.rows⟩
      show (Kh434.leftover s).length ≤ 9
      unfold Kh434.leftover
      rw [List.length_drop, sort_length]
      have := g.few
      omega
  | _ => exact g
theorem good_new {n : Nat} (h : sizeOk n = true) : Good ⟨n, [], [], 0, 0⟩ := by
  unfold sizeOk at h
  rw [decide_eq_true_eq] at h
  exact ⟨h.1, h.2, Nat.zero_le _, rfl, Nat.zero_le _⟩
theorem one_of {xs : List Nat} (h : xs.length = 1) : ∃ a, xs = [a] := match xs, h with | [a], _ => ⟨a, rfl⟩
theorem two_of {xs : List Nat} (h : xs.length = 2) : ∃ a b, xs = [a, b] := match xs, h with | [a, b], _ => ⟨a, b, rfl⟩
theorem int_is {k j : Nat} (c : decide (V.int (k : Int) = V.int (j : Int)) = true) : k = j := by
  have := V.int.inj (of_decide_eq_true c)
  omega
theorem int_not {k j : Nat} (c : ¬ decide (V.int (k : Int) = V.int (j : Int)) = true) : k ≠ j := fun z => c (decide_eq_true (by rw [z]))
section
variable {P : Program} {w : World} {K : PySem.W.Frag} {mg : Str → Option Value} {base : Heap} {CS CD : Addr}
/-! ### answer_change -/
abbrev sChange : Stmt := top 57
def spChange (CS : Addr) : Sp := fun vs H Q _ => ∃ (o : Own) (s : Kh434.Stock) (k : Nat) (a b : Addr) (xs tl : List Nat), vs = [.ref o.a, .int (k : Int), .ref a, .ref b] ∧ StAt CS H o s ∧ Good s ∧ H a = some (.lst (nV xs)) ∧ H b = some (.lst (nV tl)) ∧ 1 ≤ k ∧ k ≤ 7 ∧ xs.length = nums k ∧ tl.length ≤ 1000 ∧
  Changes CS H o Q (decF k (xs.getD 0 0) (xs.getD 1 0) tl) s
theorem scChange : FnScope ["stock", "call", "given", "told"] ["stock", "call", "given", "told"] (defScope sChange) := ⟨rfl, rfl, rfl, by decide +kernel, rfl, by decide +kernel, by decide +kernel⟩
theorem ok_change (G : GF K mg "answer_change" sChange) (T : Txt K mg CS CD) (D1 : Def P w K mg base 2 "add_stem" ["stock", "length"] (spAdd CS)) (D2 : Def P w K mg base 2 "remove_stem" ["stock", "stem"] (spRemove CS)) (D3 : Def P w K mg base 3 "trim_stem" ["stock", "stem", "length"] (spTrim CS))
    (D4 : Def P w K mg base 2 "set_price_table" ["stock", "told"] (spSetTab CS)) (D5 : Def P w K mg base 2 "set_bunch_size" ["stock", "size"] (spSetSize CS)) (D6 : Def P w K mg base 3 "sell_bunch" ["stock", "mask"] (spSellB CS)) (D7 : Def P w K mg base 5 "sell_best" ["stock"] (spSellBest CS)) :
    Def P w K mg base 6 "answer_change" ["stock", "call", "given", "told"] (spChange CS) := by
  refine def_of G scChange (fun _ _ _ _ _ _ us hl => match us, hl with | [_, _, _, _], _ => rfl) (fun vs H Q E h => ?_) fun f cdv A outer s H vs Q E hr h => ?_
  · obtain ⟨o, st, k, a, b, xs, tl, rfl, _⟩ := h
    rfl
  · obtain ⟨o, st, k, a, b, xs, tl, rfl, S, g, ha, hb, k1, k7, hx, hz, q⟩ := h
    refine ⟨_, pss_cons (ps_if (pt_cmpR op_eq (pv 1) pe_int (nomark _)) (pss_one (ps_ret (pe_def D1 hr (pa_cons (pv 0) (pa_cons (pe_ix ix_list (pv 2) pe_int (fun _ _ => rfl)) pa_nil))))) pss_nil)
      (pss_cons (ps_if (pt_cmpR op_eq (pv 1) pe_int (nomark _)) (pss_one (ps_ret (pe_def D2 hr (pa_cons (pv 0) (pa_cons (pe_ix ix_list (pv 2) pe_int (fun _ _ => rfl)) pa_nil))))) pss_nil)
      (pss_cons (ps_if (pt_cmpR op_eq (pv 1) pe_int (nomark _)) (pss_one (ps_ret (pe_def D3 hr (pa_cons (pv 0) (pa_cons (pe_ix ix_list (pv 2) pe_int (fun _ _ => rfl)) (pa_cons (pe_ix ix_list (pv 2) pe_int (fun _ _ => rfl)) pa_nil)))))) pss_nil)
      (pss_cons (ps_if (pt_cmpR op_eq (pv 1) pe_int (nomark _)) (pss_one (ps_ret (pe_def D4 hr (pa_cons (pv 0) (pa_cons (pv 3) pa_nil))))) pss_nil)
      (pss_cons (ps_if (pt_cmpR op_eq (pv 1) pe_int (nomark _)) (pss_one (ps_ret (pe_def D5 hr (pa_cons (pv 0) (pa_cons (pe_ix ix_list (pv 2) pe_int (fun _ _ => rfl)) pa_nil))))) pss_nil)
      (pss_one (ps_ret (pe_ifExp (pt_cmpR op_eq (pv 1) pe_int (nomark _)) (pe_def D6 hr (pa_cons (pv 0) (pa_cons (pe_ix ix_list (pv 2) pe_int (fun _ _ => rfl)) pa_nil))) (pe_def D7 hr (pa_cons (pv 0) pa_nil))))))))), ?_⟩
    refine ⟨_, rfl, rfl, _, rfl, ite2 (fun c => ?_) fun c => ?_⟩
    · obtain rfl := int_is (j := 1) c
      obtain ⟨x, rfl⟩ := one_of hx
      exact ⟨_, rfl, _, rfl, a, _, _, _, rfl, rfl, SqL.of ha, at_of (j := 0) rfl rfl, o, st, x, rfl, S, g, q⟩
    · have n1 := int_not (j := 1) c
      refine ⟨_, rfl, rfl, _, rfl, ite2 (fun c => ?_) fun c => ?_⟩
      · obtain rfl := int_is (j := 2) c
        obtain ⟨x, rfl⟩ := one_of hx
        exact ⟨_, rfl, _, rfl, a, _, _, _, rfl, rfl, SqL.of ha, at_of (j := 0) rfl rfl, o, st, x, rfl, S, g, q⟩
      · have n2 := int_not (j := 2) c
        refine ⟨_, rfl, rfl, _, rfl, ite2 (fun c => ?_) fun c => ?_⟩
        · obtain rfl := int_is (j := 3) c
          obtain ⟨x, y, rfl⟩ := two_of hx
          exact ⟨_, rfl, _, rfl, a, _, _, _, rfl, rfl, SqL.of ha, at_of (j := 0) rfl rfl, _, rfl, a, _, _, _, rfl, rfl, SqL.of ha, at_of (j := 1) rfl rfl, o, st, x, y, rfl, S, g, q⟩
        · have n3 := int_not (j := 3) c
          refine ⟨_, rfl, rfl, _, rfl, ite2 (fun c => ?_) fun c => ?_⟩
          · obtain rfl := int_is (j := 4) c
            exact ⟨_, rfl, _, rfl, o, st, b, tl, rfl, S, hb, hz, q⟩
          · have n4 := int_not (j := 4) c
            refine ⟨_, rfl, rfl, _, rfl, ite2 (fun c => ?_) fun c => ?_⟩
            · obtain rfl := int_is (j := 5) c
              obtain ⟨x, rfl⟩ := one_of hx
              exact ⟨_, rfl, _, rfl, a, _, _, _, rfl, rfl, SqL.of ha, at_of (j := 0) rfl rfl, o, st, x, rfl, S, q⟩
            · have n5 := int_not (j := 5) c
              refine ⟨_, rfl, rfl, _, rfl, ite2 (fun c => ?_) fun c => ?_⟩
              · obtain rfl := int_is (j := 6) c
                obtain ⟨x, rfl⟩ := one_of hx
                exact ⟨_, rfl, _, rfl, a, _, _, _, rfl, rfl, SqL.of ha, at_of (j := 0) rfl rfl, o, st, x, rfl, S, g, q⟩
              · have n6 := int_not (j := 6) c
                have e7 : k = 7 := by omega
                subst e7
                exact ⟨_, rfl, o, st, rfl, S, g, q⟩
/-! ### answer_value -/
abbrev sValue : Stmt := top 58
def spValue (CS : Addr) : Sp := fun vs H Q _ => ∃ (o : Own) (s : Kh434.Stock) (k : Nat) (a b : Addr) (xs tl : List Nat), vs = [.ref o.a, .int (k : Int), .ref a, .ref b] ∧ StAt CS H o s ∧ Good s ∧ H a = some (.lst (nV xs)) ∧ H b = some (.lst (nV tl)) ∧ 8 ≤ k ∧ k ≤ 15 ∧ xs.length = nums k ∧ tl.length ≤ 1000 ∧
  Gives H Q (rowOf (Kh434.apply s (decF k (xs.getD 0 0) (xs.getD 1 0) tl)).2)
theorem scValue : FnScope ["stock", "call", "given", "told"] ["stock", "call", "given", "told"] (defScope sValue) := ⟨rfl, rfl, rfl, by decide +kernel, rfl, by decide +kernel, by decide +kernel⟩
theorem ap_left (s : Kh434.Stock) : rowOf (Kh434.apply s .leftoverStems).2 = ((Kh434.leftover s).length : Int) :: iL (Kh434.leftover s) := rfl
theorem ok_value (G : GF K mg "answer_value" sValue) (T : Txt K mg CS CD) (D8 : Def P w K mg base 2 "tell_price" ["stock", "length"] (spQ1 CS .priceOf)) (D9 : Def P w K mg base 3 "tell_bunch" ["stock", "mask"] (spQ1 CS .bunchValue)) (D10 : Def P w K mg base 3 "tell_best" ["stock"] (spQ0 CS .bestBunches))
    (D11 : Def P w K mg base 4 "current_value" ["stock"] (spCur CS)) (D12 : Def P w K mg base 3 "evaluate_grouping" ["stock", "grouping"] (spEval CS)) (DW : Def P w K mg base 1 "with_count" ["numbers"] spWithC) (DL : Def P w K mg base 2 "left_over" ["stems", "size"] spLeft)
    (D14 : Def P w K mg base 2 "value_singly" ["stock"] (spSingly CS)) (D15 : Def P w K mg base 5 "gain_by_stem" ["stock", "length"] (spQ1 CS .gainByStem)) :
    Def P w K mg base 6 "answer_value" ["stock", "call", "given", "told"] (spValue CS) := by
  refine def_of G scValue (fun _ _ _ _ _ _ us hl => match us, hl with | [_, _, _, _], _ => rfl) (fun vs H Q E h => ?_) fun f cdv A outer s H vs Q E hr h => ?_
  · obtain ⟨o, st, k, a, b, xs, tl, rfl, _⟩ := h
    rfl
  · obtain ⟨o, st, k, a, b, xs, tl, rfl, S, g, ha, hb, k1, k7, hx, hz, q⟩ := h
    obtain ⟨dx, hobj⟩ := S.obj
    refine ⟨_, pss_cons (ps_if (pt_cmpR op_eq (pv 1) pe_int (nomark _)) (pss_one (ps_ret (pe_def D8 hr (pa_cons (pv 0) (pa_cons (pe_ix ix_list (pv 2) pe_int (fun _ _ => rfl)) pa_nil))))) pss_nil)
      (pss_cons (ps_if (pt_cmpR op_eq (pv 1) pe_int (nomark _)) (pss_one (ps_ret (pe_def D9 hr (pa_cons (pv 0) (pa_cons (pe_ix ix_list (pv 2) pe_int (fun _ _ => rfl)) pa_nil))))) pss_nil)
      (pss_cons (ps_if (pt_cmpR op_eq (pv 1) pe_int (nomark _)) (pss_one (ps_ret (pe_def D10 hr (pa_cons (pv 0) pa_nil)))) pss_nil)
      (pss_cons (ps_if (pt_cmpR op_eq (pv 1) pe_int (nomark _)) (pss_one (ps_ret (pe_lst (pa_cons (pe_def D11 hr (pa_cons (pv 0) pa_nil)) pa_nil)))) pss_nil)
      (pss_cons (ps_if (pt_cmpR op_eq (pv 1) pe_int (nomark _)) (pss_one (ps_ret (pe_def D12 hr (pa_cons (pv 0) (pa_cons (pv 3) pa_nil))))) pss_nil)
      (pss_cons (ps_if (pt_cmpR op_eq (pv 1) pe_int (nomark _)) (pss_one (ps_ret (pe_def DW hr (pa_cons (pe_def DL hr (pa_cons (pe_fld (pv 0) rfl) (pa_cons (pe_fld (pv 0) rfl) pa_nil))) pa_nil)))) pss_nil)
      (pss_one (ps_ret (pe_ifExp (pt_cmpR op_eq (pv 1) pe_int (nomark _)) (pe_lst (pa_cons (pe_def D14 hr (pa_cons (pv 0) pa_nil)) pa_nil)) (pe_def D15 hr (pa_cons (pv 0) (pa_cons (pe_ix ix_list (pv 2) pe_int (fun _ _ => rfl)) pa_nil))))))))))), ?_⟩
    refine ⟨_, rfl, rfl, _, rfl, ite2 (fun c => ?_) fun c => ?_⟩
    · obtain rfl := int_is (j := 8) c
      obtain ⟨x, rfl⟩ := one_of hx
      exact ⟨_, rfl, _, rfl, a, _, _, _, rfl, rfl, SqL.of ha, at_of (j := 0) rfl rfl, o, st, x, rfl, S, g, q⟩
    · have n1 := int_not (j := 8) c
      refine ⟨_, rfl, rfl, _, rfl, ite2 (fun c => ?_) fun c => ?_⟩
      · obtain rfl := int_is (j := 9) c
        obtain ⟨x, rfl⟩ := one_of hx
        exact ⟨_, rfl, _, rfl, a, _, _, _, rfl, rfl, SqL.of ha, at_of (j := 0) rfl rfl, o, st, x, rfl, S, g, q⟩
      · have n2 := int_not (j := 9) c
        refine ⟨_, rfl, rfl, _, rfl, ite2 (fun c => ?_) fun c => ?_⟩
        · obtain rfl := int_is (j := 10) c
          exact ⟨_, rfl, o, st, rfl, S, g, q⟩
        · have n3 := int_not (j := 10) c
          refine ⟨_, rfl, rfl, _, rfl, ite2 (fun c => ?_) fun c => ?_⟩
          · obtain rfl := int_is (j := 11) c
            refine ⟨_, rfl, o, st, rfl, S, g, fun H1 s1 => ⟨one_line, fun p hp => ?_⟩⟩
            have q2 : Gives H Q [((Kh434.bestValue st : Nat) : Int)] := q
            exact q2.at s1 hp
          · have n4 := int_not (j := 11) c
            refine ⟨_, rfl, rfl, _, rfl, ite2 (fun c => ?_) fun c => ?_⟩
            · obtain rfl := int_is (j := 12) c
              exact ⟨_, rfl, _, rfl, o, st, b, tl, rfl, S, g, hb, hz, q⟩
            · have n5 := int_not (j := 12) c
              refine ⟨_, rfl, rfl, _, rfl, ite2 (fun c => ?_) fun c => ?_⟩
              · obtain rfl := int_is (j := 13) c
                refine ⟨_, rfl, o.a, CS, dx, _, _, rfl, hobj, T.cl, T.nStems, sF_stems, _, rfl, o.a, CS, dx, _, _, rfl, hobj, T.cl, T.nSize, sF_size, ?_⟩
                refine ⟨o.l, st.stems, st.bunchSize, rfl, S.stems, g.lo, g.hi2, g.z, fun H1 p s1 hp hl => ?_⟩
                rw [← leftover_is st g.lo] at hl
                have few := g.few
                have hlen : (Kh434.leftover st).length ≤ 1000 := by
                  unfold Kh434.leftover
                  rw [List.length_drop, sort_length]
                  omega
                have q2 : Gives H Q (((Kh434.leftover st).length : Int) :: iL (Kh434.leftover st)) := q
                exact ⟨p, Kh434.leftover st, rfl, hl, hlen, fun H2 r s2 hr2 hrow => q2 H2 r (s1.trans s2) (s1.free hr2) hrow⟩
              · have n6 := int_not (j := 13) c
                refine ⟨_, rfl, rfl, _, rfl, ite2 (fun c => ?_) fun c => ?_⟩
                · obtain rfl := int_is (j := 14) c
                  refine ⟨_, rfl, o, st, rfl, S, g, fun H1 s1 => ⟨one_line, fun p hp => ?_⟩⟩
                  have q2 : Gives H Q [((Kh434.valueSingly st : Nat) : Int)] := q
                  exact q2.at s1 hp
                · have n7 := int_not (j := 14) c
                  have e7 : k = 15 := by omega
                  subst e7
                  obtain ⟨x, rfl⟩ := one_of hx
                  exact ⟨_, rfl, _, rfl, a, _, _, _, rfl, rfl, SqL.of ha, at_of (j := 0) rfl rfl, o, st, x, rfl, S, g, q⟩
/-! ### answer_further -/
abbrev sFurther : Stmt := top 59
def spFurther (CS : Addr) : Sp := fun vs H Q _ => ∃ (o : Own) (s : Kh434.Stock) (k : Nat) (a : Addr) (xs tl : List Nat), vs = [.ref o.a, .int (k : Int), .ref a] ∧ StAt CS H o s ∧ Good s ∧ H a = some (.lst (nV xs)) ∧ 16 ≤ k ∧ k ≤ 23 ∧ xs.length = nums k ∧
  Gives H Q (rowOf (Kh434.apply s (decF k (xs.getD 0 0) (xs.getD 1 0) tl)).2)
theorem scFurther : FnScope ["stock", "call", "given"] ["stock", "call", "given"] (defScope sFurther) := ⟨rfl, rfl, rfl, by decide +kernel, rfl, by decide +kernel, by decide +kernel⟩
theorem ap_tot (s : Kh434.Stock) : rowOf (Kh434.apply s .totals).2 = [(s.sold : Int), (s.revenue : Int), (s.bunchSize : Int), (s.stems.length : Int)] := rfl
theorem ok_further (G : GF K mg "answer_further" sFurther) (T : Txt K mg CS CD) (D16 : Def P w K mg base 4 "value_if_size" ["stock", "size"] (spQ1 CS .valueIfBunchSize)) (D17 : Def P w K mg base 4 "best_size" ["stock"] (spQ0 CS .bestBunchSize)) (D18 : Def P w K mg base 4 "value_if_trimmed" ["stock", "stem", "length"] (spQ2 CS .valueIfTrimmed))
    (D19 : Def P w K mg base 5 "contribution" ["stock", "stem"] (spQ1 CS .stemContribution)) (D20 : Def P w K mg base 3 "widest_bunch" ["stock"] (spQ0 CS .widestBunch)) (DW : Def P w K mg base 1 "with_count" ["numbers"] spWithC) (D22 : Def P w K mg base 1 "list_prices" ["stock"] (spQ0 CS .listPrices)) :
    Def P w K mg base 6 "answer_further" ["stock", "call", "given"] (spFurther CS) := by
  refine def_of G scFurther (fun _ _ _ _ _ _ us hl => match us, hl with | [_, _, _], _ => rfl) (fun vs H Q E h => ?_) fun f cdv A outer s H vs Q E hr h => ?_
  · obtain ⟨o, st, k, a, xs, tl, rfl, _⟩ := h
    rfl
  · obtain ⟨o, st, k, a, xs, tl, rfl, S, g, ha, k1, k7, hx, q⟩ := h
    obtain ⟨dx, hobj⟩ := S.obj
    refine ⟨_, pss_cons (ps_if (pt_cmpR op_eq (pv 1) pe_int (nomark _)) (pss_one (ps_ret (pe_def D16 hr (pa_cons (pv 0) (pa_cons (pe_ix ix_list (pv 2) pe_int (fun _ _ => rfl)) pa_nil))))) pss_nil)
      (pss_cons (ps_if (pt_cmpR op_eq (pv 1) pe_int (nomark _)) (pss_one (ps_ret (pe_def D17 hr (pa_cons (pv 0) pa_nil)))) pss_nil)
      (pss_cons (ps_if (pt_cmpR op_eq (pv 1) pe_int (nomark _)) (pss_one (ps_ret (pe_def D18 hr (pa_cons (pv 0) (pa_cons (pe_ix ix_list (pv 2) pe_int (fun _ _ => rfl)) (pa_cons (pe_ix ix_list (pv 2) pe_int (fun _ _ => rfl)) pa_nil)))))) pss_nil)
      (pss_cons (ps_if (pt_cmpR op_eq (pv 1) pe_int (nomark _)) (pss_one (ps_ret (pe_def D19 hr (pa_cons (pv 0) (pa_cons (pe_ix ix_list (pv 2) pe_int (fun _ _ => rfl)) pa_nil))))) pss_nil)
      (pss_cons (ps_if (pt_cmpR op_eq (pv 1) pe_int (nomark _)) (pss_one (ps_ret (pe_def D20 hr (pa_cons (pv 0) pa_nil)))) pss_nil)
      (pss_cons (ps_if (pt_cmpR op_eq (pv 1) pe_int (nomark _)) (pss_one (ps_ret (pe_def DW hr (pa_cons (pe_fld (pv 0) rfl) pa_nil)))) pss_nil)
      (pss_one (ps_ret (pe_ifExp (pt_cmpR op_eq (pv 1) pe_int (nomark _)) (pe_def D22 hr (pa_cons (pv 0) pa_nil))
        (pe_lst (pa_cons (pe_fld (pv 0) rfl) (pa_cons (pe_fld (pv 0) rfl) (pa_cons (pe_fld (pv 0) rfl) (pa_cons (pe_callB call_len_seq (by rfl) T.b.len PySem.boot_len (pa_cons (pe_fld (pv 0) rfl) pa_nil)) pa_nil))))))))))))), ?_⟩
    refine ⟨_, rfl, rfl, _, rfl, ite2 (fun c => ?_) fun c => ?_⟩
    · obtain rfl := int_is (j := 16) c
      obtain ⟨x, rfl⟩ := one_of hx
      exact ⟨_, rfl, _, rfl, a, _, _, _, rfl, rfl, SqL.of ha, at_of (j := 0) rfl rfl, o, st, x, rfl, S, g, q⟩
    · have n1 := int_not (j := 16) c
      refine ⟨_, rfl, rfl, _, rfl, ite2 (fun c => ?_) fun c => ?_⟩
      · obtain rfl := int_is (j := 17) c
        exact ⟨_, rfl, o, st, rfl, S, g, q⟩
      · have n2 := int_not (j := 17) c
        refine ⟨_, rfl, rfl, _, rfl, ite2 (fun c => ?_) fun c => ?_⟩
        · obtain rfl := int_is (j := 18) c
          obtain ⟨x, y, rfl⟩ := two_of hx
          exact ⟨_, rfl, _, rfl, a, _, _, _, rfl, rfl, SqL.of ha, at_of (j := 0) rfl rfl, _, rfl, a, _, _, _, rfl, rfl, SqL.of ha, at_of (j := 1) rfl rfl, o, st, x, y, rfl, S, g, q⟩
        · have n3 := int_not (j := 18) c
          refine ⟨_, rfl, rfl, _, rfl, ite2 (fun c => ?_) fun c => ?_⟩
          · obtain rfl := int_is (j := 19) c
            obtain ⟨x, rfl⟩ := one_of hx
            exact ⟨_, rfl, _, rfl, a, _, _, _, rfl, rfl, SqL.of ha, at_of (j := 0) rfl rfl, o, st, x, rfl, S, g, q⟩
          · have n4 := int_not (j := 19) c
            refine ⟨_, rfl, rfl, _, rfl, ite2 (fun c => ?_) fun c => ?_⟩
            · obtain rfl := int_is (j := 20) c
              exact ⟨_, rfl, o, st, rfl, S, g, q⟩
            · have n5 := int_not (j := 20) c
              refine ⟨_, rfl, rfl, _, rfl, ite2 (fun c => ?_) fun c => ?_⟩
              · obtain rfl := int_is (j := 21) c
                have q2 : Gives H Q ((st.stems.length : Int) :: iL st.stems) := q
                exact ⟨_, rfl, o.a, CS, dx, _, _, rfl, hobj, T.cl, T.nStems, sF_stems, o.l, st.stems, rfl, S.stems, g.z, q2⟩
              · have n6 := int_not (j := 21) c
                refine ⟨_, rfl, rfl, _, rfl, ite2 (fun c => ?_) fun c => ?_⟩
                · obtain rfl := int_is (j := 22) c
                  exact ⟨_, rfl, o, st, rfl, S, g, q⟩
                · have n7 := int_not (j := 22) c
                  have e7 : k = 23 := by omega
                  subst e7
                  have q2 : Gives H Q [(st.sold : Int), (st.revenue : Int), (st.bunchSize : Int), (st.stems.length : Int)] := q
                  refine ⟨_, rfl, o.a, CS, dx, _, _, rfl, hobj, T.cl, T.nSold, sF_sold, _, rfl, o.a, CS, dx, _, _, rfl, hobj, T.cl, T.nRev, sF_rev, _, rfl, o.a, CS, dx, _, _, rfl, hobj, T.cl, T.nSize, sF_size, _, rfl, o.a, CS, dx, _, _, rfl, hobj, T.cl, T.nStems, sF_stems, ?_⟩
                  refine ⟨o.l, _, rfl, .inl (SqL.of S.stems), by show 4 ≤ sizeLine; decide, fun p hp => ?_⟩
                  rw [nV_length]
                  exact q2.one hp
end
end Sb

namespace Sb
open PySem PySem.Spec PyProof.Rows L2
/-! ### the desk and its stock, as they lie -/
inductive DeskAt (CS CD : Addr) (H : Hp) (d : Addr) : Option Own → Option Kh434.Stock → Prop
  | non {dx : Addr} : H d = some (.ins CD dx (dF .non)) → DeskAt CS CD H d none none
  | som {dx : Addr} {o : Own} {s : Kh434.Stock} : H d = some (.ins CD dx (dF (.ref o.a))) → StAt CS H o s → Good s → DeskAt CS CD H d (some o) (some s)
def Off (d : Addr) (ow : Option Own) (b : Addr) : Prop := b ≠ d ∧ ∀ o, ow = some o → b ≠ o.a ∧ b ≠ o.l ∧ b ≠ o.p
structure Turn (H H' : Hp) (d : Addr) (ow ow' : Option Own) : Prop where
  keep : ∀ b u, H b = some u → Off d ow b → H' b = some u
  off : ∀ b u, H b = some u → Off d ow b → Off d ow' b
section
variable {P : Program} {w : World} {K : PySem.W.Frag} {mg : Str → Option Value} {base : Heap} {CS CD : Addr}
theorem DeskAt.same {H H' : Hp} {d : Addr} {ow : Option Own} {st : Option Kh434.Stock} (h : DeskAt CS CD H d ow st) (k : Same H H') : DeskAt CS CD H' d ow st := by
  cases h with
  | non e => exact .non (k _ _ e)
  | som e S g => exact .som (k _ _ e) (S.same k) g
theorem DeskAt.at {H : Hp} {d : Addr} {ow : Option Own} {st : Option Kh434.Stock} (h : DeskAt CS CD H d ow st) : ∃ dx v, H d = some (.ins CD dx (dF v)) ∧ (st = none → v = .non) ∧ ∀ s, st = some s → ∃ o, v = .ref o.a ∧ ow = some o ∧ StAt CS H o s ∧ Good s := by
  cases h with
  | non e => exact ⟨_, _, e, fun _ => rfl, fun s z => by cases z⟩
  | som e S g => exact ⟨_, _, e, fun z => (nomatch z), fun s z => (Option.some.inj z) ▸ ⟨_, rfl, rfl, S, g⟩⟩
theorem Turn.same {H H' : Hp} {d : Addr} {ow : Option Own} (k : Same H H') : Turn H H' d ow ow := ⟨fun b u e _ => k b u e, fun b u _ h => h⟩
/-- the desk is none of the stock's objects -/
theorem desk_off {H : Hp} {d dx : Addr} {v : V} {o : Own} {s : Kh434.Stock} (e : H d = some (.ins CD dx (dF v))) (S : StAt CS H o s) : d ≠ o.a ∧ d ≠ o.l ∧ d ≠ o.p := by
  obtain ⟨dx2, e2⟩ := S.obj
  obtain ⟨ts, e3, _⟩ := S.tab
  refine ⟨fun z => ?_, fun z => ?_, fun z => ?_⟩
  · rw [← z, e] at e2
    have e4 := Option.some.inj e2
    injection e4 with _ _ e5
    unfold dF sF at e5
    injection e5 with _ e6
    cases e6
  · have e4 := S.stems
    rw [← z, e] at e4
    cases e4
  · rw [← z, e] at e3
    cases e3
theorem DeskAt.moves {H H' : Hp} {d dx : Addr} {o o' : Own} {s s' : Kh434.Stock} (e : H d = some (.ins CD dx (dF (.ref o.a)))) (S : StAt CS H o s) (m : Moves H H' o o') (S' : StAt CS H' o' s') (g' : Good s') : DeskAt CS CD H' d (some o') (some s') := by
  obtain ⟨n1, n2, n3⟩ := desk_off e S
  refine .som (dx := dx) ?_ S' g'
  rw [m.ea]
  exact m.keep _ _ e n1 n2 n3
theorem Moves.turn {H H' : Hp} {d : Addr} {o o' : Own} (m : Moves H H' o o') : Turn H H' d (some o) (some o') := by
  refine ⟨fun b u e n => ?_, fun b u e n => ⟨n.1, fun o2 z => ?_⟩⟩
  · obtain ⟨_, n2⟩ := n
    obtain ⟨n3, n4, n5⟩ := n2 o rfl
    exact m.keep b u e n3 n4 n5
  · obtain rfl := Option.some.inj z
    obtain ⟨_, n2⟩ := n
    obtain ⟨n3, n4, n5⟩ := n2 o rfl
    refine ⟨by rw [m.ea]; exact n3, fun z => ?_, fun z => ?_⟩
    · rcases m.el with q | q
      · exact n4 (z.trans q)
      · rw [z, q] at e; cases e
    · rcases m.ep with q | q
      · exact n5 (z.trans q)
      · rw [z, q] at e; cases e
/-- a list beside it all is written -/
theorem DeskAt.upd {H : Hp} {d A : Addr} {ow : Option Own} {st : Option Kh434.Stock} {xs ys : List V} (h : DeskAt CS CD H d ow st) (n : Off d ow A) (hA : H A = some (.lst xs)) : DeskAt CS CD (upd H A (.lst ys)) d ow st := by
  cases h with
  | non e => exact .non ((upd_ne n.1.symm).trans e)
  | som e S g =>
    obtain ⟨n3, n4, n5⟩ := n.2 _ rfl
    obtain ⟨dx2, e2⟩ := S.obj
    exact .som ((upd_ne n.1.symm).trans e) ⟨⟨dx2, (upd_ne n3.symm).trans e2⟩, (upd_ne n4.symm).trans S.stems, S.tab.keep (fun u z => (upd_ne n5.symm).trans z) (tup_upd hA fun xs z => by cases z), S.ne⟩ g
theorem exec_none {k a b : Nat} {tl : List Nat} (h : k ≠ 0) : Kh434.execute none (decF k a b tl) = (none, Kh434.single (-61)) := by
  unfold decF
  split <;> first | exact absurd rfl h | rfl
theorem exec_some {k a b : Nat} {tl : List Nat} {s : Kh434.Stock} (h : k ≠ 0) : Kh434.execute (some s) (decF k a b tl) = (some (Kh434.apply s (decF k a b tl)).1, (Kh434.apply s (decF k a b tl)).2) := by
  unfold decF
  split <;> first | exact absurd rfl h | rfl
theorem exec_new1 {n : Nat} {st : Option Kh434.Stock} (h : sizeOk n = false) : Kh434.execute st (.create n) = (st, Kh434.single (-22)) := by
  unfold sizeOk at h
  rw [decide_eq_false_iff_not] at h
  exact if_pos (by omega)
theorem exec_new2 {n : Nat} {st : Option Kh434.Stock} (h : sizeOk n = true) : Kh434.execute st (.create n) = (some ⟨n, [], [], 0, 0⟩, Kh434.single 0) := by
  unfold sizeOk at h
  rw [decide_eq_true_eq] at h
  exact if_neg (by omega)
theorem apply_query {s : Kh434.Stock} {k a b : Nat} {tl : List Nat} (h : 8 ≤ k) : (Kh434.apply s (decF k a b tl)).1 = s := by
  unfold decF
  split <;> first | omega | rfl
/-! ### answer_call -/
abbrev sCall : Stmt := top 60
def spCall (CS CD : Addr) : Sp := fun vs H Q _ => ∃ (d a b : Addr) (ow : Option Own) (st : Option Kh434.Stock) (k : Nat) (xs tl : List Nat), vs = [.ref d, .int (k : Int), .ref a, .ref b] ∧ DeskAt CS CD H d ow st ∧ H a = some (.lst (nV xs)) ∧ H b = some (.lst (nV tl)) ∧ k ≤ 23 ∧ xs.length = nums k ∧ tl.length ≤ 1000 ∧
  ∀ (H' : Hp) (ow' : Option Own) (r : Addr), DeskAt CS CD H' d ow' (Kh434.execute st (decF k (xs.getD 0 0) (xs.getD 1 0) tl)).1 → Turn H H' d ow ow' → H r = none → H' r = some (rV (rowOf (Kh434.execute st (decF k (xs.getD 0 0) (xs.getD 1 0) tl)).2)) → Q (.ref r) H'
theorem scCall : FnScope ["desk", "call", "given", "told"] ["desk", "call", "given", "told"] (defScope sCall) := ⟨rfl, rfl, rfl, by decide +kernel, rfl, by decide +kernel, by decide +kernel⟩
theorem ok_call (G : GF K mg "answer_call" sCall) (T : Txt K mg CS CD) (D0 : Def P w K mg base 3 "create" ["desk", "size"] (spCreate CS CD)) (D1 : Def P w K mg base 6 "answer_change" ["stock", "call", "given", "told"] (spChange CS)) (D2 : Def P w K mg base 6 "answer_value" ["stock", "call", "given", "told"] (spValue CS))
    (D3 : Def P w K mg base 6 "answer_further" ["stock", "call", "given"] (spFurther CS)) : Def P w K mg base 7 "answer_call" ["desk", "call", "given", "told"] (spCall CS CD) := by
  refine def_of G scCall (fun _ _ _ _ _ _ us hl => match us, hl with | [_, _, _, _], _ => rfl) (fun vs H Q E h => ?_) fun f cdv A outer s H vs Q E hr h => ?_
  · obtain ⟨d, a, b, ow, st, k, xs, tl, rfl, _⟩ := h
    rfl
  · obtain ⟨d, a, b, ow, st, k, xs, tl, rfl, D, ha, hb, k23, hx, hz, q⟩ := h
    refine ⟨_, pss_cons (ps_if (pt_cmpR op_eq (pv 1) pe_int (nomark _)) (pss_one (ps_ret (pe_def D0 hr (pa_cons (pv 0) (pa_cons (pe_ix ix_list (pv 2) pe_int (fun _ _ => rfl)) pa_nil))))) pss_nil)
      (pss_cons (ps_if (pt_cmpR op_isN (pe_fld (pv 0) rfl) pe_non (nomark _)) (pss_one (ps_ret (pe_lst (pa_cons (pe_k T.cNoSt) pa_nil)))) pss_nil)
      (pss_cons (ps_if (pt_cmpR op_le (pv 1) pe_int (nomark _)) (pss_one (ps_ret (pe_def D1 hr (pa_cons (pe_fld (pv 0) rfl) (pa_cons (pv 1) (pa_cons (pv 2) (pa_cons (pv 3) pa_nil))))))) pss_nil)
      (pss_cons (ps_if (pt_cmpR op_le (pv 1) pe_int (nomark _)) (pss_one (ps_ret (pe_def D2 hr (pa_cons (pe_fld (pv 0) rfl) (pa_cons (pv 1) (pa_cons (pv 2) (pa_cons (pv 3) pa_nil))))))) pss_nil)
      (pss_one (ps_ret (pe_def D3 hr (pa_cons (pe_fld (pv 0) rfl) (pa_cons (pv 1) (pa_cons (pv 2) pa_nil))))))))), ?_⟩
    obtain ⟨dx, v, hd, hn, hs⟩ := D.at
    refine ⟨_, rfl, rfl, _, rfl, ite2 (fun c => ?_) fun c => ?_⟩
    · obtain rfl := int_is (j := 0) c
      obtain ⟨n, rfl⟩ := one_of hx
      refine ⟨_, rfl, _, rfl, a, _, _, _, rfl, rfl, SqL.of ha, at_of (j := 0) rfl rfl, ?_⟩
      refine ⟨d, dx, v, n, rfl, hd, fun c1 H' r s1 hr1 hrow => ?_, fun c1 H' o r S' hd' kp na nl np hr1 hrow => ?_⟩
      · refine q H' ow r ?_ (Turn.same s1) hr1 ?_
        · show DeskAt CS CD H' d ow (Kh434.execute st (.create n)).1
          rw [exec_new1 c1]
          exact D.same s1
        · show H' r = some (rV (rowOf (Kh434.execute st (.create n)).2))
          rw [exec_new1 c1]
          exact hrow
      · refine q H' (some o) r ?_ ⟨fun b u e n => kp b u e n.1, fun b u e n => ⟨n.1, fun o2 z => ?_⟩⟩ hr1 ?_
        · show DeskAt CS CD H' d (some o) (Kh434.execute st (.create n)).1
          rw [exec_new2 c1]
          exact .som hd' S' (good_new c1)
        · obtain rfl := Option.some.inj z
          refine ⟨fun z => ?_, fun z => ?_, fun z => ?_⟩
          · rw [z, na] at e; cases e
          · rw [z, nl] at e; cases e
          · rw [z, np] at e; cases e
        · show H' r = some (rV (rowOf (Kh434.execute st (.create n)).2))
          rw [exec_new2 c1]
          exact hrow
    · have n0 := int_not (j := 0) c
      refine ⟨_, rfl, d, CD, dx, _, _, rfl, hd, T.clD, T.nStock, dF_stock _, rfl, _, rfl, ite2 (fun c => ?_) fun c => ?_⟩
      · have hst : st = none := by
          cases st with
          | none => rfl
          | some s =>
            obtain ⟨o, rfl, _⟩ := hs s rfl
            have := of_decide_eq_true c
            cases this
        subst hst
        refine ⟨one_line, fun p hp => ?_⟩
        have s1 := Same.new (o := .lst [V.int (-61)]) hp
        refine q _ ow p ?_ (Turn.same s1) hp ?_
        · rw [exec_none n0]
          exact D.same s1
        · rw [exec_none n0]
          exact upd_same
      · have hst : ∃ s, st = some s := by
          cases st with
          | none => exact absurd (decide_eq_true (hn rfl)) c
          | some s => exact ⟨s, rfl⟩
        obtain ⟨s, rfl⟩ := hst
        obtain ⟨o, rfl, rfl, S, g⟩ := hs s rfl
        rw [exec_some n0] at q
        have query : 8 ≤ k → Gives H Q (rowOf (Kh434.apply s (decF k (xs.getD 0 0) (xs.getD 1 0) tl)).2) := fun h8 H' r s1 hr1 hrow =>
          q H' (some o) r (by
            show DeskAt CS CD H' d (some o) (some (Kh434.apply s (decF k (xs.getD 0 0) (xs.getD 1 0) tl)).1)
            rw [apply_query h8]
            exact D.same s1) (Turn.same s1) hr1 hrow
        refine ⟨_, rfl, _, _, rfl, rfl, _, rfl, ite2 (fun c => ?_) fun c => ?_⟩
        · have c7 : k ≤ 7 := by have := of_decide_eq_true c; omega
          refine ⟨_, rfl, d, CD, dx, _, _, rfl, hd, T.clD, T.nStock, dF_stock _, _, rfl, _, rfl, _, rfl, ?_⟩
          exact ⟨o, s, k, a, b, xs, tl, rfl, S, g, ha, hb, by omega, c7, hx, hz, fun H' o' r S' m hr1 hrow => q H' (some o') r (DeskAt.moves hd S m S' (good_apply g _)) m.turn hr1 hrow⟩
        · have c7 : ¬ k ≤ 7 := fun z => c (decide_eq_true (by omega))
          refine ⟨_, rfl, _, _, rfl, rfl, _, rfl, ite2 (fun c => ?_) fun c => ?_⟩
          · have c15 : k ≤ 15 := by have := of_decide_eq_true c; omega
            refine ⟨_, rfl, d, CD, dx, _, _, rfl, hd, T.clD, T.nStock, dF_stock _, _, rfl, _, rfl, _, rfl, ?_⟩
            exact ⟨o, s, k, a, b, xs, tl, rfl, S, g, ha, hb, by omega, c15, hx, hz, query (by omega)⟩
          · have c15 : ¬ k ≤ 15 := fun z => c (decide_eq_true (by omega))
            refine ⟨_, rfl, d, CD, dx, _, _, rfl, hd, T.clD, T.nStock, dF_stock _, _, rfl, _, rfl, ?_⟩
            exact ⟨o, s, k, a, xs, tl, rfl, S, g, ha, by omega, k23, hx, query (by omega)⟩
/-! ### Desk.__init__ -/
abbrev sInitD : Stmt := inClass (top 27) 0
def spInitD (CD : Addr) : Sp := fun vs H Q _ => ∃ (x dx : Addr), vs = [.ref x] ∧ H x = some (.ins CD dx []) ∧ ∀ H' : Hp, H' x = some (.ins CD dx (dF .non)) → (∀ b u, H b = some u → b ≠ x → H' b = some u) → Q .non H'
theorem scInitD : FnScope ["self"] ["self"] (defScope sInitD) := ⟨rfl, rfl, rfl, by decide +kernel, rfl, by decide +kernel, by decide +kernel⟩
theorem ok_initD {f : Addr} {fd : FuncData} (F : Fun K "__init__" "Desk.__init__" sInitD f fd) (T : Txt K mg CS CD) : FnOk P w K mg base CX0 1 f fd ["self"] (spInitD CD) := by
  refine F.ok scInitD (fun vs H Q E h => ?_) (fun cdv A outer s H vs Q E hr h => ?_)
  · obtain ⟨x, dx, rfl, _⟩ := h
    rfl
  · obtain ⟨x, dx, rfl, hx, k⟩ := h
    refine ⟨_, pss_one (ps_fld (pv 0) pe_non rfl), ?_⟩
    refine ⟨_, rfl, x, CD, dx, _, rfl, hx, T.clD, T.nStock, by show 0 < 1000; decide, ?_⟩
    exact k _ upd_same fun b u e nb => by rw [upd_ne nb]; exact e
end
end Sb

namespace Sb
open PySem PySem.Spec PyProof.Rows L2
/-! ### the flat list by its places -/
theorem drop_one {α : Type} {l : List α} {p : Nat} {x : α} {r : List α} (h : l.drop p = x :: r) : l[p]? = some x ∧ l.drop (p + 1) = r := by
  constructor
  · have e : (l.drop p)[0]? = some x := by rw [h]; rfl
    rw [List.getElem?_drop] at e
    exact e
  · have e : (l.drop p).drop 1 = r := by rw [h]; rfl
    rw [List.drop_drop] at e
    exact e
theorem drop_app {α : Type} {l : List α} {p : Nat} {a b : List α} (h : l.drop p = a ++ b) : l.drop (p + a.length) = b ∧ (l.drop p).take a.length = a := by
  constructor
  · rw [← List.drop_drop, h, List.drop_left]
  · rw [h, List.take_left]
theorem iL_append (a b : List Nat) : iL (a ++ b) = iL a ++ iL b := by unfold iL; rw [List.map_append]
theorem iL_nonneg {l : List Nat} : ∀ x ∈ iL l, 0 ≤ x := by
  intro x hx
  unfold iL at hx
  obtain ⟨n, _, rfl⟩ := List.mem_map.mp hx
  omega
def ext (k : Nat) (tl : List Nat) : List Nat := if hasList k = true then tl.length :: tl else []
theorem encC_is (k : Nat) (xs tl : List Nat) : encC k xs tl = iL (k :: (xs ++ ext k tl)) := by
  unfold encC ext
  cases hasList k with
  | true =>
    rw [if_pos rfl, if_pos rfl]
    show (k : Int) :: (iL xs ++ iL (tl.length :: tl)) = (k : Int) :: iL (xs ++ tl.length :: tl)
    rw [iL_append]
  | false =>
    rw [if_neg Bool.false_ne_true, if_neg Bool.false_ne_true]
    show (k : Int) :: (iL xs ++ []) = (k : Int) :: iL (xs ++ [])
    rw [List.append_nil, List.append_nil]
theorem parse_nat {m : Nat} {r : List Nat} {f : Nat} {cs : List (List (List Int))} (h : PyFlat.calls PyKh434.shape f (iL (m :: r)) = some cs) :
    ∃ (k : Nat) (xs tl rest : List Nat) (c : List (List Int)) (cs' : List (List (List Int))) (f' : Nat), k ≤ 23 ∧ xs.length = nums k ∧ (hasList k = false → tl = []) ∧ m :: r = k :: (xs ++ (ext k tl ++ rest)) ∧
      cs = c :: cs' ∧ PyFlat.calls PyKh434.shape f' (iL rest) = some cs' ∧ Kh434Neutral.decodeCall c = decF k (xs.getD 0 0) (xs.getD 1 0) tl := by
  obtain ⟨k, xs, tl, rest, c, cs', f', h1, h2, h3, h4, h5, h6, h7⟩ := parse_step (p := (m : Int)) (r := iL r) h (iL_nonneg (l := m :: r))
  have hr : iL (rest.map Int.toNat) = rest := iL_toNat fun x hx => iL_nonneg (l := m :: r) x (by
    show x ∈ (m : Int) :: iL r
    rw [h4]
    exact List.mem_append_right _ hx)
  refine ⟨k, xs, tl, rest.map Int.toNat, c, cs', f', h1, h2, h3, ?_, h5, by rw [hr]; exact h6, h7⟩
  have e : iL (m :: r) = iL (k :: (xs ++ (ext k tl ++ rest.map Int.toNat))) := by
    have e0 : k :: (xs ++ (ext k tl ++ rest.map Int.toNat)) = (k :: (xs ++ ext k tl)) ++ rest.map Int.toNat := by rw [List.cons_append, List.append_assoc]
    rw [e0, iL_append, hr]
    show (m : Int) :: iL r = _
    rw [h4, encC_is]
  have e2 := congrArg (fun z : List Int => z.map Int.toNat) e
  have e3 : (iL (m :: r)).map Int.toNat = (iL (k :: (xs ++ (ext k tl ++ rest.map Int.toNat)))).map Int.toNat := e2
  rwa [toNat_iL, toNat_iL] at e3
theorem calls_nil {f : Nat} {cs : List (List (List Int))} (h : PyFlat.calls PyKh434.shape f [] = some cs) : cs = [] := by
  cases f <;> (unfold PyFlat.calls at h; exact (Option.some.inj h).symm)
theorem cut_mid (l : List Nat) (i j : Nat) : cutV (nV l) (some (i : Int)) (some (j : Int)) = nV ((l.drop i).take (j - i)) := by
  unfold cutV
  rw [HT.sIx_nat, HT.sIx_nat, nV_length]
  unfold nV iL
  rw [← List.map_drop, ← List.map_drop, ← List.map_take, ← List.map_take]
  congr 2
  by_cases c : i ≤ l.length
  · rw [Nat.min_eq_left c]
    by_cases d : j ≤ l.length
    · rw [Nat.min_eq_left d]
    · rw [List.take_of_length_le (by rw [List.length_drop]; omega), List.take_of_length_le (by rw [List.length_drop]; omega)]
  · rw [Nat.min_eq_right (show l.length ≤ i by omega), List.drop_of_length_le (Nat.le_refl l.length), List.drop_of_length_le (show l.length ≤ i by omega), List.take_nil, List.take_nil]
def numsL : List Nat := [1, 1, 1, 2, 0, 1, 1, 0, 1, 1, 0, 0, 0, 0, 0, 1, 1, 0, 2, 1, 0, 0, 0, 0]
theorem nums_at {k : Nat} (h : k ≤ 23) : numsL[k]? = some (nums k) := by
  have hl : k < numsL.length := by show k < 24; omega
  show numsL[k]? = some (numsL.getD k 0)
  rw [List.getD_eq_getElem?_getD, List.getElem?_eq_getElem hl]
  rfl
theorem inV_is (k : Nat) : inV (.int (k : Int)) (nV [4, 12]) = hasList k := by
  show ((4 : Int) == (k : Int) || ((12 : Int) == (k : Int) || false)) = (k == 4 || k == 12)
  rw [Bool.eq_iff_iff]
  simp only [Bool.or_eq_true, beq_iff_eq, Bool.false_eq_true, or_false]
  omega
/-- the module's two rows of numbers -/
structure TxtM (K : PySem.W.Frag) (mg : Str → Option Value) : Prop where
  nums : ∃ N : Addr, mg "NUMBERS" = some (.ref N) ∧ ∀ H : Hp, SqT K H N (nV numsL)
  withL : ∃ N : Addr, mg "WITH_LISTS" = some (.ref N) ∧ ∀ H : Hp, SqT K H N (nV [4, 12])
/-! ### the list of calls, beside what is written -/
def InpAt (K : PySem.W.Frag) (H : Hp) (d : Addr) (ow : Option Own) (A a : Addr) (l : List Nat) : Prop :=
  (∃ u, H a = some u ∧ Off d ow a ∧ a ≠ A ∧ ∀ H' : Hp, H' a = some u → SqL K H' a (nV l)) ∨ ∀ H' : Hp, SqL K H' a (nV l)
theorem InpAt.seq {K : PySem.W.Frag} {H : Hp} {d A a : Addr} {ow : Option Own} {l : List Nat} (h : InpAt K H d ow A a l) : SqL K H a (nV l) := by
  rcases h with ⟨u, e, _, _, k⟩ | k
  · exact k H e
  · exact k H
theorem InpAt.same {K : PySem.W.Frag} {H H' : Hp} {d A a : Addr} {ow : Option Own} {l : List Nat} (h : InpAt K H d ow A a l) (s : Same H H') : InpAt K H' d ow A a l := by
  rcases h with ⟨u, e, n, n2, k⟩ | k
  · exact .inl ⟨u, s _ _ e, n, n2, k⟩
  · exact .inr k
theorem InpAt.turn {K : PySem.W.Frag} {H H' : Hp} {d A a : Addr} {ow ow' : Option Own} {l : List Nat} (h : InpAt K H d ow A a l) (t : Turn H H' d ow ow') : InpAt K H' d ow' A a l := by
  rcases h with ⟨u, e, n, n2, k⟩ | k
  · exact .inl ⟨u, t.keep _ _ e n, t.off _ _ e n, n2, k⟩
  · exact .inr k
theorem InpAt.upd {K : PySem.W.Frag} {H : Hp} {d A a : Addr} {ow : Option Own} {l : List Nat} {o : HO} (h : InpAt K H d ow A a l) : InpAt K (upd H A o) d ow A a l := by
  rcases h with ⟨u, e, n, n2, k⟩ | k
  · exact .inl ⟨u, (upd_ne n2).trans e, n, n2, k⟩
  · exact .inr k
theorem inp_of {K : PySem.W.Frag} {H : Hp} {a : Addr} {xs : List V} (h : SqL K H a xs) : (∃ u, H a = some u ∧ ∀ H' : Hp, H' a = some u → SqL K H' a xs) ∨ ∀ H' : Hp, SqL K H' a xs := by
  rcases h with (e | ⟨o, e⟩) | k
  · exact .inl ⟨_, e, fun H' e' => .inl (.inl e')⟩
  · exact .inl ⟨_, e, fun H' e' => .inl (.inr ⟨o, e'⟩)⟩
  · exact .inr fun H' => .inr k
section
variable {P : Program} {w : World} {K : PySem.W.Frag} {mg : Str → Option Value} {base : Heap} {CS CD : Addr}
/-! ### the end of a turn -/
def tTail (K : PySem.W.Frag) (CS CD : Addr) : TS := tSeq (tAsg (tCall (spCall CS CD) [] E0 (tCons (tVar 1) (tCons (tVar 4) (tCons (tVar 6) (tCons (tVar 7) tNil))))) (gName 8))
  (tSeq (tDrop (tBM K "list" rAppend (tVar 2) (tCons (tCB (rLen K) (tCons (tVar 8) tNil)) tNil)))
  (tSeq (tDrop (tBM K "list" rExtend (tVar 2) (tCons (tVar 8) tNil)))
  (tAsg (tVar 5) (gName 3))))
theorem tail_ok {a d A g t : Addr} {l xs tl : List Nat} {H : Hp} {ow : Option Own} {st : Option Kh434.Stock} {k : Nat} {v3 en : V} {v8 : Option V} {done : List Int} {D : Ends} (hd : DeskAt CS CD H d ow st) (hg : H g = some (.lst (nV xs))) (ht : H t = some (.lst (nV tl))) (k23 : k ≤ 23) (hx : xs.length = nums k) (hz : tl.length ≤ 1000)
    (hA : H A = some (rV done)) (oA : Off d ow A) (inp : InpAt K H d ow A a l) (hsz : (done ++ ((rowOf (Kh434.execute st (decF k (xs.getD 0 0) (xs.getD 1 0) tl)).2).length : Int) :: rowOf (Kh434.execute st (decF k (xs.getD 0 0) (xs.getD 1 0) tl)).2).length ≤ 10000000)
    (nx : ∀ (H' : Hp) (ow' : Option Own) (r : Addr), DeskAt CS CD H' d ow' (Kh434.execute st (decF k (xs.getD 0 0) (xs.getD 1 0) tl)).1 → Off d ow' A → InpAt K H' d ow' A a l →
      H' A = some (rV (done ++ ((rowOf (Kh434.execute st (decF k (xs.getD 0 0) (xs.getD 1 0) tl)).2).length : Int) :: rowOf (Kh434.execute st (decF k (xs.getD 0 0) (xs.getD 1 0) tl)).2)) →
      D.nx [some (.ref a), some (.ref d), some (.ref A), some en, some (.int (k : Int)), some en, some (.ref g), some (.ref t), some (.ref r)] H') :
    tTail K CS CD D [some (.ref a), some (.ref d), some (.ref A), some v3, some (.int (k : Int)), some en, some (.ref g), some (.ref t), v8] H := by
  generalize hc : Kh434.execute st (decF k (xs.getD 0 0) (xs.getD 1 0) tl) = res at hsz nx
  have line : (10000000 : Nat) < sizeLine := by decide
  rw [List.length_append, List.length_cons] at hsz
  refine ⟨_, rfl, _, rfl, _, rfl, _, rfl, d, g, t, ow, st, k, xs, tl, rfl, hd, hg, ht, k23, hx, hz, fun H1 ow' r hd1 tn hr0 hr1 => ?_⟩
  rw [hc] at hd1 hr1
  have oA1 := tn.off _ _ hA oA
  have hA1 := tn.keep _ _ hA oA
  have inp1 := inp.turn tn
  have nrA : r ≠ A := fun z => by rw [z, hA] at hr0; cases hr0
  refine ⟨_, rfl, .inl ⟨rfl, _, SqL.of hA1⟩, _, rfl, r, _, rfl, .inl (SqL.of hr1), A, _, _, rfl, rfl, hA1, ?_, ?_⟩
  · rw [List.length_map]
    omega
  · have inp2 : InpAt K (upd H1 A (.lst (done.map V.int ++ [V.int (((rowOf res.2).map V.int).length : Int)]))) d ow' A a l := inp1.upd
    have hd2 : DeskAt CS CD (upd H1 A (.lst (done.map V.int ++ [V.int (((rowOf res.2).map V.int).length : Int)]))) d ow' res.1 := hd1.upd oA1 hA1
    refine ⟨_, rfl, .inl ⟨rfl, _, SqL.of upd_same⟩, _, rfl, A, r, _, _, rfl, rfl, upd_same, (upd_ne nrA).trans hr1, ?_, ?_⟩
    · rw [List.length_append, List.length_map, List.length_map]
      show done.length + 1 + (rowOf res.2).length ≤ sizeLine
      omega
    · refine ⟨_, rfl, nx _ ow' r (hd2.upd oA1 upd_same) oA1 inp2.upd ?_⟩
      rw [upd_same]
      unfold rV
      rw [List.length_map, List.map_append, List.append_assoc]
      rfl
end
end Sb

namespace Sb
open PySem PySem.Spec PyProof.Rows L2
section
variable {P : Program} {w : World} {K : PySem.W.Frag} {mg : Str → Option Value} {base : Heap} {CS CD : Addr}
/-! ### answers -/
abbrev sAns : Stmt := top 61
def spAns (K : PySem.W.Frag) : Sp := fun vs H Q _ => ∃ (a : Addr) (l : List Nat), vs = [.ref a] ∧ SqL K H a (nV l) ∧ l.length ≤ 1000 ∧ (∃ cs, PyFlat.calls PyKh434.shape l.length (iL l) = some cs) ∧ (PyKh434.answers (iL l)).length ≤ 10000000 ∧
  ∀ (H' : Hp) (p : Addr), H' p = some (rV (PyKh434.answers (iL l))) → Q (.ref p) H'
theorem scAns : FnScope ["calls", "desk", "answer", "place", "call", "end", "given", "told", "row"] ["calls"] (defScope sAns) := ⟨rfl, rfl, rfl, by decide +kernel, rfl, by decide +kernel, by decide +kernel⟩
/-- what stands at a turn's start -/
def LoopAt (K : PySem.W.Frag) (CS CD : Addr) (a d A : Addr) (l : List Nat) (σ : L2.St) (H : Hp) : Prop :=
  ∃ (pl : Nat) (ow : Option Own) (st : Option Kh434.Stock) (cs : List (List (List Int))) (f : Nat) (done : List Int) (v4 v5 v6 v7 v8 : Option V),
    σ = [some (.ref a), some (.ref d), some (.ref A), some (.int (pl : Int)), v4, v5, v6, v7, v8] ∧ PyFlat.calls PyKh434.shape f (iL (l.drop pl)) = some cs ∧ DeskAt CS CD H d ow st ∧ InpAt K H d ow A a l ∧ H A = some (rV done) ∧ Off d ow A ∧ done ++ from_ st cs = PyKh434.answers (iL l)
def left_ (l : List Nat) (σ : L2.St) : Nat := match (σ[3]? : Option (Option V)) with
  | some (some (V.int i)) => l.length - i.toNat
  | _ => 0
theorem ok_answers {f fI : Addr} {fd fdI : FuncData} (F : Fun K "answers" "answers" sAns f fd) (T : Txt K mg CS CD) (TM : TxtM K mg) (M : Mk K CD fI) (FI : FnOk P w K mg base CX0 1 fI fdI ["self"] (spInitD CD)) (bI : Binds K fdI ["self"] [])
    (DC : Def P w K mg base 7 "answer_call" ["desk", "call", "given", "told"] (spCall CS CD)) : FnOk P w K mg base CX0 8 f fd ["calls"] (spAns K) := by
  obtain ⟨N, hN, hNt⟩ := TM.nums
  obtain ⟨W, hW, hWt⟩ := TM.withL
  refine F.ok scAns (fun vs H Q E h => ?_) (fun cdv A0 outer s H vs Q E hr h => ?_)
  · obtain ⟨a, l, rfl, _⟩ := h
    rfl
  · obtain ⟨a, l, rfl, ha, hz, ⟨cs0, hcs0⟩, hbig, q⟩ := h
    refine ⟨_, pss_cons (ps_set (i := 1) scAns.nd rfl (Or.inl rfl) (pe_make0 M FI (hr.mono (by decide)) rfl T.gD bI .nil pass0))
      (pss_cons (ps_set (i := 2) scAns.nd rfl (Or.inl rfl) (pe_lst pa_nil))
      (pss_cons (ps_set (i := 3) scAns.nd rfl (Or.inl rfl) pe_int)
      (pss_cons (ps_while PassesOwn.never (pt_cmpR op_lt (pv 3) (pe_callB call_len_seq (by rfl) T.b.len PySem.boot_len (pa_cons (pv 0) pa_nil)) (nomark _))
        (pss_cons (ps_set (i := 4) scAns.nd rfl (Or.inl rfl) (pe_ix ix_list (pv 0) (pv 3) (fun _ _ => rfl)))
        (pss_cons (ps_set (i := 5) scAns.nd rfl (Or.inl rfl) (pe_op op_add (pe_op op_add (pv 3) pe_int) (pe_ix ix_tup (pe_glob (v := V.ref N) rfl hN rfl) (pv 4) (fun _ _ => rfl))))
        (pss_cons (ps_set (i := 6) scAns.nd rfl (Or.inl rfl) (pe_slice sl_list (pv 0) (po_some (pe_op op_add (pv 3) pe_int)) (po_some (pv 5))))
        (pss_cons (ps_set (i := 7) scAns.nd rfl (Or.inl rfl) (pe_lst pa_nil))
        (pss_cons (ps_if (pt_cmpR op_in_seq (pv 4) (pe_glob (v := V.ref W) rfl hW rfl) (by rfl))
            (pss_cons (ps_set (i := 7) scAns.nd rfl (Or.inl rfl) (pe_slice sl_list (pv 0) (po_some (pe_op op_add (pv 5) pe_int)) (po_some (pe_op op_add (pe_op op_add (pv 5) pe_int) (pe_ix ix_list (pv 0) (pv 5) (fun _ _ => rfl))))))
            (pss_one (ps_aug (i := 5) scAns.nd rfl (Or.inl rfl) (pe_op op_add pe_int (pe_ix ix_list (pv 0) (pv 5) (fun _ _ => rfl))) ip_add))) pss_nil)
        (pss_cons (ps_set (i := 8) scAns.nd rfl (Or.inl rfl) (pe_def DC hr (pa_cons (pv 1) (pa_cons (pv 4) (pa_cons (pv 6) (pa_cons (pv 7) pa_nil))))))
        (pss_cons (ps_expr (pe_bm PySem.F.plainAttrs_list PySem.F.slot_list_append PySem.F.type_list_append mt_append (pv 2) (pa_cons (pe_callB (cr_lenK (K := K) rfl) (by rfl) T.b.len PySem.boot_len (pa_cons (pv 8) pa_nil)) pa_nil)))
        (pss_cons (ps_expr (pe_bm PySem.F.plainAttrs_list PySem.F.slot_list_extend PySem.F.type_list_extend mt_extend (pv 2) (pa_cons (pv 8) pa_nil)))
        (pss_one (ps_set (i := 3) scAns.nd rfl (Or.inl rfl) (pv 5))))))))))))
      (pss_one (ps_ret (pv 2)))))), ?_⟩
    refine fun d dx hd0 hdx0 ne => ?_
    refine ⟨d, dx, rfl, upd_same, fun H1 hd1 kp => ⟨rfl, ?_⟩⟩
    have old : ∀ b u, H b = some u → H1 b = some u := fun b u e => kp b u (by rw [upd_ne (ne_of_none e hd0), upd_ne (ne_of_none e hdx0)]; exact e) (ne_of_none e hd0)
    refine ⟨Nat.zero_le _, fun A hA0 => ?_⟩
    have nAd : A ≠ d := fun z => by rw [z, hd1] at hA0; cases hA0
    have newA := Same.new (o := .lst []) hA0
    have oA : Off d none A := ⟨nAd, fun o z => nomatch z⟩
    have inp0 : InpAt K (upd H1 A (.lst [])) d none A a l := by
      rcases inp_of ha with ⟨u, e, k⟩ | k
      · refine .inl ⟨u, newA _ _ (old _ _ e), ⟨ne_of_none e hd0, fun o z => nomatch z⟩, fun z => ?_, k⟩
        have e1 := old _ _ e
        rw [z, hA0] at e1
        cases e1
      · exact .inr k
    refine while_by (fun σ H' => LoopAt K CS CD a d A l σ H') (fun σ _ => left_ l σ) ?_ ?_ ?_
    · refine ⟨0, none, none, cs0, l.length, [], none, none, none, none, none, rfl, ?_, .non (newA _ _ hd1), inp0, upd_same, oA, ?_⟩
      · rw [List.drop_zero]; exact hcs0
      · have hlen : (iL l).length = l.length := by unfold iL; rw [List.length_map]
        rw [List.nil_append]
        exact (answers_is (by rw [hlen]; exact hcs0)).symm
    · rintro σ H2 ⟨pl, ow, st, cs, f2, done, v4, v5, v6, v7, v8, rfl, hcs, hD, inp, hA, oA, tot⟩
      refine ⟨_, rfl, _, rfl, a, _, rfl, .inl inp.seq, _, _, rfl, rfl, _, rfl, ite2 (fun c => ?_) fun c => ?_⟩
      · have hpl : pl < l.length := by
          have c1 := of_decide_eq_true c
          rw [nV_length] at c1
          omega
        cases hdr : l.drop pl with
        | nil =>
          have e := congrArg List.length hdr
          rw [List.length_drop] at e
          have : l.length - pl = 0 := e
          omega
        | cons m r =>
          rw [hdr] at hcs
          obtain ⟨k, xs, tl, rest, cc, cs', f', k23, hx, hnl, hsplit, rfl, hcs', hdec⟩ := parse_nat hcs
          rw [hsplit] at hdr
          obtain ⟨hk, hd2⟩ := drop_one hdr
          obtain ⟨hd3, hd4⟩ := drop_app hd2
          rw [hx] at hd3 hd4
          have tlz : tl.length ≤ 1000 := by
            have e1 := congrArg List.length hd3
            rw [List.length_drop, List.length_append] at e1
            have e2 : tl.length ≤ (ext k tl).length := by
              unfold ext
              cases hl : hasList k with
              | true => rw [if_pos rfl]; exact Nat.le_succ _
              | false => rw [hnl hl]; exact Nat.zero_le _
            omega
          rw [from_cons, hdec] at tot
          have hsz : (done ++ ((rowOf (Kh434.execute st (decF k (xs.getD 0 0) (xs.getD 1 0) tl)).2).length : Int) :: rowOf (Kh434.execute st (decF k (xs.getD 0 0) (xs.getD 1 0) tl)).2).length ≤ 10000000 := by
            have e1 := congrArg List.length tot
            rw [List.length_append, List.length_cons, List.length_append] at e1
            rw [List.length_append, List.length_cons]
            omega
          have tot2 : (done ++ ((rowOf (Kh434.execute st (decF k (xs.getD 0 0) (xs.getD 1 0) tl)).2).length : Int) :: rowOf (Kh434.execute st (decF k (xs.getD 0 0) (xs.getD 1 0) tl)).2) ++ from_ (Kh434.execute st (decF k (xs.getD 0 0) (xs.getD 1 0) tl)).1 cs' = PyKh434.answers (iL l) := by
            rw [← tot, List.append_assoc, List.cons_append]
          refine ⟨_, rfl, _, rfl, a, _, _, _, rfl, rfl, inp.seq, at_of (j := pl) rfl (nV_at hk), ?_⟩
          refine ⟨_, rfl, _, _, rfl, rfl, _, rfl, N, _, _, _, rfl, rfl, hNt H2, at_of (j := k) rfl (nV_at (nums_at k23)), _, _, rfl, rfl, ?_⟩
          refine ⟨_, rfl, _, rfl, _, _, rfl, rfl, ((pl + 1 : Nat) : Int), rfl, _, rfl, ((pl + 1 + nums k : Nat) : Int), rfl, a, _, rfl, inp.seq, fun g hg => ?_⟩
          have ecut : cutV (nV l) (some ((pl + 1 : Nat) : Int)) (some ((pl + 1 + nums k : Nat) : Int)) = nV xs := by
            rw [cut_mid]
            have e1 : pl + 1 + nums k - (pl + 1) = nums k := by omega
            rw [e1, hd4]
          rw [ecut]
          have sg := Same.new (o := .lst (nV xs)) hg
          refine ⟨Nat.zero_le _, fun t ht => ?_⟩
          have st1 := Same.new (o := .lst []) ht
          have sgt := sg.trans st1
          refine ⟨_, rfl, W, _, rfl, .inr (hWt _), rfl, rfl, _, rfl, ite2 (fun c2 => ?_) fun c2 => ?_⟩
          · have hl : hasList k = true := by rw [← inV_is]; exact c2
            have eext : ext k tl = tl.length :: tl := by unfold ext; rw [hl, if_pos rfl]
            rw [eext] at hd3
            obtain ⟨hn, hd5⟩ := drop_one hd3
            obtain ⟨hd6, hd7⟩ := drop_app hd5
            refine ⟨_, rfl, _, rfl, _, _, rfl, rfl, ((pl + 1 + nums k + 1 : Nat) : Int), rfl, _, rfl, _, _, rfl, rfl, _, rfl, _, rfl, a, _, _, _, rfl, rfl, (inp.same sgt).seq, at_of (j := pl + 1 + nums k) rfl (nV_at hn), _, _, rfl, rfl, ((pl + 1 + nums k + 1 + tl.length : Nat) : Int), rfl, a, _, rfl, (inp.same sgt).seq, fun t2 ht2 => ?_⟩
            have ecut2 : cutV (nV l) (some ((pl + 1 + nums k + 1 : Nat) : Int)) (some ((pl + 1 + nums k + 1 + tl.length : Nat) : Int)) = nV tl := by
              rw [cut_mid]
              have e1 : pl + 1 + nums k + 1 + tl.length - (pl + 1 + nums k + 1) = tl.length := by omega
              rw [e1, hd7]
            rw [ecut2]
            have st2 := Same.new (o := .lst (nV tl)) ht2
            have sall := sgt.trans st2
            refine ⟨_, rfl, _, rfl, _, rfl, a, _, _, _, rfl, rfl, (inp.same sall).seq, at_of (j := pl + 1 + nums k) rfl (nV_at hn), _, _, rfl, rfl, _, _, rfl, rfl, ?_⟩
            show tTail K CS CD _ _ _
            refine tail_ok (l := l) (tl := tl) (hD.same sall) (st2 _ _ (st1 _ _ upd_same)) upd_same k23 hx tlz (sall _ _ hA) oA (inp.same sall) hsz fun H' ow' r hd' oA' inp' hA' => ⟨?_, ?_⟩
            · refine ⟨pl + 1 + nums k + (1 + tl.length), ow', _, cs', f', _, _, _, _, _, _, rfl, ?_, hd', inp', hA', oA', tot2⟩
              have e1 : pl + 1 + nums k + (1 + tl.length) = pl + 1 + nums k + 1 + tl.length := by omega
              rw [e1, hd6]
              exact hcs'
            · show l.length - ((pl + 1 + nums k + (1 + tl.length) : Nat) : Int).toNat < l.length - ((pl : Nat) : Int).toNat
              rw [Int.toNat_natCast, Int.toNat_natCast]
              omega
          · have hl : hasList k = false := by
              cases z : hasList k with
              | false => rfl
              | true => exact absurd ((inV_is k).trans z) c2
            have etl := hnl hl
            subst etl
            have eext : ext k [] = [] := by unfold ext; rw [hl]; rfl
            rw [eext, List.nil_append] at hd3
            show tTail K CS CD _ _ _
            refine tail_ok (l := l) (tl := []) (hD.same sgt) (st1 _ _ upd_same) upd_same k23 hx tlz (sgt _ _ hA) oA (inp.same sgt) hsz fun H' ow' r hd' oA' inp' hA' => ⟨?_, ?_⟩
            · refine ⟨pl + 1 + nums k, ow', _, cs', f', _, _, _, _, _, _, rfl, ?_, hd', inp', hA', oA', tot2⟩
              rw [hd3]
              exact hcs'
            · show l.length - ((pl + 1 + nums k : Nat) : Int).toNat < l.length - ((pl : Nat) : Int).toNat
              rw [Int.toNat_natCast, Int.toNat_natCast]
              omega
      · have hpl : ¬ pl < l.length := fun z => c (decide_eq_true (by rw [nV_length]; omega))
        rw [List.drop_of_length_le (by omega)] at hcs
        have hnil := calls_nil hcs
        subst hnil
        rw [from_nil, List.append_nil] at tot
        refine ⟨_, rfl, q H2 A ?_⟩
        rw [← tot]
        exact hA
    · rintro σ H2 Q1 Q2 mono ⟨v, e1, v2, e2, p, ys, e3, hs, i, j, e4, e5, kb, e6, q0⟩
      exact ⟨v, e1, v2, e2, p, ys, e3, hs, i, j, e4, e5, kb, e6, mono _ _ q0⟩
end
end Sb

namespace Sb
open PySem PySem.Spec PyProof.Rows L2
/-! ### one fact of the top at a time -/
theorem gf_then {C : Prop} {K : PySem.W.Frag} {h : Heap} {mg : Str → Option Value} {x : Str} {st : Stmt} {f : Addr} {oc : Value} {od an : Option Addr} {osl : Array (Option Value)} {kV doc pm cdv ct : Value} (X : K.In h) (G : h.Ns mainGlobals mg)
    (a : PySem.W.nsIn K mainGlobals x = some (some (.ref f))) (l : K.lookup f = some ⟨oc, od, .func (PySem.W.fnOf x x (defArgs st) (defBody st) (defScope st) .none kV doc pm an cdv ct), osl⟩) (c : PySem.W.codeIn K cdv x = true) (k : PySem.W.keepIn K (.ref f) = true) (next : GF K mg x st → C) : C :=
  next ⟨f, _, fun_mk (st := st) l c k, PySem.W.mg_of X G a⟩
theorem cst_then {C : Prop} {K : PySem.W.Frag} {h : Heap} {mg : Str → Option Value} {x : Str} {i : Int} {t : Tok} (X : K.In h) (G : h.Ns mainGlobals mg) (a : PySem.W.nsIn K mainGlobals x = some (some (.int i t))) (next : (∃ t, mg x = some (.int i t)) → C) : C := next ⟨t, PySem.W.mg_of X G a⟩
theorem blt_then {C : Prop} {K : PySem.W.Frag} {h : Heap} {mg : Str → Option Value} {x : Str} (X : K.In h) (G : h.Ns mainGlobals mg) (a : PySem.W.nsIn K mainGlobals x = some none) (next : mg x = none → C) : C := next (PySem.W.mg_none_of X G a)
theorem cls_then {C : Prop} {K : PySem.W.Frag} {h : Heap} {mg : Str → Option Value} {x q : Str} {st : Stmt} {A f : Addr} {oc : Value} {od an : Option Addr} {osl : Array (Option Value)} {kV doc pm cdv ct : Value} (X : K.In h) (G : h.Ns mainGlobals mg)
    (a : PySem.W.nsIn K mainGlobals x = some (some (.ref A))) (a1 : PySem.W.findIn K (.ref A) "__init__" = some (some (.ref f))) (i1 : PySem.W.isFn K (.ref f) = true)
    (l : K.lookup f = some ⟨oc, od, .func (PySem.W.fnOf "__init__" q (defArgs st) (defBody st) (defScope st) .none kV doc pm an cdv ct), osl⟩) (c : PySem.W.codeIn K cdv q = true) (k : PySem.W.keepIn K (.ref f) = true)
    (pg : PySem.W.plainGet K A Str.empty = true) (hd : PySem.W.hasDictIn K A = true) (po : PySem.W.plainOver K A = true) (sa : PySem.W.findIn K (.ref A) "__setattr__" = some (some (.builtin "object.__setattr__"))) (mk : PySem.W.makesIn K A = true) (kc : PySem.W.keepIn K (.ref A) = true)
    (next : Cls K A → mg x = some (.ref A) → Mk K A f → Fun K "__init__" q st f (PySem.W.fnOf "__init__" q (defArgs st) (defBody st) (defScope st) .none kV doc pm an cdv ct) → C) : C :=
  next ⟨pg, hd, po, sa⟩ (PySem.W.mg_of X G a) ⟨mk, a1, i1, kc⟩ (fun_mk (st := st) l c k)
theorem nat_then {C : Prop} {K : PySem.W.Frag} {A : Addr} (f : Str) (H : Cls K A) (n : PySem.W.findIn K (.ref A) f = some none) (next : NoAttr K A f → C) : C := next n
theorem tup_then {C : Prop} {K : PySem.W.Frag} {h : Heap} {mg : Str → Option Value} {x : Str} {N : Addr} {d : Option Addr} {its : Array Value} {n : Nat} {sl : Array (Option Value)} {xs : List V} (X : K.In h) (G : h.Ns mainGlobals mg) (a : PySem.W.nsIn K mainGlobals x = some (some (.ref N)))
    (l : K.lookup N = some ⟨.type "tuple", d, .seq its n, sl⟩) (z : its.size ≤ sizeLine) (r : Vals xs its.toList) (next : (∃ N : Addr, mg x = some (.ref N) ∧ ∀ H : Hp, SqT K H N xs) → C) : C :=
  next ⟨N, PySem.W.mg_of X G a, fun H => .inr ⟨_, its, n, l, rfl, rfl, z, r⟩⟩
theorem ans_then {C : Prop} {K : PySem.W.Frag} {h : Heap} {mg : Str → Option Value} {x : Str} {st : Stmt} {f : Addr} {oc : Value} {od an : Option Addr} {osl : Array (Option Value)} {kV doc pm cdv ct : Value} (X : K.In h) (G : h.Ns mainGlobals mg)
    (a : PySem.W.nsIn K mainGlobals x = some (some (.ref f))) (l : K.lookup f = some ⟨oc, od, .func (PySem.W.fnOf x x (defArgs st) (defBody st) (defScope st) .none kV doc pm an cdv ct), osl⟩) (c : PySem.W.codeIn K cdv x = true) (k : PySem.W.keepIn K (.ref f) = true)
    (next : mg x = some (.ref f) → Fun K x x st f (PySem.W.fnOf x x (defArgs st) (defBody st) (defScope st) .none kV doc pm an cdv ct) → C) : C := next (PySem.W.mg_of X G a) (fun_mk (st := st) l c k)
/-- the defs of the module -/
structure AllG (K : PySem.W.Frag) (mg : Str → Option Value) : Prop where
  price_of : GF K mg "price_of" sPrice
  bunch_value : GF K mg "bunch_value" sBval
  from_longest : GF K mg "from_longest" sLong
  best_bunches : GF K mg "best_bunches" sBest
  left_over : GF K mg "left_over" sLeft
  best_value : GF K mg "best_value" sBv
  stems_in : GF K mg "stems_in" sIn
  stems_outside : GF K mg "stems_outside" sOut
  groups_of : GF K mg "groups_of" sGroups
  without : GF K mg "without" sWithout
  trimmed : GF K mg "trimmed" sTrimmed
  is_size : GF K mg "is_size" sIsSize
  is_length : GF K mg "is_length" sIsLength
  create : GF K mg "create" sCreate
  add_stem : GF K mg "add_stem" sAdd
  is_stem : GF K mg "is_stem" sIsStem
  remove_stem : GF K mg "remove_stem" sRemove
  trim_error : GF K mg "trim_error" sTErr
  trim_stem : GF K mg "trim_stem" sTrim
  is_table : GF K mg "is_table" sIsTable
  set_price_table : GF K mg "set_price_table" sSetTab
  set_bunch_size : GF K mg "set_bunch_size" sSetSize
  bunch_error : GF K mg "bunch_error" sBErr
  sell : GF K mg "sell" sSell
  sell_bunch : GF K mg "sell_bunch" sSellB
  current_value : GF K mg "current_value" sCur
  sell_best : GF K mg "sell_best" sSellBest
  tell_price : GF K mg "tell_price" sTellP
  tell_bunch : GF K mg "tell_bunch" sTellB
  tell_best : GF K mg "tell_best" sTellBest
  evaluate_grouping : GF K mg "evaluate_grouping" sEval
  with_count : GF K mg "with_count" sWithC
  value_singly : GF K mg "value_singly" sSingly
  gain_by_stem : GF K mg "gain_by_stem" sGain
  value_if_size : GF K mg "value_if_size" sIfSize
  best_size : GF K mg "best_size" sBestSize
  value_if_trimmed : GF K mg "value_if_trimmed" sIfTrim
  contribution : GF K mg "contribution" sContr
  widest_bunch : GF K mg "widest_bunch" sWidest
  list_prices : GF K mg "list_prices" sListP
  answer_change : GF K mg "answer_change" sChange
  answer_value : GF K mg "answer_value" sValue
  answer_further : GF K mg "answer_further" sFurther
  answer_call : GF K mg "answer_call" sCall
theorem all_ok {P : Program} {w : World} {K : PySem.W.Frag} {mg : Str → Option Value} {CS CD fS fD fa f : Addr} {fdS fdD : FuncData} {kV doc pm cdv ct : Value} {an : Option Addr} (hfa : mg "answers" = some (.ref fa)) (hf : mg "answers" = some (.ref f))
    (F : Fun K "answers" "answers" sAns f (PySem.W.fnOf "answers" "answers" (defArgs sAns) (defBody sAns) (defScope sAns) .none kV doc pm an cdv ct)) (A : AllG K mg) (T : Txt K mg CS CD) (TM : TxtM K mg) (c9 : ∃ t, mg "MOST_GROUPS" = some (.int 9 t))
    (MS : Mk K CS fS) (FS : Fun K "__init__" "Stock.__init__" sInitS fS fdS) (bS : Binds K fdS ["self", "size"] []) (MD : Mk K CD fD) (FD : Fun K "__init__" "Desk.__init__" sInitD fD fdD) (bD : Binds K fdD ["self"] []) :
    ∃ fd : FuncData, (∀ (s : Shared) (us : List Value), us.length = (["calls"] : List Str).length → BindsTo s fd ⟨us, []⟩ ((["calls"] : List Str).zip us)) ∧ ∀ base : Heap, K.In base → base.Ns mainGlobals mg → FnOk P w K mg base CX0 8 fa fd ["calls"] (spAns K) := by
  have e := hfa.symm.trans hf
  cases e
  refine ⟨PySem.W.fnOf "answers" "answers" (defArgs sAns) (defBody sAns) (defScope sAns) .none kV doc pm an cdv ct, fun s us hu => match us, hu with | [_], _ => .of_eq rfl, fun base _ _ => ?_⟩
  have B := T.b
  have d_price := ok_price (P := P) (w := w) (base := base) A.price_of
  have d_bval := ok_bval A.bunch_value B d_price
  have d_long := ok_long (P := P) (w := w) (base := base) A.from_longest B
  have d_best := ok_best A.best_bunches B d_long
  have d_left := ok_left A.left_over B d_long
  have d_bv := ok_bv A.best_value B d_best d_bval
  have d_in := ok_in (P := P) (w := w) (base := base) A.stems_in B
  have d_out := ok_out (P := P) (w := w) (base := base) A.stems_outside B
  have d_groups := ok_groups (P := P) (w := w) (base := base) A.groups_of B c9
  have d_without := ok_without (P := P) (w := w) (base := base) A.without
  have d_trimmed := ok_trimmed (P := P) (w := w) (base := base) A.trimmed
  have d_isSize := ok_isSize (P := P) (w := w) (base := base) A.is_size T
  have d_isLength := ok_isLength (P := P) (w := w) (base := base) A.is_length T
  have d_create := ok_create A.create T d_isSize MS (ok_initS FS T) bS
  have d_add := ok_add A.add_stem T d_isLength
  have d_isStem := ok_isStem (P := P) (w := w) (base := base) A.is_stem T
  have d_remove := ok_remove A.remove_stem T d_isStem
  have d_tErr := ok_tErr A.trim_error T d_isStem
  have d_trim := ok_trim A.trim_stem T d_tErr
  have d_isTable := ok_isTable (P := P) (w := w) (base := base) A.is_table T
  have d_setTab := ok_setTab A.set_price_table T d_isTable
  have d_setSize := ok_setSize A.set_bunch_size T d_isSize
  have d_bErr := ok_bErr A.bunch_error T d_in
  have d_sell := ok_sell (P := P) (w := w) (base := base) A.sell T
  have d_sellB := ok_sellB A.sell_bunch T d_bErr d_bval d_in d_out d_sell
  have d_cur := ok_cur A.current_value T d_bv
  have d_sellBest := ok_sellBest A.sell_best T d_cur d_left d_sell
  have d_tellP := ok_tellP A.tell_price T d_price
  have d_tellB := ok_tellB A.tell_bunch T d_bErr d_bval d_in
  have d_tellBest := ok_tellBest A.tell_best T d_best
  have d_eval := ok_eval A.evaluate_grouping T d_groups d_bval
  have d_withC := ok_withC (P := P) (w := w) (base := base) A.with_count T
  have d_singly := ok_singly A.value_singly T d_price
  have d_gain := ok_gain A.gain_by_stem T d_isLength d_bv d_cur
  have d_ifSize := ok_ifSize A.value_if_size T d_isSize d_bv
  have d_bestSize := ok_bestSize A.best_size T d_bv
  have d_ifTrim := ok_ifTrim A.value_if_trimmed T d_tErr d_trimmed d_bv
  have d_contr := ok_contr A.contribution T d_isStem d_cur d_without d_bv
  have d_widest := ok_widest A.widest_bunch T d_best
  have d_listP := ok_listP (P := P) (w := w) (base := base) A.list_prices T
  have d_change := ok_change A.answer_change T d_add d_remove d_trim d_setTab d_setSize d_sellB d_sellBest
  have d_value := ok_value A.answer_value T d_tellP d_tellB d_tellBest d_cur d_eval d_withC d_left d_singly d_gain
  have d_further := ok_further A.answer_further T d_ifSize d_bestSize d_ifTrim d_contr d_widest d_withC d_listP
  have d_call := ok_call A.answer_call T d_create d_change d_value d_further
  exact ok_answers F T TM MD (ok_initD FD T) bD d_call
/-- the request: a list of numbers that are not negative -/
theorem asked_run {K : PySem.W.Frag} {H : Hp} {a : Addr} {ns : List Int} {Q : VK} {E : XK} (ha : SqL K H a (ns.map V.int)) (h0 : ∀ x ∈ ns, 0 ≤ x) (hz : ns.length ≤ 1000) (hask : PyKh434.answers_asked ns = true) (q : ∀ (H' : Hp) (p : Addr), H' p = some (.lst ((PyKh434.answers ns).map V.int)) → Q (.ref p) H') : spAns K [.ref a] H Q E := by
  have e : iL (ns.map Int.toNat) = ns := iL_toNat h0
  obtain ⟨cs, h1, h2⟩ := asked_parse hask
  refine ⟨a, ns.map Int.toNat, rfl, ?_, ?_, ⟨cs, ?_⟩, ?_, ?_⟩
  · unfold nV
    rw [e]
    exact ha
  · rw [List.length_map]
    exact hz
  · rw [e, List.length_map]
    exact h1
  · rw [e]
    exact h2
  · rw [e]
    exact q
end Sb
open PySem PySem.W PyProof.Rows
set_option maxRecDepth 100000 in
set_option maxHeartbeats 8000000 in
theorem PySem.Challenge.cw_stembunches_s01_answers_holds : PySem.Challenge.rw_stembunches_s01_answers.Holds := by
  w_on; k_headS; (case hw => exact ⟨[.list [.int 0, .int 1]], by decide +kernel, by decide +kernel⟩)
  k_fillS
  refine L2.walk_specK (r := PySem.Challenge.rw_stembunches_s01_answers) (k := 8) (CX := L2.CX0) (ps := ["calls"]) (sp := Sb.spAns) (by decide +kernel) rfl rfl ⟨rfl, by decide, by decide⟩ (fun w h Y => PySem.W.kIn_of Y) ?F ?S (fun _ _ _ _ z => z)
  case F =>
    intro w mg fa h Y KX G hmg
    refine' Sb.gf_then (x := "price_of") (st := Sb.sPrice) KX G ?a ?l ?c ?k fun g_price_of => ?_
    (case a => k_is); (case l => k_is); (case c => k_is); (case k => k_is)
    refine' Sb.gf_then (x := "bunch_value") (st := Sb.sBval) KX G ?a ?l ?c ?k fun g_bunch_value => ?_
    (case a => k_is); (case l => k_is); (case c => k_is); (case k => k_is)
    refine' Sb.gf_then (x := "from_longest") (st := Sb.sLong) KX G ?a ?l ?c ?k fun g_from_longest => ?_
    (case a => k_is); (case l => k_is); (case c => k_is); (case k => k_is)
    refine' Sb.gf_then (x := "best_bunches") (st := Sb.sBest) KX G ?a ?l ?c ?k fun g_best_bunches => ?_
    (case a => k_is); (case l => k_is); (case c => k_is); (case k => k_is)
    refine' Sb.gf_then (x := "left_over") (st := Sb.sLeft) KX G ?a ?l ?c ?k fun g_left_over => ?_
    (case a => k_is); (case l => k_is); (case c => k_is); (case k => k_is)
    refine' Sb.gf_then (x := "best_value") (st := Sb.sBv) KX G ?a ?l ?c ?k fun g_best_value => ?_
    (case a => k_is); (case l => k_is); (case c => k_is); (case k => k_is)
    refine' Sb.gf_then (x := "stems_in") (st := Sb.sIn) KX G ?a ?l ?c ?k fun g_stems_in => ?_
    (case a => k_is); (case l => k_is); (case c => k_is); (case k => k_is)
    refine' Sb.gf_then (x := "stems_outside") (st := Sb.sOut) KX G ?a ?l ?c ?k fun g_stems_outside => ?_
    (case a => k_is); (case l => k_is); (case c => k_is); (case k => k_is)
    refine' Sb.gf_then (x := "groups_of") (st := Sb.sGroups) KX G ?a ?l ?c ?k fun g_groups_of => ?_
    (case a => k_is); (case l => k_is); (case c => k_is); (case k => k_is)
    refine' Sb.gf_then (x := "without") (st := Sb.sWithout) KX G ?a ?l ?c ?k fun g_without => ?_
    (case a => k_is); (case l => k_is); (case c => k_is); (case k => k_is)
    refine' Sb.gf_then (x := "trimmed") (st := Sb.sTrimmed) KX G ?a ?l ?c ?k fun g_trimmed => ?_
    (case a => k_is); (case l => k_is); (case c => k_is); (case k => k_is)
    refine' Sb.gf_then (x := "is_size") (st := Sb.sIsSize) KX G ?a ?l ?c ?k fun g_is_size => ?_
    (case a => k_is); (case l => k_is); (case c => k_is); (case k => k_is)
    refine' Sb.gf_then (x := "is_length") (st := Sb.sIsLength) KX G ?a ?l ?c ?k fun g_is_length => ?_
    (case a => k_is); (case l => k_is); (case c => k_is); (case k => k_is)
    refine' Sb.gf_then (x := "create") (st := Sb.sCreate) KX G ?a ?l ?c ?k fun g_create => ?_
    (case a => k_is); (case l => k_is); (case c => k_is); (case k => k_is)
    refine' Sb.gf_then (x := "add_stem") (st := Sb.sAdd) KX G ?a ?l ?c ?k fun g_add_stem => ?_
    (case a => k_is); (case l => k_is); (case c => k_is); (case k => k_is)
    refine' Sb.gf_then (x := "is_stem") (st := Sb.sIsStem) KX G ?a ?l ?c ?k fun g_is_stem => ?_
    (case a => k_is); (case l => k_is); (case c => k_is); (case k => k_is)
    refine' Sb.gf_then (x := "remove_stem") (st := Sb.sRemove) KX G ?a ?l ?c ?k fun g_remove_stem => ?_
    (case a => k_is); (case l => k_is); (case c => k_is); (case k => k_is)
    refine' Sb.gf_then (x := "trim_error") (st := Sb.sTErr) KX G ?a ?l ?c ?k fun g_trim_error => ?_
    (case a => k_is); (case l => k_is); (case c => k_is); (case k => k_is)
    refine' Sb.gf_then (x := "trim_stem") (st := Sb.sTrim) KX G ?a ?l ?c ?k fun g_trim_stem => ?_
    (case a => k_is); (case l => k_is); (case c => k_is); (case k => k_is)
    refine' Sb.gf_then (x := "is_table") (st := Sb.sIsTable) KX G ?a ?l ?c ?k fun g_is_table => ?_
    (case a => k_is); (case l => k_is); (case c => k_is); (case k => k_is)
    refine' Sb.gf_then (x := "set_price_table") (st := Sb.sSetTab) KX G ?a ?l ?c ?k fun g_set_price_table => ?_
    (case a => k_is); (case l => k_is); (case c => k_is); (case k => k_is)
    refine' Sb.gf_then (x := "set_bunch_size") (st := Sb.sSetSize) KX G ?a ?l ?c ?k fun g_set_bunch_size => ?_
    (case a => k_is); (case l => k_is); (case c => k_is); (case k => k_is)
    refine' Sb.gf_then (x := "bunch_error") (st := Sb.sBErr) KX G ?a ?l ?c ?k fun g_bunch_error => ?_
    (case a => k_is); (case l => k_is); (case c => k_is); (case k => k_is)
    refine' Sb.gf_then (x := "sell") (st := Sb.sSell) KX G ?a ?l ?c ?k fun g_sell => ?_
    (case a => k_is); (case l => k_is); (case c => k_is); (case k => k_is)
    refine' Sb.gf_then (x := "sell_bunch") (st := Sb.sSellB) KX G ?a ?l ?c ?k fun g_sell_bunch => ?_
    (case a => k_is); (case l => k_is); (case c => k_is); (case k => k_is)
    refine' Sb.gf_then (x := "current_value") (st := Sb.sCur) KX G ?a ?l ?c ?k fun g_current_value => ?_
    (case a => k_is); (case l => k_is); (case c => k_is); (case k => k_is)
    refine' Sb.gf_then (x := "sell_best") (st := Sb.sSellBest) KX G ?a ?l ?c ?k fun g_sell_best => ?_
    (case a => k_is); (case l => k_is); (case c => k_is); (case k => k_is)
    refine' Sb.gf_then (x := "tell_price") (st := Sb.sTellP) KX G ?a ?l ?c ?k fun g_tell_price => ?_
    (case a => k_is); (case l => k_is); (case c => k_is); (case k => k_is)
    refine' Sb.gf_then (x := "tell_bunch") (st := Sb.sTellB) KX G ?a ?l ?c ?k fun g_tell_bunch => ?_
    (case a => k_is); (case l => k_is); (case c => k_is); (case k => k_is)
    refine' Sb.gf_then (x := "tell_best") (st := Sb.sTellBest) KX G ?a ?l ?c ?k fun g_tell_best => ?_
    (case a => k_is); (case l => k_is); (case c => k_is); (case k => k_is)
    refine' Sb.gf_then (x := "evaluate_grouping") (st := Sb.sEval) KX G ?a ?l ?c ?k fun g_evaluate_grouping => ?_
    (case a => k_is); (case l => k_is); (case c => k_is); (case k => k_is)
    refine' Sb.gf_then (x := "with_count") (st := Sb.sWithC) KX G ?a ?l ?c ?k fun g_with_count => ?_
    (case a => k_is); (case l => k_is); (case c => k_is); (case k => k_is)
    refine' Sb.gf_then (x := "value_singly") (st := Sb.sSingly) KX G ?a ?l ?c ?k fun g_value_singly => ?_
    (case a => k_is); (case l => k_is); (case c => k_is); (case k => k_is)
    refine' Sb.gf_then (x := "gain_by_stem") (st := Sb.sGain) KX G ?a ?l ?c ?k fun g_gain_by_stem => ?_
    (case a => k_is); (case l => k_is); (case c => k_is); (case k => k_is)
    refine' Sb.gf_then (x := "value_if_size") (st := Sb.sIfSize) KX G ?a ?l ?c ?k fun g_value_if_size => ?_
    (case a => k_is); (case l => k_is); (case c => k_is); (case k => k_is)
    refine' Sb.gf_then (x := "best_size") (st := Sb.sBestSize) KX G ?a ?l ?c ?k fun g_best_size => ?_
    (case a => k_is); (case l => k_is); (case c => k_is); (case k => k_is)
    refine' Sb.gf_then (x := "value_if_trimmed") (st := Sb.sIfTrim) KX G ?a ?l ?c ?k fun g_value_if_trimmed => ?_
    (case a => k_is); (case l => k_is); (case c => k_is); (case k => k_is)
    refine' Sb.gf_then (x := "contribution") (st := Sb.sContr) KX G ?a ?l ?c ?k fun g_contribution => ?_
    (case a => k_is); (case l => k_is); (case c => k_is); (case k => k_is)
    refine' Sb.gf_then (x := "widest_bunch") (st := Sb.sWidest) KX G ?a ?l ?c ?k fun g_widest_bunch => ?_
    (case a => k_is); (case l => k_is); (case c => k_is); (case k => k_is)
    refine' Sb.gf_then (x := "list_prices") (st := Sb.sListP) KX G ?a ?l ?c ?k fun g_list_prices => ?_
    (case a => k_is); (case l => k_is); (case c => k_is); (case k => k_is)
    refine' Sb.gf_then (x := "answer_change") (st := Sb.sChange) KX G ?a ?l ?c ?k fun g_answer_change => ?_
    (case a => k_is); (case l => k_is); (case c => k_is); (case k => k_is)
    refine' Sb.gf_then (x := "answer_value") (st := Sb.sValue) KX G ?a ?l ?c ?k fun g_answer_value => ?_
    (case a => k_is); (case l => k_is); (case c => k_is); (case k => k_is)
    refine' Sb.gf_then (x := "answer_further") (st := Sb.sFurther) KX G ?a ?l ?c ?k fun g_answer_further => ?_
    (case a => k_is); (case l => k_is); (case c => k_is); (case k => k_is)
    refine' Sb.gf_then (x := "answer_call") (st := Sb.sCall) KX G ?a ?l ?c ?k fun g_answer_call => ?_
    (case a => k_is); (case l => k_is); (case c => k_is); (case k => k_is)
    refine' Sb.blt_then (x := "len") KX G ?a fun b_len => ?_
    (case a => k_is)
    refine' Sb.blt_then (x := "min") KX G ?a fun b_min => ?_
    (case a => k_is)
    refine' Sb.blt_then (x := "max") KX G ?a fun b_max => ?_
    (case a => k_is)
    refine' Sb.blt_then (x := "sorted") KX G ?a fun b_sorted => ?_
    (case a => k_is)
    refine' Sb.blt_then (x := "range") KX G ?a fun b_range => ?_
    (case a => k_is)
    refine' Sb.blt_then (x := "sum") KX G ?a fun b_sum => ?_
    (case a => k_is)
    refine' Sb.blt_then (x := "zip") KX G ?a fun b_zip => ?_
    (case a => k_is)
    refine' Sb.blt_then (x := "list") KX G ?a fun b_list => ?_
    (case a => k_is)
    refine' Sb.blt_then (x := "all") KX G ?a fun b_all => ?_
    (case a => k_is)
    refine' Sb.cst_then (x := "NOT_THERE") (i := (-2)) KX G ?a fun cNot => ?_
    (case a => k_is)
    refine' Sb.cst_then (x := "INVALID") (i := (-22)) KX G ?a fun cInv => ?_
    (case a => k_is)
    refine' Sb.cst_then (x := "TOO_MANY") (i := (-28)) KX G ?a fun cMany => ?_
    (case a => k_is)
    refine' Sb.cst_then (x := "UNDEFINED") (i := (-33)) KX G ?a fun cUndef => ?_
    (case a => k_is)
    refine' Sb.cst_then (x := "NO_STOCK") (i := (-61)) KX G ?a fun cNoSt => ?_
    (case a => k_is)
    refine' Sb.cst_then (x := "MOST_STEMS") (i := 9) KX G ?a fun cStems => ?_
    (case a => k_is)
    refine' Sb.cst_then (x := "MOST_SIZE") (i := 5) KX G ?a fun cSize => ?_
    (case a => k_is)
    refine' Sb.cst_then (x := "LEAST_LENGTH") (i := 10) KX G ?a fun cLeast => ?_
    (case a => k_is)
    refine' Sb.cst_then (x := "MOST_LENGTH") (i := 120) KX G ?a fun cMost => ?_
    (case a => k_is)
    refine' Sb.cst_then (x := "MOST_PRICE") (i := 99) KX G ?a fun cPrice => ?_
    (case a => k_is)
    refine' Sb.cst_then (x := "MOST_GROUPS") (i := 9) KX G ?a fun c9 => ?_
    (case a => k_is)
    refine' Sb.cls_then (x := "Stock") (q := "Stock.__init__") (st := Sb.sInitS) KX G ?a ?a1 ?i1 ?l ?c ?k ?pg ?hd ?po ?sa ?mk ?kc fun clS gS MS FS => ?_
    (case a => k_is); (case a1 => k_is); (case i1 => k_is); (case l => k_is); (case c => k_is); (case k => k_is)
    (case pg => k_is); (case hd => k_is); (case po => k_is); (case sa => k_is); (case mk => k_is); (case kc => k_is)
    refine' Sb.cls_then (x := "Desk") (q := "Desk.__init__") (st := Sb.sInitD) KX G ?a ?a1 ?i1 ?l ?c ?k ?pg ?hd ?po ?sa ?mk ?kc fun clD gD MD FD => ?_
    (case a => k_is); (case a1 => k_is); (case i1 => k_is); (case l => k_is); (case c => k_is); (case k => k_is)
    (case pg => k_is); (case hd => k_is); (case po => k_is); (case sa => k_is); (case mk => k_is); (case kc => k_is)
    refine' Sb.nat_then "size" clS ?n fun n_size => ?_
    (case n => k_is)
    refine' Sb.nat_then "stems" clS ?n fun n_stems => ?_
    (case n => k_is)
    refine' Sb.nat_then "prices" clS ?n fun n_prices => ?_
    (case n => k_is)
    refine' Sb.nat_then "sold" clS ?n fun n_sold => ?_
    (case n => k_is)
    refine' Sb.nat_then "revenue" clS ?n fun n_revenue => ?_
    (case n => k_is)
    refine' Sb.nat_then "stock" clD ?n fun n_stock => ?_
    (case n => k_is)
    refine' Sb.tup_then (x := "NUMBERS") (xs := Sb.nV Sb.numsL) KX G ?a ?l ?z ?r fun tN => ?_
    (case a => k_is); (case l => k_is); (case z => decide +kernel)
    (case r => exact (.cons ⟨_, rfl⟩ (.cons ⟨_, rfl⟩ (.cons ⟨_, rfl⟩ (.cons ⟨_, rfl⟩ (.cons ⟨_, rfl⟩ (.cons ⟨_, rfl⟩ (.cons ⟨_, rfl⟩ (.cons ⟨_, rfl⟩ (.cons ⟨_, rfl⟩ (.cons ⟨_, rfl⟩ (.cons ⟨_, rfl⟩ (.cons ⟨_, rfl⟩ (.cons ⟨_, rfl⟩ (.cons ⟨_, rfl⟩ (.cons ⟨_, rfl⟩ (.cons ⟨_, rfl⟩ (.cons ⟨_, rfl⟩ (.cons ⟨_, rfl⟩ (.cons ⟨_, rfl⟩ (.cons ⟨_, rfl⟩ (.cons ⟨_, rfl⟩ (.cons ⟨_, rfl⟩ (.cons ⟨_, rfl⟩ (.cons ⟨_, rfl⟩ .nil)))))))))))))))))))))))))
    refine' Sb.tup_then (x := "WITH_LISTS") (xs := Sb.nV [4, 12]) KX G ?a ?l ?z ?r fun tW => ?_
    (case a => k_is); (case l => k_is); (case z => decide +kernel)
    (case r => exact (.cons ⟨_, rfl⟩ (.cons ⟨_, rfl⟩ .nil)))
    refine' Sb.ans_then (x := "answers") (st := Sb.sAns) KX G ?a ?l ?c ?k fun hf FA => ?_
    (case a => k_is); (case l => k_is); (case c => k_is); (case k => k_is)
    have B : Sb.Blt mg := ⟨b_len, b_min, b_max, b_sorted, b_range, b_sum, b_zip, b_list, b_all⟩
    exact Sb.all_ok hmg hf FA ⟨g_price_of, g_bunch_value, g_from_longest, g_best_bunches, g_left_over, g_best_value, g_stems_in, g_stems_outside, g_groups_of, g_without, g_trimmed, g_is_size, g_is_length, g_create, g_add_stem, g_is_stem, g_remove_stem, g_trim_error, g_trim_stem, g_is_table, g_set_price_table, g_set_bunch_size, g_bunch_error, g_sell, g_sell_bunch, g_current_value, g_sell_best, g_tell_price, g_tell_bunch, g_tell_best, g_evaluate_grouping, g_with_count, g_value_singly, g_gain_by_stem, g_value_if_size, g_best_size, g_value_if_trimmed, g_contribution, g_widest_bunch, g_list_prices, g_answer_change, g_answer_value, g_answer_further, g_answer_call⟩ ⟨clS, n_size, n_stems, n_prices, n_sold, n_revenue, clD, n_stock, gS, gD, cNot, cInv, cMany, cUndef, cNoSt, cStems, cSize, cLeast, cMost, cPrice, B⟩ ⟨tN, tW⟩ c9 MS FS (FS.binds (ps := ["self", "size"]) fun _ _ _ _ _ _ us hl => match us, hl with | [_, _], _ => rfl) MD FD (FD.binds (ps := ["self"]) fun _ _ _ _ _ _ us hl => match us, hl with | [_], _ => rfl)
  case S =>
    intro K H xs a hO hwi hask hx
    cases hx with
    | cons h1 h2 =>
      cases h2
      cases h1 with
      | lst hs ha =>
        have e := L2.ints_dw a.1 _ ha
        subst e
        have q : ((Codec.inLen 0 720 a.1 && a.1.all (Codec.inInt 0 2147483647)) && true) = true := hwi
        rw [Bool.and_eq_true, Bool.and_eq_true] at q
        refine Sb.asked_run hs (fun x hx => ?_) (Nat.le_trans (Codec.inNat_iff.mp q.1.1).2 (by decide)) hask (fun H' p hp => .lst (L2.SqL.of hp) (L2.dw_ints _))
        have z := List.all_eq_true.mp q.1.2 x hx
        have z2 : (decide ((0 : Int) ≤ x) && decide (x ≤ 2147483647)) = true := z
        rw [Bool.and_eq_true] at z2
        exact of_decide_eq_true z2.1
