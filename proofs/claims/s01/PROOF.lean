import PyProof.Rows.All
import Wide.All
import OpenK.AllK
import Wide.FinOn
import Open.SpecLaws
import KE.OsGo
import KE.KMinKey
import HandS.ForSpec
import HandS.SortKw
import HandS.Comp
import HandS.Iter
import HandS.Zip
import HandS.Deep
import HandS.Codes
import HandS.Walk
import PyMu24
import PyFlatLaws
import PySem.Challenge.RW_wheeldraw_s01_answers
set_option linter.all false
namespace Wd
open Mu24

/-! ### most, right -/
theorem most_from (d : Pick) : ∀ (l : List Pick) (x : Nat), l.foldl (fun (m : Nat) (a : Pick) => max m (right a d)) x = max x (most l d)
  | [], x => by show x = max x 0; omega
  | a :: l, x => by
    have h1 := most_from d l (max x (right a d))
    have h2 := most_from d l (max 0 (right a d))
    show l.foldl _ (max x (right a d)) = max x (l.foldl _ (max 0 (right a d)))
    rw [h1, h2]
    omega
theorem most_cons (a : Pick) (l : List Pick) (d : Pick) : most (a :: l) d = max (right a d) (most l d) := by
  have h := most_from d l (max 0 (right a d))
  show l.foldl _ (max 0 (right a d)) = _
  rw [h]
  omega
theorem most_nil (d : Pick) : most [] d = 0 := rfl
theorem most_append (l l' : List Pick) (d : Pick) : most (l ++ l') d = max (most l d) (most l' d) := by
  induction l with
  | nil => rw [List.nil_append, most_nil]; omega
  | cons a l ih => rw [List.cons_append, most_cons, ih, most_cons]; omega
theorem most_one (a d : Pick) : most [a] d = right a d := by rw [most_cons, most_nil]; omega
theorem le_most {l : List Pick} {d : Pick} {m : Nat} (hm : 0 < m) : m ≤ most l d ↔ ∃ a ∈ l, m ≤ right a d := by
  induction l with
  | nil => rw [most_nil]; constructor
           · intro h; omega
           · rintro ⟨a, h, _⟩; cases h
  | cons a l ih =>
    rw [most_cons]
    constructor
    · intro h
      by_cases c : m ≤ right a d
      · exact ⟨a, List.mem_cons_self .., c⟩
      · have : m ≤ most l d := by omega
        obtain ⟨b, h1, h2⟩ := ih.mp this
        exact ⟨b, List.mem_cons_of_mem _ h1, h2⟩
    · rintro ⟨b, h1, h2⟩
      rcases List.mem_cons.mp h1 with rfl | h1
      · omega
      · have := ih.mpr ⟨b, h1, h2⟩
        omega
theorem right_le (a d : Pick) : right a d ≤ a.length := List.length_filter_le _ _
theorem right_snoc (a : Pick) (x : Nat) (d : Pick) : right (a ++ [x]) d = right a d + (if x ∈ d then 1 else 0) := by
  unfold right
  rw [List.filter_append, List.length_append]
  congr 1
  by_cases h : x ∈ d
  · simp [h]
  · simp [h]
theorem most_le {l : List Pick} {d : Pick} {k : Nat} (h : ∀ a ∈ l, a.length ≤ k) : most l d ≤ k := by
  induction l with
  | nil => rw [most_nil]; omega
  | cons a l ih =>
    rw [most_cons]
    have h1 := h a (List.mem_cons_self ..)
    have h2 := right_le a d
    have h3 := ih fun b hb => h b (List.mem_cons_of_mem _ hb)
    omega
/-- what max hands back -/
theorem most_is {l : List Pick} {d : Pick} {v : Nat} (hm : v ∈ l.map (fun a => right a d)) (hu : ∀ y ∈ l.map (fun a => right a d), y ≤ v) : most l d = v := by
  have h1 : v ≤ most l d := by
    obtain ⟨a, ha, e⟩ := List.mem_map.mp hm
    by_cases hv : 0 < v
    · exact (le_most hv).mpr ⟨a, ha, by omega⟩
    · omega
  have h2 : most l d ≤ v := by
    by_cases hv : 0 < most l d
    · obtain ⟨a, ha, e⟩ := (le_most hv).mp (Nat.le_refl _)
      have := hu _ (List.mem_map.mpr ⟨a, ha, rfl⟩)
      omega
    · omega
  omega

/-! ### fewest -/
def leftBy (a : Pick) (ds : List Pick) (m : Nat) : List Pick := ds.filter fun d => decide (right a d < m)
def coversAll (a : Pick) (ds : List Pick) (m : Nat) : Bool := ds.all fun d => decide (m ≤ right a d)
def oneFor (ds : List Pick) (m : Nat) : List Pick → List Pick
  | [] => []
  | a :: l => if coversAll a ds m = true then [a] else oneFor ds m l
def twoFor (ds : List Pick) (m : Nat) : List Pick → List Pick
  | [] => []
  | a :: l => if oneFor (leftBy a ds m) m l = [] then twoFor ds m l else a :: oneFor (leftBy a ds m) m l
def threeFor (ds : List Pick) (m : Nat) : List Pick → List Pick
  | [] => []
  | a :: l => if twoFor (leftBy a ds m) m l = [] then threeFor ds m l else a :: twoFor (leftBy a ds m) m l
def orElse (f g : List Pick) : List Pick := if f = [] then g else f
def fewestFor (ds : List Pick) (m : Nat) (l : List Pick) : List Pick := orElse (orElse (oneFor ds m l) (twoFor ds m l)) (threeFor ds m l)
def ofL (f : List Pick) : Option (List Pick) := if f = [] then none else some f
def cov (ds : List Pick) (r : List Pick) (m : Nat) : Bool := ds.all fun d => decide (m ≤ most r d)
theorem cov_cons (ds : List Pick) (a : Pick) (r : List Pick) (m : Nat) : cov ds (a :: r) m = cov (leftBy a ds m) r m := by
  unfold cov leftBy
  rw [List.all_filter]
  congr 1
  funext d
  rw [most_cons]
  by_cases h : right a d < m
  · have e : (m ≤ max (right a d) (most r d)) ↔ m ≤ most r d := by omega
    simp [h, e]
  · have e : m ≤ max (right a d) (most r d) := by omega
    simp [h, e]
theorem cov_nil (ds : List Pick) {m : Nat} (hm : 0 < m) : cov ds [] m = ds.isEmpty := by
  cases ds with
  | nil => rfl
  | cons d ds =>
    unfold cov
    rw [List.all_cons, most_nil, decide_eq_false (by omega)]
    rfl
theorem coversAll_eq (a : Pick) (ds : List Pick) (m : Nat) : coversAll a ds m = (leftBy a ds m).isEmpty := by
  unfold coversAll leftBy
  induction ds with
  | nil => rfl
  | cons d ds ih =>
    rw [List.all_cons, List.filter_cons]
    by_cases h : right a d < m
    · rw [if_pos (decide_eq_true h), decide_eq_false (by omega)]
      rfl
    · rw [if_neg (by simp [h]), decide_eq_true (by omega), ih]
      rfl
def findR (k : Nat) (ds : List Pick) (m : Nat) (l : List Pick) : Option (List Pick) := (rowsOf k l).find? fun r => cov ds r m
theorem findR_zero (ds : List Pick) {m : Nat} (hm : 0 < m) (l : List Pick) : findR 0 ds m l = if ds.isEmpty = true then some [] else none := by
  have e : rowsOf 0 l = [[]] := by cases l <;> rfl
  unfold findR
  rw [e]
  show (match cov ds [] m with | true => some [] | false => none) = _
  rw [cov_nil ds hm]
  cases ds.isEmpty <;> rfl
theorem findR_cons (k : Nat) (ds : List Pick) (m : Nat) (a : Pick) (l : List Pick) : findR (k + 1) ds m (a :: l) = ((findR k (leftBy a ds m) m l).map (fun r => a :: r)).or (findR (k + 1) ds m l) := by
  unfold findR
  show ((rowsOf k l).map (fun (r : List Pick) => a :: r) ++ rowsOf (k + 1) l).find? _ = _
  rw [List.find?_append, List.find?_map]
  congr 1
  congr 1
  congr 1
  funext r
  exact cov_cons ds a r m
theorem findR_nil (k : Nat) (ds : List Pick) (m : Nat) : findR (k + 1) ds m [] = none := rfl
theorem ofL_cons (a : Pick) (l : List Pick) : ofL (a :: l) = some (a :: l) := if_neg (by intro h; cases h)
theorem one_is {m : Nat} (hm : 0 < m) : ∀ (l ds : List Pick), findR 1 ds m l = ofL (oneFor ds m l)
  | [], ds => rfl
  | a :: l, ds => by
    have e : oneFor ds m (a :: l) = if coversAll a ds m = true then [a] else oneFor ds m l := rfl
    rw [findR_cons, findR_zero _ hm, one_is hm l ds, e, coversAll_eq]
    cases (leftBy a ds m).isEmpty with
    | true => rw [if_pos rfl, if_pos rfl, ofL_cons]; rfl
    | false => rw [if_neg (by decide), if_neg (by decide)]; rfl
theorem more_is {m : Nat} (k : Nat) (f : List Pick → Nat → List Pick → List Pick) (g : List Pick → Nat → List Pick → List Pick)
    (hf : ∀ l ds, findR k ds m l = ofL (f ds m l)) (g0 : ∀ ds, g ds m [] = []) (g1 : ∀ ds a l, g ds m (a :: l) = if f (leftBy a ds m) m l = [] then g ds m l else a :: f (leftBy a ds m) m l) :
    ∀ (l ds : List Pick), findR (k + 1) ds m l = ofL (g ds m l)
  | [], ds => by rw [g0]; rfl
  | a :: l, ds => by
    rw [findR_cons, hf, more_is k f g hf g0 g1 l ds, g1]
    by_cases h : f (leftBy a ds m) m l = []
    · rw [if_pos h]
      unfold ofL
      rw [if_pos h]
      rfl
    · rw [if_neg h, ofL_cons]
      unfold ofL
      rw [if_neg h]
      rfl
theorem two_is {m : Nat} (hm : 0 < m) (l ds : List Pick) : findR 2 ds m l = ofL (twoFor ds m l) := more_is 1 oneFor twoFor (one_is hm) (fun _ => rfl) (fun _ _ _ => rfl) l ds
theorem three_is {m : Nat} (hm : 0 < m) (l ds : List Pick) : findR 3 ds m l = ofL (threeFor ds m l) := more_is 2 twoFor threeFor (two_is hm) (fun _ => rfl) (fun _ _ _ => rfl) l ds
theorem ofL_or (f g : List Pick) : ofL (orElse f g) = (ofL f).or (ofL g) := by
  unfold orElse ofL
  by_cases h : f = []
  · rw [if_pos h, if_pos h]; rfl
  · rw [if_neg h, if_neg h]; rfl
theorem fewest_is (s : State) {m : Nat} (hm : 0 < m) (hd : allDraws s ≠ []) : Mu24.fewest s m 4 0 = ofL (fewestFor (allDraws s) m (allTickets s)) := by
  have u : ∀ f k, Mu24.fewest s m (f + 1) k = (findR k (allDraws s) m (allTickets s)).or (Mu24.fewest s m f (k + 1)) := fun f k => by
    show (match findR k (allDraws s) m (allTickets s) with | some l => some l | none => Mu24.fewest s m f (k + 1)) = _
    cases findR k (allDraws s) m (allTickets s) <;> rfl
  rw [u, u, u, u, findR_zero _ hm, one_is hm, two_is hm, three_is hm]
  unfold fewestFor
  rw [ofL_or, ofL_or]
  have e : (allDraws s).isEmpty = false := by
    cases h : allDraws s with
    | nil => exact (hd h).elim
    | cons _ _ => rfl
  rw [e, if_neg (by decide)]
  show ((ofL _).or ((ofL _).or ((ofL _).or none))) = _
  rw [Option.or_none, Option.or_assoc]

/-! ### needed -/
def without (ds : List Pick) (m : Nat) : List Pick → List Pick → List Pick
  | kept, [] => kept
  | kept, x :: rest => if cov ds (kept ++ rest) m = true then without ds m kept rest else without ds m (kept ++ [x]) rest
theorem needed_is (s : State) (m : Nat) : ∀ (rest kept : List Pick) (f : Nat), rest.length < f → Mu24.needed s m f kept.length (kept ++ rest) = without (allDraws s) m kept rest
  | [], kept, f, h => by
    cases f with
    | zero => cases h
    | succ f =>
      unfold Mu24.needed
      rw [if_pos (by simp)]
      simp [without]
  | x :: rest, kept, f, h => by
    cases f with
    | zero => cases h
    | succ f =>
      have hl : ¬ (kept ++ x :: rest).length ≤ kept.length := by simp
      have he : (kept ++ x :: rest).eraseIdx kept.length = kept ++ rest := by simp [List.eraseIdx_append_of_length_le]
      unfold Mu24.needed
      rw [if_neg hl]
      dsimp only
      rw [he]
      have hf : rest.length < f := by simpa using h
      show (if cov (allDraws s) (kept ++ rest) m = true then _ else _) = (if cov (allDraws s) (kept ++ rest) m = true then _ else _)
      by_cases c : cov (allDraws s) (kept ++ rest) m = true
      · rw [if_pos c, if_pos c]
        exact needed_is s m rest kept f hf
      · rw [if_neg c, if_neg c]
        have := needed_is s m rest (kept ++ [x]) f hf
        rw [List.length_append] at this
        have e2 : (kept ++ [x]) ++ rest = kept ++ x :: rest := by simp
        rw [e2] at this
        exact this
theorem without_len (ds : List Pick) (m : Nat) : ∀ rest kept : List Pick, (without ds m kept rest).length ≤ kept.length + rest.length
  | [], kept => by simp [without]
  | x :: rest, kept => by
    unfold without
    split
    · have := without_len ds m rest kept
      rw [List.length_cons]; omega
    · have := without_len ds m rest (kept ++ [x])
      rw [List.length_append, List.length_singleton] at this
      rw [List.length_cons]; omega
theorem without_sub (ds : List Pick) (m : Nat) : ∀ rest kept : List Pick, (without ds m kept rest).Sublist (kept ++ rest)
  | [], kept => by simp [without]
  | x :: rest, kept => by
    unfold without
    split
    · exact (without_sub ds m rest kept).trans (List.Sublist.append (List.Sublist.refl _) (List.sublist_cons_self ..))
    · have := without_sub ds m rest (kept ++ [x])
      rw [List.append_assoc] at this
      exact this
def cnt (T : List Pick) (m : Nat) (d : Pick) : Nat := (T.filter fun a => decide (m ≤ right a d)).length
def hit (x : Pick) (m : Nat) (d : Pick) : Nat := if m ≤ right x d then 1 else 0
theorem cnt_split (kept rest : List Pick) (x : Pick) (m : Nat) (d : Pick) : cnt (kept ++ x :: rest) m d = cnt (kept ++ rest) m d + hit x m d := by
  unfold cnt hit
  rw [List.filter_append, List.filter_append, List.filter_cons]
  by_cases h : m ≤ right x d
  · rw [if_pos (decide_eq_true h), if_pos h]
    simp only [List.length_append, List.length_cons]
    omega
  · rw [if_neg (by simp [h]), if_neg h]
    omega
theorem cnt_pos {T : List Pick} {m : Nat} (hm : 0 < m) (d : Pick) : 0 < cnt T m d ↔ m ≤ most T d := by
  rw [le_most hm]
  unfold cnt
  constructor
  · intro h
    obtain ⟨a, ha⟩ := List.exists_mem_of_length_pos h
    obtain ⟨h1, h2⟩ := List.mem_filter.mp ha
    exact ⟨a, h1, of_decide_eq_true h2⟩
  · rintro ⟨a, h1, h2⟩
    exact List.length_pos_of_mem (List.mem_filter.mpr ⟨h1, decide_eq_true h2⟩)
/-- min of the counts is above 0 just where all draws are covered -/
theorem cov_iff {ds T : List Pick} {m : Nat} (hm : 0 < m) : cov ds T m = true ↔ ∀ d ∈ ds, 0 < cnt T m d := by
  unfold cov
  rw [List.all_eq_true]
  constructor
  · intro h d hd
    exact (cnt_pos hm d).mpr (of_decide_eq_true (h d hd))
  · intro h d hd
    exact decide_eq_true ((cnt_pos hm d).mp (h d hd))

/-! ### rows in order -/
def nextOf (i : Nat) (r : Pick) : Nat := match r.getLast? with
  | none => i
  | some x => x + 1
def ups (n i : Nat) (r : Pick) : List Pick := (List.range' (nextOf i r) (n - nextOf i r)).map fun x => r ++ [x]
def rowsUp (n : Nat) : Nat → List Pick
  | 0 => [[]]
  | k + 1 => (rowsUp n k).flatMap (ups n 0)
theorem flatMap_same {f g : Pick → List Pick} : ∀ (l : List Pick), (∀ r ∈ l, f r = g r) → l.flatMap f = l.flatMap g
  | [], _ => rfl
  | a :: l, h => by
    rw [List.flatMap_cons, List.flatMap_cons, h a (List.mem_cons_self ..), flatMap_same l fun r hr => h r (List.mem_cons_of_mem _ hr)]
theorem nextOf_cons (i : Nat) (r : Pick) : nextOf i (i :: r) = nextOf (i + 1) r := by
  unfold nextOf
  rw [List.getLast?_cons]
  cases r.getLast? <;> rfl
theorem nextOf_any (i j : Nat) {r : Pick} (h : r ≠ []) : nextOf i r = nextOf j r := by
  unfold nextOf
  cases e : r.getLast? with
  | none => exact (h (List.getLast?_eq_none_iff.mp e)).elim
  | some x => rfl
theorem ups_cons (n i : Nat) (r : Pick) : ups n i (i :: r) = (ups n (i + 1) r).map fun l => i :: l := by
  unfold ups
  rw [nextOf_cons, List.map_map]
  rfl
theorem picks_zero (n f i : Nat) : picks n f i 0 = [[]] := by cases f <;> rfl
theorem picks_step (n f i k : Nat) : picks n (f + 1) i (k + 1) = if n ≤ i then [] else (picks n f (i + 1) k).map (fun (l : Pick) => i :: l) ++ picks n f (i + 1) (k + 1) := rfl
theorem picks_len (n : Nat) : ∀ (f i k : Nat) (r : Pick), r ∈ picks n f i k → r.length = k
  | f, i, 0, r, h => by
    rw [picks_zero] at h
    rw [List.mem_singleton.mp h]; rfl
  | 0, i, k + 1, r, h => by cases h
  | f + 1, i, k + 1, r, h => by
    rw [picks_step] at h
    split at h
    · cases h
    · rcases List.mem_append.mp h with h | h
      · obtain ⟨q, hq, rfl⟩ := List.mem_map.mp h
        have := picks_len n f (i + 1) k q hq
        rw [List.length_cons, this]
      · exact picks_len n f (i + 1) (k + 1) r h
theorem ups_nil (n i : Nat) : ups n i [] = (List.range' i (n - i)).map fun x => [x] := rfl
theorem picks_succ (n : Nat) : ∀ (f i k : Nat), n ≤ i + f → picks n f i (k + 1) = (picks n f i k).flatMap (ups n i)
  | 0, i, 0, h => by
    show [] = ([[]] : List Pick).flatMap (ups n i)
    rw [List.flatMap_cons, ups_nil, Nat.sub_eq_zero_of_le (by omega)]
    rfl
  | 0, i, k + 1, h => rfl
  | f + 1, i, 0, h => by
    rw [picks_step, picks_zero, picks_zero, List.flatMap_cons, ups_nil]
    by_cases c : n ≤ i
    · rw [if_pos c, Nat.sub_eq_zero_of_le c]; rfl
    · rw [if_neg c, picks_succ n f (i + 1) 0 (by omega), picks_zero, List.flatMap_cons, ups_nil]
      have e : n - i = (n - (i + 1)) + 1 := by omega
      rw [e, List.range'_succ]
      rfl
  | f + 1, i, k + 1, h => by
    rw [picks_step, picks_step]
    by_cases c : n ≤ i
    · rw [if_pos c, if_pos c]; rfl
    · rw [if_neg c, if_neg c, List.flatMap_append, List.flatMap_map]
      congr 1
      · rw [picks_succ n f (i + 1) k (by omega), List.map_flatMap]
        exact flatMap_same _ fun r _ => (ups_cons n i r).symm
      · rw [picks_succ n f (i + 1) (k + 1) (by omega)]
        refine flatMap_same _ fun r hr => ?_
        have hl := picks_len n f (i + 1) (k + 1) r hr
        unfold ups
        rw [nextOf_any (i + 1) i (by intro z; rw [z] at hl; cases hl)]
theorem rowsUp_is (n : Nat) : ∀ k, rowsUp n k = picks n (n + 1) 0 k
  | 0 => by rw [picks_zero]; rfl
  | k + 1 => by
    rw [picks_succ n (n + 1) 0 k (by omega), ← rowsUp_is n k]
    rfl
theorem rowsUp_few : ∀ n < 11, ∀ k < 7, (rowsUp n k).length ≤ 252 := by decide +kernel
theorem rowsUp_some : ∀ n < 11, ∀ k < 7, k ≤ n → (rowsUp n k).isEmpty = false := by decide +kernel
theorem rowsUp_len {n k : Nat} {r : Pick} (h : r ∈ rowsUp n k) : r.length = k := by
  rw [rowsUp_is] at h
  exact picks_len _ _ _ _ _ h

/-! ### the best next ticket -/
def gain (op : List Pick) (m : Nat) (a : Pick) : Nat := (op.filter fun d => decide (m ≤ right a d)).length
def bestStep (g : Pick → Nat) (s : Nat × Pick) (a : Pick) : Nat × Pick := if s.1 < g a then (g a, a) else s
def best (g : Pick → Nat) (l : List Pick) : Nat × Pick := l.foldl (bestStep g) (0, [])
theorem best_snoc (g : Pick → Nat) (l : List Pick) (a : Pick) : best g (l ++ [a]) = bestStep g (best g l) a := by
  unfold best
  rw [List.foldl_append]
  rfl
def openOf (ds T : List Pick) (m : Nat) : List Pick := ds.filter fun d => decide (most T d < m)
theorem covered_more (s : State) (T : List Pick) (a : Pick) (m : Nat) : covered s (T ++ [a]) m = covered s T m + gain (openOf (allDraws s) T m) m a := by
  unfold covered gain openOf
  induction allDraws s with
  | nil => rfl
  | cons d ds ih =>
    have e : most (T ++ [a]) d = max (most T d) (right a d) := by rw [most_append, most_one]
    by_cases h1 : most T d < m
    · by_cases h2 : m ≤ right a d
      · have c1 : decide (m ≤ most (T ++ [a]) d) = true := decide_eq_true (by omega)
        have c2 : decide (m ≤ most T d) = false := decide_eq_false (by omega)
        simp only [List.filter_cons, c1, c2, decide_eq_true h1, decide_eq_true h2, if_true, Bool.false_eq_true, if_false, List.length_cons]
        omega
      · have c1 : decide (m ≤ most (T ++ [a]) d) = false := decide_eq_false (by omega)
        have c2 : decide (m ≤ most T d) = false := decide_eq_false (by omega)
        simp only [List.filter_cons, c1, c2, decide_eq_true h1, decide_eq_false h2, if_true, Bool.false_eq_true, if_false, List.length_cons]
        omega
    · have c1 : decide (m ≤ most (T ++ [a]) d) = true := decide_eq_true (by omega)
      have c2 : decide (m ≤ most T d) = true := decide_eq_true (by omega)
      simp only [List.filter_cons, c1, c2, decide_eq_false h1, if_true, Bool.false_eq_true, if_false, List.length_cons]
      omega
def BestRel (g : Pick → Nat) : Option Pick → Nat × Pick → Prop
  | none, p => p = (0, [])
  | some b, p => p = (g b, if g b = 0 then [] else b)
theorem best_rel (f g : Pick → Nat) (c : Nat) (hf : ∀ a, f a = c + g a) : ∀ (l : List Pick) (o : Option Pick) (p : Nat × Pick), BestRel g o p →
    BestRel g (l.foldl (fun (m : Option Pick) (a : Pick) => match m with | none => some a | some b => if f b < f a then some a else some b) o) (l.foldl (bestStep g) p)
  | [], o, p, h => h
  | a :: l, o, p, h => by
    rw [List.foldl_cons, List.foldl_cons]
    refine best_rel f g c hf l _ _ ?_
    cases o with
    | none =>
      have e : p = (0, []) := h
      subst e
      show (if 0 < g a then (g a, a) else (0, [])) = (g a, if g a = 0 then [] else a)
      by_cases z : g a = 0
      · rw [if_neg (by omega), if_pos z, z]
      · rw [if_pos (by omega), if_neg z]
    | some b =>
      have e : p = (g b, if g b = 0 then [] else b) := h
      subst e
      show BestRel g (if f b < f a then some a else some b) (if g b < g a then (g a, a) else (g b, if g b = 0 then [] else b))
      rw [hf, hf]
      by_cases z : g b < g a
      · rw [if_pos (by omega), if_pos z]
        show (g a, a) = (g a, if g a = 0 then [] else a)
        rw [if_neg (by omega)]
      · rw [if_neg (by omega), if_neg z]
        rfl
def nextAns (s : State) (m : Nat) : List Int := match nextTicket s m with
  | some x => if x.2 = 0 then [-6] else nums (x.2 :: x.1)
  | none => [-6]
theorem next_is (s : State) (m : Nat) : nextAns s m = if (best (gain (openOf (allDraws s) s.tickets m) m) (allTickets s)).1 = 0 then [-6] else nums ((best (gain (openOf (allDraws s) s.tickets m) m) (allTickets s)).1 :: (best (gain (openOf (allDraws s) s.tickets m) m) (allTickets s)).2) := by
  have h := best_rel (fun a => covered s (s.tickets ++ [a]) m) (gain (openOf (allDraws s) s.tickets m) m) (covered s s.tickets m) (fun a => covered_more s s.tickets a m) (allTickets s) none (0, []) rfl
  unfold nextAns nextTicket bestOf best
  revert h
  generalize (List.foldl (fun (m_1 : Option Pick) (a : Pick) => match m_1 with | none => some a | some b => if (fun a => covered s (s.tickets ++ [a]) m) b < (fun a => covered s (s.tickets ++ [a]) m) a then some a else some b) none (allTickets s)) = o
  intro h
  cases o with
  | none =>
    have e : List.foldl (bestStep (gain (openOf (allDraws s) s.tickets m) m)) (0, []) (allTickets s) = (0, []) := h
    rw [e]
    rfl
  | some b =>
    have e : List.foldl (bestStep (gain (openOf (allDraws s) s.tickets m) m)) (0, []) (allTickets s) = (gain (openOf (allDraws s) s.tickets m) m b, if gain (openOf (allDraws s) s.tickets m) m b = 0 then [] else b) := h
    rw [e]
    dsimp only
    rw [covered_more s s.tickets b m, Nat.add_sub_cancel_left]
    by_cases z : gain (openOf (allDraws s) s.tickets m) m b = 0
    · rw [if_pos z, if_pos z]
    · rw [if_neg z, if_neg z, if_neg z]

/-! ### the worst draw -/
theorem worst_ge (f : Pick → Nat) (x v : Nat) (hx : v ≤ x) : ∀ (ds : List Pick), (∀ d ∈ ds, v ≤ f d) → v ≤ (ds.foldr (fun (d : Pick) (r : Nat × Pick) => if f d ≤ r.1 then (f d, d) else r) (x, [])).1
  | [], _ => hx
  | d :: ds, h => by
    have ih := worst_ge f x v hx ds fun b hb => h b (List.mem_cons_of_mem _ hb)
    rw [List.foldr_cons]
    split
    · exact h d (List.mem_cons_self ..)
    · exact ih
theorem worst_at (f : Pick → Nat) (x v : Nat) (hx : v ≤ x) : ∀ (ds : List Pick) (j : Nat) (d : Pick), (∀ d ∈ ds, v ≤ f d) → ds[j]? = some d → f d = v → (∀ (i : Nat) (d' : Pick), i < j → ds[i]? = some d' → f d' ≠ v) →
    ds.foldr (fun (d : Pick) (r : Nat × Pick) => if f d ≤ r.1 then (f d, d) else r) (x, []) = (v, d)
  | [], j, d, _, e, _, _ => by simp at e
  | a :: ds, 0, d, h, e, hv, _ => by
    have e' : a = d := by simpa using e
    subst e'
    have := worst_ge f x v hx ds fun b hb => h b (List.mem_cons_of_mem _ hb)
    rw [List.foldr_cons, if_pos (by rw [hv]; exact this), hv]
  | a :: ds, j + 1, d, h, e, hv, hn => by
    have ih := worst_at f x v hx ds j d (fun b hb => h b (List.mem_cons_of_mem _ hb)) (by simpa using e) hv fun i d' hi he => hn (i + 1) d' (by omega) (by simpa using he)
    have h1 := h a (List.mem_cons_self ..)
    have h2 := hn 0 a (by omega) (by simp)
    rw [List.foldr_cons, ih]
    dsimp only
    rw [if_neg (by omega)]

/-! ### fractions -/
theorem lowest_is {a b : Nat} (hb : 0 < b) : lowest a b = (a / Nat.gcd a b, b / Nat.gcd a b) := by
  have h : Nat.gcd a b ≠ 0 := Nat.ne_of_gt (Nat.gcd_pos_of_pos_right _ hb)
  unfold lowest
  dsimp only
  rw [if_neg h]
theorem gcd_turn {a b : Nat} : Nat.gcd (b % a) a = Nat.gcd a b := (Nat.gcd_rec a b).symm

/-! ### picks of a wheel -/
def isP (n k : Nat) (l : Pick) : Bool := l.length == k && (rises l && l.all fun (x : Nat) => decide (x < n))
theorem isPick_is (s : State) (k : Nat) (l : Pick) : isPick s k l = isP s.n k l := rfl
def goodAt (n : Nat) (l : Pick) (i : Nat) : Prop := l.getD i 0 < n ∧ (0 < i → l.getD (i - 1) 0 < l.getD i 0)
theorem rises_iff : ∀ l : Pick, rises l = true ↔ ∀ i, i + 1 < l.length → l.getD i 0 < l.getD (i + 1) 0
  | [] => by simp [rises]
  | [a] => by simp [rises]
  | a :: b :: l => by
    have ih := rises_iff (b :: l)
    show (decide (a < b) && rises (b :: l)) = true ↔ _
    rw [Bool.and_eq_true, decide_eq_true_eq, ih]
    constructor
    · rintro ⟨h1, h2⟩ i hi
      cases i with
      | zero => exact h1
      | succ i =>
        have := h2 i (by simpa using hi)
        simpa using this
    · intro h
      refine ⟨h 0 (by simp), fun i hi => ?_⟩
      have := h (i + 1) (by simpa using hi)
      simpa using this
theorem isP_iff {n k : Nat} {l : Pick} (hk : l.length = k) : isP n k l = true ↔ ∀ i, i < k → goodAt n l i := by
  unfold isP goodAt
  rw [Bool.and_eq_true, Bool.and_eq_true, rises_iff, List.all_eq_true]
  constructor
  · rintro ⟨_, h2, h3⟩ i hi
    refine ⟨?_, fun hp => ?_⟩
    · have hm : l.getD i 0 ∈ l := by
        rw [List.getD_eq_getElem?_getD, List.getElem?_eq_getElem (by omega)]
        exact List.getElem_mem _
      exact of_decide_eq_true (h3 _ hm)
    · have := h2 (i - 1) (by omega)
      rw [Nat.sub_add_cancel hp] at this
      exact this
  · intro h
    refine ⟨by simp [hk], fun i hi => ?_, fun x hx => ?_⟩
    · have := (h (i + 1) (by omega)).2 (by omega)
      simpa using this
    · obtain ⟨i, hi, rfl⟩ := List.mem_iff_getElem.mp hx
      have := (h i (by omega)).1
      rw [List.getD_eq_getElem?_getD, List.getElem?_eq_getElem hi] at this
      exact decide_eq_true this
theorem isP_len {n k : Nat} {l : Pick} (h : isP n k l = true) : l.length = k := by
  unfold isP at h
  rw [Bool.and_eq_true] at h
  exact eq_of_beq h.1
theorem isP_no {n k : Nat} {l : Pick} (h : l.length ≠ k) : isP n k l = false := by
  cases e : isP n k l with
  | false => rfl
  | true => exact (h (isP_len e)).elim

/-! ### payments -/
theorem paid_snoc (p : List Nat) (l : List Pick) (a d : Pick) : paid p (l ++ [a]) d = paid p l d + p.getD (right a d) 0 := by
  unfold paid
  rw [List.foldl_append]
  rfl
theorem total_from : ∀ (l : List Nat) (x : Nat), l.foldl (fun (a b : Nat) => a + b) x = x + l.foldl (fun (a b : Nat) => a + b) 0
  | [], x => rfl
  | a :: l, x => by
    rw [List.foldl_cons, List.foldl_cons, total_from l (x + a), total_from l (0 + a)]
    omega
theorem total_sum (l : List Nat) : (l.map fun (n : Nat) => (n : Int)).sum = (total l : Int) := by
  induction l with
  | nil => rfl
  | cons a l ih =>
    have e : total (a :: l) = a + total l := by
      show List.foldl _ (0 + a) l = _
      rw [total_from l (0 + a)]
      show 0 + a + total l = a + total l
      omega
    rw [List.map_cons, List.sum_cons, ih, e]
    omega
theorem max_from : ∀ (l : List Nat) (x : Nat), x ≤ l.foldl max x ∧ (∀ y ∈ l, y ≤ l.foldl max x) ∧ (l.foldl max x = x ∨ l.foldl max x ∈ l)
  | [], x => ⟨Nat.le_refl _, fun y h => absurd h List.not_mem_nil, Or.inl rfl⟩
  | a :: l, x => by
    obtain ⟨h1, h2, h3⟩ := max_from l (max x a)
    rw [List.foldl_cons]
    refine ⟨by omega, fun y hy => ?_, ?_⟩
    · rcases List.mem_cons.mp hy with rfl | hy
      · omega
      · exact h2 y hy
    · rcases h3 with h3 | h3
      · rw [h3]
        by_cases c : x ≤ a
        · right; rw [Nat.max_eq_right c]; exact List.mem_cons_self ..
        · left; omega
      · exact .inr (List.mem_cons_of_mem _ h3)
theorem max_is {l : List Nat} {v : Nat} (hm : v ∈ l) (hu : ∀ y ∈ l, y ≤ v) : l.foldl max 0 = v := by
  obtain ⟨h1, h2, h3⟩ := max_from l 0
  have := h2 v hm
  rcases h3 with h3 | h3
  · omega
  · have := hu _ h3
    omega

/-! ### covers -/
theorem covered_open (s : State) (T : List Pick) (m : Nat) : covered s T m + (openOf (allDraws s) T m).length = draws s := by
  unfold covered openOf draws
  induction allDraws s with
  | nil => rfl
  | cons d ds ih =>
    rw [List.filter_cons, List.filter_cons]
    by_cases h : most T d < m
    · rw [if_neg (by simp; omega), if_pos (by simp; omega)]
      simp only [List.length_cons]; omega
    · rw [if_pos (by simp; omega), if_neg (by simp; omega)]
      simp only [List.length_cons]; omega
theorem allCovered_is (s : State) (T : List Pick) (m : Nat) : allCovered s T m = cov (allDraws s) T m := rfl
theorem open_nil {ds T : List Pick} {m : Nat} : openOf ds T m = [] ↔ cov ds T m = true := by
  unfold openOf cov
  rw [List.filter_eq_nil_iff, List.all_eq_true]
  constructor
  · intro h d hd
    have := h d hd
    simp at this
    simpa using this
  · intro h d hd
    have := h d hd
    simp at this
    simpa using this
/-! ### a wheel that stands -/
structure Good (s : State) : Prop where
  n2 : 2 ≤ s.n
  n10 : s.n ≤ 10
  k1 : 1 ≤ s.k
  k6 : s.k ≤ 6
  kn : s.k ≤ s.n
  t1 : 1 ≤ s.t
  t6 : s.t ≤ 6
  tn : s.t ≤ s.n
  nd : s.tickets.Nodup
  len : ∀ a ∈ s.tickets, a.length = s.k
  few : s.tickets.length ≤ 30
theorem kinds_is (s : State) : rowsUp s.n s.k = allTickets s := rowsUp_is _ _
theorem draws_is (s : State) : rowsUp s.n s.t = allDraws s := rowsUp_is _ _
theorem Good.kinds_few {s : State} (g : Good s) : (allTickets s).length ≤ 252 := by
  rw [← kinds_is]
  have := g.n10; have := g.k6
  exact rowsUp_few _ (by omega) _ (by omega)
theorem Good.draws_few {s : State} (g : Good s) : (allDraws s).length ≤ 252 := by
  rw [← draws_is]
  have := g.n10; have := g.t6
  exact rowsUp_few _ (by omega) _ (by omega)
theorem Good.kinds_ne {s : State} (g : Good s) : allTickets s ≠ [] := by
  rw [← kinds_is]
  have := g.n10; have := g.k6
  have h := rowsUp_some _ (by omega : s.n < 11) _ (by omega : s.k < 7) g.kn
  intro z
  rw [z] at h
  cases h
theorem Good.draws_ne {s : State} (g : Good s) : allDraws s ≠ [] := by
  rw [← draws_is]
  have := g.n10; have := g.t6
  have h := rowsUp_some _ (by omega : s.n < 11) _ (by omega : s.t < 7) g.tn
  intro z
  rw [z] at h
  cases h
theorem kinds_len {s : State} {r : Pick} (h : r ∈ allTickets s) : r.length = s.k := picks_len _ _ _ _ _ h
theorem draws_len {s : State} {r : Pick} (h : r ∈ allDraws s) : r.length = s.t := picks_len _ _ _ _ _ h
theorem one_of {s : State} {a : Pick} {l : List Pick} {m : Nat} (h : allTickets s = a :: l) : Mu24.one s m = gain (allDraws s) m a := by
  unfold Mu24.one
  rw [h]
  show ((allDraws s).filter fun d => decide (m ≤ most [a] d)).length = _
  unfold gain
  have e : (fun (d : Pick) => decide (m ≤ most [a] d)) = fun d => decide (m ≤ right a d) := by
    funext d
    rw [most_one]
  rw [e]
end Wd

set_option Elab.async false
set_option linter.all false
set_option maxRecDepth 100000
set_option maxHeartbeats 4000000
/-! max(xs, default=d) over a list of whole numbers -/
namespace Wd
open PySem PySem.Spec PyProof.Rows
section
variable {prog : Program} {w : World} {A : Around} {R : Result → Shared → Prop} {I S : Addr} {fp wr : List Addr} {n : Nat} {P : Nat → Value → Prop} {St : Nat → Heap → Prop} {kw : List (Str × Value)}
/-- the two numbers kept so far: b is the greatest of the first j -/
def Top (val : Nat → Int) (j : Nat) (b : Int) : Prop := (∃ i, i < j ∧ val i = b) ∧ ∀ i, i < j → val i ≤ b
theorem Top.keep {val : Nat → Int} {j : Nat} {b : Int} (h : Top val j b) (c : ¬ val j > b) : Top val (j + 1) b := by
  obtain ⟨⟨i, hi, e⟩, h2⟩ := h
  refine ⟨⟨i, by omega, e⟩, fun k hk => ?_⟩
  by_cases z : k = j
  · subst z; omega
  · exact h2 k (by omega)
theorem Top.next {val : Nat → Int} {j : Nat} {b : Int} (h : Top val j b) (c : val j > b) : Top val (j + 1) (val j) := by
  refine ⟨⟨j, by omega, rfl⟩, fun k hk => ?_⟩
  by_cases z : k = j
  · subst z; omega
  · have := h.2 k (by omega)
    omega
theorem mloop_name : (toString "max" ++ toString ".loop" : String) = "max.loop" := by decide
theorem mloop_go (W : Walks prog w A.in1 I fp wr n P St) (val : Nat → Int) (hval : ∀ i v, P i v → ∃ t, v = .int (val i) t) (hSf : S ∉ fp) :
    ∀ (k j : Nat) (s : Shared) (b : Int) (t : Tok) (c : Nat), j + k = n → St j s.heap → Top val j b → s.heap.get? S = some (seqObj "list" #[.int b t, .int b t] c) →
      (∀ b' t' h' tk, Top val n b' → (∀ a o, a ∉ wr → a ≠ S → s.heap.get? a = some o → h'.get? a = some o) → R (.ok (.ret (.int b' t'))) { s with heap := h', toks := tk }) →
      codeAny (model prog w) A (.builtin "max.loop" ⟨[.ref I, .none, .ref S], kw⟩) R s
  | 0, j, s, b, t, c, hj, hst, hb, hS, hR => by
    have hw : S ∉ wr := fun q => hSf (W.sub _ q)
    obtain rfl : j = n := by omega
    refine codeAny_builtin PySem.F.entry_max_loop ?_
    rw [Around.under_plainId PySem.F.plain_max_loop _]
    show wpAny _ A.in1 (seqItems? (.ref S) >>= _) _ _ s
    refine wpAny_bind (wpAny_seqItems hS rfl ?_)
    show wpAny _ A.in1 (tryCatch (pyNext (.ref I)) _ >>= _) _ _ s
    refine wpAny_bind (wpAny_tryCatch (W.done s _ _ hst fun h1 tk kp => ?_))
    show wpAny _ A.in1 (updateSeq S (fun _ => #[]) >>= _) _ _ _
    refine wpAny_bind (wpAny_updateSeq (kp S _ hw hS) rfl (wpAny_bind (wpAny_letGo (wpAny_pure ?_))))
    exact hR b t _ tk hb fun a o q1 q2 e => (Heap.get?_update_other _ _ (Ne.symm q2)).trans (kp a o q1 e)
  | k + 1, j, s, b, t, c, hj, hst, hb, hS, hR => by
    have hw : S ∉ wr := fun q => hSf (W.sub _ q)
    refine codeAny_builtin PySem.F.entry_max_loop ?_
    rw [Around.under_plainId PySem.F.plain_max_loop _]
    show wpAny _ A.in1 (seqItems? (.ref S) >>= _) _ _ s
    refine wpAny_bind (wpAny_seqItems hS rfl ?_)
    show wpAny _ A.in1 (tryCatch (pyNext (.ref I)) _ >>= _) _ _ s
    refine wpAny_bind (wpAny_tryCatch (W.item j s _ _ (by omega) hst fun v h1 tk hP hst1 kp => ?_))
    have hS1 := kp S _ hw hS
    obtain ⟨u, rfl⟩ := hval j v hP
    show wpAny _ A.in1 (tryCatch (holding [_, _] (richCompare .Gt (.int (val j) u) (.int b t) >>= _)) _ >>= _) _ _ _
    refine wpAny_bind (wpAny_tryCatch (wpAny_holding (wpAny_bind (CmpOf.ints_gt (P := fun (i : Nat) (v : Value) => (i = 0 ∧ ∃ t, v = .int (val j) t) ∨ (i = 1 ∧ ∃ t, v = .int b t)) (fun i => if i = 0 then val j else b)
      (fun i v h => by
        rcases h with ⟨rfl, h⟩ | ⟨rfl, h⟩
        · exact h
        · exact h) 0 1 _ _ _ _ _ (Or.inl ⟨rfl, u, rfl⟩) (Or.inr ⟨rfl, t, rfl⟩) ?_))))
    refine wpAny_bind (wpAny_holding (wpAny_truthy_bool ?_))
    refine wpAny_bind (wpAny_letGo (wpAny_pure ?_))
    show wpAny _ A.in1 (if decide (val j > b) = true then _ else _) _ _ _
    by_cases hc : val j > b
    · rw [if_pos (decide_eq_true hc)]
      refine wpAny_bind (wpAny_updateSeq hS1 rfl (wpAny_bind (wpAny_letGo ?_)))
      rw [mloop_name]
      refine wpAny_pure ⟨plainId_quiet PySem.F.plain_max_loop _, mloop_go W val hval hSf k (j + 1) _ (val j) u _ (by omega) (W.frame _ _ _ hst1 fun a ha o e => (Heap.get?_update_other _ _ (fun q : S = a => hSf (by rw [q]; exact ha))).trans e) (hb.next hc) (Heap.get?_update_self _ hS1 rfl) fun b' t' h2 tk2 q1 q2 => ?_⟩
      exact hR b' t' h2 tk2 q1 fun a o z1 z2 e => q2 a o z1 z2 ((Heap.get?_update_other _ _ (Ne.symm z2)).trans (kp a o z1 e))
    · rw [if_neg (by simpa using hc)]
      refine wpAny_bind (wpAny_letGo ?_)
      rw [mloop_name]
      refine wpAny_pure ⟨plainId_quiet PySem.F.plain_max_loop _, mloop_go W val hval hSf k (j + 1) _ b t c (by omega) hst1 (hb.keep hc) hS1 fun b' t' h2 tk2 q1 q2 => ?_⟩
      exact hR b' t' h2 tk2 q1 fun a o z1 z2 e => q2 a o z1 z2 (kp a o z1 e)
/-- from nothing kept; dv is handed back where nothing is to be walked -/
theorem mloop_start {dn : Str} {dv : Value} (W : Walks prog w A.in1 I fp wr n P St) (val : Nat → Int) (hval : ∀ i v, P i v → ∃ t, v = .int (val i) t) (hSf : S ∉ fp) {s : Shared} {c : Nat} (hst : St 0 s.heap) (hS : s.heap.get? S = some (seqObj "list" #[] c))
    (h0 : n = 0 → ∀ h' tk, (∀ a o, a ∉ wr → a ≠ S → s.heap.get? a = some o → h'.get? a = some o) → R (.ok (.ret dv)) { s with heap := h', toks := tk })
    (hR : ∀ b' t' h' tk, Top val n b' → (∀ a o, a ∉ wr → a ≠ S → s.heap.get? a = some o → h'.get? a = some o) → R (.ok (.ret (.int b' t'))) { s with heap := h', toks := tk }) :
    codeAny (model prog w) A (.builtin "max.loop" ⟨[.ref I, .none, .ref S], [(dn, dv)]⟩) R s := by
  have hw : S ∉ wr := fun q => hSf (W.sub _ q)
  refine codeAny_builtin PySem.F.entry_max_loop ?_
  rw [Around.under_plainId PySem.F.plain_max_loop _]
  show wpAny _ A.in1 (seqItems? (.ref S) >>= _) _ _ s
  refine wpAny_bind (wpAny_seqItems hS rfl ?_)
  show wpAny _ A.in1 (tryCatch (pyNext (.ref I)) _ >>= _) _ _ s
  by_cases hn : n = 0
  · subst hn
    refine wpAny_bind (wpAny_tryCatch (W.done s _ _ hst fun h1 tk kp => ?_))
    refine wpAny_bind (wpAny_rule (wpAny_pure ?_))
    exact h0 rfl h1 tk fun a o q1 _ e => kp a o q1 e
  · refine wpAny_bind (wpAny_tryCatch (W.item 0 s _ _ (by omega) hst fun v h1 tk hP hst1 kp => ?_))
    have hS1 := kp S _ hw hS
    obtain ⟨u, rfl⟩ := hval 0 v hP
    show wpAny _ A.in1 (updateSeq S (fun _ => #[.int (val 0) u, .int (val 0) u]) >>= _) _ _ _
    refine wpAny_bind (wpAny_updateSeq hS1 rfl ?_)
    rw [mloop_name]
    refine wpAny_pure ⟨plainId_quiet PySem.F.plain_max_loop _, mloop_go W val hval hSf (n - 1) 1 _ (val 0) u _ (by omega) (W.frame _ _ _ hst1 fun a ha o e => (Heap.get?_update_other _ _ (fun q : S = a => hSf (by rw [q]; exact ha))).trans e) ⟨⟨0, by omega, rfl⟩, fun i hi => by
      obtain rfl : i = 0 := by omega
      exact Int.le_refl _⟩ (Heap.get?_update_self _ hS1 rfl) fun b' t' h2 tk2 q1 q2 => ?_⟩
    exact hR b' t' h2 tk2 q1 fun a o z1 z2 e => q2 a o z1 z2 ((Heap.get?_update_other _ _ (Ne.symm z2)).trans (kp a o z1 e))
end
theorem max_dflt_args (a v : Value) : argsOk "max" ⟨[a], [(Str.ofString "default", v)]⟩ := by unfold argsOk; kernel_rfl
section
variable {prog : Program} {w : World} {A : Around} {E : Value → Shared → Prop} {s : Shared} {l : Addr}
theorem max_default {xs : Array (Int × Tok)} {dv : Value} {Q : Value → Shared → Prop} (hh : A.handled = none) (hl : s.heap.IsList l (intItems xs))
    (h0 : xs.size = 0 → ∀ h' tk, (∀ b o, s.heap.get? b = some o → h'.get? b = some o) → Q dv { s with heap := h', toks := tk })
    (h : ∀ b t h' tk, Top (numAt xs) xs.size b → (∀ b o, s.heap.get? b = some o → h'.get? b = some o) → Q (.int b t) { s with heap := h', toks := tk }) :
    wpAny (model prog w) A (call (.builtin "max") [.ref l] [(Str.ofString "default", dv)]) Q E s := by
  refine kmk_tree PySem.F.kind_max PySem.F.plain_max PySem.F.entry_max (max_dflt_args _ _) ?_
  show wpAny _ A.in1 (Builtin.Builtins.bindParams "max" ["key", "default"] 0 ⟨[], [(Str.ofString "default", dv)]⟩ >>= _) _ _ s
  refine wpAny_bind (wpAny_of_eq (show Builtin.Builtins.bindParams "max" ["key", "default"] 0 ⟨[], [(Str.ofString "default", dv)]⟩ = pure [none, some dv] from rfl) ?_)
  refine wpAny_bind (wpAny_pure ?_)
  refine wpAny_bind (iter_intList hl fun s2 e st hfp hlI => ?_)
  refine wpAny_bind (wpAny_newObj_type ?_)
  have hnew : s2.heap.objs.size ∉ [s.heap.objs.size, l] := fun hm => Nat.lt_irrefl _ (hfp _ hm)
  rw [mloop_name]
  have hkeep : ∀ b o, s.heap.get? b = some o → s2.heap.get? b = some o := fun b o q => by
    rw [e]
    exact Heap.get?_push_of_some _ q
  have hlt : ∀ b o, s.heap.get? b = some o → b < s2.heap.objs.size := fun b o q => Heap.lt_size (hkeep b o q)
  have Wk := Walks.list (prog := prog) (w := w) (A := A.in1) hh s.heap.objs.size l hlI (intItems xs)
  have hsz : (intItems xs).size = xs.size := by simp [intItems]
  refine wpAny_pure ⟨plainId_quiet PySem.F.plain_max_loop _, mloop_start Wk (numAt xs) (fun _ _ => intItems_at) hnew (Wk.frame _ _ _ st fun b _ o q => Heap.get?_push_of_some _ q) (Heap.get?_push_size _ rfl) (fun hz h' tk kp => ?_) fun b t h' tk ht kp => ?_⟩
  · subst e
    exact h0 (hsz.symm.trans hz) h' tk fun b o q => kp b o (fun m => by
      rcases List.mem_cons.mp m with m | m
      · exact absurd (m ▸ Heap.lt_size q) (Nat.lt_irrefl _)
      · cases m) (Nat.ne_of_lt (hlt b o q)) (Heap.get?_push_of_some _ (hkeep b o q))
  · subst e
    rw [hsz] at ht
    exact h b t h' tk ht fun b o q => kp b o (fun m => by
      rcases List.mem_cons.mp m with m | m
      · exact absurd (m ▸ Heap.lt_size q) (Nat.lt_irrefl _)
      · cases m) (Nat.ne_of_lt (hlt b o q)) (Heap.get?_push_of_some _ (hkeep b o q))
end
section
open L2
def rMaxDf (K : PySem.W.Frag) : List V → List V → Hp → VK → Prop := fun vs zs H Q => ∃ (a : Addr) (ns : List Int) (d : Int), vs = [V.ref a] ∧ zs = [.int d] ∧ SqL K H a (ns.map V.int) ∧ (ns = [] → Q (.int d) H) ∧ ∀ m, m ∈ ns → (∀ y, y ∈ ns → y ≤ m) → Q (.int m) H
theorem call_maxDf {X : Cx} (hc : X.calm = true) : CallRK X (.builtin "max") [Str.ofString "default"] (rMaxDf X.K) := by
  intro pins s σ H xs zs us ws Q I r1 r2 h
  obtain ⟨a, ns, d, rfl, rfl, hs, h0, h1⟩ := h
  obtain ⟨its, rv, hl, _⟩ := I.list hs
  rw [Vals.ref1 r1]
  cases r2 with
  | cons rd rn =>
    cases rn
    obtain ⟨td, rfl⟩ := rd
    obtain ⟨xs, e⟩ := rv.ints.allInts.items
    have hns : ns = xs.toList.map (·.1) := by
      rw [← rv.ints.numsOf, ← nums_intItems, ← e]
    have hl2 := hl.isList
    rw [e] at hl2
    refine max_default (I.ok.hd hc) hl2 (fun hz h' tk hk => ⟨.int d, H, I.kept hk, ⟨td, rfl⟩, h0 ?_⟩) fun b t h' tk ht hk => ⟨.int b, H, I.kept hk, ⟨t, rfl⟩, ?_⟩
    · rw [hns]
      have : xs = #[] := Array.eq_empty_of_size_eq_zero hz
      rw [this]
      rfl
    · obtain ⟨⟨i, hi, e1⟩, h2⟩ := ht
      refine h1 b ?_ fun y hy => ?_
      · rw [hns, ← e1, numAt_eq]
        exact getD_mem (by rw [List.length_map, Array.length_toList]; exact hi)
      · rw [hns] at hy
        obtain ⟨j, hj, rfl⟩ := mem_getD hy
        rw [List.length_map, Array.length_toList] at hj
        rw [← numAt_eq]
        exact h2 j hj
end
end Wd

set_option Elab.async false
set_option linter.all false
set_option maxRecDepth 100000
set_option maxHeartbeats 4000000
/-! The text by places; rows as they stand in the heap. -/
namespace Wd
open PySem PySem.Spec PyProof.Rows L2
open Mu24 (Pick)

/-! ### the text -/
def tops (i : Nat) : Stmt := PySem.Challenge.pw_wheeldraw_s01_answers.main.body.getD i (.Pass ⟨0, 0, 0, 0⟩)
/-- a def of the top, as it stands behind it -/
structure At (K : PySem.W.Frag) (mg : Str → Option Value) (x : Str) (st : Stmt) : Prop where
  ex : ∃ (f : Addr) (fd : FuncData), mg x = some (.ref f) ∧ Fun K x x st f fd
/-- a method of the class at C -/
structure AtM (K : PySem.W.Frag) (C : Addr) (m qual : Str) (st : Stmt) : Prop where
  ex : ∃ (f : Addr) (fd : FuncData), Meth K C m f ∧ Fun K m qual st f fd
section
variable {P : Program} {w : World} {K : PySem.W.Frag} {mg : Str → Option Value} {base : Heap} {x m qual : Str} {st : Stmt} {ps N : List Str} {k : Nat} {sp : Sp} {C : Addr}
abbrev Takes_ (ps : List Str) (x qual : Str) (st : Stmt) : Prop := ∀ (kV doc pm : Value) (an : Option Addr) (cdv ct : Value) (us : List Value), us.length = ps.length → bindArgs (PySem.W.fnOf x qual (defArgs st) (defBody st) (defScope st) .none kV doc pm an cdv ct) ⟨us, []⟩ = pure (ps.zip us)
/-- a def's promise, by its body: hb binds its parameters -/
theorem cal_of (A : At K mg x st) (hb : Takes_ ps x x st) (S : FnScope N ps (defScope st)) (len : ∀ vs H Q E, sp vs H Q E → vs.length = ps.length)
    (body : ∀ (f cdv : _) (A : Around) (outer : List Env) (s : Shared) (H : Hp) (vs : List V) (Q : VK) (E : XK), Room k (A.deeper (envOfC x (defScope st) s.heap.objs.size f cdv)) → sp vs H Q E →
      ∃ t, PSs (cxOf CX0 P w K mg base N x (defScope st) f cdv A outer s H E).nox (defBody st) t ∧ t { nx := fun _ H' => Q .non H', rt := Q } (start N vs) H) : C8.Cal P w K mg base (k + 1) x sp [] := by
  obtain ⟨f, fd, hm, F⟩ := A.ex
  exact ⟨f, fd, ps, [], F.ok S len (body f), hm, F.kp, F.binds hb, .nil⟩
theorem met_of (c : Cls K C) (A : AtM K C m qual st) (hb : Takes_ ps m qual st) (S : FnScope N ps (defScope st)) (len : ∀ vs H Q E, sp vs H Q E → vs.length = ps.length)
    (body : ∀ (f cdv : _) (A : Around) (outer : List Env) (s : Shared) (H : Hp) (vs : List V) (Q : VK) (E : XK), Room k (A.deeper (envOfC qual (defScope st) s.heap.objs.size f cdv)) → sp vs H Q E →
      ∃ t, PSs (cxOf CX0 P w K mg base N qual (defScope st) f cdv A outer s H E).nox (defBody st) t ∧ t { nx := fun _ H' => Q .non H', rt := Q } (start N vs) H) : C8.Met P w K mg base (k + 1) C m sp [] := by
  obtain ⟨f, fd, me, F⟩ := A.ex
  exact ⟨f, fd, ps, [], c, me, F.ok S len (body f), F.binds hb, .nil⟩
end

/-! ### heaps -/
theorem snew {H H' : Hp} {p : Addr} {o : HO} (e : Same H H') (n : H p = none) : Same H (upd H' p o) := fun a u ha => by
  rw [upd_ne (ne_of_none ha n)]
  exact e a u ha
theorem same_new {H : Hp} {p : Addr} {o : HO} (n : H p = none) : Same H (upd H p o) := snew (Same.refl H) n
theorem sl_of {K : PySem.W.Frag} {H : Hp} {a : Addr} {xs : List V} (h : H a = some (.lst xs)) : SqL K H a xs := .inl (.inl h)
theorem st_of {K : PySem.W.Frag} {H : Hp} {a : Addr} {xs : List V} (h : H a = some (.tup xs)) : SqT K H a xs := .inl (.inl h)

/-- a comprehension without a test -/
theorem lcYes {σ : L2.St} {H : Hp} {A B : Hp → Prop} (h : A H) : tYes σ H fun b H3 => if b = true then A H3 else B H3 := by
  show if true = true then A H else B H
  rw [if_pos rfl]
  exact h

/-! ### numbers and rows -/
def iv (n : Nat) : V := .int (n : Int)
def nI (l : List Nat) : List V := l.map iv
theorem nI_map (l : List Nat) : nI l = (l.map fun (n : Nat) => (n : Int)).map V.int := by
  unfold nI
  rw [List.map_map]
  rfl
theorem nI_len (l : List Nat) : (nI l).length = l.length := List.length_map ..
theorem nI_append (l l' : List Nat) : nI (l ++ l') = nI l ++ nI l' := List.map_append
theorem nI_get {l : List Nat} {i : Nat} {v : V} (h : (nI l)[i]? = some v) : ∃ n, l[i]? = some n ∧ v = iv n := by
  unfold nI at h
  rw [List.getElem?_map] at h
  cases e : l[i]? with
  | none => rw [e] at h; cases h
  | some n =>
    rw [e] at h
    exact ⟨n, rfl, (Option.some.inj h).symm⟩
theorem nI_at {l : List Nat} {i n : Nat} (h : l[i]? = some n) : (nI l)[i]? = some (iv n) := by
  unfold nI
  rw [List.getElem?_map, h]
  rfl
theorem take_more {α : Type} : ∀ {l : List α} {i : Nat} {x : α}, l[i]? = some x → l.take (i + 1) = l.take i ++ [x]
  | [], i, x, h => by simp at h
  | a :: l, 0, x, h => by
    have e : a = x := by simpa using h
    subst e
    rfl
  | a :: l, i + 1, x, h => by
    have e : l[i]? = some x := by simpa using h
    show a :: l.take (i + 1) = a :: l.take i ++ [x]
    rw [take_more e]
    rfl
theorem drop_more {α : Type} : ∀ {l : List α} {i : Nat} {x : α}, l[i]? = some x → l.drop i = x :: l.drop (i + 1)
  | [], i, x, h => by simp at h
  | a :: l, 0, x, h => by
    have e : a = x := by simpa using h
    subst e
    rfl
  | a :: l, i + 1, x, h => by
    have e : l[i]? = some x := by simpa using h
    exact drop_more (l := l) e
/-- the values vs stand for these rows -/
inductive RowsV (H : Hp) : List V → List Pick → Prop
  | nil : RowsV H [] []
  | cons {a : Addr} {r : Pick} {vs : List V} {l : List Pick} : H a = some (.lst (nI r)) → RowsV H vs l → RowsV H (.ref a :: vs) (r :: l)
/-- at a a list of these rows -/
def RowsAt (H : Hp) (a : Addr) (l : List Pick) : Prop := ∃ vs, H a = some (.lst vs) ∧ RowsV H vs l
section
variable {H H' : Hp} {vs ws : List V} {l l' : List Pick} {a p : Addr}
theorem RowsV.keep (h : RowsV H vs l) (k : ∀ b (r : Pick), r ∈ l → H b = some (.lst (nI r)) → H' b = some (.lst (nI r))) : RowsV H' vs l := by
  induction h with
  | nil => exact .nil
  | cons e _ ih => exact .cons (k _ _ (List.mem_cons_self ..) e) (ih fun b r m => k b r (List.mem_cons_of_mem _ m))
theorem RowsV.same (h : RowsV H vs l) (s : Same H H') : RowsV H' vs l := h.keep fun b r _ e => s b _ e
theorem RowsAt.same (h : RowsAt H a l) (s : Same H H') : RowsAt H' a l := by
  obtain ⟨vs, e, r⟩ := h
  exact ⟨vs, s _ _ e, r.same s⟩
theorem RowsV.len (h : RowsV H vs l) : vs.length = l.length := by
  induction h with
  | nil => rfl
  | cons _ _ ih => rw [List.length_cons, List.length_cons, ih]
theorem RowsV.get (h : RowsV H vs l) : ∀ {i : Nat} {v : V}, vs[i]? = some v → ∃ b r, v = .ref b ∧ l[i]? = some r ∧ H b = some (.lst (nI r)) := by
  induction h with
  | nil => intro i v e; simp at e
  | cons e _ ih =>
    intro i v q
    cases i with
    | zero =>
      have z := Option.some.inj q
      exact ⟨_, _, z.symm, rfl, e⟩
    | succ i =>
      obtain ⟨b, r, h1, h2, h3⟩ := ih (i := i) (v := v) (by simpa using q)
      exact ⟨b, r, h1, by simpa using h2, h3⟩
theorem RowsV.append (h : RowsV H vs l) (h' : RowsV H ws l') : RowsV H (vs ++ ws) (l ++ l') := by
  induction h with
  | nil => exact h'
  | cons e _ ih => exact .cons e ih
theorem RowsV.snoc {r : Pick} (h : RowsV H vs l) (e : H a = some (.lst (nI r))) : RowsV H (vs ++ [.ref a]) (l ++ [r]) := h.append (.cons e .nil)
theorem RowsV.drop (h : RowsV H vs l) : ∀ n : Nat, RowsV H (vs.drop n) (l.drop n) := by
  induction h with
  | nil => intro n; rw [List.drop_nil, List.drop_nil]; exact .nil
  | cons e t ih =>
    intro n
    cases n with
    | zero => exact .cons e t
    | succ n => exact ih n
theorem RowsV.take (h : RowsV H vs l) : ∀ n : Nat, RowsV H (vs.take n) (l.take n) := by
  induction h with
  | nil => intro n; rw [List.take_nil, List.take_nil]; exact .nil
  | cons e t ih =>
    intro n
    cases n with
    | zero => exact .nil
    | succ n => exact .cons e (ih n)
/-- a list of rows is no row of numbers, unless empty -/
theorem RowsV.no_nums {r : Pick} (h : RowsV H vs l) (e : vs = nI r) : l = [] ∧ r = [] := by
  cases h with
  | nil =>
    cases r with
    | nil => exact ⟨rfl, rfl⟩
    | cons n r => cases e
  | cons _ _ =>
    cases r with
    | nil => cases e
    | cons n r =>
      have z := (List.cons.inj e).1
      cases z
end
theorem flat_nI (l : List Nat) : (nI l).all flatV = true := by
  rw [List.all_eq_true]
  intro v hv
  obtain ⟨n, _, rfl⟩ := List.mem_map.mp hv
  rfl
theorem in_nI (n : Nat) (l : List Nat) : inV (iv n) (nI l) = decide (n ∈ l) := by
  unfold inV nI
  rw [List.any_map]
  induction l with
  | nil => rfl
  | cons m l ih =>
    rw [List.any_cons, ih]
    have e : ((fun y => eqV y (iv n)) ∘ iv) m = decide (n = m) := by
      show eqV (.int (m : Int)) (.int (n : Int)) = _
      by_cases c : n = m
      · subst c
        simp [eqV]
      · have : ¬ ((m : Int) = (n : Int)) := by omega
        simp [eqV, c, this]
    rw [e]
    by_cases c : n = m
    · simp [c]
    · simp [c]
theorem sz252 {n : Nat} (h : n ≤ 252) : n ≤ sizeLine := Nat.le_trans h (by decide)
theorem sz252' {n : Nat} (h : n ≤ 252) : n < sizeLine := Nat.lt_of_le_of_lt h (by decide)

/-! ### rows as data -/
def rD (r : Pick) : PyData := .list (r.map fun (n : Nat) => .int (n : Int))
def lD (l : List Pick) : List PyData := l.map rD
theorem row_dps {K : PySem.W.Frag} {H : Hp} : ∀ r : List Nat, DpAll K H (nI r) (r.map fun (n : Nat) => .int (n : Int))
  | [] => .nil
  | n :: r => .cons (.int (n : Int)) (row_dps r)
theorem row_dp {K : PySem.W.Frag} {H : Hp} {a : Addr} {r : Pick} (h : H a = some (.lst (nI r))) : Dp K H (.ref a) (rD r) := .lst (sl_of h) (row_dps r)
theorem rows_dps {K : PySem.W.Frag} {H : Hp} {vs : List V} {l : List Pick} (h : RowsV H vs l) : DpAll K H vs (lD l) := by
  induction h with
  | nil => exact .nil
  | cons e _ ih => exact .cons (row_dp e) ih
theorem rows_dp {K : PySem.W.Frag} {H : Hp} {a : Addr} {l : List Pick} (h : RowsAt H a l) : Dp K H (.ref a) (.list (lD l)) := by
  obtain ⟨vs, e, r⟩ := h
  exact .lst (sl_of e) (rows_dps r)
theorem ints_lay : ∀ r : List Nat, PyData.canLayAll0 (r.map fun (n : Nat) => .int (n : Int)) = true
  | [] => by simp [PyData.canLayAll0]
  | n :: r => by simp [PyData.canLayAll0, PyData.canLay0, ints_lay r]
theorem ints_depth : ∀ r : List Nat, PyData.depthAll (r.map fun (n : Nat) => .int (n : Int)) = 0
  | [] => by simp [PyData.depthAll]
  | n :: r => by simp [PyData.depthAll, PyData.depth, ints_depth r]
theorem rD_lay (r : Pick) : (rD r).canLay0 = true := by simp [rD, PyData.canLay0, ints_lay]
theorem rD_depth (r : Pick) : (rD r).depth = 1 := by simp [rD, PyData.depth, ints_depth]
theorem lD_lay : ∀ l : List Pick, PyData.canLayAll0 (lD l) = true
  | [] => by simp [lD, PyData.canLayAll0]
  | r :: l => by
    have := lD_lay l
    simp [lD] at this
    simp [lD, PyData.canLayAll0, rD_lay r, this]
theorem lD_depth : ∀ l : List Pick, PyData.depthAll (lD l) ≤ 1
  | [] => by simp [lD, PyData.depthAll]
  | r :: l => by
    have h1 := lD_depth l
    have h2 := rD_depth r
    show max (rD r).depth (PyData.depthAll (lD l)) ≤ 1
    omega
theorem rD_shaped (r : Pick) : SeqAt.shaped (rD r) = true := by
  unfold SeqAt.shaped
  rw [rD_lay, rD_depth]
  rfl
theorem lD_shaped (l : List Pick) : SeqAt.shaped (.list (lD l)) = true := by
  have h1 := lD_depth l
  have h2 : PyData.depth (.list (lD l)) ≤ 64 := by
    show PyData.depthAll (lD l) + 1 ≤ 64
    omega
  unfold SeqAt.shaped
  rw [decide_eq_true h2, Bool.and_true]
  exact lD_lay l
theorem eqv_rD (r r' : Pick) : PyData.eqv (rD r) (rD r') = decide (r = r') := by
  have u : PyData.eqv (rD r) (rD r') = PyData.eqvAll (r.map fun (n : Nat) => .int (n : Int)) (r'.map fun (n : Nat) => .int (n : Int)) := rfl
  rw [u]
  clear u
  induction r generalizing r' with
  | nil => cases r' <;> rfl
  | cons n r ih =>
    cases r' with
    | nil => rfl
    | cons n' r' =>
      have e : PyData.eqvAll ((n :: r).map fun (n : Nat) => .int (n : Int)) ((n' :: r').map fun (n : Nat) => .int (n : Int)) = (((n : Int) == (n' : Int)) && PyData.eqvAll (r.map fun (n : Nat) => .int (n : Int)) (r'.map fun (n : Nat) => .int (n : Int))) := rfl
      rw [e, ih]
      by_cases h : n = n'
      · subst h
        simp
      · have q : ((n : Int) == (n' : Int)) = false := beq_eq_false_iff_ne.mpr (by omega)
        rw [q, Bool.false_and]
        exact (decide_eq_false fun z => h (List.cons.inj z).1).symm
theorem eqv_lD_nil (l : List Pick) : PyData.eqv (.list (lD l)) (.list []) = decide (l = []) := by cases l <;> rfl
theorem eqv_rD_nil (r : Pick) : PyData.eqv (rD r) (.list []) = decide (r = []) := by cases r <;> rfl
theorem nil_shaped : SeqAt.shaped (.list []) = true := by decide +kernel
/-! ### slices -/
theorem cut_from {xs : List V} {z : Int} {k : Nat} (e : z = (k : Int)) : cutV xs (some z) none = xs.drop k := by
  subst e
  unfold cutV
  rw [HT.sIx_nat, HT.sIx_none]
  by_cases h : k ≤ xs.length
  · rw [Nat.min_eq_left h, List.take_of_length_le (by rw [List.length_drop]; omega)]
  · rw [Nat.min_eq_right (by omega), List.drop_eq_nil_of_le (Nat.le_refl _), List.drop_eq_nil_of_le (by omega), List.take_nil]
theorem cut_to {xs : List V} {z : Int} {k : Nat} (e : z = (k : Int)) : cutV xs none (some z) = xs.take k := by
  subst e
  unfold cutV
  rw [HT.sIx_nat, HT.sIx_none]
  by_cases h : k ≤ xs.length
  · rw [Nat.min_eq_left h]
    rfl
  · rw [Nat.min_eq_right (by omega), List.take_of_length_le (by simp), List.take_of_length_le (by omega)]
    rfl
theorem cut_mid {xs : List V} {y z : Int} {j k : Nat} (e : y = (j : Int)) (e' : z = (k : Int)) (h : j ≤ k) (hk : k ≤ xs.length) : cutV xs (some y) (some z) = (xs.drop j).take (k - j) := by
  subst e e'
  unfold cutV
  rw [HT.sIx_nat, HT.sIx_nat, Nat.min_eq_left hk, Nat.min_eq_left (by omega)]
end Wd

set_option Elab.async false
set_option linter.all false
set_option maxRecDepth 100000
set_option maxHeartbeats 4000000
/-! matching: right_of, rights_of, best_of, bests_of, open_draws, covered_by -/
namespace Wd
open PySem PySem.Spec PyProof.Rows L2
open Mu24 (Pick right most)
abbrev sRight : Stmt := tops 1
abbrev sRights : Stmt := tops 2
abbrev sBest : Stmt := tops 3
abbrev sBests : Stmt := tops 4
abbrev sOpen : Stmt := tops 5
abbrev sCovBy : Stmt := tops 6

def spRight : Sp := fun vs H Q _ => ∃ (a b : Addr) (t d : Pick), vs = [.ref a, .ref b] ∧ H a = some (.lst (nI t)) ∧ H b = some (.lst (nI d)) ∧ Q (iv (right t d)) H
def spRights : Sp := fun vs H Q _ => ∃ (a b : Addr) (l : List Pick) (d : Pick), vs = [.ref a, .ref b] ∧ RowsAt H a l ∧ H b = some (.lst (nI d)) ∧ l.length ≤ 252 ∧
  ∀ (H' : Hp) (p : Addr), Same H H' → H p = none → H' p = some (.lst (nI (l.map fun a => right a d))) → Q (.ref p) H'
def spBest : Sp := fun vs H Q _ => ∃ (a b : Addr) (l : List Pick) (d : Pick), vs = [.ref a, .ref b] ∧ RowsAt H a l ∧ H b = some (.lst (nI d)) ∧ l.length ≤ 252 ∧
  ∀ H' : Hp, Same H H' → Q (iv (most l d)) H'
def spBests : Sp := fun vs H Q _ => ∃ (a b : Addr) (l ds : List Pick), vs = [.ref a, .ref b] ∧ RowsAt H a l ∧ RowsAt H b ds ∧ l.length ≤ 252 ∧ ds.length ≤ 252 ∧
  ∀ (H' : Hp) (p : Addr), Same H H' → H p = none → H' p = some (.lst (nI (ds.map fun d => most l d))) → Q (.ref p) H'
def spOpen : Sp := fun vs H Q _ => ∃ (a b : Addr) (l ds : List Pick) (m : Nat), vs = [.ref a, .ref b, iv m] ∧ RowsAt H a l ∧ RowsAt H b ds ∧ l.length ≤ 252 ∧ ds.length ≤ 252 ∧
  ∀ (H' : Hp) (p : Addr), Same H H' → H p = none → RowsAt H' p (openOf ds l m) → Q (.ref p) H'
def spCovBy : Sp := fun vs H Q _ => ∃ (a b : Addr) (t : Pick) (ds : List Pick) (m : Nat), vs = [.ref a, .ref b, iv m] ∧ H a = some (.lst (nI t)) ∧ RowsAt H b ds ∧ Q (iv (gain ds m t)) H

section
variable {P : Program} {w : World} {K : PySem.W.Frag} {mg : Str → Option Value} {base : Heap}
theorem scRight : FnScope ["ticket", "draw", "many", "number"] ["ticket", "draw"] (defScope sRight) := ⟨rfl, rfl, rfl, by decide +kernel, rfl, by decide +kernel, by decide +kernel⟩
theorem c_right (A : At K mg "right_of" sRight) : C8.Cal P w K mg base 1 "right_of" spRight [] := by
  refine cal_of (N := ["ticket", "draw", "many", "number"]) (ps := ["ticket", "draw"]) A (fun _ _ _ _ _ _ us hl => match us, hl with | [_, _], _ => rfl) scRight (fun vs H Q E h => ?_) (fun f cdv A outer s H vs Q E hr h => ?_)
  · obtain ⟨a, b, t, d, rfl, _⟩ := h
    rfl
  · obtain ⟨a, b, t, d, rfl, ha, hb, q⟩ := h
    refine ⟨_, pss_cons (ps_set (i := 2) scRight.nd rfl (.inl rfl) pe_int)
      (pss_cons (ps_for PassesOwn.never rfl (pi_list (pv 0)) (pg_name (i := 3) scRight.nd rfl (.inl rfl))
        (pss_one (ps_if (pt_cmpR op_in_seq (pv 3) (pv 1) (by rfl)) (pss_one (ps_aug (i := 2) scRight.nd rfl (.inl rfl) pe_int ip_add)) pss_nil)))
      (pss_one (ps_ret (pv 2)))), ?_⟩
    refine ⟨_, rfl, a, rfl, ⟨_, sl_of ha⟩, for_list (xs := nI t) (fun i σ H' => H' = H ∧ ∃ x, σ = [some (.ref a), some (.ref b), some (iv (right (t.take i) d)), x]) ⟨rfl, none, rfl⟩ (fun i σ H' _ p => ?_) (fun i x σ H' hx p => ?_) (fun σ H' p => ?_)⟩
    · rw [p.1]
      exact sl_of ha
    · obtain ⟨rfl, y, rfl⟩ := p
      obtain ⟨n, hn, rfl⟩ := nI_get hx
      refine ⟨_, rfl, _, rfl, b, _, rfl, .inl (sl_of hb), rfl, flat_nI d, decide (n ∈ d), congrArg V.bl (in_nI n d), ?_⟩
      refine ite2 (fun h => ?_) (fun h => ?_)
      · have h := of_decide_eq_true h
        refine ⟨_, rfl, _, _, rfl, rfl, rfl, some (iv n), ?_⟩
        rw [take_more hn, right_snoc, if_pos h]
        rfl
      · have h : n ∉ d := fun z => h (decide_eq_true z)
        refine ⟨rfl, some (iv n), ?_⟩
        rw [take_more hn, right_snoc, if_neg h]
        rfl
    · obtain ⟨rfl, y, rfl⟩ := p
      refine ⟨_, rfl, ?_⟩
      rw [nI_len, List.take_length]
      exact q

theorem scRights : FnScope ["tickets", "draw", "ticket"] ["tickets", "draw"] (defScope sRights) := ⟨rfl, rfl, rfl, by decide +kernel, rfl, by decide +kernel, by decide +kernel⟩
theorem c_rights (A : At K mg "rights_of" sRights) (c1 : C8.Cal P w K mg base 1 "right_of" spRight []) : C8.Cal P w K mg base 2 "rights_of" spRights [] := by
  refine cal_of (N := ["tickets", "draw", "ticket"]) (ps := ["tickets", "draw"]) A (fun _ _ _ _ _ _ us hl => match us, hl with | [_, _], _ => rfl) scRights (fun vs H Q E h => ?_) (fun f cdv A outer s H vs Q E hr h => ?_)
  · obtain ⟨a, b, l, d, rfl, _⟩ := h
    rfl
  · obtain ⟨a, b, l, d, rfl, ⟨ws, ha, hw⟩, hb, hl, q⟩ := h
    refine ⟨_, pss_one (ps_ret (pe_lc (own := [("ticket", 2)]) (g := gName 2) (tt := tYes) rfl scRights.nd (pi_list (pv 0)) (blkOk_by (N := ["tickets", "draw", "ticket"]) (sc := defScope sRights) (by decide +kernel))
      (fun _ _ _ _ _ => pg_name (i := 2) scRights.nd rfl (Or.inl rfl)) (fun _ _ _ _ _ => pts_nil) (fun _ _ _ _ _ => C8.pe_c c1 hr (by decide) rfl (pa_cons (pv 2) (pa_cons (pv 1) pa_nil))))), ?_⟩
    refine ⟨_, rfl, a, rfl, ⟨_, sl_of ha⟩, fun D hD => lc_list (xs := ws) (fun i H' => Same H H' ∧ H' D = some (.lst (nI ((l.take i).map fun a => right a d)))) ⟨same_new hD, upd_same⟩ (fun i H' _ p => sl_of (p.1 _ _ ha)) (fun i x H' hx p => ?_) (fun H' p => ?_)⟩
    · obtain ⟨sm, hp⟩ := p
      obtain ⟨ra, r, rfl, hr', hra⟩ := hw.get hx
      refine ⟨rfl, ?_⟩
      refine lcYes ?_
      refine ⟨_, rfl, _, rfl, ra, b, r, d, rfl, sm _ _ hra, sm _ _ hb, _, hp, ?_, ?_, ?_⟩
      · rw [nI_len, List.length_map, List.length_take]
        exact sz252' (by omega)
      · exact snew sm hD
      · rw [upd_same, take_more hr', List.map_append, nI_append]
        rfl
    · obtain ⟨sm, hp⟩ := p
      refine q H' D sm hD ?_
      rw [hp, hw.len, List.take_length]

theorem scBest : FnScope ["tickets", "draw"] ["tickets", "draw"] (defScope sBest) := ⟨rfl, rfl, rfl, by decide +kernel, rfl, by decide +kernel, by decide +kernel⟩
theorem boot_max' : bootBuiltins "max" = some (.builtin "max") := by decide +kernel
theorem c_best (A : At K mg "best_of" sBest) (c1 : C8.Cal P w K mg base 2 "rights_of" spRights []) (mMax : mg "max" = none) : C8.Cal P w K mg base 3 "best_of" spBest [] := by
  refine cal_of (N := ["tickets", "draw"]) (ps := ["tickets", "draw"]) A (fun _ _ _ _ _ _ us hl => match us, hl with | [_, _], _ => rfl) scBest (fun vs H Q E h => ?_) (fun f cdv A outer s H vs Q E hr h => ?_)
  · obtain ⟨a, b, l, d, rfl, _⟩ := h
    rfl
  · obtain ⟨a, b, l, d, rfl, hrow, hb, hl, q⟩ := h
    refine ⟨_, pss_one (ps_ret (pe_callBK (call_maxDf rfl) rfl mMax boot_max' (pa_cons (C8.pe_c c1 hr (by decide) rfl (pa_cons (pv 0) (pa_cons (pv 1) pa_nil))) pa_nil) (pk_cons pe_int pk_nil))), ?_⟩
    refine ⟨_, rfl, _, rfl, a, b, l, d, rfl, hrow, hb, hl, fun H' p sm hn hp => ⟨p, (l.map fun a => right a d).map fun (n : Nat) => (n : Int), 0, rfl, rfl, ?_, fun z => ?_, fun m hm hu => ?_⟩⟩
    · rw [← nI_map]
      exact sl_of hp
    · have e : l = [] := by
        cases l with
        | nil => rfl
        | cons x l => cases z
      subst e
      exact q H' sm
    · obtain ⟨n, hn', rfl⟩ := List.mem_map.mp hm
      have e := most_is (l := l) (d := d) (v := n) hn' fun y hy => by
        have := hu y (List.mem_map.mpr ⟨y, hy, rfl⟩)
        omega
      rw [← e]
      exact q H' sm

theorem scBests : FnScope ["tickets", "draws", "draw"] ["tickets", "draws"] (defScope sBests) := ⟨rfl, rfl, rfl, by decide +kernel, rfl, by decide +kernel, by decide +kernel⟩
theorem c_bests (A : At K mg "bests_of" sBests) (c1 : C8.Cal P w K mg base 3 "best_of" spBest []) : C8.Cal P w K mg base 4 "bests_of" spBests [] := by
  refine cal_of (N := ["tickets", "draws", "draw"]) (ps := ["tickets", "draws"]) A (fun _ _ _ _ _ _ us hl => match us, hl with | [_, _], _ => rfl) scBests (fun vs H Q E h => ?_) (fun f cdv A outer s H vs Q E hr h => ?_)
  · obtain ⟨a, b, l, ds, rfl, _⟩ := h
    rfl
  · obtain ⟨a, b, l, ds, rfl, hrow, ⟨ws, hb, hw⟩, hl, hds, q⟩ := h
    refine ⟨_, pss_one (ps_ret (pe_lc (own := [("draw", 2)]) (g := gName 2) (tt := tYes) rfl scBests.nd (pi_list (pv 1)) (blkOk_by (N := ["tickets", "draws", "draw"]) (sc := defScope sBests) (by decide +kernel))
      (fun _ _ _ _ _ => pg_name (i := 2) scBests.nd rfl (Or.inl rfl)) (fun _ _ _ _ _ => pts_nil) (fun _ _ _ _ _ => C8.pe_c c1 hr (by decide) rfl (pa_cons (pv 0) (pa_cons (pv 2) pa_nil))))), ?_⟩
    refine ⟨_, rfl, b, rfl, ⟨_, sl_of hb⟩, fun D hD => lc_list (xs := ws) (fun i H' => Same H H' ∧ H' D = some (.lst (nI ((ds.take i).map fun d => most l d)))) ⟨same_new hD, upd_same⟩ (fun i H' _ p => sl_of (p.1 _ _ hb)) (fun i x H' hx p => ?_) (fun H' p => ?_)⟩
    · obtain ⟨sm, hp⟩ := p
      obtain ⟨ra, r, rfl, hr', hra⟩ := hw.get hx
      refine ⟨rfl, ?_⟩
      refine lcYes ?_
      refine ⟨_, rfl, _, rfl, a, ra, l, r, rfl, hrow.same sm, sm _ _ hra, hl, fun H2 s2 => ⟨_, s2 _ _ hp, ?_, ?_, ?_⟩⟩
      · rw [nI_len, List.length_map, List.length_take]
        exact sz252' (by omega)
      · exact snew (sm.trans s2) hD
      · rw [upd_same, take_more hr', List.map_append, nI_append]
        rfl
    · obtain ⟨sm, hp⟩ := p
      refine q H' D sm hD ?_
      rw [hp, hw.len, List.take_length]

theorem scOpen : FnScope ["tickets", "draws", "m", "draw"] ["tickets", "draws", "m"] (defScope sOpen) := ⟨rfl, rfl, rfl, by decide +kernel, rfl, by decide +kernel, by decide +kernel⟩
theorem c_open (A : At K mg "open_draws" sOpen) (c1 : C8.Cal P w K mg base 3 "best_of" spBest []) : C8.Cal P w K mg base 4 "open_draws" spOpen [] := by
  refine cal_of (N := ["tickets", "draws", "m", "draw"]) (ps := ["tickets", "draws", "m"]) A (fun _ _ _ _ _ _ us hl => match us, hl with | [_, _, _], _ => rfl) scOpen (fun vs H Q E h => ?_) (fun f cdv A outer s H vs Q E hr h => ?_)
  · obtain ⟨a, b, l, ds, m, rfl, _⟩ := h
    rfl
  · obtain ⟨a, b, l, ds, m, rfl, hrow, ⟨ws, hb, hw⟩, hl, hds, q⟩ := h
    refine ⟨_, pss_one (ps_ret (pe_lc (own := [("draw", 3)]) (g := gName 3) rfl scOpen.nd (pi_list (pv 1)) (blkOk_by (N := ["tickets", "draws", "m", "draw"]) (sc := defScope sOpen) (by decide +kernel))
      (fun _ _ _ _ _ => pg_name (i := 3) scOpen.nd rfl (Or.inl rfl)) (fun _ _ _ _ _ => pts_one (pt_cmpR op_lt (C8.pe_c c1 hr (by decide) rfl (pa_cons (pv 0) (pa_cons (pv 3) pa_nil))) (pv 2) (nomark _))) (fun _ _ _ _ _ => pv 3))), ?_⟩
    refine ⟨_, rfl, b, rfl, ⟨_, sl_of hb⟩, fun D hD => lc_list (xs := ws) (fun i H' => Same H H' ∧ ∃ acc, H' D = some (.lst acc) ∧ RowsV H acc (openOf (ds.take i) l m)) ⟨same_new hD, _, upd_same, .nil⟩ (fun i H' _ p => sl_of (p.1 _ _ hb)) (fun i x H' hx p => ?_) (fun H' p => ?_)⟩
    · obtain ⟨sm, acc, hp, hacc⟩ := p
      obtain ⟨ra, r, rfl, hr', hra⟩ := hw.get hx
      refine ⟨rfl, ?_⟩
      refine ⟨_, rfl, _, rfl, a, ra, l, r, rfl, hrow.same sm, sm _ _ hra, hl, fun H2 s2 => ⟨_, rfl, _, _, rfl, rfl, _, rfl, ?_⟩⟩
      have hopen : openOf (ds.take (i + 1)) l m = openOf (ds.take i) l m ++ (if most l r < m then [r] else []) := by
        rw [take_more hr']
        unfold openOf
        rw [List.filter_append]
        congr 1
        by_cases c : most l r < m
        · rw [if_pos c, List.filter_cons, if_pos (decide_eq_true c)]; rfl
        · rw [if_neg c, List.filter_cons, if_neg (by simp [c])]; rfl
      refine ite2 (fun h => ?_) (fun h => ?_)
      · have h : most l r < m := by
          have := of_decide_eq_true h
          omega
        refine ⟨_, rfl, acc, s2 _ _ hp, ?_, snew (sm.trans s2) hD, _, upd_same, ?_⟩
        · rw [hacc.len]
          refine sz252' (Nat.le_trans (List.length_filter_le _ _) ?_)
          rw [List.length_take]
          omega
        · rw [hopen, if_pos h]
          exact hacc.snoc hra
      · have h : ¬ most l r < m := fun z => h (decide_eq_true (by omega))
        refine ⟨sm.trans s2, acc, s2 _ _ hp, ?_⟩
        rw [hopen, if_neg h, List.append_nil]
        exact hacc
    · obtain ⟨sm, acc, hp, hacc⟩ := p
      refine q H' D sm hD ⟨acc, hp, ?_⟩
      rw [hw.len, List.take_length] at hacc
      exact hacc.same sm

theorem scCovBy : FnScope ["ticket", "draws", "m", "many", "draw"] ["ticket", "draws", "m"] (defScope sCovBy) := ⟨rfl, rfl, rfl, by decide +kernel, rfl, by decide +kernel, by decide +kernel⟩
theorem gain_snoc (ds : List Pick) (d : Pick) (m : Nat) (t : Pick) : gain (ds ++ [d]) m t = gain ds m t + (if m ≤ right t d then 1 else 0) := by
  unfold gain
  rw [List.filter_append, List.length_append]
  congr 1
  by_cases c : m ≤ right t d
  · rw [if_pos c, List.filter_cons, if_pos (decide_eq_true c)]; rfl
  · rw [if_neg c, List.filter_cons, if_neg (by simp [c])]; rfl
theorem c_covBy (A : At K mg "covered_by" sCovBy) (c1 : C8.Cal P w K mg base 1 "right_of" spRight []) : C8.Cal P w K mg base 2 "covered_by" spCovBy [] := by
  refine cal_of (N := ["ticket", "draws", "m", "many", "draw"]) (ps := ["ticket", "draws", "m"]) A (fun _ _ _ _ _ _ us hl => match us, hl with | [_, _, _], _ => rfl) scCovBy (fun vs H Q E h => ?_) (fun f cdv A outer s H vs Q E hr h => ?_)
  · obtain ⟨a, b, t, ds, m, rfl, _⟩ := h
    rfl
  · obtain ⟨a, b, t, ds, m, rfl, ha, ⟨ws, hb, hw⟩, q⟩ := h
    refine ⟨_, pss_cons (ps_set (i := 3) scCovBy.nd rfl (.inl rfl) pe_int)
      (pss_cons (ps_for PassesOwn.never rfl (pi_list (pv 1)) (pg_name (i := 4) scCovBy.nd rfl (.inl rfl))
        (pss_one (ps_if (pt_cmpR op_ge (C8.pe_c c1 hr (by decide) rfl (pa_cons (pv 0) (pa_cons (pv 4) pa_nil))) (pv 2) (nomark _)) (pss_one (ps_aug (i := 3) scCovBy.nd rfl (.inl rfl) pe_int ip_add)) pss_nil)))
      (pss_one (ps_ret (pv 3)))), ?_⟩
    refine ⟨_, rfl, b, rfl, ⟨_, sl_of hb⟩, for_list (xs := ws) (fun i σ H' => H' = H ∧ ∃ x, σ = [some (.ref a), some (.ref b), some (iv m), some (iv (gain (ds.take i) m t)), x]) ⟨rfl, none, rfl⟩ (fun i σ H' _ p => ?_) (fun i x σ H' hx p => ?_) (fun σ H' p => ?_)⟩
    · rw [p.1]
      exact sl_of hb
    · obtain ⟨rfl, y, rfl⟩ := p
      obtain ⟨ra, r, rfl, hr', hra⟩ := hw.get hx
      refine ⟨_, rfl, _, rfl, a, ra, t, r, rfl, ha, hra, _, rfl, _, _, rfl, rfl, _, rfl, ?_⟩
      refine ite2 (fun h => ?_) (fun h => ?_)
      · have h : m ≤ right t r := by
          have := of_decide_eq_true h
          omega
        refine ⟨_, rfl, _, _, rfl, rfl, rfl, some (.ref ra), ?_⟩
        rw [take_more hr', gain_snoc, if_pos h]
        rfl
      · have h : ¬ m ≤ right t r := fun z => h (decide_eq_true (by omega))
        refine ⟨rfl, some (.ref ra), ?_⟩
        rw [take_more hr', gain_snoc, if_neg h]
        rfl
    · obtain ⟨rfl, y, rfl⟩ := p
      refine ⟨_, rfl, ?_⟩
      rw [hw.len, List.take_length]
      exact q
end
end Wd

set_option Elab.async false
set_option linter.all false
set_option maxRecDepth 100000
set_option maxHeartbeats 4000000
/-! fewest: left_by, covers_all, one_for, two_for, three_for, fewest_for -/
namespace Wd
open PySem PySem.Spec PyProof.Rows L2
open Mu24 (Pick right most)
abbrev sLeft : Stmt := tops 8
abbrev sCovAll : Stmt := tops 9
abbrev sOne : Stmt := tops 10
abbrev sTwo : Stmt := tops 11
abbrev sThree : Stmt := tops 12
abbrev sFewFor : Stmt := tops 13

def spLeft : Sp := fun vs H Q _ => ∃ (a b : Addr) (t : Pick) (ds : List Pick) (m : Nat), vs = [.ref a, .ref b, iv m] ∧ H a = some (.lst (nI t)) ∧ RowsAt H b ds ∧ ds.length ≤ 252 ∧
  ∀ (H' : Hp) (p : Addr), Same H H' → H p = none → RowsAt H' p (leftBy t ds m) → Q (.ref p) H'
def spCovAll : Sp := fun vs H Q _ => ∃ (a b : Addr) (t : Pick) (ds : List Pick) (m : Nat), vs = [.ref a, .ref b, iv m] ∧ H a = some (.lst (nI t)) ∧ RowsAt H b ds ∧ Q (.bl (coversAll t ds m)) H
/-- one_for, two_for, three_for, fewest_for: f says what -/
def spFor (f : List Pick → Nat → List Pick → List Pick) : Sp := fun vs H Q _ => ∃ (a b : Addr) (l ds : List Pick) (m : Nat), vs = [.ref a, .ref b, iv m] ∧ RowsAt H a l ∧ RowsAt H b ds ∧ l.length ≤ 252 ∧ ds.length ≤ 252 ∧
  ∀ (H' : Hp) (p : Addr), Same H H' → H p = none → RowsAt H' p (f ds m l) → Q (.ref p) H'

section
variable {P : Program} {w : World} {K : PySem.W.Frag} {mg : Str → Option Value} {base : Heap}
theorem leftBy_snoc (t : Pick) (ds : List Pick) (r : Pick) (m : Nat) : leftBy t (ds ++ [r]) m = leftBy t ds m ++ (if right t r < m then [r] else []) := by
  unfold leftBy
  rw [List.filter_append]
  congr 1
  by_cases c : right t r < m
  · rw [if_pos c, List.filter_cons, if_pos (decide_eq_true c)]; rfl
  · rw [if_neg c, List.filter_cons, if_neg (by simp [c])]; rfl
theorem leftBy_len (t : Pick) (ds : List Pick) (m : Nat) : (leftBy t ds m).length ≤ ds.length := List.length_filter_le _ _
theorem scLeft : FnScope ["ticket", "draws", "m", "draw"] ["ticket", "draws", "m"] (defScope sLeft) := ⟨rfl, rfl, rfl, by decide +kernel, rfl, by decide +kernel, by decide +kernel⟩
theorem c_left (A : At K mg "left_by" sLeft) (c1 : C8.Cal P w K mg base 1 "right_of" spRight []) : C8.Cal P w K mg base 2 "left_by" spLeft [] := by
  refine cal_of (N := ["ticket", "draws", "m", "draw"]) (ps := ["ticket", "draws", "m"]) A (fun _ _ _ _ _ _ us hl => match us, hl with | [_, _, _], _ => rfl) scLeft (fun vs H Q E h => ?_) (fun f cdv A outer s H vs Q E hr h => ?_)
  · obtain ⟨a, b, t, ds, m, rfl, _⟩ := h
    rfl
  · obtain ⟨a, b, t, ds, m, rfl, ha, ⟨ws, hb, hw⟩, hds, q⟩ := h
    refine ⟨_, pss_one (ps_ret (pe_lc (own := [("draw", 3)]) (g := gName 3) rfl scLeft.nd (pi_list (pv 1)) (blkOk_by (N := ["ticket", "draws", "m", "draw"]) (sc := defScope sLeft) (by decide +kernel))
      (fun _ _ _ _ _ => pg_name (i := 3) scLeft.nd rfl (Or.inl rfl)) (fun _ _ _ _ _ => pts_one (pt_cmpR op_lt (C8.pe_c c1 hr (by decide) rfl (pa_cons (pv 0) (pa_cons (pv 3) pa_nil))) (pv 2) (nomark _))) (fun _ _ _ _ _ => pv 3))), ?_⟩
    refine ⟨_, rfl, b, rfl, ⟨_, sl_of hb⟩, fun D hD => lc_list (xs := ws) (fun i H' => Same H H' ∧ ∃ acc, H' D = some (.lst acc) ∧ RowsV H acc (leftBy t (ds.take i) m)) ⟨same_new hD, _, upd_same, .nil⟩ (fun i H' _ p => sl_of (p.1 _ _ hb)) (fun i x H' hx p => ?_) (fun H' p => ?_)⟩
    · obtain ⟨sm, acc, hp, hacc⟩ := p
      obtain ⟨ra, r, rfl, hr', hra⟩ := hw.get hx
      refine ⟨rfl, ?_⟩
      refine ⟨_, rfl, _, rfl, a, ra, t, r, rfl, sm _ _ ha, sm _ _ hra, _, rfl, _, _, rfl, rfl, _, rfl, ?_⟩
      refine ite2 (fun h => ?_) (fun h => ?_)
      · have h : right t r < m := by
          have := of_decide_eq_true h
          omega
        refine ⟨_, rfl, acc, hp, ?_, snew sm hD, _, upd_same, ?_⟩
        · rw [hacc.len]
          refine sz252' (Nat.le_trans (leftBy_len _ _ _) ?_)
          rw [List.length_take]
          omega
        · rw [take_more hr', leftBy_snoc, if_pos h]
          exact hacc.snoc hra
      · have h : ¬ right t r < m := fun z => h (decide_eq_true (by omega))
        refine ⟨sm, acc, hp, ?_⟩
        rw [take_more hr', leftBy_snoc, if_neg h, List.append_nil]
        exact hacc
    · obtain ⟨sm, acc, hp, hacc⟩ := p
      refine q H' D sm hD ⟨acc, hp, ?_⟩
      rw [hw.len, List.take_length] at hacc
      exact hacc.same sm

theorem scCovAll : FnScope ["ticket", "draws", "m", "draw"] ["ticket", "draws", "m"] (defScope sCovAll) := ⟨rfl, rfl, rfl, by decide +kernel, rfl, by decide +kernel, by decide +kernel⟩
theorem c_covAll (A : At K mg "covers_all" sCovAll) (c1 : C8.Cal P w K mg base 1 "right_of" spRight []) : C8.Cal P w K mg base 2 "covers_all" spCovAll [] := by
  refine cal_of (N := ["ticket", "draws", "m", "draw"]) (ps := ["ticket", "draws", "m"]) A (fun _ _ _ _ _ _ us hl => match us, hl with | [_, _, _], _ => rfl) scCovAll (fun vs H Q E h => ?_) (fun f cdv A outer s H vs Q E hr h => ?_)
  · obtain ⟨a, b, t, ds, m, rfl, _⟩ := h
    rfl
  · obtain ⟨a, b, t, ds, m, rfl, ha, ⟨ws, hb, hw⟩, q⟩ := h
    refine ⟨_, pss_cons (ps_for PassesOwn.never rfl (pi_list (pv 1)) (pg_name (i := 3) scCovAll.nd rfl (.inl rfl))
        (pss_one (ps_if (pt_cmpR op_lt (C8.pe_c c1 hr (by decide) rfl (pa_cons (pv 0) (pa_cons (pv 3) pa_nil))) (pv 2) (nomark _)) (pss_one (ps_ret pe_bl)) pss_nil)))
      (pss_one (ps_ret pe_bl)), ?_⟩
    refine ⟨_, rfl, b, rfl, ⟨_, sl_of hb⟩, for_list (xs := ws) (fun i σ H' => H' = H ∧ coversAll t ds m = coversAll t (ds.drop i) m ∧ ∃ x, σ = [some (.ref a), some (.ref b), some (iv m), x]) ⟨rfl, rfl, none, rfl⟩ (fun i σ H' _ p => ?_) (fun i x σ H' hx p => ?_) (fun σ H' p => ?_)⟩
    · rw [p.1]
      exact sl_of hb
    · obtain ⟨rfl, e, y, rfl⟩ := p
      obtain ⟨ra, r, rfl, hr', hra⟩ := hw.get hx
      have e2 : coversAll t (ds.drop i) m = (decide (m ≤ right t r) && coversAll t (ds.drop (i + 1)) m) := by
        rw [drop_more hr']
        rfl
      refine ⟨_, rfl, _, rfl, a, ra, t, r, rfl, ha, hra, _, rfl, _, _, rfl, rfl, _, rfl, ?_⟩
      refine ite2 (fun h => ?_) (fun h => ?_)
      · have h : ¬ m ≤ right t r := by
          have := of_decide_eq_true h
          omega
        show Q (.bl false) _
        rw [e, e2, decide_eq_false h, Bool.false_and] at q
        exact q
      · have h : m ≤ right t r := Nat.le_of_not_lt fun z => h (decide_eq_true (by omega))
        refine ⟨rfl, ?_, some (.ref ra), rfl⟩
        rw [e, e2, decide_eq_true h, Bool.true_and]
    · obtain ⟨rfl, e, y, rfl⟩ := p
      show Q (.bl true) _
      rw [e, hw.len, List.drop_length] at q
      exact q

theorem scOne : FnScope ["kinds", "draws", "m", "ticket"] ["kinds", "draws", "m"] (defScope sOne) := ⟨rfl, rfl, rfl, by decide +kernel, rfl, by decide +kernel, by decide +kernel⟩
theorem c_one (A : At K mg "one_for" sOne) (c1 : C8.Cal P w K mg base 2 "covers_all" spCovAll []) : C8.Cal P w K mg base 3 "one_for" (spFor oneFor) [] := by
  refine cal_of (N := ["kinds", "draws", "m", "ticket"]) (ps := ["kinds", "draws", "m"]) A (fun _ _ _ _ _ _ us hl => match us, hl with | [_, _, _], _ => rfl) scOne (fun vs H Q E h => ?_) (fun f cdv A outer s H vs Q E hr h => ?_)
  · obtain ⟨a, b, l, ds, m, rfl, _⟩ := h
    rfl
  · obtain ⟨a, b, l, ds, m, rfl, ⟨ws, ha, hw⟩, hb, hl, hds, q⟩ := h
    refine ⟨_, pss_cons (ps_for PassesOwn.never rfl (pi_list (pv 0)) (pg_name (i := 3) scOne.nd rfl (.inl rfl))
        (pss_one (ps_if (pt_val (C8.pe_c c1 hr (by decide) rfl (pa_cons (pv 3) (pa_cons (pv 1) (pa_cons (pv 2) pa_nil))))) (pss_one (ps_ret (pe_lst (pa_cons (pv 3) pa_nil)))) pss_nil)))
      (pss_one (ps_ret (pe_lst pa_nil))), ?_⟩
    refine ⟨_, rfl, a, rfl, ⟨_, sl_of ha⟩, for_list (xs := ws) (fun i σ H' => H' = H ∧ oneFor ds m l = oneFor ds m (l.drop i) ∧ ∃ x, σ = [some (.ref a), some (.ref b), some (iv m), x]) ⟨rfl, rfl, none, rfl⟩ (fun i σ H' _ p => ?_) (fun i x σ H' hx p => ?_) (fun σ H' p => ?_)⟩
    · rw [p.1]
      exact sl_of ha
    · obtain ⟨rfl, e, y, rfl⟩ := p
      obtain ⟨ra, r, rfl, hr', hra⟩ := hw.get hx
      have e2 : oneFor ds m (l.drop i) = if coversAll r ds m = true then [r] else oneFor ds m (l.drop (i + 1)) := by
        rw [drop_more hr']
        rfl
      refine ⟨_, rfl, _, rfl, _, rfl, ra, b, r, ds, m, rfl, hra, hb, _, rfl, ?_⟩
      refine ite2 (fun h => ?_) (fun h => ?_)
      · refine ⟨_, rfl, by show 1 ≤ sizeLine; decide, fun p hp => q _ p (same_new hp) hp ?_⟩
        rw [e, e2, if_pos h]
        exact ⟨_, upd_same, .cons (same_new hp _ _ hra) .nil⟩
      · refine ⟨rfl, ?_, some (.ref ra), rfl⟩
        rw [e, e2, if_neg h]
    · obtain ⟨rfl, e, y, rfl⟩ := p
      refine ⟨by show 0 ≤ sizeLine; decide, fun p hp => q _ p (same_new hp) hp ?_⟩
      rw [e, hw.len, List.drop_length]
      exact ⟨_, upd_same, .nil⟩

/-- two_for and three_for are of one form: g tries f behind each ticket -/
theorem oneFor_len (ds : List Pick) (m : Nat) : ∀ l, (oneFor ds m l).length ≤ 1
  | [] => Nat.zero_le _
  | a :: l => by
    unfold oneFor
    split
    · exact Nat.le_refl _
    · exact oneFor_len ds m l
theorem twoFor_len (m : Nat) : ∀ (l ds : List Pick), (twoFor ds m l).length ≤ 2
  | [], ds => Nat.zero_le _
  | a :: l, ds => by
    unfold twoFor
    split
    · exact twoFor_len m l ds
    · have := oneFor_len (leftBy a ds m) m l
      rw [List.length_cons]
      omega
theorem scTwo : FnScope ["kinds", "draws", "m", "at", "ticket", "found"] ["kinds", "draws", "m"] (defScope sTwo) := ⟨rfl, rfl, rfl, by decide +kernel, rfl, by decide +kernel, by decide +kernel⟩
theorem c_two (A : At K mg "two_for" sTwo) (cL : C8.Cal P w K mg base 2 "left_by" spLeft []) (c1 : C8.Cal P w K mg base 3 "one_for" (spFor oneFor) []) (mE : mg "enumerate" = none) : C8.Cal P w K mg base (3 + 1) "two_for" (spFor twoFor) [] := by
  refine cal_of (N := ["kinds", "draws", "m", "at", "ticket", "found"]) (ps := ["kinds", "draws", "m"]) A (fun _ _ _ _ _ _ us hl => match us, hl with | [_, _, _], _ => rfl) scTwo (fun vs H Q E h => ?_) (fun f cdv A outer s H vs Q E hr h => ?_)
  · obtain ⟨a, b, l, ds, m, rfl, _⟩ := h
    rfl
  · obtain ⟨a, b, l, ds, m, rfl, ⟨ws, ha, hw⟩, hb, hl, hds, q⟩ := h
    refine ⟨_, pss_cons (ps_for PassesOwn.never rfl (pi_enum rfl mE (pa_cons (pv 0) pa_nil)) (pg_tup rfl (pgs_cons (pg_name (i := 3) scTwo.nd rfl (.inl rfl)) (pgs_cons (pg_name (i := 4) scTwo.nd rfl (.inl rfl)) pgs_nil)))
        (pss_cons (ps_set (i := 5) scTwo.nd rfl (.inl rfl) (C8.pe_c c1 hr (by decide) rfl (pa_cons (pe_slice sl_list (pv 0) (po_some (pe_op op_add (pv 3) pe_int)) po_none)
            (pa_cons (C8.pe_c cL hr (by decide) rfl (pa_cons (pv 4) (pa_cons (pv 1) (pa_cons (pv 2) pa_nil)))) (pa_cons (pv 2) pa_nil)))))
          (pss_one (ps_if (pt_cmpR (op_neD hr.units) (pv 5) (pe_lst pa_nil) (nomark _)) (pss_one (ps_ret (pe_op op_cat (pe_lst (pa_cons (pv 4) pa_nil)) (pv 5)))) pss_nil))))
      (pss_one (ps_ret (pe_lst pa_nil))), ?_⟩
    refine ⟨_, rfl, a, ws, rfl, sl_of ha, for_it (walk_enum (xs := ws)) (fun i σ H' => Same H H' ∧ twoFor ds m l = twoFor ds m (l.drop i) ∧ ∃ x y z, σ = [some (.ref a), some (.ref b), some (iv m), x, y, z]) ⟨Same.refl H, rfl, none, none, none, rfl⟩ (fun i σ H' _ p => sl_of (p.1 _ _ ha)) (fun i x σ H' H'' hi p y => ?_) (fun σ H' p => ?_)⟩
    · obtain ⟨sm, e, x1, x2, x3, rfl⟩ := p
      obtain ⟨T, v1, v2, rfl, hT, rfl, hv1, hv2⟩ := y
      obtain rfl := Option.some.inj hv1
      obtain ⟨ra, r, rfl, hr', hra⟩ := hw.get hv2
      have s1 : Same H (upd H' T (.tup [.int (i : Int), .ref ra])) := snew sm (Same.free sm hT)
      have e2 : twoFor ds m (l.drop i) = if oneFor (leftBy r ds m) m (l.drop (i + 1)) = [] then twoFor ds m (l.drop (i + 1)) else r :: oneFor (leftBy r ds m) m (l.drop (i + 1)) := by
        rw [drop_more hr']
        rfl
      refine ⟨T, _, rfl, st_of upd_same, rfl, _, _, rfl, _, _, rfl, rfl, ?_⟩
      -- the slice, left_by, the call
      refine ⟨_, rfl, _, rfl, _, _, rfl, rfl, _, rfl, a, ws, rfl, sl_of (s1 _ _ ha), fun p1 hp1 => ?_⟩
      rw [cut_from (z := (i : Int) + 1) (k := i + 1) rfl]
      have s1' := snew (o := .lst (ws.drop (i + 1))) s1 (Same.free s1 hp1)
      refine ⟨_, rfl, _, rfl, _, rfl, ra, b, r, ds, m, rfl, s1' _ _ hra, hb.same s1', hds, fun H2 p2 s2 n2 rows2 => ?_⟩
      have r1 : RowsAt H2 p1 (l.drop (i + 1)) := ⟨_, s2 _ _ upd_same, (hw.drop (i + 1)).same (s1'.trans s2)⟩
      refine ⟨_, rfl, p1, p2, l.drop (i + 1), leftBy r ds m, m, rfl, r1, rows2, ?_, ?_, fun H3 p3 s3 n3 rows3 => ?_⟩
      · rw [List.length_drop]
        omega
      · have := leftBy_len r ds m
        omega
      have s4 : Same H H3 := (s1'.trans s2).trans s3
      -- if found != []
      refine ⟨_, rfl, by show 0 ≤ sizeLine; decide, fun p4 hp4 => ?_⟩
      have s5 : Same H3 (upd H3 p4 (.lst [])) := same_new hp4
      refine ⟨_, _, rows_dp (rows3.same s5), .lst (sl_of upd_same) .nil, lD_shaped _, nil_shaped, _, rfl, ?_⟩
      rw [eqv_lD_nil]
      refine ite2 (fun h => ?_) (fun h => ?_)
      · have h : ¬ oneFor (leftBy r ds m) m (l.drop (i + 1)) = [] := by simpa using h
        rw [if_neg h] at e2
        obtain ⟨vs3, hv3, hrow3⟩ := rows3
        refine ⟨_, rfl, by show 1 ≤ sizeLine; decide, fun p5 hp5 => ?_⟩
        have s6 : Same H3 (upd (upd H3 p4 (.lst [])) p5 (.lst [.ref ra])) := snew s5 (Same.free s5 hp5)
        refine ⟨_, rfl, p5, p3, _, _, rfl, rfl, upd_same, s6 _ _ hv3, ?_, fun p6 hp6 => ?_⟩
        · rw [hrow3.len]
          have := oneFor_len (leftBy r ds m) m (l.drop (i + 1))
          refine sz252 ?_
          rw [List.length_singleton]
          omega
        · have s7 : Same H3 (upd (upd (upd H3 p4 (.lst [])) p5 (.lst [.ref ra])) p6 (.lst ([.ref ra] ++ vs3))) := snew s6 (Same.free s6 hp6)
          refine q _ p6 (s4.trans s7) (Same.free (s4.trans s6) hp6) ?_
          rw [e, e2]
          exact ⟨_, upd_same, .cons (s7 _ _ (s4 _ _ hra)) (hrow3.same s7)⟩
      · have h : oneFor (leftBy r ds m) m (l.drop (i + 1)) = [] := by simpa using h
        rw [if_pos h] at e2
        exact ⟨s4.trans s5, e.trans e2, _, _, _, rfl⟩
    · obtain ⟨sm, e, x1, x2, x3, rfl⟩ := p
      refine ⟨by show 0 ≤ sizeLine; decide, fun p hp => q _ p (snew sm (Same.free sm hp)) (Same.free sm hp) ?_⟩
      rw [e, hw.len, List.drop_length]
      exact ⟨_, upd_same, .nil⟩
theorem scThree : FnScope ["kinds", "draws", "m", "at", "ticket", "found"] ["kinds", "draws", "m"] (defScope sThree) := ⟨rfl, rfl, rfl, by decide +kernel, rfl, by decide +kernel, by decide +kernel⟩
theorem c_three (A : At K mg "three_for" sThree) (cL : C8.Cal P w K mg base 2 "left_by" spLeft []) (c1 : C8.Cal P w K mg base 4 "two_for" (spFor twoFor) []) (mE : mg "enumerate" = none) : C8.Cal P w K mg base (4 + 1) "three_for" (spFor threeFor) [] := by
  refine cal_of (N := ["kinds", "draws", "m", "at", "ticket", "found"]) (ps := ["kinds", "draws", "m"]) A (fun _ _ _ _ _ _ us hl => match us, hl with | [_, _, _], _ => rfl) scThree (fun vs H Q E h => ?_) (fun f cdv A outer s H vs Q E hr h => ?_)
  · obtain ⟨a, b, l, ds, m, rfl, _⟩ := h
    rfl
  · obtain ⟨a, b, l, ds, m, rfl, ⟨ws, ha, hw⟩, hb, hl, hds, q⟩ := h
    refine ⟨_, pss_cons (ps_for PassesOwn.never rfl (pi_enum rfl mE (pa_cons (pv 0) pa_nil)) (pg_tup rfl (pgs_cons (pg_name (i := 3) scThree.nd rfl (.inl rfl)) (pgs_cons (pg_name (i := 4) scThree.nd rfl (.inl rfl)) pgs_nil)))
        (pss_cons (ps_set (i := 5) scThree.nd rfl (.inl rfl) (C8.pe_c c1 hr (by decide) rfl (pa_cons (pe_slice sl_list (pv 0) (po_some (pe_op op_add (pv 3) pe_int)) po_none)
            (pa_cons (C8.pe_c cL hr (by decide) rfl (pa_cons (pv 4) (pa_cons (pv 1) (pa_cons (pv 2) pa_nil)))) (pa_cons (pv 2) pa_nil)))))
          (pss_one (ps_if (pt_cmpR (op_neD hr.units) (pv 5) (pe_lst pa_nil) (nomark _)) (pss_one (ps_ret (pe_op op_cat (pe_lst (pa_cons (pv 4) pa_nil)) (pv 5)))) pss_nil))))
      (pss_one (ps_ret (pe_lst pa_nil))), ?_⟩
    refine ⟨_, rfl, a, ws, rfl, sl_of ha, for_it (walk_enum (xs := ws)) (fun i σ H' => Same H H' ∧ threeFor ds m l = threeFor ds m (l.drop i) ∧ ∃ x y z, σ = [some (.ref a), some (.ref b), some (iv m), x, y, z]) ⟨Same.refl H, rfl, none, none, none, rfl⟩ (fun i σ H' _ p => sl_of (p.1 _ _ ha)) (fun i x σ H' H'' hi p y => ?_) (fun σ H' p => ?_)⟩
    · obtain ⟨sm, e, x1, x2, x3, rfl⟩ := p
      obtain ⟨T, v1, v2, rfl, hT, rfl, hv1, hv2⟩ := y
      obtain rfl := Option.some.inj hv1
      obtain ⟨ra, r, rfl, hr', hra⟩ := hw.get hv2
      have s1 : Same H (upd H' T (.tup [.int (i : Int), .ref ra])) := snew sm (Same.free sm hT)
      have e2 : threeFor ds m (l.drop i) = if twoFor (leftBy r ds m) m (l.drop (i + 1)) = [] then threeFor ds m (l.drop (i + 1)) else r :: twoFor (leftBy r ds m) m (l.drop (i + 1)) := by
        rw [drop_more hr']
        rfl
      refine ⟨T, _, rfl, st_of upd_same, rfl, _, _, rfl, _, _, rfl, rfl, ?_⟩
      -- the slice, left_by, the call
      refine ⟨_, rfl, _, rfl, _, _, rfl, rfl, _, rfl, a, ws, rfl, sl_of (s1 _ _ ha), fun p1 hp1 => ?_⟩
      rw [cut_from (z := (i : Int) + 1) (k := i + 1) rfl]
      have s1' := snew (o := .lst (ws.drop (i + 1))) s1 (Same.free s1 hp1)
      refine ⟨_, rfl, _, rfl, _, rfl, ra, b, r, ds, m, rfl, s1' _ _ hra, hb.same s1', hds, fun H2 p2 s2 n2 rows2 => ?_⟩
      have r1 : RowsAt H2 p1 (l.drop (i + 1)) := ⟨_, s2 _ _ upd_same, (hw.drop (i + 1)).same (s1'.trans s2)⟩
      refine ⟨_, rfl, p1, p2, l.drop (i + 1), leftBy r ds m, m, rfl, r1, rows2, ?_, ?_, fun H3 p3 s3 n3 rows3 => ?_⟩
      · rw [List.length_drop]
        omega
      · have := leftBy_len r ds m
        omega
      have s4 : Same H H3 := (s1'.trans s2).trans s3
      -- if found != []
      refine ⟨_, rfl, by show 0 ≤ sizeLine; decide, fun p4 hp4 => ?_⟩
      have s5 : Same H3 (upd H3 p4 (.lst [])) := same_new hp4
      refine ⟨_, _, rows_dp (rows3.same s5), .lst (sl_of upd_same) .nil, lD_shaped _, nil_shaped, _, rfl, ?_⟩
      rw [eqv_lD_nil]
      refine ite2 (fun h => ?_) (fun h => ?_)
      · have h : ¬ twoFor (leftBy r ds m) m (l.drop (i + 1)) = [] := by simpa using h
        rw [if_neg h] at e2
        obtain ⟨vs3, hv3, hrow3⟩ := rows3
        refine ⟨_, rfl, by show 1 ≤ sizeLine; decide, fun p5 hp5 => ?_⟩
        have s6 : Same H3 (upd (upd H3 p4 (.lst [])) p5 (.lst [.ref ra])) := snew s5 (Same.free s5 hp5)
        refine ⟨_, rfl, p5, p3, _, _, rfl, rfl, upd_same, s6 _ _ hv3, ?_, fun p6 hp6 => ?_⟩
        · rw [hrow3.len]
          have := twoFor_len m (l.drop (i + 1)) (leftBy r ds m)
          refine sz252 ?_
          rw [List.length_singleton]
          omega
        · have s7 : Same H3 (upd (upd (upd H3 p4 (.lst [])) p5 (.lst [.ref ra])) p6 (.lst ([.ref ra] ++ vs3))) := snew s6 (Same.free s6 hp6)
          refine q _ p6 (s4.trans s7) (Same.free (s4.trans s6) hp6) ?_
          rw [e, e2]
          exact ⟨_, upd_same, .cons (s7 _ _ (s4 _ _ hra)) (hrow3.same s7)⟩
      · have h : twoFor (leftBy r ds m) m (l.drop (i + 1)) = [] := by simpa using h
        rw [if_pos h] at e2
        exact ⟨s4.trans s5, e.trans e2, _, _, _, rfl⟩
    · obtain ⟨sm, e, x1, x2, x3, rfl⟩ := p
      refine ⟨by show 0 ≤ sizeLine; decide, fun p hp => q _ p (snew sm (Same.free sm hp)) (Same.free sm hp) ?_⟩
      rw [e, hw.len, List.drop_length]
      exact ⟨_, upd_same, .nil⟩

theorem scFewFor : FnScope ["kinds", "draws", "m", "found"] ["kinds", "draws", "m"] (defScope sFewFor) := ⟨rfl, rfl, rfl, by decide +kernel, rfl, by decide +kernel, by decide +kernel⟩
theorem c_fewFor (A : At K mg "fewest_for" sFewFor) (c1 : C8.Cal P w K mg base 3 "one_for" (spFor oneFor) []) (c2 : C8.Cal P w K mg base 4 "two_for" (spFor twoFor) []) (c3 : C8.Cal P w K mg base 5 "three_for" (spFor threeFor) []) : C8.Cal P w K mg base 6 "fewest_for" (spFor fewestFor) [] := by
  refine cal_of (N := ["kinds", "draws", "m", "found"]) (ps := ["kinds", "draws", "m"]) A (fun _ _ _ _ _ _ us hl => match us, hl with | [_, _, _], _ => rfl) scFewFor (fun vs H Q E h => ?_) (fun f cdv A outer s H vs Q E hr h => ?_)
  · obtain ⟨a, b, l, ds, m, rfl, _⟩ := h
    rfl
  · obtain ⟨a, b, l, ds, m, rfl, ha, hb, hl, hds, q⟩ := h
    refine ⟨_, pss_cons (ps_set (i := 3) scFewFor.nd rfl (.inl rfl) (C8.pe_c c1 hr (by decide) rfl (pa_cons (pv 0) (pa_cons (pv 1) (pa_cons (pv 2) pa_nil)))))
      (C8.pss_cut (ps_if (pt_cmpR (op_eqD hr.units) (pv 3) (pe_lst pa_nil) (nomark _)) (pss_one (ps_set (i := 3) scFewFor.nd rfl (.inl rfl) (C8.pe_c c2 hr (by decide) rfl (pa_cons (pv 0) (pa_cons (pv 1) (pa_cons (pv 2) pa_nil)))))) pss_nil)
      (C8.pss_cut (ps_if (pt_cmpR (op_eqD hr.units) (pv 3) (pe_lst pa_nil) (nomark _)) (pss_one (ps_set (i := 3) scFewFor.nd rfl (.inl rfl) (C8.pe_c c3 hr (by decide) rfl (pa_cons (pv 0) (pa_cons (pv 1) (pa_cons (pv 2) pa_nil)))))) pss_nil)
      (pss_one (ps_ret (pv 3))))), ?_⟩
    have M : ∀ (g : List Pick) (Z : TS) (D : Ends), True := fun _ _ _ => trivial
    refine ⟨_, rfl, _, rfl, _, rfl, a, b, l, ds, m, rfl, ha, hb, hl, hds, fun H1 p1 s1 n1 rows1 => ?_⟩
    refine ⟨fun σ H2 => Same H H2 ∧ ∃ p, H p = none ∧ RowsAt H2 p (orElse (oneFor ds m l) (twoFor ds m l)) ∧ σ = [some (.ref a), some (.ref b), some (iv m), some (.ref p)], ?_, ?_⟩
    · refine ⟨_, rfl, by show 0 ≤ sizeLine; decide, fun p4 hp4 => ?_⟩
      have s5 : Same H1 (upd H1 p4 (.lst [])) := same_new hp4
      refine ⟨_, _, rows_dp (rows1.same s5), .lst (sl_of upd_same) .nil, lD_shaped _, nil_shaped, _, rfl, ?_⟩
      rw [eqv_lD_nil]
      refine ite2 (fun h => ?_) (fun h => ?_)
      · have h : oneFor ds m l = [] := of_decide_eq_true h
        refine ⟨_, rfl, _, rfl, _, rfl, a, b, l, ds, m, rfl, ha.same (s1.trans s5), hb.same (s1.trans s5), hl, hds, fun H2 p2 s2 n2 rows2 => ⟨(s1.trans s5).trans s2, p2, Same.free (s1.trans s5) n2, ?_, rfl⟩⟩
        unfold orElse
        rw [if_pos h]
        exact rows2
      · have h : ¬ oneFor ds m l = [] := fun z => h (decide_eq_true z)
        refine ⟨s1.trans s5, p1, n1, ?_, rfl⟩
        unfold orElse
        rw [if_neg h]
        exact rows1.same s5
    · rintro σ H2 ⟨s2, p, np, rows, rfl⟩
      refine ⟨fun σ H2 => Same H H2 ∧ ∃ p, H p = none ∧ RowsAt H2 p (fewestFor ds m l) ∧ σ = [some (.ref a), some (.ref b), some (iv m), some (.ref p)], ?_, ?_⟩
      · refine ⟨_, rfl, by show 0 ≤ sizeLine; decide, fun p4 hp4 => ?_⟩
        have s5 : Same H2 (upd H2 p4 (.lst [])) := same_new hp4
        refine ⟨_, _, rows_dp (rows.same s5), .lst (sl_of upd_same) .nil, lD_shaped _, nil_shaped, _, rfl, ?_⟩
        rw [eqv_lD_nil]
        refine ite2 (fun h => ?_) (fun h => ?_)
        · have h := of_decide_eq_true h
          refine ⟨_, rfl, _, rfl, _, rfl, a, b, l, ds, m, rfl, ha.same (s2.trans s5), hb.same (s2.trans s5), hl, hds, fun H3 p3 s3 n3 rows3 => ⟨(s2.trans s5).trans s3, p3, Same.free (s2.trans s5) n3, ?_, rfl⟩⟩
          have e : fewestFor ds m l = threeFor ds m l := if_pos h
          rw [e]
          exact rows3
        · have h : ¬ orElse (oneFor ds m l) (twoFor ds m l) = [] := fun z => h (decide_eq_true z)
          refine ⟨s2.trans s5, p, np, ?_, rfl⟩
          have e : fewestFor ds m l = orElse (oneFor ds m l) (twoFor ds m l) := if_neg h
          rw [e]
          exact rows.same s5
      · rintro σ H3 ⟨s3, p, np, rows, rfl⟩
        exact ⟨_, rfl, q H3 p s3 np rows⟩
end
end Wd

set_option Elab.async false
set_option linter.all false
set_option maxRecDepth 100000
set_option maxHeartbeats 4000000
/-! fractions and rows: common_divisor, lowest, rounded_up, first_behind, rows_of, is_row -/
namespace Wd
open PySem PySem.Spec PyProof.Rows L2
open Mu24 (Pick right most)
abbrev sGcd : Stmt := tops 15
abbrev sLow : Stmt := tops 16
abbrev sUp : Stmt := tops 17
abbrev sFirst : Stmt := tops 19
abbrev sRowsOf : Stmt := tops 20
abbrev sIsRow : Stmt := tops 21

def spGcd : Sp := fun vs H Q _ => ∃ (a b : Nat), vs = [iv a, iv b] ∧ Q (iv (Nat.gcd a b)) H
def spLow : Sp := fun vs H Q _ => ∃ (a b : Nat), vs = [iv a, iv b] ∧ 0 < b ∧ b ≤ 252 ∧
  ∀ (H' : Hp) (p : Addr), Same H H' → H p = none → H' p = some (.lst (nI [a / Nat.gcd a b, b / Nat.gcd a b])) → Q (.ref p) H'
def spUp : Sp := fun vs H Q _ => ∃ (a b : Nat), vs = [iv a, iv b] ∧ 0 < b ∧ b ≤ 252 ∧ Q (iv ((a + b - 1) / b)) H
def spFirst : Sp := fun vs H Q _ => ∃ (a : Addr) (r : Pick), vs = [.ref a] ∧ H a = some (.lst (nI r)) ∧ ∀ H' : Hp, Same H H' → Q (iv (nextOf 0 r)) H'
/-- what these refer to was not there -/
def Fresh (H : Hp) (vs : List V) : Prop := ∀ z, V.ref z ∈ vs → H z = none
def spRowsOf : Sp := fun vs H Q _ => ∃ (n k : Nat), vs = [iv n, iv k] ∧ n ≤ 10 ∧ k ≤ 6 ∧
  ∀ (H' : Hp) (p : Addr) (vs : List V), Same H H' → H p = none → H' p = some (.lst vs) → RowsV H' vs (rowsUp n k) → Fresh H vs → Q (.ref p) H'
def spIsRow : Sp := fun vs H Q _ => ∃ (a : Addr) (l : Pick) (n k : Nat), vs = [.ref a, iv n, iv k] ∧ H a = some (.lst (nI l)) ∧ k ≤ 6 ∧ Q (.bl (isP n k l)) H

section
variable {P : Program} {w : World} {K : PySem.W.Frag} {mg : Str → Option Value} {base : Heap}
theorem scGcd : FnScope ["one", "other"] ["one", "other"] (defScope sGcd) := ⟨rfl, rfl, rfl, by decide +kernel, rfl, by decide +kernel, by decide +kernel⟩
theorem c_gcd (A : At K mg "common_divisor" sGcd) : C8.Cal P w K mg base 1 "common_divisor" spGcd [] := by
  refine cal_of (N := ["one", "other"]) (ps := ["one", "other"]) A (fun _ _ _ _ _ _ us hl => match us, hl with | [_, _], _ => rfl) scGcd (fun vs H Q E h => ?_) (fun f cdv A outer s H vs Q E hr h => ?_)
  · obtain ⟨a, b, rfl, _⟩ := h
    rfl
  · obtain ⟨a, b, rfl, q⟩ := h
    refine ⟨_, pss_cons (ps_while PassesOwn.never (pt_cmpR op_gt (pv 0) pe_int (nomark _))
        (pss_one (ps_par rfl scGcd.nd (i := 0) (j := 1) rfl rfl (by decide) rfl rfl (pa_cons (pe_op op_mod (pv 1) (pv 0)) (pa_cons (pv 0) pa_nil)) (by rfl))))
      (pss_one (ps_ret (pv 1))), ?_⟩
    refine ⟨fun m σ H' => H' = H ∧ ∃ x y, m = x ∧ σ = [some (iv x), some (iv y)] ∧ Nat.gcd x y = Nat.gcd a b, ⟨a, rfl, a, b, rfl, rfl, rfl⟩, ?_⟩
    rintro m σ H' ⟨rfl, x, y, rfl, rfl, hg⟩
    refine ⟨_, rfl, _, _, rfl, rfl, _, rfl, ?_⟩
    refine ite2 (fun h => ?_) (fun h => ?_)
    · have h : 0 < m := by
        have := of_decide_eq_true h
        omega
      refine ⟨fun σ' H'' => H'' = H' ∧ σ' = [some (iv (y % m)), some (iv m)], fun σ' H'' p => ⟨y % m, Nat.mod_lt _ h, p.1, y % m, m, rfl, p.2, gcd_turn.trans hg⟩, ?_⟩
      exact ⟨_, rfl, _, rfl, _, _, rfl, rfl, by omega, _, rfl, _, _, rfl, rfl, rfl⟩
    · have h : m = 0 := by
        have : ¬ (0 : Int) < (m : Int) := fun z => h (decide_eq_true z)
        omega
      subst h
      refine ⟨_, rfl, ?_⟩
      rw [Nat.gcd_zero_left] at hg
      rw [hg]
      exact q

theorem scLow : FnScope ["above", "below", "divisor"] ["above", "below"] (defScope sLow) := ⟨rfl, rfl, rfl, by decide +kernel, rfl, by decide +kernel, by decide +kernel⟩
theorem c_low (A : At K mg "lowest" sLow) (c1 : C8.Cal P w K mg base 1 "common_divisor" spGcd []) : C8.Cal P w K mg base 2 "lowest" spLow [] := by
  refine cal_of (N := ["above", "below", "divisor"]) (ps := ["above", "below"]) A (fun _ _ _ _ _ _ us hl => match us, hl with | [_, _], _ => rfl) scLow (fun vs H Q E h => ?_) (fun f cdv A outer s H vs Q E hr h => ?_)
  · obtain ⟨a, b, rfl, _⟩ := h
    rfl
  · obtain ⟨a, b, rfl, hb, hb2, q⟩ := h
    refine ⟨_, pss_cons (ps_set (i := 2) scLow.nd rfl (.inl rfl) (C8.pe_c c1 hr (by decide) rfl (pa_cons (pv 0) (pa_cons (pv 1) pa_nil))))
      (pss_one (ps_ret (pe_lst (pa_cons (pe_op op_fdiv (pv 0) (pv 2)) (pa_cons (pe_op op_fdiv (pv 1) (pv 2)) pa_nil))))), ?_⟩
    have g0 : 0 < Nat.gcd a b := Nat.gcd_pos_of_pos_right _ hb
    have g1 : Nat.gcd a b ≤ b := Nat.gcd_le_right _ hb
    have gd : CDiv (0 : Int) ((Nat.gcd a b : Nat) : Int) := ⟨by omega, by omega⟩
    refine ⟨_, rfl, _, rfl, a, b, rfl, ?_⟩
    refine ⟨_, rfl, _, rfl, _, _, rfl, rfl, ⟨gd.1, gd.2⟩, _, rfl, _, rfl, _, _, rfl, rfl, ⟨gd.1, gd.2⟩, by show 2 ≤ sizeLine; decide, fun p hp => q _ p (same_new hp) hp upd_same⟩

theorem scUp : FnScope ["above", "below"] ["above", "below"] (defScope sUp) := ⟨rfl, rfl, rfl, by decide +kernel, rfl, by decide +kernel, by decide +kernel⟩
theorem c_up (A : At K mg "rounded_up" sUp) : C8.Cal P w K mg base 1 "rounded_up" spUp [] := by
  refine cal_of (N := ["above", "below"]) (ps := ["above", "below"]) A (fun _ _ _ _ _ _ us hl => match us, hl with | [_, _], _ => rfl) scUp (fun vs H Q E h => ?_) (fun f cdv A outer s H vs Q E hr h => ?_)
  · obtain ⟨a, b, rfl, _⟩ := h
    rfl
  · obtain ⟨a, b, rfl, hb, hb2, q⟩ := h
    refine ⟨_, pss_one (ps_ret (pe_op op_fdiv (pe_op op_sub (pe_op op_add (pv 0) (pv 1)) pe_int) (pv 1))), ?_⟩
    refine ⟨_, rfl, _, rfl, _, _, rfl, rfl, _, _, rfl, rfl, _, rfl, _, _, rfl, rfl, ⟨by omega, by omega⟩, ?_⟩
    have e : (a : Int) + (b : Int) - 1 = ((a + b - 1 : Nat) : Int) := by omega
    rw [e]
    exact q

theorem scFirst : FnScope ["row"] ["row"] (defScope sFirst) := ⟨rfl, rfl, rfl, by decide +kernel, rfl, by decide +kernel, by decide +kernel⟩
theorem c_first (A : At K mg "first_behind" sFirst) : C8.Cal P w K mg base 1 "first_behind" spFirst [] := by
  refine cal_of (N := ["row"]) (ps := ["row"]) A (fun _ _ _ _ _ _ us hl => match us, hl with | [_], _ => rfl) scFirst (fun vs H Q E h => ?_) (fun f cdv A outer s H vs Q E hr h => ?_)
  · obtain ⟨a, r, rfl, _⟩ := h
    rfl
  · obtain ⟨a, r, rfl, ha, q⟩ := h
    refine ⟨_, pss_cons (ps_if (pt_cmpR (op_eqD hr.units) (pv 0) (pe_lst pa_nil) (nomark _)) (pss_one (ps_ret pe_int)) pss_nil)
      (pss_one (ps_ret (pe_op op_add (pe_ix ix_list (pv 0) (pe_un un_neg pe_int) (fun _ _ => rfl)) pe_int))), ?_⟩
    refine ⟨_, rfl, by show 0 ≤ sizeLine; decide, fun p hp => ?_⟩
    have s1 : Same H (upd H p (.lst [])) := same_new hp
    refine ⟨_, _, row_dp (s1 _ _ ha), .lst (sl_of upd_same) .nil, rD_shaped _, nil_shaped, _, rfl, ?_⟩
    rw [eqv_rD_nil]
    refine ite2 (fun h => ?_) (fun h => ?_)
    · have h : r = [] := of_decide_eq_true h
      subst h
      exact q _ s1
    · have h : ¬ r = [] := fun z => h (decide_eq_true z)
      obtain ⟨x, hx⟩ : ∃ x, r.getLast? = some x := by
        cases e : r.getLast? with
        | none => exact (h (List.getLast?_eq_none_iff.mp e)).elim
        | some x => exact ⟨x, rfl⟩
      have er : nI r = nI r.dropLast ++ [iv x] := by
        obtain ⟨ys, rfl⟩ := List.getLast?_eq_some_iff.mp hx
        rw [List.dropLast_concat, nI_append]
        rfl
      have en : nextOf 0 r = x + 1 := by
        unfold nextOf
        rw [hx]
      refine ⟨_, rfl, _, rfl, a, nI r, -1, iv x, rfl, rfl, sl_of (s1 _ _ ha), ?_, _, _, rfl, rfl, ?_⟩
      · rw [er]
        exact atI_last _ _
      · have := q _ s1
        rw [en] at this
        exact this

theorem RowsV.push {H : Hp} {vs : List V} {l : List Pick} {b : Addr} {o : HO} (h : RowsV H vs l) (hb : H b = some (.lst vs)) : RowsV (upd H b o) vs l := h.keep fun c r m e => by
  by_cases z : c = b
  · subst z
    rw [hb] at e
    have e' := HO.lst.inj (Option.some.inj e)
    obtain ⟨h1, _⟩ := h.no_nums e'
    rw [h1] at m
    cases m
  · rw [upd_ne z]
    exact e
theorem ups_len (n i : Nat) (r : Pick) : (ups n i r).length = n - nextOf i r := by
  unfold ups
  rw [List.length_map, List.length_range']
theorem ups_at (n i : Nat) (r : Pick) {t : Nat} (h : t < n - nextOf i r) : (ups n i r)[t]? = some (r ++ [nextOf i r + t]) := by
  unfold ups
  rw [List.getElem?_map, List.getElem?_range' h]
  simp
theorem part_len {f : Pick → List Pick} {L : List Pick} {j t : Nat} {x : Pick} (h : L[j]? = some x) : ((L.take j).flatMap f ++ (f x).take t).length ≤ (L.flatMap f).length := by
  have e : L = L.take j ++ x :: L.drop (j + 1) := by
    rw [← drop_more h, List.take_append_drop]
  have e2 : L.flatMap f = (L.take j).flatMap f ++ (f x ++ (L.drop (j + 1)).flatMap f) := by
    conv => lhs; rw [e]
    rw [List.flatMap_append, List.flatMap_cons]
  rw [e2, List.length_append, List.length_append, List.length_append, List.length_take]
  omega
theorem nextOf_snoc (i : Nat) (r : Pick) (x : Nat) : nextOf i (r ++ [x]) = x + 1 := by
  unfold nextOf
  rw [List.getLast?_concat]
theorem nextOf_le {n : Nat} : ∀ {k : Nat} {r : Pick}, r ∈ rowsUp n k → nextOf 0 r ≤ n
  | 0, r, h => by
    have e : r = [] := List.mem_singleton.mp h
    subst e
    exact Nat.zero_le _
  | k + 1, r, h => by
    obtain ⟨q, hq, hr⟩ := List.mem_flatMap.mp h
    obtain ⟨x, hx, rfl⟩ := List.mem_map.mp hr
    obtain ⟨t, ht, e⟩ := List.mem_range'.mp hx
    rw [nextOf_snoc]
    omega
theorem scRowsOf : FnScope ["n", "many", "rows", "turn", "longer", "row", "number"] ["n", "many"] (defScope sRowsOf) := ⟨rfl, rfl, rfl, by decide +kernel, rfl, by decide +kernel, by decide +kernel⟩
theorem c_rowsOf (A : At K mg "rows_of" sRowsOf) (c1 : C8.Cal P w K mg base 1 "first_behind" spFirst []) (mR : mg "range" = none) : C8.Cal P w K mg base 2 "rows_of" spRowsOf [] := by
  refine cal_of (N := ["n", "many", "rows", "turn", "longer", "row", "number"]) (ps := ["n", "many"]) A (fun _ _ _ _ _ _ us hl => match us, hl with | [_, _], _ => rfl) scRowsOf (fun vs H Q E h => ?_) (fun f cdv A outer s H vs Q E hr h => ?_)
  · obtain ⟨n, k, rfl, _⟩ := h
    rfl
  · obtain ⟨n, k, rfl, hn, hk, q⟩ := h
    refine ⟨_, pss_cons (ps_set (i := 2) scRowsOf.nd rfl (.inl rfl) (pe_lst (pa_cons (pe_lst pa_nil) pa_nil)))
      (pss_cons (ps_for PassesOwn.never rfl (pi_range1 rfl mR (pa_cons (pv 1) pa_nil)) (pg_name (i := 3) scRowsOf.nd rfl (.inl rfl))
        (pss_cons (ps_set (i := 4) scRowsOf.nd rfl (.inl rfl) (pe_lst pa_nil))
        (pss_cons (ps_for PassesOwn.never rfl (pi_list (pv 2)) (pg_name (i := 5) scRowsOf.nd rfl (.inl rfl))
          (pss_one (ps_for PassesOwn.never rfl (pi_range2 rfl mR (pa_cons (C8.pe_c c1 hr (by decide) rfl (pa_cons (pv 5) pa_nil)) (pa_cons (pv 0) pa_nil))) (pg_name (i := 6) scRowsOf.nd rfl (.inl rfl))
            (pss_one (ps_expr (pe_bm PySem.F.plainAttrs_list PySem.F.slot_list_append PySem.F.type_list_append mt_append (pv 4) (pa_cons (pe_op op_cat (pv 5) (pe_lst (pa_cons (pv 6) pa_nil))) pa_nil)))))))
        (pss_one (ps_set (i := 2) scRowsOf.nd rfl (.inl rfl) (pv 4))))))
      (pss_one (ps_ret (pv 2)))), ?_⟩
    -- rows = [[]]
    refine ⟨by show 0 ≤ sizeLine; decide, fun p0 hp0 => ⟨by show 1 ≤ sizeLine; decide, fun p1 hp1 => ?_⟩⟩
    have s0 : Same H (upd H p0 (.lst [])) := same_new hp0
    have s1 : Same H (upd (upd H p0 (.lst [])) p1 (.lst [.ref p0])) := snew s0 (Same.free s0 hp1)
    refine ⟨_, rfl, (k : Int), rfl, by omega, by omega, for_range (lo := 0) (n := (k : Int).toNat) (fun i σ H' => Same H H' ∧ ∃ p x3 x4 x5 x6 vs, H p = none ∧ H' p = some (.lst vs) ∧ RowsV H' vs (rowsUp n i) ∧ Fresh H vs ∧ σ = [some (iv n), some (iv k), some (.ref p), x3, x4, x5, x6])
      ⟨s1, p1, none, none, none, none, [.ref p0], Same.free s0 hp1, upd_same, .cons (by rw [upd_ne (ne_of_none (upd_same (H := H) (o := .lst [])) hp1)]; exact upd_same) .nil, fun z hz => by
        cases List.mem_singleton.mp hz
        exact hp0, rfl⟩ (fun i σ H' hi p => ?_) (fun σ H' p => ?_)⟩
    · obtain ⟨sm, p, x3, x4, x5, x6, vs, np, hv, hrow, hfr, rfl⟩ := p
      have hi : i < k := by omega
      have hfull : (rowsUp n (i + 1)).length ≤ 252 := rowsUp_few n (by omega) (i + 1) (by omega)
      -- longer = []
      refine ⟨by show 0 ≤ sizeLine; decide, fun b hb => ?_⟩
      have nb : H b = none := Same.free sm hb
      have s2 : Same H' (upd H' b (.lst [])) := same_new hb
      refine ⟨_, rfl, p, rfl, ⟨_, sl_of (s2 _ _ hv)⟩, for_list (xs := vs) (fun j σ H2 => Same H' H2 ∧ ∃ acc y5 y6, H2 b = some (.lst acc) ∧ RowsV H2 acc (((rowsUp n i).take j).flatMap (ups n 0)) ∧ Fresh H acc ∧ σ = [some (iv n), some (iv k), some (.ref p), some (.int (0 + (i : Int))), some (.ref b), y5, y6])
        ⟨s2, [], _, _, upd_same, .nil, fun z hz => absurd hz List.not_mem_nil, rfl⟩ (fun j σ H2 _ z => sl_of (z.1 _ _ hv)) (fun j x σ H2 hx z => ?_) (fun σ H2 z => ?_)⟩
      · obtain ⟨s3, acc, y5, y6, hacc, hrows, hfa, rfl⟩ := z
        obtain ⟨ra, r, rfl, hr', hra⟩ := hrow.get hx
        have hlen := rowsUp_len (List.mem_of_getElem? hr')
        have hnx := nextOf_le (List.mem_of_getElem? hr')
        -- range(first_behind(row), n)
        refine ⟨_, rfl, ra, r, rfl, s3 _ _ hra, fun H3 s4 => ?_⟩
        refine ⟨_, rfl, _, _, rfl, ⟨by omega, by omega, by omega, by omega⟩, for_range (lo := (nextOf 0 r : Int)) (n := ((n : Int) - (nextOf 0 r : Int)).toNat) (fun t σ H4 => Same H' H4 ∧ ∃ acc y6, H4 b = some (.lst acc) ∧ RowsV H4 acc (((rowsUp n i).take j).flatMap (ups n 0) ++ (ups n 0 r).take t) ∧ Fresh H acc ∧ σ = [some (iv n), some (iv k), some (.ref p), some (.int (0 + (i : Int))), some (.ref b), some (.ref ra), y6])
          ⟨s3.trans s4, acc, _, s4 _ _ hacc, by rw [List.take_zero, List.append_nil]; exact hrows.same s4, hfa, rfl⟩ (fun t σ H4 ht z => ?_) (fun σ H4 z => ?_)⟩
        · obtain ⟨s5, acc, y6, hacc, hrows, hfa, rfl⟩ := z
          have ht : t < n - nextOf 0 r := by omega
          have et : (nextOf 0 r : Int) + (t : Int) = ((nextOf 0 r + t : Nat) : Int) := by omega
          have hbig := part_len (f := ups n 0) (t := t + 1) hr'
          refine ⟨_, rfl, .inl ⟨rfl, _, sl_of hacc⟩, _, rfl, _, rfl, by show 1 ≤ sizeLine; decide, fun p5 hp5 => ?_⟩
          have s6 : Same H4 (upd H4 p5 (.lst [.int ((nextOf 0 r : Int) + (t : Int))])) := same_new hp5
          have hra4 := s5 _ _ hra
          refine ⟨ra, p5, _, _, rfl, rfl, s6 _ _ hra4, upd_same, ?_, fun p6 hp6 => ?_⟩
          · rw [nI_len, hlen, List.length_singleton]
            exact sz252 (by omega)
          · have s7 : Same H4 (upd (upd H4 p5 (.lst [.int ((nextOf 0 r : Int) + (t : Int))])) p6 (.lst (nI r ++ [.int ((nextOf 0 r : Int) + (t : Int))]))) := snew s6 (Same.free s6 hp6)
            refine ⟨b, acc, _, rfl, rfl, s7 _ _ hacc, ?_, ?_⟩
            · rw [hrows.len]
              rw [List.length_append, List.length_take, ups_len] at hbig ⊢
              have hfull' : ((rowsUp n i).flatMap (ups n 0)).length ≤ 252 := hfull
              exact sz252' (by omega)
            · have hne : p6 ≠ b := fun z => by
                rw [z, s6 _ _ hacc] at hp6
                cases hp6
              refine ⟨fun c o e => ?_, acc ++ [.ref p6], some (.int ((nextOf 0 r : Int) + (t : Int))), upd_same, ?_, fun z hz => ?_, rfl⟩
              · rw [upd_ne (ne_of_none e hb)]
                exact s7 _ _ (s5 _ _ e)
              · rw [take_more (ups_at n 0 r ht), ← List.append_assoc]
                refine ((hrows.same s7).push (s7 _ _ hacc)).snoc ?_
                rw [upd_ne hne, upd_same, nI_append, et]
                rfl
              · rcases List.mem_append.mp hz with hz | hz
                · exact hfa z hz
                · cases List.mem_singleton.mp hz
                  exact Same.free sm (Same.free s5 (Same.free s6 hp6))
        · obtain ⟨s5, acc, y6, hacc, hrows, hfa, rfl⟩ := z
          refine ⟨s5, acc, _, y6, hacc, ?_, hfa, rfl⟩
          rw [take_more hr', List.flatMap_append, List.flatMap_cons, List.flatMap_nil, List.append_nil]
          have e : (((n : Int) - (nextOf 0 r : Int)).toNat) = (ups n 0 r).length := by
            rw [ups_len]
            omega
          rw [e, List.take_length] at hrows
          exact hrows
      · obtain ⟨s3, acc, y5, y6, hacc, hrows, hfa, rfl⟩ := z
        refine ⟨_, rfl, sm.trans s3, b, _, _, y5, y6, acc, nb, hacc, ?_, hfa, rfl⟩
        rw [hrow.len, List.take_length] at hrows
        exact hrows
    · obtain ⟨sm, p, x3, x4, x5, x6, vs, np, hv, hrows, hfr, rfl⟩ := p
      exact ⟨_, rfl, q H' p vs sm np hv (by rw [show (k : Int).toNat = k by omega] at hrows; exact hrows) hfr⟩

theorem scIsRow : FnScope ["numbers", "n", "many", "k"] ["numbers", "n", "many"] (defScope sIsRow) := ⟨rfl, rfl, rfl, by decide +kernel, rfl, by decide +kernel, by decide +kernel⟩
theorem c_isRow (A : At K mg "is_row" sIsRow) (mL : mg "len" = none) (mR : mg "range" = none) : C8.Cal P w K mg base 1 "is_row" spIsRow [] := by
  refine cal_of (N := ["numbers", "n", "many", "k"]) (ps := ["numbers", "n", "many"]) A (fun _ _ _ _ _ _ us hl => match us, hl with | [_, _, _], _ => rfl) scIsRow (fun vs H Q E h => ?_) (fun f cdv A outer s H vs Q E hr h => ?_)
  · obtain ⟨a, l, n, k, rfl, _⟩ := h
    rfl
  · obtain ⟨a, l, n, k, rfl, ha, hk, q⟩ := h
    refine ⟨_, pss_cons (ps_if (pt_cmpR op_ne (pe_callB call_len_seq rfl mL PySem.boot_len (pa_cons (pv 0) pa_nil)) (pv 2) (nomark _)) (pss_one (ps_ret pe_bl)) pss_nil)
      (pss_cons (ps_for PassesOwn.never rfl (pi_range1 rfl mR (pa_cons (pv 2) pa_nil)) (pg_name (i := 3) scIsRow.nd rfl (.inl rfl))
        (pss_cons (ps_if (pt_cmpR op_ge (pe_ix ix_list (pv 0) (pv 3) (fun _ _ => rfl)) (pv 1) (nomark _)) (pss_one (ps_ret pe_bl)) pss_nil)
        (pss_one (ps_if (PW.pt (pw_and (pt_cmpR op_gt (pv 3) pe_int (nomark _)) (pw_and1 (pt_cmpR op_ge (pe_ix ix_list (pv 0) (pe_op op_sub (pv 3) pe_int) (fun _ _ => rfl)) (pe_ix ix_list (pv 0) (pv 3) (fun _ _ => rfl)) (nomark _))))) (pss_one (ps_ret pe_bl)) pss_nil))))
      (pss_one (ps_ret pe_bl))), ?_⟩
    refine ⟨_, rfl, a, nI l, rfl, .inl (sl_of ha), _, rfl, rfl, _, rfl, ?_⟩
    refine ite2 (fun h => ?_) (fun h => ?_)
    · have h : l.length ≠ k := fun z => by
        have e : V.int ((nI l).length : Int) = iv k := by
          rw [nI_len, z]
          rfl
        rw [decide_eq_true e] at h
        cases h
      show Q (.bl false) H
      rw [isP_no h] at q
      exact q
    · have hl : l.length = k := by
        have e : V.int ((nI l).length : Int) = iv k := by
          by_cases z : V.int ((nI l).length : Int) = iv k
          · exact z
          · rw [decide_eq_false z] at h
            exact (h rfl).elim
        have e2 := V.int.inj e
        rw [nI_len] at e2
        omega
      refine ⟨_, rfl, (k : Int), rfl, by omega, by omega, for_range (lo := 0) (n := (k : Int).toNat) (fun i σ H' => H' = H ∧ (∀ j, j < i → goodAt n l j) ∧ ∃ x3, σ = [some (.ref a), some (iv n), some (iv k), x3]) ⟨rfl, fun j h => absurd h (Nat.not_lt_zero _), none, rfl⟩ (fun i σ H' hi p => ?_) (fun σ H' p => ?_)⟩
      · obtain ⟨rfl, hg, x3, rfl⟩ := p
        have hi : i < l.length := by omega
        have e0 : (0 : Int) + (i : Int) = (i : Int) := Int.zero_add _
        rw [e0]
        have hat : l[i]? = some (l.getD i 0) := by
          rw [List.getD_eq_getElem?_getD, List.getElem?_eq_getElem hi]
          rfl
        refine ⟨_, rfl, _, rfl, a, nI l, (i : Int), _, rfl, rfl, sl_of ha, atI_nat (nI_at hat), _, rfl, _, _, rfl, rfl, _, rfl, ?_⟩
        refine ite2 (fun h => ?_) (fun h => ?_)
        · have h : ¬ l.getD i 0 < n := by
            have := of_decide_eq_true h
            omega
          have hf : isP n k l = false := by
            cases e : isP n k l with
            | false => rfl
            | true => exact (h ((isP_iff hl).mp e i (by omega)).1).elim
          show Q (.bl false) _
          rw [hf] at q
          exact q
        · have h : l.getD i 0 < n := Nat.lt_of_not_le fun z => h (decide_eq_true (by omega))
          refine ⟨_, rfl, _, _, rfl, rfl, _, rfl, ?_⟩
          refine ite2 (fun h0 => ?_) (fun h0 => ?_)
          · have h0 : 0 < i := by
              have := of_decide_eq_true h0
              omega
            have hat1 : l[i - 1]? = some (l.getD (i - 1) 0) := by
              rw [List.getD_eq_getElem?_getD, List.getElem?_eq_getElem (by omega)]
              rfl
            have e1 : (i : Int) - 1 = ((i - 1 : Nat) : Int) := by omega
            refine ⟨_, rfl, _, rfl, _, _, rfl, rfl, a, nI l, _, iv (l.getD (i - 1) 0), rfl, rfl, sl_of ha, ?_, _, rfl, _, rfl, a, nI l, (i : Int), _, rfl, rfl, sl_of ha, atI_nat (nI_at hat), _, _, rfl, rfl, _, rfl, ?_⟩
            · rw [e1]
              exact atI_nat (nI_at hat1)
            · refine ite2 (fun h1 => ?_) (fun h1 => ?_)
              · have h1 : ¬ l.getD (i - 1) 0 < l.getD i 0 := by
                  have := of_decide_eq_true h1
                  omega
                have hf : isP n k l = false := by
                  cases e : isP n k l with
                  | false => rfl
                  | true => exact (h1 (((isP_iff hl).mp e i (by omega)).2 h0)).elim
                show Q (.bl false) _
                rw [hf] at q
                exact q
              · have h1 : l.getD (i - 1) 0 < l.getD i 0 := Nat.lt_of_not_le fun z => h1 (decide_eq_true (by omega))
                refine ⟨rfl, fun j hj => ?_, _, rfl⟩
                by_cases z : j = i
                · subst z
                  exact ⟨h, fun _ => h1⟩
                · exact hg j (by omega)
          · have h0 : ¬ 0 < i := fun z => h0 (decide_eq_true (by omega))
            refine iteF ⟨rfl, fun j hj => ?_, _, rfl⟩
            by_cases z : j = i
            · subst z
              exact ⟨h, fun y => (h0 y).elim⟩
            · exact hg j (by omega)
      · obtain ⟨rfl, hg, x3, rfl⟩ := p
        show Q (.bl true) _
        have ht : isP n k l = true := (isP_iff hl).mpr fun i hi => hg i (by omega)
        rw [ht] at q
        exact q
end
end Wd

set_option Elab.async false
set_option linter.all false
set_option maxRecDepth 100000
set_option maxHeartbeats 4000000
/-! the wheel in the heap; asks, the first half: laid_out, matches, worst, covers, best_more -/
namespace Wd
open PySem PySem.Spec PyProof.Rows L2
open Mu24 (Pick right most State allTickets allDraws nums)
abbrev sLaid : Stmt := tops 25
abbrev sMatches : Stmt := tops 26
abbrev sWorst : Stmt := tops 27
abbrev sCovers : Stmt := tops 28
abbrev sMore : Stmt := tops 29

/-! ### the wheel -/
def wF (s : State) (ak ad at' : Addr) : List (Str × V) := [("n", iv s.n), ("k", iv s.k), ("t", iv s.t), ("kinds", .ref ak), ("draws", .ref ad), ("tickets", .ref at')]
theorem lk_here {k : Str} {v : V} {r : List (Str × V)} : List.lookup k ((k, v) :: r) = some v := by
  unfold List.lookup
  rw [beq_self_eq_true k]
theorem lk_past {k g : Str} {v : V} {r : List (Str × V)} (h : (k == g) = false) : List.lookup k ((g, v) :: r) = List.lookup k r := by
  conv => lhs; unfold List.lookup
  rw [h]
theorem lk_end {k : Str} : List.lookup k ([] : List (Str × V)) = none := rfl
section
variable (s : State) (ak ad at' : Addr)
theorem wF_n : (wF s ak ad at').lookup ("n" : Str) = some (iv s.n) := lk_here
theorem wF_k : (wF s ak ad at').lookup ("k" : Str) = some (iv s.k) := (lk_past (by decide +kernel)).trans lk_here
theorem wF_t : (wF s ak ad at').lookup ("t" : Str) = some (iv s.t) := (lk_past (by decide +kernel)).trans ((lk_past (by decide +kernel)).trans lk_here)
theorem wF_kinds : (wF s ak ad at').lookup ("kinds" : Str) = some (.ref ak) := (lk_past (by decide +kernel)).trans ((lk_past (by decide +kernel)).trans ((lk_past (by decide +kernel)).trans lk_here))
theorem wF_draws : (wF s ak ad at').lookup ("draws" : Str) = some (.ref ad) := (lk_past (by decide +kernel)).trans ((lk_past (by decide +kernel)).trans ((lk_past (by decide +kernel)).trans ((lk_past (by decide +kernel)).trans lk_here)))
theorem wF_tickets : (wF s ak ad at').lookup ("tickets" : Str) = some (.ref at') :=
  (lk_past (by decide +kernel)).trans ((lk_past (by decide +kernel)).trans ((lk_past (by decide +kernel)).trans ((lk_past (by decide +kernel)).trans ((lk_past (by decide +kernel)).trans lk_here))))
theorem wF_not {m : Str} (h : ([("n" : Str), "k", "t", "kinds", "draws", "tickets"].all fun x => !(m == x)) = true) : (wF s ak ad at').lookup m = none := by
  simp only [List.all_cons, List.all_nil, Bool.and_true, Bool.and_eq_true, Bool.not_eq_true'] at h
  obtain ⟨h1, h2, h3, h4, h5, h6⟩ := h
  exact (lk_past h1).trans ((lk_past h2).trans ((lk_past h3).trans ((lk_past h4).trans ((lk_past h5).trans ((lk_past h6).trans lk_end)))))
end
/-- at a a wheel in the state s, its bought tickets' list at at' -/
structure WheelAt (C : Addr) (H : Hp) (a at' : Addr) (s : State) : Prop where
  ex : ∃ dx ak ad, H a = some (.ins C dx (wF s ak ad at')) ∧ ak ≠ at' ∧ ad ≠ at' ∧ RowsAt H ak (allTickets s) ∧ RowsAt H ad (allDraws s) ∧ RowsAt H at' s.tickets
  good : Good s
theorem WheelAt.same {C : Addr} {H H' : Hp} {a at' : Addr} {s : State} (h : WheelAt C H a at' s) (sm : Same H H') : WheelAt C H' a at' s := by
  obtain ⟨⟨dx, ak, ad, h1, h2, h3, h4, h5, h6⟩, g⟩ := h
  exact ⟨⟨dx, ak, ad, sm _ _ h1, h2, h3, h4.same sm, h5.same sm, h6.same sm⟩, g⟩
/-- the list at l is not at z and does not refer to it -/
def Off (H : Hp) (z l : Addr) : Prop := l ≠ z ∧ ∀ vs, H l = some (.lst vs) → V.ref z ∉ vs
/-- the wheel at a has nothing to do with z -/
def Apart (H : Hp) (a z : Addr) : Prop := ∀ C dx fs f l, H a = some (.ins C dx fs) → (f, V.ref l) ∈ fs → Off H z l
theorem wF_mem {s : State} {ak ad at' l : Addr} {f : Str} (h : (f, V.ref l) ∈ wF s ak ad at') : l = ak ∨ l = ad ∨ l = at' := by
  unfold wF iv at h
  simp at h
  rcases h with h | h | h
  · exact .inl h.2
  · exact .inr (.inl h.2)
  · exact .inr (.inr h.2)
theorem apart_mk {H : Hp} {a z C dx ak ad at' : Addr} {s : State} (hw : H a = some (.ins C dx (wF s ak ad at'))) (h1 : Off H z ak) (h2 : Off H z ad) (h3 : Off H z at') : Apart H a z := fun C1 dx1 fs1 f l e m => by
  rw [hw] at e
  cases e
  rcases wF_mem m with rfl | rfl | rfl
  · exact h1
  · exact h2
  · exact h3
theorem Apart.at_ {H : Hp} {a z C dx ak ad at' : Addr} {s : State} (h : Apart H a z) (hw : H a = some (.ins C dx (wF s ak ad at'))) : Off H z ak ∧ Off H z ad ∧ Off H z at' :=
  ⟨h C dx _ "kinds" ak hw (by unfold wF; simp), h C dx _ "draws" ad hw (by unfold wF; simp), h C dx _ "tickets" at' hw (by unfold wF; simp)⟩
theorem Off.keep {H H' : Hp} {z l : Addr} {vs : List V} (h : Off H z l) (e : H l = some (.lst vs)) (e' : H' l = some (.lst vs)) : Off H' z l := ⟨h.1, fun ws w => by
  rw [e'] at w
  cases w
  exact h.2 vs e⟩
theorem off_new {H H' : Hp} {z l : Addr} {vs : List V} (hz : H z ≠ none) (hl : H l = none) (e : H' l = some (.lst vs)) (hv : V.ref z ∉ vs) : Off H' z l := ⟨fun q => hz (by rw [← q]; exact hl), fun ws w => by
  rw [e] at w
  cases w
  exact hv⟩
theorem WheelAt.apart {C : Addr} {H H' : Hp} {a at' z : Addr} {s : State} (h : WheelAt C H a at' s) (sm : Same H H') (ap : Apart H a z) : Apart H' a z := by
  obtain ⟨⟨dx, ak, ad, hw, n1, n2, ⟨ks, hks, _⟩, ⟨ds, hds, _⟩, ⟨ts, hts, _⟩⟩, _⟩ := h
  obtain ⟨o1, o2, o3⟩ := ap.at_ hw
  exact apart_mk (sm _ _ hw) (o1.keep hks (sm _ _ hks)) (o2.keep hds (sm _ _ hds)) (o3.keep hts (sm _ _ hts))
theorem RowsV.apart {H : Hp} {z : Addr} {vs : List V} {l : List Pick} {o : HO} (h : RowsV H vs l) (hz : V.ref z ∉ vs) : RowsV (upd H z o) vs l := by
  induction h with
  | nil => exact .nil
  | cons e _ ih =>
    refine .cons ?_ (ih fun m => hz (List.mem_cons_of_mem _ m))
    rw [upd_ne (fun q => hz (by rw [q]; exact List.mem_cons_self ..))]
    exact e
/-- where z changes a wheel that has nothing to do with it stays -/
theorem WheelAt.off {C : Addr} {H : Hp} {a at' z : Addr} {s : State} {o : HO} (h : WheelAt C H a at' s) (ne : a ≠ z) (ap : Apart H a z) : WheelAt C (upd H z o) a at' s ∧ Apart (upd H z o) a z := by
  obtain ⟨⟨dx, ak, ad, hw, n1, n2, ⟨ks, hks, hkr⟩, ⟨ds, hds, hdr⟩, ⟨ts, hts, htr⟩⟩, g⟩ := h
  obtain ⟨o1, o2, o3⟩ := ap.at_ hw
  have e0 : upd H z o a = some (.ins C dx (wF s ak ad at')) := by rw [upd_ne ne]; exact hw
  have e1 : upd H z o ak = some (.lst ks) := by rw [upd_ne o1.1]; exact hks
  have e2 : upd H z o ad = some (.lst ds) := by rw [upd_ne o2.1]; exact hds
  have e3 : upd H z o at' = some (.lst ts) := by rw [upd_ne o3.1]; exact hts
  exact ⟨⟨⟨dx, ak, ad, e0, n1, n2, ⟨ks, e1, hkr.apart (o1.2 ks hks)⟩, ⟨ds, e2, hdr.apart (o2.2 ds hds)⟩, ⟨ts, e3, htr.apart (o3.2 ts hts)⟩⟩, g⟩, apart_mk e0 (o1.keep hks e1) (o2.keep hds e2) (o3.keep hts e3)⟩
/-- what was apart stays apart -/
def Aparts (H H' : Hp) (a : Addr) : Prop := ∀ z, H z ≠ none → Apart H a z → Apart H' a z
theorem WheelAt.aparts {C : Addr} {H H' : Hp} {a at' : Addr} {s : State} (h : WheelAt C H a at' s) (sm : Same H H') : Aparts H H' a := fun z _ ap => h.apart sm ap
/-- what the top has written of the class -/
structure WTxt (K : PySem.W.Frag) (C : Addr) : Prop where
  cl : Cls K C
  n : NoAttr K C "n"
  k : NoAttr K C "k"
  t : NoAttr K C "t"
  kinds : NoAttr K C "kinds"
  draws : NoAttr K C "draws"
  tickets : NoAttr K C "tickets"

/-! ### answers -/
def aI (l : List Int) : List V := l.map V.int
theorem aI_nums (l : List Nat) : aI (nums l) = nI l := by
  unfold aI nums nI
  rw [List.map_map]
  rfl
/-- a new list of this answer is handed back, all else as it was -/
def Tells (H : Hp) (Q : VK) (ans : List Int) : Prop := ∀ (H' : Hp) (p : Addr), Same H H' → H p = none → H' p = some (.lst (aI ans)) → Q (.ref p) H'
theorem flat_nums (l : List Pick) : l.flatMap nums = nums l.flatten := by
  unfold nums
  rw [List.map_flatten]
  rfl
theorem flatten_len {l : List Pick} {k : Nat} (h : ∀ r ∈ l, r.length ≤ k) : l.flatten.length ≤ k * l.length := by
  induction l with
  | nil => exact Nat.zero_le _
  | cons r l ih =>
    have h1 := h r (List.mem_cons_self ..)
    have h2 := ih fun q hq => h q (List.mem_cons_of_mem _ hq)
    rw [List.flatten_cons, List.length_append, List.length_cons, Nat.mul_succ]
    omega

def spLaid : Sp := fun vs H Q _ => ∃ (a : Addr) (l : List Pick), vs = [.ref a] ∧ RowsAt H a l ∧ l.length ≤ 252 ∧ (∀ r ∈ l, r.length ≤ 10) ∧ Tells H Q ((l.length : Int) :: l.flatMap nums)
def spMatches (C : Addr) : Sp := fun vs H Q _ => ∃ (a at' b : Addr) (s : State) (d : Pick), vs = [.ref a, .ref b] ∧ WheelAt C H a at' s ∧ H b = some (.lst (nI d)) ∧
  Tells H Q (if Mu24.isPick s s.t d = false then [-1] else nums (most s.tickets d :: s.tickets.map fun (a : Pick) => right a d))
def spWorst (C : Addr) : Sp := fun vs H Q _ => ∃ (a at' : Addr) (s : State), vs = [.ref a] ∧ WheelAt C H a at' s ∧ Tells H Q (nums ((Mu24.worst s s.tickets).1 :: (Mu24.worst s s.tickets).2))
def spCovers (C : Addr) : Sp := fun vs H Q _ => ∃ (a at' : Addr) (s : State) (m : Nat), vs = [.ref a, iv m] ∧ WheelAt C H a at' s ∧
  Tells H Q (nums [Mu24.covered s s.tickets m, Mu24.draws s, (Mu24.lowest (Mu24.covered s s.tickets m) (Mu24.draws s)).1, (Mu24.lowest (Mu24.covered s s.tickets m) (Mu24.draws s)).2])
def spMore (C : Addr) : Sp := fun vs H Q _ => ∃ (a at' : Addr) (s : State) (m : Nat), vs = [.ref a, iv m] ∧ WheelAt C H a at' s ∧ Tells H Q (nextAns s m)

section
variable {P : Program} {w : World} {K : PySem.W.Frag} {mg : Str → Option Value} {base : Heap} {C : Addr}
theorem scLaid : FnScope ["tickets", "found", "ticket"] ["tickets"] (defScope sLaid) := ⟨rfl, rfl, rfl, by decide +kernel, rfl, by decide +kernel, by decide +kernel⟩
theorem c_laid (A : At K mg "laid_out" sLaid) (mL : mg "len" = none) : C8.Cal P w K mg base 1 "laid_out" spLaid [] := by
  refine cal_of (N := ["tickets", "found", "ticket"]) (ps := ["tickets"]) A (fun _ _ _ _ _ _ us hl => match us, hl with | [_], _ => rfl) scLaid (fun vs H Q E h => ?_) (fun f cdv A outer s H vs Q E hr h => ?_)
  · obtain ⟨a, l, rfl, _⟩ := h
    rfl
  · obtain ⟨a, l, rfl, ⟨ws, ha, hw⟩, hl, hlen, q⟩ := h
    refine ⟨_, pss_cons (ps_set (i := 1) scLaid.nd rfl (.inl rfl) (pe_lst (pa_cons (pe_callB call_len_seq rfl mL PySem.boot_len (pa_cons (pv 0) pa_nil)) pa_nil)))
      (pss_cons (ps_for PassesOwn.never rfl (pi_list (pv 0)) (pg_name (i := 2) scLaid.nd rfl (.inl rfl))
        (pss_one (ps_expr (pe_bm PySem.F.plainAttrs_list PySem.F.slot_list_extend PySem.F.type_list_extend mt_extend (pv 1) (pa_cons (pv 2) pa_nil)))))
      (pss_one (ps_ret (pv 1)))), ?_⟩
    refine ⟨_, rfl, a, ws, rfl, .inl (sl_of ha), by show 1 ≤ sizeLine; decide, fun b hb => ?_⟩
    have s1 : Same H (upd H b (.lst [.int (ws.length : Int)])) := same_new hb
    have hcount : ∀ i, (l.take i).flatten.length ≤ 2520 := fun i => by
      have := flatten_len (l := l.take i) (k := 10) fun r hr => hlen r (List.mem_of_mem_take hr)
      rw [List.length_take] at this
      omega
    refine ⟨_, rfl, a, rfl, ⟨_, sl_of (s1 _ _ ha)⟩, for_list (xs := ws) (fun i σ H' => Same H H' ∧ H' b = some (.lst (nI (l.length :: (l.take i).flatten))) ∧ ∃ x, σ = [some (.ref a), some (.ref b), x]) ⟨s1, ?_, none, rfl⟩ (fun i σ H' _ p => sl_of (p.1 _ _ ha)) (fun i x σ H' hx p => ?_) (fun σ H' p => ?_)⟩
    · rw [upd_same, hw.len]
      rfl
    · obtain ⟨sm, hp, y, rfl⟩ := p
      obtain ⟨ra, r, rfl, hr', hra⟩ := hw.get hx
      refine ⟨_, rfl, .inl ⟨rfl, _, sl_of hp⟩, _, rfl, b, ra, _, _, rfl, rfl, hp, sm _ _ hra, ?_, snew sm hb, ?_, _, rfl⟩
      · rw [nI_len, nI_len, List.length_cons]
        have h1 := hcount i
        have h2 := hlen r (List.mem_of_getElem? hr')
        exact Nat.le_trans (by omega : _ ≤ 10000) (by decide)
      · rw [upd_same, take_more hr', List.flatten_append, List.flatten_cons, List.flatten_nil, List.append_nil, ← nI_append, List.cons_append]
    · obtain ⟨sm, hp, y, rfl⟩ := p
      refine ⟨_, rfl, q H' b sm hb ?_⟩
      rw [hp, hw.len, List.take_length, flat_nums]
      show some (HO.lst (nI (l.length :: l.flatten))) = some (HO.lst (aI (nums (l.length :: l.flatten))))
      rw [aI_nums]

theorem scMatches : FnScope ["wheel", "draw"] ["wheel", "draw"] (defScope sMatches) := ⟨rfl, rfl, rfl, by decide +kernel, rfl, by decide +kernel, by decide +kernel⟩
theorem c_matches (T : WTxt K C) (A : At K mg "matches" sMatches) (c1 : C8.Cal P w K mg base 1 "is_row" spIsRow []) (c2 : C8.Cal P w K mg base 3 "best_of" spBest []) (c3 : C8.Cal P w K mg base 2 "rights_of" spRights []) : C8.Cal P w K mg base 4 "matches" (spMatches C) [] := by
  refine cal_of (N := ["wheel", "draw"]) (ps := ["wheel", "draw"]) A (fun _ _ _ _ _ _ us hl => match us, hl with | [_, _], _ => rfl) scMatches (fun vs H Q E h => ?_) (fun f cdv A outer s H vs Q E hr h => ?_)
  · obtain ⟨a, at', b, s, d, rfl, _⟩ := h
    rfl
  · obtain ⟨a, at', b, st, d, rfl, ⟨⟨dx, ak, ad, hw, n1, n2, rk, rd, rt⟩, g⟩, hb, q⟩ := h
    refine ⟨_, pss_cons (ps_if (pt_not (pt_val (C8.pe_c c1 hr (by decide) rfl (pa_cons (pv 1) (pa_cons (pe_fld (pv 0) rfl) (pa_cons (pe_fld (pv 0) rfl) pa_nil)))))) (pss_one (ps_ret (pe_lst (pa_cons (pe_un un_neg pe_int) pa_nil)))) pss_nil)
      (pss_one (ps_ret (pe_op op_cat (pe_lst (pa_cons (C8.pe_c c2 hr (by decide) rfl (pa_cons (pe_fld (pv 0) rfl) (pa_cons (pv 1) pa_nil))) pa_nil)) (C8.pe_c c3 hr (by decide) rfl (pa_cons (pe_fld (pv 0) rfl) (pa_cons (pv 1) pa_nil)))))), ?_⟩
    refine ⟨_, rfl, _, rfl, a, C, dx, _, _, rfl, hw, T.cl, T.n, wF_n _ _ _ _, _, rfl, a, C, dx, _, _, rfl, hw, T.cl, T.t, wF_t _ _ _ _, b, d, st.n, st.t, rfl, hb, g.t6, _, rfl, ?_⟩
    rw [isPick_is] at q
    refine ite2 (fun h => ?_) (fun h => ?_)
    · have h : isP st.n st.t d = false := by simpa using h
      rw [if_pos h] at q
      exact ⟨_, rfl, by show 1 ≤ sizeLine; decide, fun p hp => q _ p (same_new hp) hp upd_same⟩
    · have h : ¬ isP st.n st.t d = false := by simpa using h
      rw [if_neg h] at q
      have hf : st.tickets.length ≤ 252 := by have := g.few; omega
      refine ⟨_, rfl, a, C, dx, _, _, rfl, hw, T.cl, T.tickets, wF_tickets _ _ _ _, _, rfl, at', b, st.tickets, d, rfl, rt, hb, hf, fun H1 s1 => ?_⟩
      refine ⟨by show 1 ≤ sizeLine; decide, fun p1 hp1 => ?_⟩
      have s2 : Same H (upd H1 p1 (.lst [iv (most st.tickets d)])) := snew s1 (Same.free s1 hp1)
      refine ⟨_, rfl, a, C, dx, _, _, rfl, s2 _ _ hw, T.cl, T.tickets, wF_tickets _ _ _ _, _, rfl, at', b, st.tickets, d, rfl, rt.same s2, s2 _ _ hb, hf, fun H3 p3 s3 n3 h3 => ?_⟩
      refine ⟨p1, p3, _, _, rfl, rfl, s3 _ _ upd_same, h3, ?_, fun p4 hp4 => ?_⟩
      · rw [nI_len, List.length_map, List.length_singleton]
        exact Nat.le_trans (by omega : _ ≤ 1000) (by decide)
      · refine q _ p4 (snew (s2.trans s3) (Same.free (s2.trans s3) hp4)) (Same.free (s2.trans s3) hp4) ?_
        rw [upd_same, aI_nums]
        rfl

theorem first_at {l : List Nat} {v : Nat} (h : v ∈ l) : ∃ j : Nat, l[j]? = some v ∧ ∀ i : Nat, i < j → l[i]? ≠ some v := by
  induction l with
  | nil => cases h
  | cons a l ih =>
    by_cases e : a = v
    · exact ⟨0, by rw [e]; rfl, fun i hi => absurd hi (Nat.not_lt_zero _)⟩
    · have hm : v ∈ l := by
        rcases List.mem_cons.mp h with z | z
        · exact (e z.symm).elim
        · exact z
      obtain ⟨j, h1, h2⟩ := ih hm
      refine ⟨j + 1, by simpa using h1, fun i hi => ?_⟩
      cases i with
      | zero => simpa using e
      | succ i => simpa using h2 i (by omega)
theorem eqV_iv (a b : Nat) : eqV (iv a) (iv b) = decide (a = b) := by
  show decide ((a : Int) = (b : Int)) = _
  by_cases h : a = b
  · subst h
    simp
  · rw [decide_eq_false h]
    exact decide_eq_false (by omega)
theorem scWorst : FnScope ["wheel", "bests", "least"] ["wheel"] (defScope sWorst) := ⟨rfl, rfl, rfl, by decide +kernel, rfl, by decide +kernel, by decide +kernel⟩
theorem boot_min' : bootBuiltins "min" = some (.builtin "min") := by decide +kernel
theorem c_worst (T : WTxt K C) (A : At K mg "worst" sWorst) (c1 : C8.Cal P w K mg base 4 "bests_of" spBests []) (mM : mg "min" = none) : C8.Cal P w K mg base 5 "worst" (spWorst C) [] := by
  refine cal_of (N := ["wheel", "bests", "least"]) (ps := ["wheel"]) A (fun _ _ _ _ _ _ us hl => match us, hl with | [_], _ => rfl) scWorst (fun vs H Q E h => ?_) (fun f cdv A outer s H vs Q E hr h => ?_)
  · obtain ⟨a, at', s, rfl, _⟩ := h
    rfl
  · obtain ⟨a, at', st, rfl, ⟨⟨dx, ak, ad, hw, n1, n2, rk, rd, rt⟩, g⟩, q⟩ := h
    refine ⟨_, pss_cons (ps_set (i := 1) scWorst.nd rfl (.inl rfl) (C8.pe_c c1 hr (by decide) rfl (pa_cons (pe_fld (pv 0) rfl) (pa_cons (pe_fld (pv 0) rfl) pa_nil))))
      (pss_cons (ps_set (i := 2) scWorst.nd rfl (.inl rfl) (pe_callB (cr_min rfl) rfl mM boot_min' (pa_cons (pv 1) pa_nil)))
      (pss_one (ps_ret (pe_op op_cat (pe_lst (pa_cons (pv 2) pa_nil)) (pe_ix ix_list (pe_fld (pv 0) rfl) (pe_bm PySem.F.plainAttrs_list PySem.F.slot_list_index PySem.F.type_list_index mt_index (pv 1) (pa_cons (pv 2) pa_nil)) (fun _ _ => rfl)))))), ?_⟩
    have hf : st.tickets.length ≤ 252 := by have := g.few; omega
    have hd := g.draws_few
    refine ⟨_, rfl, a, C, dx, _, _, rfl, hw, T.cl, T.tickets, wF_tickets _ _ _ _, _, rfl, a, C, dx, _, _, rfl, hw, T.cl, T.draws, wF_draws _ _ _ _, at', ad, st.tickets, allDraws st, rfl, rt, rd, hf, hd, fun H1 p1 s1 m1 h1 => ?_⟩
    refine ⟨_, rfl, p1, ((allDraws st).map fun d => most st.tickets d).map (fun (n : Nat) => (n : Int)), rfl, by rw [← nI_map]; exact sl_of h1, ?_, fun m hm hu => ?_⟩
    · rw [List.length_map, List.length_map]
      exact List.length_pos_iff.mpr g.draws_ne
    obtain ⟨v, hv, rfl⟩ := List.mem_map.mp hm
    have hlow : ∀ d ∈ allDraws st, v ≤ most st.tickets d := fun d hd => by
      have := hu (most st.tickets d : Int) (List.mem_map.mpr ⟨_, List.mem_map.mpr ⟨d, hd, rfl⟩, rfl⟩)
      omega
    obtain ⟨j, hj1, hj2⟩ := first_at hv
    obtain ⟨d, hd1, hd2⟩ : ∃ d, (allDraws st)[j]? = some d ∧ most st.tickets d = v := by
      rw [List.getElem?_map] at hj1
      cases e : (allDraws st)[j]? with
      | none => rw [e] at hj1; cases hj1
      | some d =>
        rw [e] at hj1
        exact ⟨d, rfl, Option.some.inj hj1⟩
    have hworst : Mu24.worst st st.tickets = (v, d) := by
      refine worst_at (fun d => most st.tickets d) (st.n + 1) v ?_ (allDraws st) j d hlow hd1 hd2 fun i d' hi he z => ?_
      · have h1 : most st.tickets d ≤ st.k := most_le fun a ha => Nat.le_of_eq (g.len a ha)
        have := g.kn
        omega
      · refine hj2 i hi ?_
        rw [List.getElem?_map, he]
        exact congrArg some z
    obtain ⟨vs, hvs, hrows⟩ := rd
    have hlenv : j < vs.length := by
      rw [hrows.len]
      exact (List.getElem?_eq_some_iff.mp hd1).1
    have hvj : vs[j]? = some vs[j] := List.getElem?_eq_getElem hlenv
    obtain ⟨rb, r, e1, e2, e3⟩ := hrows.get hvj
    obtain rfl : d = r := by
      rw [hd1] at e2
      exact Option.some.inj e2
    refine ⟨_, rfl, by show 1 ≤ sizeLine; decide, fun p2 hp2 => ?_⟩
    have s2 : Same H (upd H1 p2 (.lst [iv v])) := snew s1 (Same.free s1 hp2)
    have h1' : upd H1 p2 (.lst [iv v]) p1 = some (.lst (nI ((allDraws st).map fun d => most st.tickets d))) := by
      rw [upd_ne (ne_of_none h1 hp2)]
      exact h1
    refine ⟨_, rfl, a, C, dx, _, _, rfl, s2 _ _ hw, T.cl, T.draws, wF_draws _ _ _ _, _, rfl, .inl ⟨rfl, _, sl_of h1'⟩, _, rfl, p1, _, iv v, j, iv v, rfl, rfl, sl_of h1', rfl, flat_nI _, nI_at hj1, ?_, fun i z' hi hz => ?_, ?_⟩
    · rw [eqV_iv]
      exact decide_eq_true rfl
    · obtain ⟨n, hn, rfl⟩ := nI_get hz
      rw [eqV_iv]
      exact decide_eq_false fun e => hj2 i hi (by rw [hn, e])
    · refine ⟨ad, vs, (j : Int), .ref rb, rfl, rfl, sl_of (s2 _ _ hvs), atI_nat (by rw [hvj, e1]), p2, rb, _, _, rfl, rfl, upd_same, s2 _ _ e3, ?_, fun p4 hp4 => ?_⟩
      · rw [nI_len, draws_len (List.mem_of_getElem? hd1), List.length_singleton]
        have := g.t6
        exact sz252 (by omega)
      · refine q _ p4 (snew s2 (Same.free s2 hp4)) (Same.free s2 hp4) ?_
        rw [upd_same, aI_nums, hworst]
        rfl

theorem scCovers : FnScope ["wheel", "m", "many", "covered"] ["wheel", "m"] (defScope sCovers) := ⟨rfl, rfl, rfl, by decide +kernel, rfl, by decide +kernel, by decide +kernel⟩
theorem c_covers (T : WTxt K C) (A : At K mg "covers" sCovers) (c1 : C8.Cal P w K mg base 4 "open_draws" spOpen []) (c2 : C8.Cal P w K mg base 2 "lowest" spLow []) (mL : mg "len" = none) : C8.Cal P w K mg base 5 "covers" (spCovers C) [] := by
  refine cal_of (N := ["wheel", "m", "many", "covered"]) (ps := ["wheel", "m"]) A (fun _ _ _ _ _ _ us hl => match us, hl with | [_, _], _ => rfl) scCovers (fun vs H Q E h => ?_) (fun f cdv A outer s H vs Q E hr h => ?_)
  · obtain ⟨a, at', s, m, rfl, _⟩ := h
    rfl
  · obtain ⟨a, at', st, m, rfl, ⟨⟨dx, ak, ad, hw, n1, n2, rk, rd, rt⟩, g⟩, q⟩ := h
    refine ⟨_, pss_cons (ps_set (i := 2) scCovers.nd rfl (.inl rfl) (pe_callB call_len_seq rfl mL PySem.boot_len (pa_cons (pe_fld (pv 0) rfl) pa_nil)))
      (pss_cons (ps_set (i := 3) scCovers.nd rfl (.inl rfl) (pe_op op_sub (pv 2) (pe_callB call_len_seq rfl mL PySem.boot_len (pa_cons (C8.pe_c c1 hr (by decide) rfl (pa_cons (pe_fld (pv 0) rfl) (pa_cons (pe_fld (pv 0) rfl) (pa_cons (pv 1) pa_nil)))) pa_nil))))
      (pss_one (ps_ret (pe_op op_cat (pe_lst (pa_cons (pv 3) (pa_cons (pv 2) pa_nil))) (C8.pe_c c2 hr (by decide) rfl (pa_cons (pv 3) (pa_cons (pv 2) pa_nil))))))), ?_⟩
    have hf : st.tickets.length ≤ 252 := by have := g.few; omega
    have hd := g.draws_few
    obtain ⟨vs, hvs, hrows⟩ := rd
    refine ⟨_, rfl, a, C, dx, _, _, rfl, hw, T.cl, T.draws, wF_draws _ _ _ _, ad, vs, rfl, .inl (sl_of hvs), ?_⟩
    refine ⟨_, rfl, _, rfl, a, C, dx, _, _, rfl, hw, T.cl, T.tickets, wF_tickets _ _ _ _, _, rfl, a, C, dx, _, _, rfl, hw, T.cl, T.draws, wF_draws _ _ _ _, _, rfl, at', ad, st.tickets, allDraws st, m, rfl, rt, ⟨vs, hvs, hrows⟩, hf, hd, fun H1 p1 s1 m1 ⟨ws, hws, hop⟩ => ?_⟩
    refine ⟨p1, ws, rfl, .inl (sl_of hws), _, _, rfl, rfl, ?_⟩
    have hcov := covered_open st st.tickets m
    have e1 : (vs.length : Int) = ((Mu24.draws st : Nat) : Int) := by rw [hrows.len]; rfl
    have e2 : (vs.length : Int) - (ws.length : Int) = ((Mu24.covered st st.tickets m : Nat) : Int) := by
      rw [e1, hop.len]
      omega
    refine ⟨_, rfl, _, rfl, by show 2 ≤ sizeLine; decide, fun p2 hp2 => ?_⟩
    have s2 := snew (o := .lst [.int ((vs.length : Int) - (ws.length : Int)), .int (vs.length : Int)]) s1 (Same.free s1 hp2)
    have hpos : 0 < Mu24.draws st := List.length_pos_iff.mpr g.draws_ne
    refine ⟨_, rfl, _, rfl, Mu24.covered st st.tickets m, Mu24.draws st, by
      show [V.int ((vs.length : Int) - (ws.length : Int)), V.int (vs.length : Int)] = _
      rw [e2, e1]
      rfl, hpos, hd, fun H3 p3 s3 m3 h3 => ?_⟩
    refine ⟨p2, p3, _, _, rfl, rfl, s3 _ _ upd_same, h3, by show 4 ≤ sizeLine; decide, fun p4 hp4 => ?_⟩
    have s23 : Same H H3 := Same.trans s2 s3
    refine q _ p4 (snew s23 (Same.free s23 hp4)) (Same.free s23 hp4) ?_
    rw [upd_same, aI_nums, lowest_is hpos]
    show some (HO.lst ([V.int ((vs.length : Int) - (ws.length : Int)), V.int (vs.length : Int)] ++ _)) = _
    rw [e2, e1]
    rfl

theorem best_from (g : Pick → Nat) : ∀ (l : List Pick) (p : Nat × Pick), (l.foldl (bestStep g) p).2 = p.2 ∨ (l.foldl (bestStep g) p).2 ∈ l
  | [], p => .inl rfl
  | a :: l, p => by
    rw [List.foldl_cons]
    rcases best_from g l (bestStep g p a) with e | e
    · rw [e]
      unfold bestStep
      split
      · exact .inr (List.mem_cons_self ..)
      · exact .inl rfl
    · exact .inr (List.mem_cons_of_mem _ e)
theorem best_mem (g : Pick → Nat) (l : List Pick) : (best g l).2 = [] ∨ (best g l).2 ∈ l := best_from g l (0, [])
theorem scMore : FnScope ["wheel", "m", "left", "most", "found", "ticket", "many"] ["wheel", "m"] (defScope sMore) := ⟨rfl, rfl, rfl, by decide +kernel, rfl, by decide +kernel, by decide +kernel⟩
theorem c_more (T : WTxt K C) (A : At K mg "best_more" sMore) (c1 : C8.Cal P w K mg base 4 "open_draws" spOpen []) (c2 : C8.Cal P w K mg base 2 "covered_by" spCovBy []) : C8.Cal P w K mg base 5 "best_more" (spMore C) [] := by
  refine cal_of (N := ["wheel", "m", "left", "most", "found", "ticket", "many"]) (ps := ["wheel", "m"]) A (fun _ _ _ _ _ _ us hl => match us, hl with | [_, _], _ => rfl) scMore (fun vs H Q E h => ?_) (fun f cdv A outer s H vs Q E hr h => ?_)
  · obtain ⟨a, at', s, m, rfl, _⟩ := h
    rfl
  · obtain ⟨a, at', st, m, rfl, ⟨⟨dx, ak, ad, hw, n1, n2, ⟨vs, hvs, hrows⟩, rd, rt⟩, g⟩, q⟩ := h
    refine ⟨_, pss_cons (ps_set (i := 2) scMore.nd rfl (.inl rfl) (C8.pe_c c1 hr (by decide) rfl (pa_cons (pe_fld (pv 0) rfl) (pa_cons (pe_fld (pv 0) rfl) (pa_cons (pv 1) pa_nil)))))
      (pss_cons (ps_set (i := 3) scMore.nd rfl (.inl rfl) pe_int)
      (pss_cons (ps_set (i := 4) scMore.nd rfl (.inl rfl) (pe_lst pa_nil))
      (pss_cons (ps_for PassesOwn.never rfl (pi_list (pe_fld (pv 0) rfl)) (pg_name (i := 5) scMore.nd rfl (.inl rfl))
        (pss_cons (ps_set (i := 6) scMore.nd rfl (.inl rfl) (C8.pe_c c2 hr (by decide) rfl (pa_cons (pv 5) (pa_cons (pv 2) (pa_cons (pv 1) pa_nil)))))
        (pss_one (ps_if (pt_cmpR op_gt (pv 6) (pv 3) (nomark _)) (pss_cons (ps_set (i := 3) scMore.nd rfl (.inl rfl) (pv 6)) (pss_one (ps_set (i := 4) scMore.nd rfl (.inl rfl) (pv 5)))) pss_nil))))
      (pss_cons (ps_if (pt_cmpR op_eq (pv 3) pe_int (nomark _)) (pss_one (ps_ret (pe_lst (pa_cons (pe_un un_neg pe_int) pa_nil)))) pss_nil)
      (pss_one (ps_ret (pe_op op_cat (pe_lst (pa_cons (pv 3) pa_nil)) (pv 4)))))))), ?_⟩
    have hf : st.tickets.length ≤ 252 := by have := g.few; omega
    have hd := g.draws_few
    refine ⟨_, rfl, a, C, dx, _, _, rfl, hw, T.cl, T.tickets, wF_tickets _ _ _ _, _, rfl, a, C, dx, _, _, rfl, hw, T.cl, T.draws, wF_draws _ _ _ _, _, rfl, at', ad, st.tickets, allDraws st, m, rfl, rt, rd, hf, hd, fun H1 p1 s1 m1 hop => ?_⟩
    refine ⟨by show 0 ≤ sizeLine; decide, fun p2 hp2 => ?_⟩
    have s2 : Same H1 (upd H1 p2 (.lst [])) := same_new hp2
    have s12 : Same H (upd H1 p2 (.lst [])) := Same.trans s1 s2
    rw [next_is] at q
    generalize hg : gain (openOf (allDraws st) st.tickets m) m = gg at q
    refine ⟨_, rfl, a, C, dx, _, _, rfl, s12 _ _ hw, T.cl, T.kinds, wF_kinds _ _ _ _, ak, rfl, ⟨vs, sl_of (s12 _ _ hvs)⟩, for_list (xs := vs) (fun i σ H' => H' = upd H1 p2 (.lst []) ∧ ∃ pf x y, H' pf = some (.lst (nI (best gg ((allTickets st).take i)).2)) ∧
      σ = [some (.ref a), some (iv m), some (.ref p1), some (iv (best gg ((allTickets st).take i)).1), some (.ref pf), x, y]) ⟨rfl, p2, none, none, upd_same, rfl⟩ (fun i σ H' _ z => ?_) (fun i x σ H' hx z => ?_) (fun σ H' z => ?_)⟩
    · rw [z.1]
      exact sl_of (s12 _ _ hvs)
    · obtain ⟨rfl, pf, x, y, hpf, rfl⟩ := z
      obtain ⟨ra, r, rfl, hr', hra⟩ := hrows.get hx
      have e := best_snoc gg ((allTickets st).take i) r
      rw [← take_more hr'] at e
      refine ⟨_, rfl, _, rfl, _, rfl, ra, p1, r, openOf (allDraws st) st.tickets m, m, rfl, s12 _ _ hra, hop.same s2, ?_⟩
      rw [hg]
      refine ⟨_, rfl, _, rfl, _, _, rfl, rfl, _, rfl, ?_⟩
      refine ite2 (fun h => ?_) (fun h => ?_)
      · have h : (best gg ((allTickets st).take i)).1 < gg r := by
          have := of_decide_eq_true h
          omega
        have e' : best gg ((allTickets st).take (i + 1)) = (gg r, r) := e.trans (if_pos h)
        refine ⟨_, rfl, _, rfl, rfl, ra, some (.ref ra), some (iv (gg r)), ?_, ?_⟩
        · rw [e']
          exact s12 _ _ hra
        · rw [e']
          rfl
      · have h : ¬ (best gg ((allTickets st).take i)).1 < gg r := fun z => h (decide_eq_true (by omega))
        have e' : best gg ((allTickets st).take (i + 1)) = best gg ((allTickets st).take i) := e.trans (if_neg h)
        refine ⟨rfl, pf, some (.ref ra), some (iv (gg r)), ?_, ?_⟩
        · rw [e']
          exact hpf
        · rw [e']
          rfl
    · obtain ⟨rfl, pf, x, y, hpf, rfl⟩ := z
      rw [hrows.len, List.take_length] at hpf ⊢
      refine ⟨_, rfl, rfl, _, rfl, ?_⟩
      refine ite2 (fun h => ?_) (fun h => ?_)
      · have h : (best gg (allTickets st)).1 = 0 := by
          have h1 := of_decide_eq_true h
          have h2 := V.int.inj h1
          omega
        rw [if_pos h] at q
        exact ⟨_, rfl, by show 1 ≤ sizeLine; decide, fun p hp => q _ p (snew s12 (Same.free s12 hp)) (Same.free s12 hp) upd_same⟩
      · have h : ¬ (best gg (allTickets st)).1 = 0 := fun z => h (decide_eq_true (by rw [z]; rfl))
        rw [if_neg h] at q
        refine ⟨_, rfl, by show 1 ≤ sizeLine; decide, fun p3 hp3 => ?_⟩
        have s3 : Same (upd H1 p2 (.lst [])) (upd (upd H1 p2 (.lst [])) p3 (.lst [iv (best gg (allTickets st)).1])) := same_new hp3
        refine ⟨_, rfl, p3, pf, _, _, rfl, rfl, upd_same, s3 _ _ hpf, ?_, fun p4 hp4 => ?_⟩
        · have hb : (best gg (allTickets st)).2.length ≤ 10 := by
            rcases best_mem gg (allTickets st) with e | e
            · rw [e]
              exact Nat.zero_le _
            · rw [kinds_len e]
              have := g.k6
              omega
          rw [nI_len, List.length_singleton]
          exact sz252 (by omega)
        · have s4 : Same H _ := Same.trans s12 s3
          refine q _ p4 (snew s4 (Same.free s4 hp4)) (Same.free s4 hp4) ?_
          rw [upd_same, aI_nums]
          rfl
end
end Wd

set_option Elab.async false
set_option linter.all false
set_option maxRecDepth 100000
set_option maxHeartbeats 4000000
/-! asks, the second half: fewest, is_paying, paid_for, pays, least_by_count -/
namespace Wd
open PySem PySem.Spec PyProof.Rows L2
open Mu24 (Pick right most State allTickets allDraws nums)
abbrev sFewest : Stmt := tops 30
abbrev sPaying : Stmt := tops 31
abbrev sPaidFor : Stmt := tops 32
abbrev sPays : Stmt := tops 33
abbrev sLeast : Stmt := tops 34
def fewAns (s : State) (m : Nat) : List Int := if 60 < (allTickets s).length then [-7] else match Mu24.fewest s m 4 0 with
  | some l => (l.length : Int) :: l.flatMap nums
  | none => [-6]
def payAns (s : State) (p : List Nat) : List Int := if p.length ≠ s.k + 1 ∨ p.any (fun (x : Nat) => decide (99999 < x)) = true then [-1] else
  nums [(Mu24.lowest (Mu24.total ((allDraws s).map (Mu24.paid p s.tickets))) (Mu24.draws s)).1, (Mu24.lowest (Mu24.total ((allDraws s).map (Mu24.paid p s.tickets))) (Mu24.draws s)).2, ((allDraws s).map (Mu24.paid p s.tickets)).foldl max 0]
def leastAns (s : State) (m : Nat) : List Int := if Mu24.one s m = 0 then [-6] else [(((Mu24.draws s + Mu24.one s m - 1) / Mu24.one s m : Nat) : Int)]
def paysOk (s : State) (p : List Nat) : Bool := decide (p.length = s.k + 1) && p.all fun (x : Nat) => decide (x ≤ 99999)

def spFewest (C : Addr) : Sp := fun vs H Q _ => ∃ (a at' : Addr) (s : State) (m : Nat), vs = [.ref a, iv m] ∧ WheelAt C H a at' s ∧ 0 < m ∧ Tells H Q (fewAns s m)
def spPaying (C : Addr) : Sp := fun vs H Q _ => ∃ (a at' b : Addr) (s : State) (p : List Nat), vs = [.ref a, .ref b] ∧ WheelAt C H a at' s ∧ H b = some (.lst (nI p)) ∧ Q (.bl (paysOk s p)) H
def spPaidFor (C : Addr) : Sp := fun vs H Q _ => ∃ (a at' b c : Addr) (s : State) (p : List Nat) (d : Pick), vs = [.ref a, .ref b, .ref c] ∧ WheelAt C H a at' s ∧ H b = some (.lst (nI p)) ∧ p.length = s.k + 1 ∧ H c = some (.lst (nI d)) ∧
  ∀ H' : Hp, Same H H' → Q (iv (Mu24.paid p s.tickets d)) H'
def spPays (C : Addr) : Sp := fun vs H Q _ => ∃ (a at' b : Addr) (s : State) (p : List Nat), vs = [.ref a, .ref b] ∧ WheelAt C H a at' s ∧ H b = some (.lst (nI p)) ∧ Tells H Q (payAns s p)
def spLeast (C : Addr) : Sp := fun vs H Q _ => ∃ (a at' : Addr) (s : State) (m : Nat), vs = [.ref a, iv m] ∧ WheelAt C H a at' s ∧ Tells H Q (leastAns s m)
/-- a module's whole number -/
abbrev Num (mg : Str → Option Value) (x : Str) (i : Int) : Prop := ∃ u, mg x = some u ∧ RelV (.int i) u

section
variable {P : Program} {w : World} {K : PySem.W.Frag} {mg : Str → Option Value} {base : Heap} {C : Addr}
theorem rowsOf_mem : ∀ (k : Nat) (l : List Pick) (r : List Pick), r ∈ Mu24.rowsOf k l → ∀ x ∈ r, x ∈ l
  | 0, l, r, h, x, hx => by
    have e : Mu24.rowsOf 0 l = [[]] := by cases l <;> rfl
    rw [e] at h
    rw [List.mem_singleton.mp h] at hx
    cases hx
  | k + 1, [], r, h, x, hx => by cases h
  | k + 1, a :: l, r, h, x, hx => by
    have e : Mu24.rowsOf (k + 1) (a :: l) = (Mu24.rowsOf k l).map (fun (r : List Pick) => a :: r) ++ Mu24.rowsOf (k + 1) l := rfl
    rw [e] at h
    rcases List.mem_append.mp h with h | h
    · obtain ⟨q, hq, rfl⟩ := List.mem_map.mp h
      rcases List.mem_cons.mp hx with rfl | hx
      · exact List.mem_cons_self ..
      · exact List.mem_cons_of_mem _ (rowsOf_mem k l q hq x hx)
    · exact List.mem_cons_of_mem _ (rowsOf_mem (k + 1) l r h x hx)
theorem rowsOf_len : ∀ (k : Nat) (l : List Pick) (r : List Pick), r ∈ Mu24.rowsOf k l → r.length = k
  | 0, l, r, h => by
    have e : Mu24.rowsOf 0 l = [[]] := by cases l <;> rfl
    rw [e] at h
    rw [List.mem_singleton.mp h]
    rfl
  | k + 1, [], r, h => by cases h
  | k + 1, a :: l, r, h => by
    have e : Mu24.rowsOf (k + 1) (a :: l) = (Mu24.rowsOf k l).map (fun (r : List Pick) => a :: r) ++ Mu24.rowsOf (k + 1) l := rfl
    rw [e] at h
    rcases List.mem_append.mp h with h | h
    · obtain ⟨q, hq, rfl⟩ := List.mem_map.mp h
      rw [List.length_cons, rowsOf_len k l q hq]
    · exact rowsOf_len (k + 1) l r h
theorem fewest_mem (s : State) (m : Nat) : ∀ (f k : Nat) (l : List Pick), Mu24.fewest s m f k = some l → l.length < k + f ∧ ∀ x ∈ l, x ∈ allTickets s
  | 0, k, l, h => by cases h
  | f + 1, k, l, h => by
    have u : Mu24.fewest s m (f + 1) k = (match (Mu24.rowsOf k (allTickets s)).find? fun l => Mu24.allCovered s l m with
      | some l => some l
      | none => Mu24.fewest s m f (k + 1)) := rfl
    rw [u] at h
    cases e : (Mu24.rowsOf k (allTickets s)).find? fun l => Mu24.allCovered s l m with
    | some r =>
      rw [e] at h
      obtain rfl := Option.some.inj h
      have hm := List.mem_of_find?_eq_some e
      refine ⟨?_, fun x hx => rowsOf_mem k _ _ hm x hx⟩
      rw [rowsOf_len k _ _ hm]
      omega
    | none =>
      rw [e] at h
      obtain ⟨h1, h2⟩ := fewest_mem s m f (k + 1) l h
      exact ⟨by omega, h2⟩
theorem scFewest : FnScope ["wheel", "m", "found"] ["wheel", "m"] (defScope sFewest) := ⟨rfl, rfl, rfl, by decide +kernel, rfl, by decide +kernel, by decide +kernel⟩
theorem c_fewest (T : WTxt K C) (A : At K mg "fewest" sFewest) (c1 : C8.Cal P w K mg base 6 "fewest_for" (spFor fewestFor) []) (c2 : C8.Cal P w K mg base 1 "laid_out" spLaid []) (mL : mg "len" = none) (mK : Num mg "MOST_KINDS" 60) : C8.Cal P w K mg base 7 "fewest" (spFewest C) [] := by
  refine cal_of (N := ["wheel", "m", "found"]) (ps := ["wheel", "m"]) A (fun _ _ _ _ _ _ us hl => match us, hl with | [_, _], _ => rfl) scFewest (fun vs H Q E h => ?_) (fun f cdv A outer s H vs Q E hr h => ?_)
  · obtain ⟨a, at', s, m, rfl, _⟩ := h
    rfl
  · obtain ⟨a, at', st, m, rfl, ⟨⟨dx, ak, ad, hw, n1, n2, ⟨vs, hvs, hrows⟩, rd, rt⟩, g⟩, hm, q⟩ := h
    refine ⟨_, pss_cons (ps_if (pt_cmpR op_gt (pe_callB call_len_seq rfl mL PySem.boot_len (pa_cons (pe_fld (pv 0) rfl) pa_nil)) (C8.pe_gc rfl mK) (nomark _)) (pss_one (ps_ret (pe_lst (pa_cons (pe_un un_neg pe_int) pa_nil)))) pss_nil)
      (pss_cons (ps_set (i := 2) scFewest.nd rfl (.inl rfl) (C8.pe_c c1 hr (by decide) rfl (pa_cons (pe_fld (pv 0) rfl) (pa_cons (pe_fld (pv 0) rfl) (pa_cons (pv 1) pa_nil)))))
      (pss_cons (ps_if (pt_cmpR (op_eqD hr.units) (pv 2) (pe_lst pa_nil) (nomark _)) (pss_one (ps_ret (pe_lst (pa_cons (pe_un un_neg pe_int) pa_nil)))) pss_nil)
      (pss_one (ps_ret (C8.pe_c c2 hr (by decide) rfl (pa_cons (pv 2) pa_nil)))))), ?_⟩
    have hk := g.kinds_few
    have hd := g.draws_few
    refine ⟨_, rfl, a, C, dx, _, _, rfl, hw, T.cl, T.kinds, wF_kinds _ _ _ _, ak, vs, rfl, .inl (sl_of hvs), _, _, rfl, rfl, _, rfl, ?_⟩
    have hlen := hrows.len
    refine ite2 (fun h => ?_) (fun h => ?_)
    · have h : 60 < (allTickets st).length := by
        have := of_decide_eq_true h
        omega
      refine ⟨_, rfl, by show 1 ≤ sizeLine; decide, fun p hp => q _ p (same_new hp) hp ?_⟩
      unfold fewAns
      rw [if_pos h]
      exact upd_same
    · have h : ¬ 60 < (allTickets st).length := fun z => h (decide_eq_true (by omega))
      refine ⟨_, rfl, a, C, dx, _, _, rfl, hw, T.cl, T.kinds, wF_kinds _ _ _ _, _, rfl, a, C, dx, _, _, rfl, hw, T.cl, T.draws, wF_draws _ _ _ _, _, rfl, ak, ad, allTickets st, allDraws st, m, rfl, ⟨vs, hvs, hrows⟩, rd, hk, hd, fun H1 p1 s1 m1 h1 => ?_⟩
      have e := fewest_is st hm g.draws_ne
      refine ⟨_, rfl, by show 0 ≤ sizeLine; decide, fun p2 hp2 => ?_⟩
      have s2 : Same H1 (upd H1 p2 (.lst [])) := same_new hp2
      refine ⟨_, _, rows_dp (h1.same s2), .lst (sl_of upd_same) .nil, lD_shaped _, nil_shaped, _, rfl, ?_⟩
      rw [eqv_lD_nil]
      have u : fewAns st m = match ofL (fewestFor (allDraws st) m (allTickets st)) with
          | some l => (l.length : Int) :: l.flatMap nums
          | none => [-6] := by
        unfold fewAns
        rw [if_neg h, e]
      rw [u] at q
      refine ite2 (fun h3 => ?_) (fun h3 => ?_)
      · have h3 : fewestFor (allDraws st) m (allTickets st) = [] := of_decide_eq_true h3
        have u2 : ofL (fewestFor (allDraws st) m (allTickets st)) = none := if_pos h3
        rw [u2] at q
        exact ⟨_, rfl, by show 1 ≤ sizeLine; decide, fun p hp => q _ p (snew (Same.trans s1 s2) (Same.free (Same.trans s1 s2) hp)) (Same.free (Same.trans s1 s2) hp) upd_same⟩
      · have h3 : ¬ fewestFor (allDraws st) m (allTickets st) = [] := fun z => h3 (decide_eq_true z)
        have u2 : ofL (fewestFor (allDraws st) m (allTickets st)) = some (fewestFor (allDraws st) m (allTickets st)) := if_neg h3
        rw [u2] at q
        rw [u2] at e
        obtain ⟨l1, l2⟩ := fewest_mem st m 4 0 _ e
        refine ⟨_, rfl, p1, _, rfl, h1.same s2, by omega, fun r hr => ?_, fun H4 p4 s4 m4 h4 => q H4 p4 (Same.trans (Same.trans s1 s2) s4) (Same.free (Same.trans s1 s2) m4) h4⟩
        rw [kinds_len (l2 r hr)]
        have := g.k6
        omega

theorem scPaying : FnScope ["wheel", "prizes"] ["wheel", "prizes"] (defScope sPaying) := ⟨rfl, rfl, rfl, by decide +kernel, rfl, by decide +kernel, by decide +kernel⟩
theorem c_paying (T : WTxt K C) (A : At K mg "is_paying" sPaying) (mL : mg "len" = none) (mX : mg "max" = none) (mP : Num mg "MOST_PRIZE" 99999) : C8.Cal P w K mg base 1 "is_paying" (spPaying C) [] := by
  refine cal_of (N := ["wheel", "prizes"]) (ps := ["wheel", "prizes"]) A (fun _ _ _ _ _ _ us hl => match us, hl with | [_, _], _ => rfl) scPaying (fun vs H Q E h => ?_) (fun f cdv A outer s H vs Q E hr h => ?_)
  · obtain ⟨a, at', b, s, p, rfl, _⟩ := h
    rfl
  · obtain ⟨a, at', b, st, p, rfl, ⟨⟨dx, ak, ad, hw, n1, n2, rk, rd, rt⟩, g⟩, hb, q⟩ := h
    refine ⟨_, pss_one (ps_ret (pe_and (pe_cmpR op_eq (pe_callB call_len_seq rfl mL PySem.boot_len (pa_cons (pv 1) pa_nil)) (pe_op op_add (pe_fld (pv 0) rfl) pe_int) (nomark _))
      (pe_one (pe_cmpR op_le (pe_callB (cr_max rfl) rfl mX boot_max' (pa_cons (pv 1) pa_nil)) (C8.pe_gc rfl mP) (nomark _))))), ?_⟩
    refine ⟨_, rfl, b, nI p, rfl, .inl (sl_of hb), _, rfl, a, C, dx, _, _, rfl, hw, T.cl, T.k, wF_k _ _ _ _, _, _, rfl, rfl, rfl, _, rfl, ?_⟩
    have hdec : decide (V.int ((nI p).length : Int) = V.int ((st.k : Int) + 1)) = decide (p.length = st.k + 1) := by
      rw [nI_len]
      by_cases z : p.length = st.k + 1
      · rw [decide_eq_true z, decide_eq_true (by rw [z]; rfl)]
      · rw [decide_eq_false z, decide_eq_false (fun y => z (by have := V.int.inj y; omega))]
    rw [hdec]
    refine ite2 (fun h => ?_) (fun h => ?_)
    · have h := of_decide_eq_true h
      refine ⟨_, rfl, b, p.map (fun (n : Nat) => (n : Int)), rfl, by rw [← nI_map]; exact sl_of hb, by rw [List.length_map]; omega, fun v hv hu => ⟨_, _, rfl, rfl, ?_⟩⟩
      have e : paysOk st p = decide (v ≤ 99999) := by
        unfold paysOk
        rw [decide_eq_true h, Bool.true_and]
        by_cases z : v ≤ 99999
        · rw [decide_eq_true z, List.all_eq_true]
          intro x hx
          have := hu (x : Int) (List.mem_map.mpr ⟨x, hx, rfl⟩)
          exact decide_eq_true (by omega)
        · rw [decide_eq_false z]
          obtain ⟨x, hx, rfl⟩ := List.mem_map.mp hv
          cases y : p.all fun (x : Nat) => decide (x ≤ 99999) with
          | false => rfl
          | true =>
            have := of_decide_eq_true (List.all_eq_true.mp y x hx)
            omega
      rw [e] at q
      exact q
    · have h : ¬ p.length = st.k + 1 := fun z => h (decide_eq_true z)
      have e : paysOk st p = false := by
        unfold paysOk
        rw [decide_eq_false h, Bool.false_and]
      rw [e] at q
      have ef : decide (p.length = st.k + 1) = false := decide_eq_false h
      exact q

theorem scPaidFor : FnScope ["wheel", "prizes", "draw", "total", "right"] ["wheel", "prizes", "draw"] (defScope sPaidFor) := ⟨rfl, rfl, rfl, by decide +kernel, rfl, by decide +kernel, by decide +kernel⟩
theorem c_paidFor (T : WTxt K C) (A : At K mg "paid_for" sPaidFor) (c1 : C8.Cal P w K mg base 2 "rights_of" spRights []) : C8.Cal P w K mg base 3 "paid_for" (spPaidFor C) [] := by
  refine cal_of (N := ["wheel", "prizes", "draw", "total", "right"]) (ps := ["wheel", "prizes", "draw"]) A (fun _ _ _ _ _ _ us hl => match us, hl with | [_, _, _], _ => rfl) scPaidFor (fun vs H Q E h => ?_) (fun f cdv A outer s H vs Q E hr h => ?_)
  · obtain ⟨a, at', b, c, s, p, d, rfl, _⟩ := h
    rfl
  · obtain ⟨a, at', b, c, st, p, d, rfl, ⟨⟨dx, ak, ad, hw, n1, n2, rk, rd, rt⟩, g⟩, hb, hp, hc, q⟩ := h
    refine ⟨_, pss_cons (ps_set (i := 3) scPaidFor.nd rfl (.inl rfl) pe_int)
      (pss_cons (ps_for PassesOwn.never rfl (pi_list (C8.pe_c c1 hr (by decide) rfl (pa_cons (pe_fld (pv 0) rfl) (pa_cons (pv 2) pa_nil)))) (pg_name (i := 4) scPaidFor.nd rfl (.inl rfl))
        (pss_one (ps_aug (i := 3) scPaidFor.nd rfl (.inl rfl) (pe_ix ix_list (pv 1) (pv 4) (fun _ _ => rfl)) ip_add)))
      (pss_one (ps_ret (pv 3)))), ?_⟩
    have hf : st.tickets.length ≤ 252 := by have := g.few; omega
    refine ⟨_, rfl, a, C, dx, _, _, rfl, hw, T.cl, T.tickets, wF_tickets _ _ _ _, _, rfl, at', c, st.tickets, d, rfl, rt, hc, hf, fun H1 p1 s1 m1 h1 => ?_⟩
    refine ⟨p1, rfl, ⟨_, sl_of h1⟩, for_list (xs := nI (st.tickets.map fun a => right a d)) (fun i σ H' => H' = H1 ∧ ∃ x, σ = [some (.ref a), some (.ref b), some (.ref c), some (iv (Mu24.paid p (st.tickets.take i) d)), x]) ⟨rfl, none, rfl⟩ (fun i σ H' _ z => ?_) (fun i x σ H' hx z => ?_) (fun σ H' z => ?_)⟩
    · rw [z.1]
      exact sl_of h1
    · obtain ⟨rfl, x, rfl⟩ := z
      obtain ⟨n, hn, rfl⟩ := nI_get hx
      rw [List.getElem?_map] at hn
      cases e : st.tickets[i]? with
      | none => rw [e] at hn; cases hn
      | some r =>
        rw [e] at hn
        obtain rfl := Option.some.inj hn
        have hk := g.len r (List.mem_of_getElem? e)
        have hle := right_le r d
        have hat : p[right r d]? = some (p.getD (right r d) 0) := by
          rw [List.getD_eq_getElem?_getD, List.getElem?_eq_getElem (by omega)]
          rfl
        refine ⟨_, rfl, _, rfl, _, rfl, b, nI p, _, _, rfl, rfl, sl_of (s1 _ _ hb), atI_nat (nI_at hat), _, _, rfl, rfl, rfl, some (iv (right r d)), ?_⟩
        · rw [take_more e, paid_snoc]
          rfl
    · obtain ⟨rfl, x, rfl⟩ := z
      refine ⟨_, rfl, ?_⟩
      rw [nI_len, List.length_map, List.take_length]
      exact q _ s1

theorem scPays : FnScope ["wheel", "prizes", "paid", "draw"] ["wheel", "prizes"] (defScope sPays) := ⟨rfl, rfl, rfl, by decide +kernel, rfl, by decide +kernel, by decide +kernel⟩
theorem boot_sum' : bootBuiltins "sum" = some (.builtin "sum") := by decide +kernel
theorem c_pays (T : WTxt K C) (A : At K mg "pays" sPays) (c1 : C8.Cal P w K mg base 1 "is_paying" (spPaying C) []) (c2 : C8.Cal P w K mg base 3 "paid_for" (spPaidFor C) []) (c3 : C8.Cal P w K mg base 2 "lowest" spLow []) (mL : mg "len" = none) (mX : mg "max" = none) (mS : mg "sum" = none) : C8.Cal P w K mg base 4 "pays" (spPays C) [] := by
  refine cal_of (N := ["wheel", "prizes", "paid", "draw"]) (ps := ["wheel", "prizes"]) A (fun _ _ _ _ _ _ us hl => match us, hl with | [_, _], _ => rfl) scPays (fun vs H Q E h => ?_) (fun f cdv A outer s H vs Q E hr h => ?_)
  · obtain ⟨a, at', b, s, p, rfl, _⟩ := h
    rfl
  · obtain ⟨a, at', b, st, p, rfl, hW, hb, q⟩ := h
    have hW' := hW
    obtain ⟨⟨dx, ak, ad, hw, n1, n2, rk, ⟨vs, hvs, hrows⟩, rt⟩, g⟩ := hW'
    refine ⟨_, pss_cons (ps_if (pt_not (pt_val (C8.pe_c c1 hr (by decide) rfl (pa_cons (pv 0) (pa_cons (pv 1) pa_nil))))) (pss_one (ps_ret (pe_lst (pa_cons (pe_un un_neg pe_int) pa_nil)))) pss_nil)
      (pss_cons (ps_setLc (i := 2) (own := [("draw", 3)]) (g := gName 3) (tt := tYes) rfl scPays.nd rfl rfl (sw_true rfl rfl rfl (by decide +kernel)) (pi_list (pe_fld (pv 0) rfl)) (blkOk_by (N := ["wheel", "prizes", "paid", "draw"]) (sc := defScope sPays) (by decide +kernel))
        (fun _ _ _ _ _ => pg_name (i := 3) scPays.nd rfl (Or.inl rfl)) (fun _ _ _ _ _ => pts_nil) (fun _ _ _ _ _ => C8.pe_c c2 hr (by decide) rfl (pa_cons (pv 0) (pa_cons (pv 1) (pa_cons (pv 3) pa_nil)))))
      (pss_one (ps_ret (pe_op op_cat (C8.pe_c c3 hr (by decide) rfl (pa_cons (pe_callB (cr_sum rfl) rfl mS boot_sum' (pa_cons (pv 2) pa_nil)) (pa_cons (pe_callB call_len_seq rfl mL PySem.boot_len (pa_cons (pv 2) pa_nil)) pa_nil)))
        (pe_lst (pa_cons (pe_callB (cr_max rfl) rfl mX boot_max' (pa_cons (pv 2) pa_nil)) pa_nil)))))), ?_⟩
    refine ⟨_, rfl, _, rfl, a, at', b, st, p, rfl, hW, hb, _, rfl, ?_⟩
    refine ite2 (fun h => ?_) (fun h => ?_)
    · have h : paysOk st p = false := by simpa using h
      have e : payAns st p = [-1] := by
        unfold payAns
        refine if_pos ?_
        by_cases z : p.length = st.k + 1
        · refine .inr ?_
          unfold paysOk at h
          rw [decide_eq_true z, Bool.true_and] at h
          rw [List.any_eq_true]
          obtain ⟨x, hx, hx2⟩ := List.all_eq_false.mp h
          exact ⟨x, hx, decide_eq_true (by simp at hx2; omega)⟩
        · exact .inl z
      rw [e] at q
      exact ⟨_, rfl, by show 1 ≤ sizeLine; decide, fun p hp => q _ p (same_new hp) hp upd_same⟩
    · have h : paysOk st p = true := by simpa using h
      unfold paysOk at h
      rw [Bool.and_eq_true] at h
      have hp := of_decide_eq_true h.1
      have e : payAns st p = nums [(Mu24.lowest (Mu24.total ((allDraws st).map (Mu24.paid p st.tickets))) (Mu24.draws st)).1, (Mu24.lowest (Mu24.total ((allDraws st).map (Mu24.paid p st.tickets))) (Mu24.draws st)).2, ((allDraws st).map (Mu24.paid p st.tickets)).foldl max 0] := by
        unfold payAns
        refine if_neg ?_
        rintro (z | z)
        · exact z hp
        · obtain ⟨x, hx, hx2⟩ := List.any_eq_true.mp z
          have h1 := of_decide_eq_true hx2
          have h2 := of_decide_eq_true (List.all_eq_true.mp h.2 x hx)
          omega
      rw [e] at q
      have hd := g.draws_few
      refine ⟨_, rfl, a, C, dx, _, _, rfl, hw, T.cl, T.draws, wF_draws _ _ _ _, ad, rfl, ⟨vs, sl_of hvs⟩, fun D hD => lc_list (xs := vs) (fun i H' => Same H H' ∧ H' D = some (.lst (nI (((allDraws st).take i).map (Mu24.paid p st.tickets))))) ⟨same_new hD, upd_same⟩ (fun i H' _ z => sl_of (z.1 _ _ hvs)) (fun i x H' hx z => ?_) (fun H' z => ?_)⟩
      · obtain ⟨sm, hD'⟩ := z
        obtain ⟨ra, r, rfl, hr', hra⟩ := hrows.get hx
        refine ⟨rfl, ?_⟩
        refine lcYes ?_
        refine ⟨_, rfl, _, rfl, _, rfl, a, at', b, ra, st, p, r, rfl, hW.same sm, sm _ _ hb, hp, sm _ _ hra, fun H2 s2 => ⟨_, s2 _ _ hD', ?_, ?_, ?_⟩⟩
        · rw [nI_len, List.length_map, List.length_take]
          exact sz252' (by omega)
        · exact snew (sm.trans s2) hD
        · rw [upd_same, take_more hr', List.map_append, nI_append]
          rfl
      · obtain ⟨sm, hD'⟩ := z
        rw [hrows.len, List.take_length] at hD'
        have hpos : 0 < Mu24.draws st := List.length_pos_iff.mpr g.draws_ne
        refine ⟨_, rfl, D, ((allDraws st).map (Mu24.paid p st.tickets)).map (fun (n : Nat) => (n : Int)), rfl, by rw [← nI_map]; exact sl_of hD', ?_⟩
        rw [total_sum]
        refine ⟨_, rfl, D, _, rfl, .inl (sl_of hD'), Mu24.total ((allDraws st).map (Mu24.paid p st.tickets)), Mu24.draws st, ?_, hpos, hd, fun H3 p3 s3 m3 h3 => ?_⟩
        · rw [nI_len, List.length_map]
          rfl
        · refine ⟨_, rfl, D, ((allDraws st).map (Mu24.paid p st.tickets)).map (fun (n : Nat) => (n : Int)), rfl, by rw [← nI_map]; exact sl_of (s3 _ _ hD'), ?_, fun v hv hu => ?_⟩
          · rw [List.length_map, List.length_map]
            exact hpos
          · obtain ⟨x, hx, rfl⟩ := List.mem_map.mp hv
            have ex : ((allDraws st).map (Mu24.paid p st.tickets)).foldl max 0 = x := max_is hx fun y hy => by
              have := hu (y : Int) (List.mem_map.mpr ⟨y, hy, rfl⟩)
              omega
            refine ⟨by show 1 ≤ sizeLine; decide, fun p4 hp4 => ?_⟩
            have s4 : Same H3 (upd H3 p4 (.lst [.int (x : Int)])) := same_new hp4
            refine ⟨p3, p4, _, _, rfl, rfl, s4 _ _ h3, upd_same, by show 3 ≤ sizeLine; decide, fun p5 hp5 => ?_⟩
            have s5 : Same H _ := Same.trans (Same.trans sm s3) s4
            refine q _ p5 (snew s5 (Same.free s5 hp5)) (Same.free s5 hp5) ?_
            rw [upd_same, aI_nums, lowest_is hpos, ex]
            rfl

theorem scLeast : FnScope ["wheel", "m", "many"] ["wheel", "m"] (defScope sLeast) := ⟨rfl, rfl, rfl, by decide +kernel, rfl, by decide +kernel, by decide +kernel⟩
theorem c_least (T : WTxt K C) (A : At K mg "least_by_count" sLeast) (c1 : C8.Cal P w K mg base 2 "covered_by" spCovBy []) (c2 : C8.Cal P w K mg base 1 "rounded_up" spUp []) (mL : mg "len" = none) : C8.Cal P w K mg base 3 "least_by_count" (spLeast C) [] := by
  refine cal_of (N := ["wheel", "m", "many"]) (ps := ["wheel", "m"]) A (fun _ _ _ _ _ _ us hl => match us, hl with | [_, _], _ => rfl) scLeast (fun vs H Q E h => ?_) (fun f cdv A outer s H vs Q E hr h => ?_)
  · obtain ⟨a, at', s, m, rfl, _⟩ := h
    rfl
  · obtain ⟨a, at', st, m, rfl, ⟨⟨dx, ak, ad, hw, n1, n2, ⟨ks, hks, hkr⟩, ⟨vs, hvs, hrows⟩, rt⟩, g⟩, q⟩ := h
    refine ⟨_, pss_cons (ps_set (i := 2) scLeast.nd rfl (.inl rfl) (C8.pe_c c1 hr (by decide) rfl (pa_cons (pe_ix ix_list (pe_fld (pv 0) rfl) pe_int (fun _ _ => rfl)) (pa_cons (pe_fld (pv 0) rfl) (pa_cons (pv 1) pa_nil)))))
      (pss_cons (ps_if (pt_cmpR op_eq (pv 2) pe_int (nomark _)) (pss_one (ps_ret (pe_lst (pa_cons (pe_un un_neg pe_int) pa_nil)))) pss_nil)
      (pss_one (ps_ret (pe_lst (pa_cons (C8.pe_c c2 hr (by decide) rfl (pa_cons (pe_callB call_len_seq rfl mL PySem.boot_len (pa_cons (pe_fld (pv 0) rfl) pa_nil)) (pa_cons (pv 2) pa_nil))) pa_nil))))), ?_⟩
    cases hkk : allTickets st with
    | nil => exact (g.kinds_ne hkk).elim
    | cons t l =>
      obtain ⟨x0, h0⟩ : ∃ x0, ks[0]? = some x0 := by
        have := hkr.len
        rw [hkk, List.length_cons] at this
        cases ks with
        | nil => cases this
        | cons x xs => exact ⟨x, rfl⟩
      obtain ⟨ra, r, e1, e2, e3⟩ := hkr.get h0
      rw [hkk] at e2
      obtain rfl : t = r := Option.some.inj e2
      have hone := one_of (m := m) hkk
      have hpos : 0 < Mu24.draws st := List.length_pos_iff.mpr g.draws_ne
      refine ⟨_, rfl, a, C, dx, _, _, rfl, hw, T.cl, T.kinds, wF_kinds _ _ _ _, ak, ks, 0, .ref ra, rfl, rfl, sl_of hks, atI_nat (j := 0) (by rw [h0, e1]), _, rfl, a, C, dx, _, _, rfl, hw, T.cl, T.draws, wF_draws _ _ _ _, _, rfl, ra, ad, t, allDraws st, m, rfl, e3, ⟨vs, hvs, hrows⟩, ?_⟩
      refine ⟨_, rfl, rfl, _, rfl, ?_⟩
      have u : leastAns st m = if gain (allDraws st) m t = 0 then [-6] else [(((Mu24.draws st + gain (allDraws st) m t - 1) / gain (allDraws st) m t : Nat) : Int)] := by
        unfold leastAns
        rw [hone]
      rw [u] at q
      refine ite2 (fun h => ?_) (fun h => ?_)
      · have h : gain (allDraws st) m t = 0 := by
          have h1 := V.int.inj (of_decide_eq_true h)
          omega
        rw [if_pos h] at q
        exact ⟨_, rfl, by show 1 ≤ sizeLine; decide, fun p hp => q _ p (same_new hp) hp upd_same⟩
      · have h : ¬ gain (allDraws st) m t = 0 := fun z => h (decide_eq_true (by rw [z]; rfl))
        rw [if_neg h] at q
        have hle : gain (allDraws st) m t ≤ (allDraws st).length := List.length_filter_le _ _
        have hd := g.draws_few
        refine ⟨_, rfl, a, C, dx, _, _, rfl, hw, T.cl, T.draws, wF_draws _ _ _ _, ad, vs, rfl, .inl (sl_of hvs), _, rfl, Mu24.draws st, gain (allDraws st) m t, by rw [hrows.len]; rfl, by omega, by omega, by show 1 ≤ sizeLine; decide, fun p hp => q _ p (same_new hp) hp upd_same⟩
end
end Wd

set_option Elab.async false
set_option linter.all false
set_option maxRecDepth 100000
set_option maxHeartbeats 4000000
/-! state: is_size, is_wheel, Wheel -/
namespace Wd
open PySem PySem.Spec PyProof.Rows L2
open Mu24 (Pick right most State allTickets allDraws nums)
abbrev sSize : Stmt := tops 45
abbrev sIsWheel : Stmt := tops 46
abbrev sInit : Stmt := inClass (tops 47) 0
abbrev sFull : Stmt := inClass (tops 47) 1
abbrev sBought : Stmt := inClass (tops 47) 2
abbrev sGiven : Stmt := inClass (tops 47) 3

def sizeOk (many n : Nat) : Bool := decide (1 ≤ many) && decide (many ≤ 6) && decide (many ≤ n)
def wheelOk (n k t : Nat) : Bool := decide (2 ≤ n) && decide (n ≤ 10) && (sizeOk k n && sizeOk t n)
theorem good_of {n k t : Nat} (h : wheelOk n k t = true) : Good ⟨n, k, t, []⟩ := by
  unfold wheelOk sizeOk at h
  simp only [Bool.and_eq_true, decide_eq_true_eq] at h
  obtain ⟨⟨h1, h2⟩, ⟨⟨h3, h4⟩, h5⟩, ⟨h6, h7⟩, h8⟩ := h
  exact ⟨h1, h2, h3, h4, h5, h6, h7, h8, List.nodup_nil, fun a ha => absurd ha List.not_mem_nil, Nat.zero_le _⟩
/-- all else than a as it was -/
def SameBut (a : Addr) (H H' : Hp) : Prop := ∀ b o, H b = some o → b ≠ a → H' b = some o
theorem SameBut.of {a : Addr} {H H' : Hp} (h : Same H H') : SameBut a H H' := fun b o e _ => h b o e
theorem SameBut.same {a : Addr} {H H1 H2 : Hp} (h : SameBut a H H1) (s : Same H1 H2) : SameBut a H H2 := fun b o e n => s b o (h b o e n)
theorem SameBut.trans {a : Addr} {H H1 H2 : Hp} (h : SameBut a H H1) (s : SameBut a H1 H2) : SameBut a H H2 := fun b o e n => s b o (h b o e n) n

def spSize : Sp := fun vs H Q _ => ∃ (i n : Nat), vs = [iv i, iv n] ∧ Q (.bl (sizeOk i n)) H
def spIsWheel : Sp := fun vs H Q _ => ∃ (n k t : Nat), vs = [iv n, iv k, iv t] ∧ Q (.bl (wheelOk n k t)) H
def spInit (C : Addr) : Sp := fun vs H Q _ => ∃ (p dx : Addr) (n k t : Nat), vs = [.ref p, iv n, iv k, iv t] ∧ H p = some (.ins C dx []) ∧ wheelOk n k t = true ∧
  ∀ (H' : Hp) (at' : Addr), WheelAt C H' p at' ⟨n, k, t, []⟩ → SameBut p H H' → H at' = none → (∀ z, H z ≠ none → Apart H' p z) → Q .non H'
def spFull (C : Addr) : Sp := fun vs H Q _ => ∃ (a at' : Addr) (s : State), vs = [.ref a] ∧ WheelAt C H a at' s ∧ Q (.bl (decide (30 ≤ s.tickets.length))) H
def spBought (C : Addr) : Sp := fun vs H Q _ => ∃ (a at' b : Addr) (s : State) (l : Pick), vs = [.ref a, .ref b] ∧ WheelAt C H a at' s ∧ H b = some (.lst (nI l)) ∧ Good { s with tickets := s.tickets ++ [l] } ∧
  ∀ H' : Hp, SameBut at' H H' → WheelAt C H' a at' { s with tickets := s.tickets ++ [l] } → Aparts H H' a → Q (iv s.tickets.length) H'
def spGiven (C : Addr) : Sp := fun vs H Q _ => ∃ (a at' : Addr) (s : State) (i : Nat), vs = [.ref a, iv i] ∧ WheelAt C H a at' s ∧ i < s.tickets.length ∧
  ∀ (H' : Hp) (p : Addr), SameBut a H H' → H p = none → WheelAt C H' a p { s with tickets := s.tickets.eraseIdx i } → Aparts H H' a → Q .non H'

theorem Good.erase {s : State} (g : Good s) (i : Nat) : Good { s with tickets := s.tickets.eraseIdx i } :=
  have sub : (s.tickets.eraseIdx i).Sublist s.tickets := List.eraseIdx_sublist s.tickets i
  ⟨g.n2, g.n10, g.k1, g.k6, g.kn, g.t1, g.t6, g.tn, g.nd.sublist sub, fun a ha => g.len a (sub.subset ha), Nat.le_trans sub.length_le g.few⟩
theorem Good.sub {s : State} (g : Good s) {l : List Pick} (sub : l.Sublist s.tickets) : Good { s with tickets := l } :=
  ⟨g.n2, g.n10, g.k1, g.k6, g.kn, g.t1, g.t6, g.tn, g.nd.sublist sub, fun a ha => g.len a (sub.subset ha), Nat.le_trans sub.length_le g.few⟩
theorem put_here {f : Str} {v x : V} {r : List (Str × V)} : putF f v ((f, x) :: r) = (f, v) :: r := if_pos rfl
theorem put_past {f g : Str} {v x : V} {r : List (Str × V)} (h : ¬ g = f) : putF f v ((g, x) :: r) = (g, x) :: putF f v r := if_neg h
theorem wF_put (s : State) (l : List Pick) (ak ad at' p : Addr) : putF "tickets" (.ref p) (wF s ak ad at') = wF { s with tickets := l } ak ad p :=
  (put_past (by decide +kernel)).trans (congrArg _ ((put_past (by decide +kernel)).trans (congrArg _ ((put_past (by decide +kernel)).trans (congrArg _ ((put_past (by decide +kernel)).trans (congrArg _ ((put_past (by decide +kernel)).trans (congrArg _ put_here)))))))))
def q1 (n : Nat) : List (Str × V) := [("n", iv n)]
def q2 (n k : Nat) : List (Str × V) := [("n", iv n), ("k", iv k)]
def q3 (n k t : Nat) : List (Str × V) := [("n", iv n), ("k", iv k), ("t", iv t)]
def q4 (n k t : Nat) (ak : Addr) : List (Str × V) := [("n", iv n), ("k", iv k), ("t", iv t), ("kinds", .ref ak)]
def q5 (n k t : Nat) (ak ad : Addr) : List (Str × V) := [("n", iv n), ("k", iv k), ("t", iv t), ("kinds", .ref ak), ("draws", .ref ad)]
theorem pF1 (n : Nat) : putF "n" (iv n) [] = q1 n := rfl
theorem pF2 (n k : Nat) : putF "k" (iv k) (q1 n) = q2 n k := (put_past (by decide +kernel)).trans rfl
theorem pF3 (n k t : Nat) : putF "t" (iv t) (q2 n k) = q3 n k t := (put_past (by decide +kernel)).trans (congrArg _ ((put_past (by decide +kernel)).trans rfl))
theorem pF4 (n k t : Nat) (ak : Addr) : putF "kinds" (.ref ak) (q3 n k t) = q4 n k t ak :=
  (put_past (by decide +kernel)).trans (congrArg _ ((put_past (by decide +kernel)).trans (congrArg _ ((put_past (by decide +kernel)).trans rfl))))
theorem pF5 (n k t : Nat) (ak ad : Addr) : putF "draws" (.ref ad) (q4 n k t ak) = q5 n k t ak ad :=
  (put_past (by decide +kernel)).trans (congrArg _ ((put_past (by decide +kernel)).trans (congrArg _ ((put_past (by decide +kernel)).trans (congrArg _ ((put_past (by decide +kernel)).trans rfl))))))
theorem pF6 (n k t : Nat) (ak ad at' : Addr) : putF "tickets" (.ref at') (q5 n k t ak ad) = wF ⟨n, k, t, []⟩ ak ad at' :=
  (put_past (by decide +kernel)).trans (congrArg _ ((put_past (by decide +kernel)).trans (congrArg _ ((put_past (by decide +kernel)).trans (congrArg _ ((put_past (by decide +kernel)).trans (congrArg _ ((put_past (by decide +kernel)).trans rfl))))))))
/-- rows that stand elsewhere stay where a list of rows is changed -/
theorem RowsAt.mut {H : Hp} {a b : Addr} {l l' : List Pick} {vs : List V} {o : HO} (h : RowsAt H a l) (hne : a ≠ b) (hb : H b = some (.lst vs)) (hv : RowsV H vs l') (hr : ∀ r ∈ l, r ≠ []) : RowsAt (upd H b o) a l := by
  obtain ⟨ws, h1, h2⟩ := h
  refine ⟨ws, by rw [upd_ne hne]; exact h1, h2.keep fun c r m e => ?_⟩
  by_cases z : c = b
  · subst z
    rw [hb] at e
    exact (hr r m (hv.no_nums (HO.lst.inj (Option.some.inj e))).2).elim
  · rw [upd_ne z]
    exact e
/-- an instance is changed: lists stay -/
theorem RowsAt.ins {H : Hp} {a b C dx : Addr} {l : List Pick} {fs : List (Str × V)} {o : HO} (h : RowsAt H a l) (hb : H b = some (.ins C dx fs)) : RowsAt (upd H b o) a l := by
  obtain ⟨ws, h1, h2⟩ := h
  refine ⟨ws, by rw [upd_ne (ne_of h1 hb (by intro z; cases z))]; exact h1, h2.keep fun c r m e => ?_⟩
  rw [upd_ne (ne_of e hb (by intro z; cases z))]
  exact e
theorem kinds_full {s : State} (g : Good s) : ∀ r ∈ allTickets s, r ≠ [] := fun r hr z => by
  have := kinds_len hr
  rw [z] at this
  have := g.k1
  simp at *
  omega
theorem draws_full {s : State} (g : Good s) : ∀ r ∈ allDraws s, r ≠ [] := fun r hr z => by
  have := draws_len hr
  rw [z] at this
  have := g.t1
  simp at *
  omega

section
variable {P : Program} {w : World} {K : PySem.W.Frag} {mg : Str → Option Value} {base : Heap} {C : Addr}
theorem scSize : FnScope ["many", "n"] ["many", "n"] (defScope sSize) := ⟨rfl, rfl, rfl, by decide +kernel, rfl, by decide +kernel, by decide +kernel⟩
theorem c_size (A : At K mg "is_size" sSize) : C8.Cal P w K mg base 1 "is_size" spSize [] := by
  refine cal_of (N := ["many", "n"]) (ps := ["many", "n"]) A (fun _ _ _ _ _ _ us hl => match us, hl with | [_, _], _ => rfl) scSize (fun vs H Q E h => ?_) (fun f cdv A outer s H vs Q E hr h => ?_)
  · obtain ⟨i, n, rfl, _⟩ := h
    rfl
  · obtain ⟨i, n, rfl, q⟩ := h
    refine ⟨_, pss_one (ps_ret (pe_and (pe_chain op_le op_le pe_int (pv 0) pe_int) (pe_one (pe_cmpR op_le (pv 0) (pv 1) (nomark _))))), ?_⟩
    refine ⟨_, rfl, _, _, rfl, rfl, _, rfl, ?_⟩
    have q' : Q (.bl (decide (1 ≤ i) && decide (i ≤ 6) && decide (i ≤ n))) H := q
    refine ite2 (fun h => ?_) (fun h => ?_)
    · have h : 1 ≤ i := by
        have := of_decide_eq_true h
        omega
      rw [decide_eq_true h, Bool.true_and] at q'
      refine ⟨_, _, rfl, rfl, _, rfl, ?_⟩
      refine ite2 (fun h2 => ?_) (fun h2 => ?_)
      · have h2 : i ≤ 6 := by
          have := of_decide_eq_true h2
          omega
        rw [decide_eq_true h2, Bool.true_and] at q'
        refine ⟨_, rfl, _, rfl, _, _, rfl, rfl, ?_⟩
        have e : decide ((i : Int) ≤ (n : Int)) = decide (i ≤ n) := by
          by_cases z : i ≤ n
          · rw [decide_eq_true z, decide_eq_true (by omega)]
          · rw [decide_eq_false z, decide_eq_false (by omega)]
        show Q (.bl (decide ((i : Int) ≤ (n : Int)))) H
        rw [e]
        exact q'
      · have h2 : ¬ i ≤ 6 := fun z => h2 (decide_eq_true (by omega))
        rw [decide_eq_false h2, Bool.false_and] at q'
        exact q'
    · have h : ¬ 1 ≤ i := fun z => h (decide_eq_true (by omega))
      rw [decide_eq_false h, Bool.false_and, Bool.false_and] at q'
      refine ⟨_, rfl, iteF q'⟩

theorem scIsWheel : FnScope ["n", "k", "t"] ["n", "k", "t"] (defScope sIsWheel) := ⟨rfl, rfl, rfl, by decide +kernel, rfl, by decide +kernel, by decide +kernel⟩
theorem c_isWheel (A : At K mg "is_wheel" sIsWheel) (c1 : C8.Cal P w K mg base 1 "is_size" spSize []) : C8.Cal P w K mg base 2 "is_wheel" spIsWheel [] := by
  refine cal_of (N := ["n", "k", "t"]) (ps := ["n", "k", "t"]) A (fun _ _ _ _ _ _ us hl => match us, hl with | [_, _, _], _ => rfl) scIsWheel (fun vs H Q E h => ?_) (fun f cdv A outer s H vs Q E hr h => ?_)
  · obtain ⟨n, k, t, rfl, _⟩ := h
    rfl
  · obtain ⟨n, k, t, rfl, q⟩ := h
    refine ⟨_, pss_one (ps_ret (pe_and (pe_chain op_le op_le pe_int (pv 0) pe_int) (pe_and (C8.pe_c c1 hr (by decide) rfl (pa_cons (pv 1) (pa_cons (pv 0) pa_nil))) (pe_one (C8.pe_c c1 hr (by decide) rfl (pa_cons (pv 2) (pa_cons (pv 0) pa_nil))))))), ?_⟩
    have q' : Q (.bl (decide (2 ≤ n) && decide (n ≤ 10) && (sizeOk k n && sizeOk t n))) H := q
    refine ⟨_, rfl, _, _, rfl, rfl, _, rfl, ?_⟩
    refine ite2 (fun h => ?_) (fun h => ?_)
    · have h : 2 ≤ n := by
        have := of_decide_eq_true h
        omega
      rw [decide_eq_true h, Bool.true_and] at q'
      refine ⟨_, _, rfl, rfl, _, rfl, ?_⟩
      refine ite2 (fun h2 => ?_) (fun h2 => ?_)
      · have h2 : n ≤ 10 := by
          have := of_decide_eq_true h2
          omega
        rw [decide_eq_true h2, Bool.true_and] at q'
        refine ⟨_, rfl, _, rfl, k, n, rfl, _, rfl, ?_⟩
        refine ite2 (fun h3 => ?_) (fun h3 => ?_)
        · rw [h3, Bool.true_and] at q'
          exact ⟨_, rfl, _, rfl, t, n, rfl, q'⟩
        · have h3 : sizeOk k n = false := by simpa using h3
          rw [h3, Bool.false_and] at q'
          exact q'
      · have h2 : ¬ n ≤ 10 := fun z => h2 (decide_eq_true (by omega))
        rw [decide_eq_false h2, Bool.false_and] at q'
        exact q'
    · have h : ¬ 2 ≤ n := fun z => h (decide_eq_true (by omega))
      rw [decide_eq_false h, Bool.false_and, Bool.false_and] at q'
      exact ⟨_, rfl, iteF q'⟩

theorem scInit : FnScope ["self", "n", "k", "t"] ["self", "n", "k", "t"] (defScope sInit) := ⟨rfl, rfl, rfl, by decide +kernel, rfl, by decide +kernel, by decide +kernel⟩
theorem m_init (T : WTxt K C) {f : Addr} {fd : FuncData} (F : Fun K "__init__" "Wheel.__init__" sInit f fd) (c1 : C8.Cal P w K mg base 2 "rows_of" spRowsOf []) : FnOk P w K mg base CX0 3 f fd ["self", "n", "k", "t"] (spInit C) := by
  refine F.ok scInit (fun vs H Q E h => ?_) (fun cdv A outer s H vs Q E hr h => ?_)
  · obtain ⟨p, dx, n, k, t, rfl, _⟩ := h
    rfl
  · obtain ⟨p, dx, n, k, t, rfl, hp, ok, q⟩ := h
    have g := good_of ok
    refine ⟨_, pss_cons (ps_fld (pv 0) (pv 1) rfl) (pss_cons (ps_fld (pv 0) (pv 2) rfl) (pss_cons (ps_fld (pv 0) (pv 3) rfl)
      (pss_cons (ps_fld (pv 0) (C8.pe_c c1 hr (by decide) rfl (pa_cons (pv 1) (pa_cons (pv 2) pa_nil))) rfl)
      (pss_cons (ps_fld (pv 0) (C8.pe_c c1 hr (by decide) rfl (pa_cons (pv 1) (pa_cons (pv 3) pa_nil))) rfl)
      (pss_one (ps_fld (pv 0) (pe_lst pa_nil) rfl)))))), ?_⟩
    refine ⟨_, rfl, _, rfl, p, C, dx, _, rfl, hp, T.cl, T.n, by decide, ?_⟩
    rw [pF1]
    refine ⟨_, rfl, _, rfl, p, C, dx, _, rfl, upd_same, T.cl, T.k, by show 1 < 1000; decide, ?_⟩
    rw [upd_upd, pF2]
    refine ⟨_, rfl, _, rfl, p, C, dx, _, rfl, upd_same, T.cl, T.t, by show 2 < 1000; decide, ?_⟩
    rw [upd_upd, pF3]
    have b0 : SameBut p H (upd H p (.ins C dx (q3 n k t))) := fun b o e z => by
      rw [upd_ne z]
      exact e
    refine ⟨_, rfl, _, rfl, n, k, rfl, g.n10, g.k6, fun H1 ak ks s1 n1 hks hkr hkf => ?_⟩
    have r1 : RowsAt H1 ak (rowsUp n k) := ⟨ks, hks, hkr⟩
    refine ⟨_, rfl, p, C, dx, _, rfl, s1 _ _ upd_same, T.cl, T.kinds, by show 3 < 1000; decide, ?_⟩
    rw [pF4]
    have hp1 := s1 _ _ upd_same
    have r1' : RowsAt (upd H1 p (.ins C dx (q4 n k t ak))) ak (rowsUp n k) := r1.ins hp1
    refine ⟨_, rfl, _, rfl, n, t, rfl, g.n10, g.t6, fun H2 ad ds s2 n2 hds hdr hdf => ?_⟩
    have r2 : RowsAt H2 ad (rowsUp n t) := ⟨ds, hds, hdr⟩
    have hp2 := s2 _ _ upd_same
    refine ⟨_, rfl, p, C, dx, _, rfl, hp2, T.cl, T.draws, by show 4 < 1000; decide, ?_⟩
    rw [pF5]
    have r1'' : RowsAt (upd H2 p (.ins C dx (q5 n k t ak ad))) ak (rowsUp n k) := (r1'.same s2).ins hp2
    have r2' : RowsAt (upd H2 p (.ins C dx (q5 n k t ak ad))) ad (rowsUp n t) := r2.ins hp2
    have b1 : SameBut p H H1 := fun b o e z => s1 b o (b0 b o e z)
    have b2 : SameBut p H (upd H2 p (.ins C dx (q5 n k t ak ad))) := fun b o e z => by
      rw [upd_ne z]
      refine s2 b o ?_
      rw [upd_ne z]
      exact b1 b o e z
    refine ⟨by show 0 ≤ sizeLine; decide, fun at' hat => ?_⟩
    have s3 : Same (upd H2 p (.ins C dx (q5 n k t ak ad))) (upd (upd H2 p (.ins C dx (q5 n k t ak ad))) at' (.lst [])) := same_new hat
    have hp3 := s3 _ _ upd_same
    refine ⟨_, rfl, p, C, dx, _, rfl, hp3, T.cl, T.tickets, by show 5 < 1000; decide, ?_⟩
    rw [pF6]
    have nat : at' ≠ p := fun z => by
      rw [z, upd_same] at hat
      cases hat
    have hks2 : upd H2 p (.ins C dx (q5 n k t ak ad)) ak = some (.lst ks) := by
      have e1 : upd H1 p (.ins C dx (q4 n k t ak)) ak = some (.lst ks) := by
        rw [upd_ne (ne_of hks hp1 (by intro z; cases z))]
        exact hks
      have e2 := s2 _ _ e1
      rw [upd_ne (ne_of e2 hp2 (by intro z; cases z))]
      exact e2
    have hds2 : upd H2 p (.ins C dx (q5 n k t ak ad)) ad = some (.lst ds) := by
      rw [upd_ne (ne_of hds hp2 (by intro z; cases z))]
      exact hds
    refine q _ at' ⟨⟨dx, ak, ad, upd_same, ?_, ?_, ?_, ?_, ?_⟩, g⟩ ?_ ?_ (fun z hz => ?_)
    · obtain ⟨ws, e, _⟩ := r1''
      exact ne_of_none e hat
    · obtain ⟨ws, e, _⟩ := r2'
      exact ne_of_none e hat
    · rw [← kinds_is]
      exact (r1''.same s3).ins hp3
    · rw [← draws_is]
      exact (r2'.same s3).ins hp3
    · exact ⟨[], by rw [upd_ne nat]; exact upd_same, .nil⟩
    · intro b o e z
      rw [upd_ne z]
      exact s3 b o (b2 b o e z)
    · have z := hat
      rw [upd_ne nat] at z
      cases e : H at' with
      | none => rfl
      | some o =>
        have h1 := b1 at' o e nat
        rw [s2 at' o (by rw [upd_ne nat]; exact h1)] at z
        cases z
    · have old0 : upd H p (.ins C dx (q3 n k t)) z ≠ none := by
        by_cases zp : z = p
        · rw [zp, upd_same]
          intro q
          cases q
        · rw [upd_ne zp]
          exact hz
      have old1 : upd H1 p (.ins C dx (q4 n k t ak)) z ≠ none := by
        by_cases zp : z = p
        · rw [zp, upd_same]
          intro q
          cases q
        · rw [upd_ne zp]
          intro q
          rw [upd_ne zp] at old0
          cases e : H z with
          | none => exact old0 e
          | some o =>
            rw [s1 z o (by rw [upd_ne zp]; exact e)] at q
            cases q
      have old2 : upd H2 p (.ins C dx (q5 n k t ak ad)) z ≠ none := by
        by_cases zp : z = p
        · rw [zp, upd_same]
          intro q
          cases q
        · rw [upd_ne zp]
          intro q
          cases e : upd H1 p (.ins C dx (q4 n k t ak)) z with
          | none => exact old1 e
          | some o =>
            rw [s2 z o e] at q
            cases q
      have k3 : ∀ {l : Addr} {vs : List V}, upd H2 p (.ins C dx (q5 n k t ak ad)) l = some (.lst vs) → upd (upd (upd H2 p (.ins C dx (q5 n k t ak ad))) at' (.lst [])) p (.ins C dx (wF ⟨n, k, t, []⟩ ak ad at')) l = some (.lst vs) := fun {l vs} e => by
        have e2 := s3 _ _ e
        rw [upd_ne (ne_of e2 hp3 (by intro z; cases z))]
        exact e2
      refine apart_mk upd_same (off_new old0 n1 (k3 hks2) fun m => old0 (hkf z m)) (off_new old1 n2 (k3 hds2) fun m => old1 (hdf z m)) (off_new (vs := []) old2 hat (by rw [upd_ne nat]; exact upd_same) List.not_mem_nil)

theorem scFull : FnScope ["self"] ["self"] (defScope sFull) := ⟨rfl, rfl, rfl, by decide +kernel, rfl, by decide +kernel, by decide +kernel⟩
theorem m_full (T : WTxt K C) (A : AtM K C "is_full" "Wheel.is_full" sFull) (mL : mg "len" = none) (mM : Num mg "MOST_TICKETS" 30) : C8.Met P w K mg base 1 C "is_full" (spFull C) [] := by
  refine met_of (N := ["self"]) (ps := ["self"]) T.cl A (fun _ _ _ _ _ _ us hl => match us, hl with | [_], _ => rfl) scFull (fun vs H Q E h => ?_) (fun f cdv A outer s H vs Q E hr h => ?_)
  · obtain ⟨a, at', s, rfl, _⟩ := h
    rfl
  · obtain ⟨a, at', st, rfl, ⟨⟨dx, ak, ad, hw, n1, n2, rk, rd, ⟨vs, hvs, hrows⟩⟩, g⟩, q⟩ := h
    refine ⟨_, pss_one (ps_ret (pe_cmpR op_ge (pe_callB call_len_seq rfl mL PySem.boot_len (pa_cons (pe_fld (pv 0) rfl) pa_nil)) (C8.pe_gc rfl mM) (nomark _))), ?_⟩
    refine ⟨_, rfl, a, C, dx, _, _, rfl, hw, T.cl, T.tickets, wF_tickets _ _ _ _, at', vs, rfl, .inl (sl_of hvs), _, _, rfl, rfl, ?_⟩
    have e : decide ((30 : Int) ≤ (vs.length : Int)) = decide (30 ≤ st.tickets.length) := by
      rw [hrows.len]
      by_cases z : 30 ≤ st.tickets.length
      · rw [decide_eq_true z, decide_eq_true (by omega)]
      · rw [decide_eq_false z, decide_eq_false (by omega)]
    show Q (.bl (decide ((30 : Int) ≤ (vs.length : Int)))) H
    rw [e]
    exact q

theorem scBought : FnScope ["self", "ticket"] ["self", "ticket"] (defScope sBought) := ⟨rfl, rfl, rfl, by decide +kernel, rfl, by decide +kernel, by decide +kernel⟩
theorem boot_list' : bootBuiltins "list" = some (.type "list") := by decide +kernel
theorem m_bought (T : WTxt K C) (A : AtM K C "bought" "Wheel.bought" sBought) (mL : mg "len" = none) (mI : mg "list" = none) : C8.Met P w K mg base 1 C "bought" (spBought C) [] := by
  refine met_of (N := ["self", "ticket"]) (ps := ["self", "ticket"]) T.cl A (fun _ _ _ _ _ _ us hl => match us, hl with | [_, _], _ => rfl) scBought (fun vs H Q E h => ?_) (fun f cdv A outer s H vs Q E hr h => ?_)
  · obtain ⟨a, at', b, s, l, rfl, _⟩ := h
    rfl
  · obtain ⟨a, at', b, st, l, rfl, ⟨⟨dx, ak, ad, hw, n1, n2, rk, rd, ⟨vs, hvs, hrows⟩⟩, g⟩, hb, g2, q⟩ := h
    refine ⟨_, pss_cons (ps_expr (pe_bm PySem.F.plainAttrs_list PySem.F.slot_list_append PySem.F.type_list_append mt_append (pe_fld (pv 0) rfl) (pa_cons (pe_callTy call_list_of rfl mI boot_list' (pa_cons (pv 1) pa_nil)) pa_nil)))
      (pss_one (ps_ret (pe_op op_sub (pe_callB call_len_seq rfl mL PySem.boot_len (pa_cons (pe_fld (pv 0) rfl) pa_nil)) pe_int))), ?_⟩
    refine ⟨_, rfl, a, C, dx, _, _, rfl, hw, T.cl, T.tickets, wF_tickets _ _ _ _, .inl ⟨rfl, _, sl_of hvs⟩, _, rfl, b, nI l, rfl, .inl (sl_of hb), fun p hp => ?_⟩
    have s1 : Same H (upd H p (.lst (nI l))) := same_new hp
    have hvs1 := s1 _ _ hvs
    have hw1 := s1 _ _ hw
    have hfew := g2.few
    refine ⟨at', vs, _, rfl, rfl, hvs1, ?_, ?_⟩
    · rw [hrows.len]
      have := g.few
      exact sz252' (by omega)
    have hne : a ≠ at' := ne_of hw hvs (by intro z; cases z)
    have npt : p ≠ at' := fun z => by
      rw [z, hvs] at hp
      cases hp
    have hw2 : upd (upd H p (.lst (nI l))) at' (.lst (vs ++ [.ref p])) a = some (.ins C dx (wF st ak ad at')) := by
      rw [upd_ne hne]
      exact hw1
    refine ⟨_, rfl, a, C, dx, _, _, rfl, hw2, T.cl, T.tickets, wF_tickets _ _ _ _, at', _, rfl, .inl (sl_of upd_same), _, _, rfl, rfl, ?_⟩
    have e : ((vs ++ [V.ref p]).length : Int) - 1 = (st.tickets.length : Int) := by
      rw [List.length_append, List.length_singleton, hrows.len]
      omega
    show Q (.int (((vs ++ [V.ref p]).length : Int) - 1)) _
    rw [e]
    refine q _ (fun c o e z => ?_) ⟨⟨dx, ak, ad, hw2, n1, n2, (rk.same s1).mut n1 hvs1 (hrows.same s1) (kinds_full g), (rd.same s1).mut n2 hvs1 (hrows.same s1) (draws_full g), _, upd_same, ?_⟩, g2⟩ (fun z hz ap => ?_)
    · rw [upd_ne z]
      exact s1 _ _ e
    · refine ((hrows.same s1).push hvs1).snoc ?_
      rw [upd_ne npt]
      exact upd_same
    · obtain ⟨o1, o2, o3⟩ := ap.at_ hw
      obtain ⟨ks, hks, _⟩ := rk
      obtain ⟨ds, hds, _⟩ := rd
      refine apart_mk hw2 (o1.keep hks (by rw [upd_ne n1]; exact s1 _ _ hks)) (o2.keep hds (by rw [upd_ne n2]; exact s1 _ _ hds)) ⟨o3.1, fun ws e m => ?_⟩
      rw [upd_same] at e
      cases e
      rcases List.mem_append.mp m with m | m
      · exact o3.2 vs hvs m
      · cases List.mem_singleton.mp m
        exact hz hp

theorem scGiven : FnScope ["self", "place"] ["self", "place"] (defScope sGiven) := ⟨rfl, rfl, rfl, by decide +kernel, rfl, by decide +kernel, by decide +kernel⟩
theorem m_given (T : WTxt K C) (A : AtM K C "given_back" "Wheel.given_back" sGiven) : C8.Met P w K mg base 1 C "given_back" (spGiven C) [] := by
  refine met_of (N := ["self", "place"]) (ps := ["self", "place"]) T.cl A (fun _ _ _ _ _ _ us hl => match us, hl with | [_, _], _ => rfl) scGiven (fun vs H Q E h => ?_) (fun f cdv A outer s H vs Q E hr h => ?_)
  · obtain ⟨a, at', s, i, rfl, _⟩ := h
    rfl
  · obtain ⟨a, at', st, i, rfl, ⟨⟨dx, ak, ad, hw, n1, n2, rk, rd, ⟨vs, hvs, hrows⟩⟩, g⟩, hi, q⟩ := h
    refine ⟨_, pss_one (ps_fld (pv 0) (pe_op op_cat (pe_slice sl_list (pe_fld (pv 0) rfl) po_none (po_some (pv 1))) (pe_slice sl_list (pe_fld (pv 0) rfl) (po_some (pe_op op_add (pv 1) pe_int)) po_none)) rfl), ?_⟩
    refine ⟨_, rfl, a, C, dx, _, _, rfl, hw, T.cl, T.tickets, wF_tickets _ _ _ _, _, rfl, _, rfl, at', vs, rfl, sl_of hvs, fun p1 hp1 => ?_⟩
    rw [cut_to (z := (i : Int)) (k := i) rfl]
    have s1 : Same H (upd H p1 (.lst (vs.take i))) := same_new hp1
    refine ⟨_, rfl, a, C, dx, _, _, rfl, s1 _ _ hw, T.cl, T.tickets, wF_tickets _ _ _ _, _, rfl, _, _, rfl, rfl, _, rfl, at', vs, rfl, sl_of (s1 _ _ hvs), fun p2 hp2 => ?_⟩
    rw [cut_from (z := (i : Int) + 1) (k := i + 1) rfl]
    have s2 : Same (upd H p1 (.lst (vs.take i))) (upd (upd H p1 (.lst (vs.take i))) p2 (.lst (vs.drop (i + 1)))) := same_new hp2
    refine ⟨p1, p2, _, _, rfl, rfl, s2 _ _ upd_same, upd_same, ?_, fun p3 hp3 => ?_⟩
    · rw [List.length_take, List.length_drop, hrows.len]
      have := g.few
      exact sz252 (by omega)
    have s12 : Same H (upd (upd H p1 (.lst (vs.take i))) p2 (.lst (vs.drop (i + 1)))) := Same.trans s1 s2
    have np3 : H p3 = none := Same.free s12 hp3
    have s3 : Same H (upd (upd (upd H p1 (.lst (vs.take i))) p2 (.lst (vs.drop (i + 1)))) p3 (.lst (vs.take i ++ vs.drop (i + 1)))) := snew s12 np3
    have hw3 := s3 _ _ hw
    refine ⟨_, rfl, a, C, dx, _, rfl, hw3, T.cl, T.tickets, by show 6 < 1000; decide, ?_⟩
    rw [wF_put st (st.tickets.eraseIdx i)]
    have npa : p3 ≠ a := fun z => by
      rw [z, hw] at np3
      cases np3
    refine q _ p3 (fun b o e z => ?_) np3 ⟨⟨dx, ak, ad, upd_same, ?_, ?_, (rk.same s3).ins hw3, (rd.same s3).ins hw3, ?_⟩, g.erase i⟩ (fun z hz ap => ?_)
    · rw [upd_ne z]
      exact s3 _ _ e
    · obtain ⟨ws, e, _⟩ := rk
      exact ne_of_none e np3
    · obtain ⟨ws, e, _⟩ := rd
      exact ne_of_none e np3
    · refine RowsAt.ins ⟨vs.take i ++ vs.drop (i + 1), upd_same, ?_⟩ hw3
      show RowsV _ _ (st.tickets.eraseIdx i)
      rw [List.eraseIdx_eq_take_drop_succ]
      exact ((hrows.take i).append (hrows.drop (i + 1))).same s3
    · obtain ⟨o1, o2, o3⟩ := ap.at_ hw
      obtain ⟨ks, hks, _⟩ := rk
      obtain ⟨ds, hds, _⟩ := rd
      have kk : ∀ {l : Addr} {us : List V}, H l = some (.lst us) → upd (upd (upd (upd H p1 (.lst (vs.take i))) p2 (.lst (vs.drop (i + 1)))) p3 (.lst (vs.take i ++ vs.drop (i + 1)))) a (.ins C dx (wF { st with tickets := st.tickets.eraseIdx i } ak ad p3)) l = some (.lst us) := fun {l us} e => by
        rw [upd_ne (ne_of e hw (by intro z; cases z))]
        exact s3 _ _ e
      refine apart_mk upd_same (o1.keep hks (kk hks)) (o2.keep hds (kk hds)) (off_new (vs := vs.take i ++ vs.drop (i + 1)) hz np3 (by rw [upd_ne npa]; exact upd_same) fun m => o3.2 vs hvs ?_)
      rcases List.mem_append.mp m with m | m
      · exact List.mem_of_mem_take m
      · exact List.mem_of_mem_drop m
end
end Wd

set_option Elab.async false
set_option linter.all false
set_option maxRecDepth 100000
set_option maxHeartbeats 4000000
/-! needed: how_often, counts_without, give_back; deeds: buy, drop, needed -/
namespace Wd
open PySem PySem.Spec PyProof.Rows L2
open Mu24 (Pick right most State allTickets allDraws nums)
abbrev sHow : Stmt := tops 36
abbrev sWithout : Stmt := tops 37
abbrev sGive : Stmt := tops 38
abbrev sBuy : Stmt := tops 40
abbrev sDrop : Stmt := tops 41
abbrev sNeeded : Stmt := tops 42
/-- the wheel is in a new state, and a new list of the answer is handed back; all else as it was -/
def Moves (C a at' : Addr) (H : Hp) (Q : VK) (s' : State) (ans : List Int) : Prop := ∀ (H' : Hp) (p at2 : Addr), WheelAt C H' a at2 s' → (at2 = at' ∨ H at2 = none) →
  (∀ b o, H b = some o → b ≠ a → b ≠ at' → H' b = some o) → Aparts H H' a → H p = none → H' p = some (.lst (aI ans)) → Q (.ref p) H'
theorem Moves.tells {C a at' : Addr} {H : Hp} {Q : VK} {s : State} {ans : List Int} (h : Moves C a at' H Q s ans) (w : WheelAt C H a at' s) : Tells H Q ans :=
  fun H' p sm np hp => h H' p at' (w.same sm) (.inl rfl) (fun b o e _ _ => sm b o e) (w.aparts sm) np hp
def buyNew (s : State) (l : Pick) : State := if Mu24.isPick s s.k l = false then s else if s.tickets.contains l = true then s else if 30 ≤ s.tickets.length then s else { s with tickets := s.tickets ++ [l] }
def buyAns (s : State) (l : Pick) : List Int := if Mu24.isPick s s.k l = false then [-1] else if s.tickets.contains l = true then [-4] else if 30 ≤ s.tickets.length then [-5] else [(s.tickets.length : Int)]
def dropNew (s : State) (i : Nat) : State := if s.tickets.length ≤ i then s else { s with tickets := s.tickets.eraseIdx i }
def dropAns (s : State) (i : Nat) : List Int := if s.tickets.length ≤ i then [-2] else [((s.tickets.length - 1 : Nat) : Int)]
def keptOf (s : State) (m : Nat) : List Pick := without (allDraws s) m [] s.tickets
def needNew (s : State) (m : Nat) : State := if Mu24.allCovered s s.tickets m = false then s else { s with tickets := keptOf s m }
def needAns (s : State) (m : Nat) : List Int := if Mu24.allCovered s s.tickets m = false then [-6] else [((s.tickets.length - (keptOf s m).length : Nat) : Int), ((keptOf s m).length : Int)]

def spHow : Sp := fun vs H Q _ => ∃ (a b : Addr) (l ds : List Pick) (m : Nat), vs = [.ref a, .ref b, iv m] ∧ RowsAt H a l ∧ RowsAt H b ds ∧ l.length ≤ 252 ∧ ds.length ≤ 252 ∧
  ∀ (H' : Hp) (p : Addr), Same H H' → H p = none → H' p = some (.lst (nI (ds.map (cnt l m)))) → Q (.ref p) H'
def spWithout : Sp := fun vs H Q _ => ∃ (a b c : Addr) (t : Pick) (ds : List Pick) (m : Nat) (f : Pick → Nat), vs = [.ref a, .ref b, iv m, .ref c] ∧ H a = some (.lst (nI t)) ∧ RowsAt H b ds ∧ ds.length ≤ 252 ∧ H c = some (.lst (nI (ds.map f))) ∧
  (∀ d ∈ ds, hit t m d ≤ f d) ∧ ∀ (H' : Hp) (p : Addr), Same H H' → H p = none → H' p = some (.lst (nI (ds.map fun d => f d - hit t m d))) → Q (.ref p) H'
def spGive (C : Addr) : Sp := fun vs H Q _ => ∃ (a at' : Addr) (s : State) (m : Nat), vs = [.ref a, iv m] ∧ WheelAt C H a at' s ∧ 0 < m ∧
  ∀ (H' : Hp) (at2 : Addr), WheelAt C H' a at2 { s with tickets := keptOf s m } → (at2 = at' ∨ H at2 = none) → SameBut a H H' → Aparts H H' a → Q (iv (s.tickets.length - (keptOf s m).length)) H'
def spBuy (C : Addr) : Sp := fun vs H Q _ => ∃ (a at' b : Addr) (s : State) (l : Pick), vs = [.ref a, .ref b] ∧ WheelAt C H a at' s ∧ H b = some (.lst (nI l)) ∧ Moves C a at' H Q (buyNew s l) (buyAns s l)
def spDrop (C : Addr) : Sp := fun vs H Q _ => ∃ (a at' : Addr) (s : State) (i : Nat), vs = [.ref a, iv i] ∧ WheelAt C H a at' s ∧ Moves C a at' H Q (dropNew s i) (dropAns s i)
def spNeeded (C : Addr) : Sp := fun vs H Q _ => ∃ (a at' : Addr) (s : State) (m : Nat), vs = [.ref a, iv m] ∧ WheelAt C H a at' s ∧ 0 < m ∧ Moves C a at' H Q (needNew s m) (needAns s m)

section
variable {P : Program} {w : World} {K : PySem.W.Frag} {mg : Str → Option Value} {base : Heap} {C : Addr}
theorem cnt_snoc (l : List Pick) (a : Pick) (m : Nat) (d : Pick) : cnt (l ++ [a]) m d = cnt l m d + (if m ≤ right a d then 1 else 0) := by
  unfold cnt
  rw [List.filter_append, List.length_append]
  congr 1
  by_cases c : m ≤ right a d
  · rw [if_pos c, List.filter_cons, if_pos (decide_eq_true c)]; rfl
  · rw [if_neg c, List.filter_cons, if_neg (by simp [c])]; rfl
theorem cnt_le (l : List Pick) (m : Nat) (d : Pick) : cnt l m d ≤ l.length := List.length_filter_le _ _
theorem scHow : FnScope ["tickets", "draws", "m", "found", "draw", "ticket"] ["tickets", "draws", "m"] (defScope sHow) := ⟨rfl, rfl, rfl, by decide +kernel, rfl, by decide +kernel, by decide +kernel⟩
theorem c_how (A : At K mg "how_often" sHow) (c1 : C8.Cal P w K mg base 1 "right_of" spRight []) (mL : mg "len" = none) : C8.Cal P w K mg base 2 "how_often" spHow [] := by
  refine cal_of (N := ["tickets", "draws", "m", "found", "draw", "ticket"]) (ps := ["tickets", "draws", "m"]) A (fun _ _ _ _ _ _ us hl => match us, hl with | [_, _, _], _ => rfl) scHow (fun vs H Q E h => ?_) (fun f cdv A outer s H vs Q E hr h => ?_)
  · obtain ⟨a, b, l, ds, m, rfl, _⟩ := h
    rfl
  · obtain ⟨a, b, l, ds, m, rfl, ⟨us, ha, hu⟩, ⟨ws, hb, hw⟩, hl, hds, q⟩ := h
    refine ⟨_, pss_cons (ps_set (i := 3) scHow.nd rfl (.inl rfl) (pe_lst pa_nil))
      (pss_cons (ps_for PassesOwn.never rfl (pi_list (pv 1)) (pg_name (i := 4) scHow.nd rfl (.inr rfl))
        (pss_one (ps_expr (pe_bm PySem.F.plainAttrs_list PySem.F.slot_list_append PySem.F.type_list_append mt_append (pv 3) (pa_cons (pe_callB call_len_seq rfl mL PySem.boot_len (pa_cons
          (pe_lc (own := [("ticket", 5)]) (g := gName 5) rfl scHow.nd (pi_list (pv 0)) (blkOk_by (N := ["tickets", "draws", "m", "found", "draw", "ticket"]) (sc := defScope sHow) (by decide +kernel))
            (fun _ _ _ _ _ => pg_name (i := 5) scHow.nd rfl (Or.inl rfl)) (fun _ _ _ _ _ => pts_one (pt_cmpR op_ge (C8.pe_c c1 hr (by decide) rfl (pa_cons (pv 5) (pa_cons (pv 4) pa_nil))) (pv 2) (nomark _))) (fun _ _ _ _ _ => pv 5)) pa_nil)) pa_nil)))))
      (pss_one (ps_ret (pv 3)))), ?_⟩
    refine ⟨by show 0 ≤ sizeLine; decide, fun p hp => ?_⟩
    have s0 : Same H (upd H p (.lst [])) := same_new hp
    refine ⟨_, rfl, b, rfl, ⟨_, sl_of (s0 _ _ hb)⟩, for_list (xs := ws) (fun i σ H' => Same H H' ∧ H' p = some (.lst (nI ((ds.take i).map (cnt l m)))) ∧ ∃ x, σ = [some (.ref a), some (.ref b), some (iv m), some (.ref p), x, none]) ⟨s0, upd_same, none, rfl⟩ (fun i σ H' _ z => sl_of (z.1 _ _ hb)) (fun i x σ H' hx z => ?_) (fun σ H' z => ?_)⟩
    · obtain ⟨sm, hp', y, rfl⟩ := z
      obtain ⟨ra, r, rfl, hr', hra⟩ := hw.get hx
      refine ⟨_, rfl, .inl ⟨rfl, _, sl_of hp'⟩, ?_⟩
      refine ⟨_, rfl, a, rfl, ⟨us, sl_of (sm _ _ ha)⟩, fun D hD => lc_list (xs := us) (fun j H2 => Same H' H2 ∧ ∃ acc, H2 D = some (.lst acc) ∧ acc.length = cnt (l.take j) m r) ⟨same_new hD, [], upd_same, rfl⟩ (fun j H2 _ z => sl_of (z.1 _ _ (sm _ _ ha))) (fun j x H2 hx z => ?_) (fun H2 z => ?_)⟩
      · obtain ⟨s2, acc, hacc, hlen⟩ := z
        obtain ⟨rb, t, rfl, ht, hrb⟩ := hu.get hx
        refine ⟨rfl, ?_⟩
        refine ⟨_, rfl, _, rfl, rb, ra, t, r, rfl, s2 _ _ (sm _ _ hrb), s2 _ _ (sm _ _ hra), _, rfl, _, _, rfl, rfl, _, rfl, ?_⟩
        have hc := cnt_snoc (l.take j) t m r
        rw [← take_more ht] at hc
        refine ite2 (fun h => ?_) (fun h => ?_)
        · have h : m ≤ right t r := by
            have := of_decide_eq_true h
            omega
          rw [if_pos h] at hc
          refine ⟨_, rfl, acc, hacc, ?_, snew s2 hD, _, upd_same, ?_⟩
          · rw [hlen]
            have := cnt_le (l.take j) m r
            rw [List.length_take] at this
            exact sz252' (by omega)
          · rw [List.length_append, List.length_singleton, hlen, hc]
        · have h : ¬ m ≤ right t r := fun z => h (decide_eq_true (by omega))
          rw [if_neg h] at hc
          exact ⟨s2, acc, hacc, by rw [hlen, hc]; rfl⟩
      · obtain ⟨s2, acc, hacc, hlen⟩ := z
        rw [hu.len, List.take_length] at hlen
        refine ⟨D, acc, rfl, .inl (sl_of hacc), p, _, _, rfl, rfl, s2 _ _ hp', ?_, snew (Same.trans sm s2) hp, ?_, _, rfl⟩
        · rw [nI_len, List.length_map, List.length_take]
          exact sz252' (by omega)
        · rw [upd_same, take_more hr', List.map_append, nI_append, hlen]
          rfl
    · obtain ⟨sm, hp', y, rfl⟩ := z
      refine ⟨_, rfl, q H' p sm hp ?_⟩
      rw [hp', hw.len, List.take_length]

theorem scWithout : FnScope ["ticket", "draws", "m", "counts", "found", "draw", "many"] ["ticket", "draws", "m", "counts"] (defScope sWithout) := ⟨rfl, rfl, rfl, by decide +kernel, rfl, by decide +kernel, by decide +kernel⟩
theorem boot_int' : bootBuiltins "int" = some (.type "int") := by decide +kernel
theorem c_without (A : At K mg "counts_without" sWithout) (c1 : C8.Cal P w K mg base 1 "right_of" spRight []) (mZ : mg "zip" = none) (mI : mg "int" = none) : C8.Cal P w K mg base 2 "counts_without" spWithout [] := by
  refine cal_of (N := ["ticket", "draws", "m", "counts", "found", "draw", "many"]) (ps := ["ticket", "draws", "m", "counts"]) A (fun _ _ _ _ _ _ us hl => match us, hl with | [_, _, _, _], _ => rfl) scWithout (fun vs H Q E h => ?_) (fun f cdv A outer s H vs Q E hr h => ?_)
  · obtain ⟨a, b, c, t, ds, m, f, rfl, _⟩ := h
    rfl
  · obtain ⟨a, b, c, t, ds, m, cf, rfl, ha, ⟨ws, hb, hw⟩, hds, hc, hle, q⟩ := h
    refine ⟨_, pss_cons (ps_set (i := 4) scWithout.nd rfl (.inl rfl) (pe_lst pa_nil))
      (pss_cons (ps_for PassesOwn.never rfl (pi_zip rfl mZ (pa_cons (pv 1) (pa_cons (pv 3) pa_nil))) (pg_tup rfl (pgs_cons (pg_name (i := 5) scWithout.nd rfl (.inl rfl)) (pgs_cons (pg_name (i := 6) scWithout.nd rfl (.inl rfl)) pgs_nil)))
        (pss_one (ps_expr (pe_bm PySem.F.plainAttrs_list PySem.F.slot_list_append PySem.F.type_list_append mt_append (pv 4) (pa_cons (pe_op op_sub (pv 6) (pe_callTy call_int1 rfl mI boot_int' (pa_cons
          (pe_cmpR op_ge (C8.pe_c c1 hr (by decide) rfl (pa_cons (pv 0) (pa_cons (pv 5) pa_nil))) (pv 2) (nomark _)) pa_nil))) pa_nil)))))
      (pss_one (ps_ret (pv 4)))), ?_⟩
    refine ⟨by show 0 ≤ sizeLine; decide, fun p hp => ?_⟩
    have s0 : Same H (upd H p (.lst [])) := same_new hp
    have hlen : ws.length = (nI (ds.map cf)).length := by rw [hw.len, nI_len, List.length_map]
    refine ⟨_, rfl, _, rfl, b, c, ws, nI (ds.map cf), rfl, sl_of (s0 _ _ hb), sl_of (s0 _ _ hc), RZ.for_zipL hlen (fun i σ H' => Same H H' ∧ H' p = some (.lst (nI ((ds.take i).map fun d => cf d - hit t m d))) ∧ ∃ x y, σ = [some (.ref a), some (.ref b), some (iv m), some (.ref c), some (.ref p), x, y]) ⟨s0, upd_same, none, none, rfl⟩ (fun i σ H' z => ⟨sl_of (z.1 _ _ hb), sl_of (z.1 _ _ hc)⟩) (fun i x y T σ H' hx hy z hT => ?_) (fun σ H' z => ?_)⟩
    · obtain ⟨sm, hp', x0, y0, rfl⟩ := z
      obtain ⟨ra, r, rfl, hr', hra⟩ := hw.get hx
      obtain ⟨n, hn, rfl⟩ := nI_get hy
      rw [List.getElem?_map, hr'] at hn
      obtain rfl := Option.some.inj hn
      have s1 : Same H' (upd H' T (.tup [.ref ra, iv (cf r)])) := same_new hT
      have hp1 := s1 _ _ hp'
      refine ⟨T, _, rfl, st_of upd_same, rfl, _, _, rfl, _, _, rfl, rfl, ?_⟩
      refine ⟨_, rfl, .inl ⟨rfl, _, sl_of hp1⟩, _, rfl, ?_⟩
      refine ⟨_, rfl, _, rfl, a, ra, t, r, rfl, s1 _ _ (sm _ _ ha), s1 _ _ (sm _ _ hra), _, rfl, _, _, rfl, rfl, ?_⟩
      refine .inr ⟨_, rfl, _, _, rfl, rfl, p, _, _, rfl, rfl, hp1, ?_, snew (Same.trans sm s1) hp, ?_, some (.ref ra), some (iv (cf r)), rfl⟩
      · rw [nI_len, List.length_map, List.length_take]
        exact sz252' (by omega)
      · rw [upd_same, take_more hr', List.map_append, nI_append]
        have hh := hle r (List.mem_of_getElem? hr')
        have e : (cf r : Int) - (if decide ((m : Int) ≤ (right t r : Int)) = true then 1 else 0) = ((cf r - hit t m r : Nat) : Int) := by
          unfold hit at hh ⊢
          by_cases z : m ≤ right t r
          · rw [if_pos z] at hh
            rw [if_pos z, if_pos (decide_eq_true (by omega))]
            omega
          · rw [if_neg z, if_neg (by simpa using z)]
            omega
        show some (HO.lst (_ ++ [V.int ((cf r : Int) - (if decide ((m : Int) ≤ (right t r : Int)) = true then 1 else 0))])) = some (HO.lst (_ ++ [V.int ((cf r - hit t m r : Nat) : Int)]))
        rw [e]
    · obtain ⟨sm, hp', x0, y0, rfl⟩ := z
      refine ⟨_, rfl, q H' p sm hp ?_⟩
      rw [hp', hw.len, List.take_length]

/-- with a ticket given back, or not, all else as the mathematics goes -/
theorem scGive : FnScope ["wheel", "m", "counts", "many", "ticket", "fewer"] ["wheel", "m"] (defScope sGive) := ⟨rfl, rfl, rfl, by decide +kernel, rfl, by decide +kernel, by decide +kernel⟩
theorem c_give (T : WTxt K C) (A : At K mg "give_back" sGive) (c1 : C8.Cal P w K mg base 2 "how_often" spHow []) (c2 : C8.Cal P w K mg base 2 "counts_without" spWithout []) (c3 : C8.Met P w K mg base 1 C "given_back" (spGiven C) []) (mI : mg "list" = none) (mM : mg "min" = none) : C8.Cal P w K mg base 3 "give_back" (spGive C) [] := by
  refine cal_of (N := ["wheel", "m", "counts", "many", "ticket", "fewer"]) (ps := ["wheel", "m"]) A (fun _ _ _ _ _ _ us hl => match us, hl with | [_, _], _ => rfl) scGive (fun vs H Q E h => ?_) (fun f cdv A outer s H vs Q E hr h => ?_)
  · obtain ⟨a, at', s, m, rfl, _⟩ := h
    rfl
  · obtain ⟨a, at', st, m, rfl, hW, hm, q⟩ := h
    have hW0 := hW
    have hu65 : (A.deeper (envOfC "give_back" (defScope sGive) s.heap.objs.size f cdv)).units + 65 < cLine := by
      have := hr.un
      omega
    obtain ⟨⟨dx, ak, ad, hw, n1, n2, rk, rd, ⟨vs, hvs, hrows⟩⟩, g⟩ := hW0
    refine ⟨_, pss_cons (ps_set (i := 2) scGive.nd rfl (.inl rfl) (C8.pe_c c1 hr (by decide) rfl (pa_cons (pe_fld (pv 0) rfl) (pa_cons (pe_fld (pv 0) rfl) (pa_cons (pv 1) pa_nil)))))
      (pss_cons (ps_set (i := 3) scGive.nd rfl (.inl rfl) pe_int)
      (pss_cons (ps_for PassesOwn.never rfl (pi_list (pe_callTy call_list_of rfl mI boot_list' (pa_cons (pe_fld (pv 0) rfl) pa_nil))) (pg_name (i := 4) scGive.nd rfl (.inl rfl))
        (pss_cons (ps_set (i := 5) scGive.nd rfl (.inl rfl) (C8.pe_c c2 hr (by decide) rfl (pa_cons (pv 4) (pa_cons (pe_fld (pv 0) rfl) (pa_cons (pv 1) (pa_cons (pv 2) pa_nil))))))
        (pss_one (ps_if (pt_cmpR op_gt (pe_callB (cr_min rfl) rfl mM boot_min' (pa_cons (pv 5) pa_nil)) pe_int (nomark _))
          (pss_cons (ps_expr (C8.pe_mt c3 hr (by decide) (pv 0) (pa_cons (pe_bm PySem.F.plainAttrs_list PySem.F.slot_list_index PySem.F.type_list_index (mt_indexD hu65) (pe_fld (pv 0) rfl) (pa_cons (pv 4) pa_nil)) pa_nil)))
          (pss_cons (ps_set (i := 2) scGive.nd rfl (.inl rfl) (pv 5)) (pss_one (ps_aug (i := 3) scGive.nd rfl (.inl rfl) pe_int ip_add)))) pss_nil))))
      (pss_one (ps_ret (pv 3))))), ?_⟩
    have hf : st.tickets.length ≤ 252 := by have := g.few; omega
    have hd := g.draws_few
    refine ⟨_, rfl, a, C, dx, _, _, rfl, hw, T.cl, T.tickets, wF_tickets _ _ _ _, _, rfl, a, C, dx, _, _, rfl, hw, T.cl, T.draws, wF_draws _ _ _ _, _, rfl, at', ad, st.tickets, allDraws st, m, rfl, ⟨vs, hvs, hrows⟩, rd, hf, hd, fun H1 pc s1 m1 h1 => ?_⟩
    refine ⟨_, rfl, a, C, dx, _, _, rfl, s1 _ _ hw, T.cl, T.tickets, wF_tickets _ _ _ _, at', vs, rfl, .inl (sl_of (s1 _ _ hvs)), fun p0 hp0 => ?_⟩
    have s2 : Same H1 (upd H1 p0 (.lst vs)) := same_new hp0
    have s12 : Same H (upd H1 p0 (.lst vs)) := Same.trans s1 s2
    have np0 : H p0 = none := Same.free s1 hp0
    have ne0 : p0 ≠ a := fun z => by
      rw [z, hw] at np0
      cases np0
    refine ⟨p0, rfl, ⟨vs, sl_of upd_same⟩, for_list (xs := vs) (fun i σ H' => (SameBut a H H' ∧ Aparts H H' a) ∧ H' p0 = some (.lst vs) ∧ ∃ (kept : List Pick) (at2 pc : Addr) (x y : Option V), WheelAt C H' a at2 { st with tickets := kept ++ st.tickets.drop i } ∧ (at2 = at' ∨ H at2 = none) ∧ pc ≠ a ∧
        H' pc = some (.lst (nI ((allDraws st).map (cnt (kept ++ st.tickets.drop i) m)))) ∧ keptOf st m = without (allDraws st) m kept (st.tickets.drop i) ∧ kept.Sublist (st.tickets.take i) ∧
        σ = [some (.ref a), some (iv m), some (.ref pc), some (iv (i - kept.length)), x, y])
      ⟨⟨SameBut.of s12, hW.aparts s12⟩, upd_same, [], at', pc, none, none, hW.same s12, .inl rfl, ?_, ?_, rfl, List.Sublist.refl _, rfl⟩ (fun i σ H' _ z => sl_of z.2.1) (fun i x σ H' hx z => ?_) (fun σ H' z => ?_)⟩
    · intro z
      rw [z, hw] at m1
      cases m1
    · rw [upd_ne (ne_of_none h1 hp0)]
      exact h1
    · obtain ⟨⟨sb, ap⟩, hv0, kept, at2, pc, x1, y1, hW2, hat2, npc, hpc, hkeep, hsub, rfl⟩ := z
      obtain ⟨ra, t, rfl, ht, hra⟩ := hrows.get hx
      have hra' := sb _ _ hra (ne_of hra hw (by intro z; cases z))
      have hW3 := hW2
      obtain ⟨⟨dx2, ak2, ad2, hw2, n12, n22, rk2, rd2, rt2⟩, g2⟩ := hW3
      have hdrop := drop_more ht
      have hcs : ∀ d, cnt (kept ++ st.tickets.drop i) m d = cnt (kept ++ st.tickets.drop (i + 1)) m d + hit t m d := fun d => by
        rw [hdrop]
        exact cnt_split kept _ t m d
      -- fewer
      refine ⟨_, rfl, _, rfl, a, C, dx2, _, _, rfl, hw2, T.cl, T.draws, wF_draws _ _ _ _, _, rfl, _, rfl, ra, ad2, pc, t, allDraws st, m, cnt (kept ++ st.tickets.drop i) m, rfl, hra', rd2, hd, hpc, (fun d _ => by rw [hcs d]; omega), fun H2 pf s3 m3 h3 => ?_⟩
      have hfw : (fun d => cnt (kept ++ st.tickets.drop i) m d - hit t m d) = cnt (kept ++ st.tickets.drop (i + 1)) m := by
        funext d
        rw [hcs d, Nat.add_sub_cancel]
      rw [hfw] at h3
      have sb3 : SameBut a H H2 := sb.same s3
      have ap3 : Aparts H H2 a := fun z hz q => hW2.apart s3 (ap z hz q)
      have live : ∀ z, H z ≠ none → H2 z ≠ none := fun z hz q => by
        cases e : H z with
        | none => exact hz e
        | some o =>
          by_cases y : z = a
          · rw [y, s3 _ _ hw2] at q
            cases q
          · rw [sb3 _ _ e y] at q
            cases q
      have npf : pf ≠ a := fun z => by
        rw [z, hw2] at m3
        cases m3
      refine ⟨_, rfl, pf, ((allDraws st).map (cnt (kept ++ st.tickets.drop (i + 1)) m)).map (fun (n : Nat) => (n : Int)), rfl, by rw [← nI_map]; exact sl_of h3, ?_, fun v hv hu => ⟨_, _, rfl, rfl, _, rfl, ?_⟩⟩
      · rw [List.length_map, List.length_map]
        exact List.length_pos_iff.mpr g.draws_ne
      obtain ⟨n, hn, rfl⟩ := List.mem_map.mp hv
      have hcov : (0 < n) ↔ cov (allDraws st) (kept ++ st.tickets.drop (i + 1)) m = true := by
        rw [cov_iff hm]
        constructor
        · intro h d hd
          have := hu ((cnt (kept ++ st.tickets.drop (i + 1)) m d : Nat) : Int) (List.mem_map.mpr ⟨_, List.mem_map.mpr ⟨d, hd, rfl⟩, rfl⟩)
          omega
        · intro h
          obtain ⟨d, hd, rfl⟩ := List.mem_map.mp hn
          exact h d hd
      have hwo : without (allDraws st) m kept (st.tickets.drop i) = if cov (allDraws st) (kept ++ st.tickets.drop (i + 1)) m = true then without (allDraws st) m kept (st.tickets.drop (i + 1)) else without (allDraws st) m (kept ++ [t]) (st.tickets.drop (i + 1)) := by
        rw [hdrop]
        rfl
      have hkl : kept.length ≤ i := by
        have := hsub.length_le
        rw [List.length_take] at this
        omega
      refine ite2 (fun h => ?_) (fun h => ?_)
      · have h : cov (allDraws st) (kept ++ st.tickets.drop (i + 1)) m = true := hcov.mp (by
          have := of_decide_eq_true h
          omega)
        rw [if_pos h] at hwo
        have hW4 := hW2.same s3
        have hnd := g2.nd
        have hidx : (kept ++ st.tickets.drop i)[kept.length]? = some t := by
          rw [hdrop, List.getElem?_append_right (Nat.le_refl _), Nat.sub_self]
          rfl
        have hnot : t ∉ kept := fun z => by
          have hnd' : (kept ++ st.tickets.drop i).Nodup := hnd
          rw [hdrop] at hnd'
          exact (List.nodup_append.mp hnd').2.2 t z t (List.mem_cons_self ..) rfl
        have hera : (kept ++ st.tickets.drop i).eraseIdx kept.length = kept ++ st.tickets.drop (i + 1) := by
          rw [hdrop, List.eraseIdx_append_of_length_le (Nat.le_refl _), Nat.sub_self]
          rfl
        refine ⟨_, rfl, a, dx2, _, rfl, s3 _ _ hw2, wF_not _ _ _ _ (by decide +kernel), ?_⟩
        refine ⟨_, rfl, a, C, dx2, _, _, rfl, s3 _ _ hw2, T.cl, T.tickets, wF_tickets _ _ _ _, ?_⟩
        have rt3 : RowsAt H2 at2 (kept ++ st.tickets.drop i) := rt2.same s3
        have rt3' := rt3
        obtain ⟨us, hus, hur⟩ := rt3'
        refine ⟨.inl ⟨rfl, _, sl_of hus⟩, _, rfl, at2, .ref ra, rD t, lD (kept ++ st.tickets.drop i), kept.length, rD t, rfl, rfl, rows_dp rt3, row_dp (s3 _ _ hra'), lD_shaped _, rD_shaped _, ?_, ?_, fun j z' hj hz => ?_, ?_⟩
        · unfold lD
          rw [List.getElem?_map, hidx]
          rfl
        · rw [eqv_rD]
          exact decide_eq_true rfl
        · unfold lD at hz
          rw [List.getElem?_map, List.getElem?_append_left hj] at hz
          cases e : kept[j]? with
          | none => rw [e] at hz; cases hz
          | some r =>
            rw [e] at hz
            obtain rfl := Option.some.inj hz
            rw [eqv_rD]
            exact decide_eq_false fun z => hnot (by rw [← z]; exact List.mem_of_getElem? e)
        · refine ⟨a, at2, { st with tickets := kept ++ st.tickets.drop i }, kept.length, rfl, hW4, ?_, fun H5 p5 sb5 n5 hW5 ap5 => ?_⟩
          · exact (List.getElem?_eq_some_iff.mp hidx).1
          · have hW5' : WheelAt C H5 a p5 { st with tickets := kept ++ st.tickets.drop (i + 1) } := by
              rw [← hera]
              exact hW5
            refine ⟨_, rfl, _, rfl, _, _, rfl, rfl, ⟨sb3.trans sb5, fun z hz q => ap5 z (live z hz) (ap3 z hz q)⟩, sb5 _ _ (s3 _ _ hv0) ne0, kept, p5, pf, some (.ref ra), some (.ref pf), hW5', .inr ?_, npf, sb5 _ _ h3 npf, hkeep.trans hwo, ?_, ?_⟩
            · cases e : H p5 with
              | none => rfl
              | some o =>
                by_cases z : p5 = a
                · rw [z, s3 _ _ hw2] at n5
                  cases n5
                · rw [sb3 _ _ e z] at n5
                  cases n5
            · refine hsub.trans ?_
              rw [take_more ht]
              exact List.sublist_append_left _ _
            · show [some (V.ref a), some (iv m), some (V.ref pf), some (V.int (((i - kept.length : Nat) : Int) + 1)), some (V.ref ra), some (V.ref pf)] = _
              have e : ((i - kept.length : Nat) : Int) + 1 = ((i + 1 - kept.length : Nat) : Int) := by omega
              rw [e]
              rfl
      · have h : ¬ cov (allDraws st) (kept ++ st.tickets.drop (i + 1)) m = true := fun z => h (decide_eq_true (by have := hcov.mpr z; omega))
        rw [if_neg h] at hwo
        have e2 : kept ++ st.tickets.drop i = (kept ++ [t]) ++ st.tickets.drop (i + 1) := by rw [hdrop, List.append_assoc]; rfl
        refine ⟨⟨sb3, ap3⟩, s3 _ _ hv0, kept ++ [t], at2, pc, some (.ref ra), some (.ref pf), ?_, hat2, npc, ?_, hkeep.trans hwo, ?_, ?_⟩
        · rw [← e2]
          exact hW2.same s3
        · rw [← e2]
          exact s3 _ _ hpc
        · rw [take_more ht]
          exact List.Sublist.append hsub (List.Sublist.refl _)
        · have e : i + 1 - (kept ++ [t]).length = i - kept.length := by
            rw [List.length_append, List.length_singleton]
            omega
          rw [e]
          rfl
    · obtain ⟨⟨sb, ap⟩, hv0, kept, at2, pc, x1, y1, hW2, hat2, npc, hpc, hkeep, hsub, rfl⟩ := z
      rw [hrows.len, List.drop_length] at hkeep hW2
      have e : keptOf st m = kept := hkeep
      rw [List.append_nil, ← e] at hW2
      refine ⟨_, rfl, ?_⟩
      rw [hrows.len, ← e]
      exact q H' at2 hW2 hat2 sb ap
end
end Wd

set_option Elab.async false
set_option linter.all false
set_option maxRecDepth 100000
set_option maxHeartbeats 4000000
/-! deeds: buy, drop, needed; the wheel's step -/
namespace Wd
open PySem PySem.Spec PyProof.Rows L2
open Mu24 (Pick right most State allTickets allDraws nums)
/-! ### the specification's step, a wheel standing -/
def stepW (s : State) : Mu24.Call → State × List Int
  | .begin_ _ _ _ => (s, [])
  | .buy l => (buyNew s l, buyAns s l)
  | .drop i => (dropNew s i, dropAns s i)
  | .look => (s, (s.tickets.length : Int) :: s.tickets.flatMap nums)
  | .matches_ d => (s, if Mu24.isPick s s.t d = false then [-1] else nums (most s.tickets d :: s.tickets.map fun (a : Pick) => right a d))
  | .worst => (s, nums ((Mu24.worst s s.tickets).1 :: (Mu24.worst s s.tickets).2))
  | .covers m => (s, if s.k < m then [-1] else nums [Mu24.covered s s.tickets m, Mu24.draws s, (Mu24.lowest (Mu24.covered s s.tickets m) (Mu24.draws s)).1, (Mu24.lowest (Mu24.covered s s.tickets m) (Mu24.draws s)).2])
  | .next m => (s, if m = 0 ∨ s.k < m then [-1] else nextAns s m)
  | .fewest m => (s, if m = 0 ∨ s.k < m then [-1] else fewAns s m)
  | .needed m => if m = 0 ∨ s.k < m then (s, [-1]) else (needNew s m, needAns s m)
  | .pays p => (s, payAns s p)
  | .least m => (s, if m = 0 ∨ s.k < m then [-1] else leastAns s m)
theorem kept_is (s : State) (m : Nat) : Mu24.needed s m (s.tickets.length + 1) 0 s.tickets = keptOf s m := needed_is s m s.tickets [] (s.tickets.length + 1) (Nat.lt_succ_self _)
theorem step_begin (o : Option State) (n k t : Nat) : Mu24.step o (.begin_ n k t) = if wheelOk n k t = true then (some ⟨n, k, t, []⟩, [0, ((allTickets ⟨n, k, t, []⟩).length : Int), ((allDraws ⟨n, k, t, []⟩).length : Int)]) else (o, [-1]) := by
  have u : Mu24.step o (.begin_ n k t) = if n < 2 ∨ (10 < n ∨ (k = 0 ∨ (n < k ∨ (6 < k ∨ (t = 0 ∨ (n < t ∨ 6 < t)))))) then (o, [-1]) else (some ⟨n, k, t, []⟩, [0, ((allTickets ⟨n, k, t, []⟩).length : Int), ((allDraws ⟨n, k, t, []⟩).length : Int)]) := by cases o <;> rfl
  rw [u]
  by_cases h : wheelOk n k t = true
  · rw [if_pos h]
    unfold wheelOk sizeOk at h
    simp only [Bool.and_eq_true, decide_eq_true_eq] at h
    rw [if_neg (by omega)]
  · rw [if_neg h]
    unfold wheelOk sizeOk at h
    simp only [Bool.and_eq_true, decide_eq_true_eq] at h
    rw [if_pos (by omega)]
theorem step_none (c : Mu24.Call) (h : ∀ n k t, c ≠ .begin_ n k t) : Mu24.step none c = (none, [-9]) := by
  cases c with
  | begin_ n k t => exact (h n k t rfl).elim
  | _ => rfl
theorem step_some (s : State) (c : Mu24.Call) (h : ∀ n k t, c ≠ .begin_ n k t) : Mu24.step (some s) c = (some (stepW s c).1, (stepW s c).2) := by
  cases c with
  | begin_ n k t => exact (h n k t rfl).elim
  | buy l =>
    show (if Mu24.isPick s s.k l = false then (some s, [-1]) else if s.tickets.contains l = true then (some s, [-4]) else if 30 ≤ s.tickets.length then (some s, [-5]) else (some { s with tickets := s.tickets ++ [l] }, [(s.tickets.length : Int)])) = (some (buyNew s l), buyAns s l)
    unfold buyNew buyAns
    split
    · rfl
    · split
      · rfl
      · split <;> rfl
  | drop i =>
    show (if s.tickets.length ≤ i then (some s, [-2]) else (some { s with tickets := s.tickets.eraseIdx i }, [((s.tickets.length - 1 : Nat) : Int)])) = (some (dropNew s i), dropAns s i)
    unfold dropNew dropAns
    split <;> rfl
  | needed m =>
    show (if m = 0 ∨ s.k < m then (some s, [-1]) else if Mu24.allCovered s s.tickets m = false then (some s, [-6]) else
      (some { s with tickets := Mu24.needed s m (s.tickets.length + 1) 0 s.tickets }, [((s.tickets.length - (Mu24.needed s m (s.tickets.length + 1) 0 s.tickets).length : Nat) : Int), ((Mu24.needed s m (s.tickets.length + 1) 0 s.tickets).length : Int)])) = (some (if m = 0 ∨ s.k < m then (s, [-1]) else (needNew s m, needAns s m)).1, (if m = 0 ∨ s.k < m then (s, [-1]) else (needNew s m, needAns s m)).2)
    rw [kept_is]
    by_cases h : m = 0 ∨ s.k < m
    · rw [if_pos h, if_pos h]
    · rw [if_neg h, if_neg h]
      unfold needNew needAns
      split <;> rfl
  | _ => rfl

section
variable {P : Program} {w : World} {K : PySem.W.Frag} {mg : Str → Option Value} {base : Heap} {C : Addr}
theorem any_lD (l : List Pick) (t : Pick) : ((lD l).any fun z => PyData.eqv z (rD t)) = l.contains t := by
  unfold lD
  rw [List.any_map]
  induction l with
  | nil => rfl
  | cons r l ih =>
    rw [List.any_cons, ih, List.contains_cons]
    congr 1
    show PyData.eqv (rD r) (rD t) = (t == r)
    rw [eqv_rD]
    by_cases z : r = t
    · subst z
      simp
    · rw [decide_eq_false z]
      exact (beq_eq_false_iff_ne.mpr fun y => z y.symm).symm
theorem scBuy : FnScope ["wheel", "ticket"] ["wheel", "ticket"] (defScope sBuy) := ⟨rfl, rfl, rfl, by decide +kernel, rfl, by decide +kernel, by decide +kernel⟩
theorem c_buy (T : WTxt K C) (A : At K mg "buy" sBuy) (c1 : C8.Cal P w K mg base 1 "is_row" spIsRow []) (c2 : C8.Met P w K mg base 1 C "is_full" (spFull C) []) (c3 : C8.Met P w K mg base 1 C "bought" (spBought C) []) : C8.Cal P w K mg base 2 "buy" (spBuy C) [] := by
  refine cal_of (N := ["wheel", "ticket"]) (ps := ["wheel", "ticket"]) A (fun _ _ _ _ _ _ us hl => match us, hl with | [_, _], _ => rfl) scBuy (fun vs H Q E h => ?_) (fun f cdv A outer s H vs Q E hr h => ?_)
  · obtain ⟨a, at', b, s, l, rfl, _⟩ := h
    rfl
  · obtain ⟨a, at', b, st, l, rfl, hW, hb, q⟩ := h
    have hu65 : (A.deeper (envOfC "buy" (defScope sBuy) s.heap.objs.size f cdv)).units + 65 < cLine := by
      have := hr.un
      omega
    have hW0 := hW
    obtain ⟨⟨dx, ak, ad, hw, n1, n2, rk, rd, rt⟩, g⟩ := hW0
    refine ⟨_, pss_cons (ps_if (pt_not (pt_val (C8.pe_c c1 hr (by decide) rfl (pa_cons (pv 1) (pa_cons (pe_fld (pv 0) rfl) (pa_cons (pe_fld (pv 0) rfl) pa_nil)))))) (pss_one (ps_ret (pe_lst (pa_cons (pe_un un_neg pe_int) pa_nil)))) pss_nil)
      (pss_cons (ps_if (pt_cmpR (op_inD hu65) (pv 1) (pe_fld (pv 0) rfl) (by rfl)) (pss_one (ps_ret (pe_lst (pa_cons (pe_un un_neg pe_int) pa_nil)))) pss_nil)
      (pss_cons (ps_if (pt_val (C8.pe_mt0 c2 hr (by decide) (pv 0))) (pss_one (ps_ret (pe_lst (pa_cons (pe_un un_neg pe_int) pa_nil)))) pss_nil)
      (pss_one (ps_ret (pe_lst (pa_cons (C8.pe_mt c3 hr (by decide) (pv 0) (pa_cons (pv 1) pa_nil)) pa_nil)))))), ?_⟩
    refine ⟨_, rfl, _, rfl, a, C, dx, _, _, rfl, hw, T.cl, T.n, wF_n _ _ _ _, _, rfl, a, C, dx, _, _, rfl, hw, T.cl, T.k, wF_k _ _ _ _, b, l, st.n, st.k, rfl, hb, g.k6, _, rfl, ?_⟩
    refine ite2 (fun h => ?_) (fun h => ?_)
    · have h : Mu24.isPick st st.k l = false := by
        rw [isPick_is]
        simpa using h
      have e1 : buyNew st l = st := if_pos h
      have e2 : buyAns st l = [-1] := if_pos h
      rw [e1, e2] at q
      exact ⟨_, rfl, by show 1 ≤ sizeLine; decide, fun p hp => q.tells hW _ p (same_new hp) hp upd_same⟩
    · have hp : Mu24.isPick st st.k l = true := by
        rw [isPick_is]
        simpa using h
      have h : ¬ Mu24.isPick st st.k l = false := by
        rw [hp]
        decide
      refine ⟨_, rfl, _, rfl, a, C, dx, _, _, rfl, hw, T.cl, T.tickets, wF_tickets _ _ _ _, rD l, lD st.tickets, row_dp hb, rows_dp rt, rD_shaped _, lD_shaped _, _, rfl, ?_⟩
      rw [any_lD]
      refine ite2 (fun h2 => ?_) (fun h2 => ?_)
      · have e1 : buyNew st l = st := (if_neg h).trans (if_pos h2)
        have e2 : buyAns st l = [-4] := (if_neg h).trans (if_pos h2)
        rw [e1, e2] at q
        exact ⟨_, rfl, by show 1 ≤ sizeLine; decide, fun p hp => q.tells hW _ p (same_new hp) hp upd_same⟩
      · refine ⟨_, rfl, a, dx, _, rfl, hw, wF_not _ _ _ _ (by decide +kernel), a, at', st, rfl, hW, _, rfl, ?_⟩
        refine ite2 (fun h3 => ?_) (fun h3 => ?_)
        · have h3 := of_decide_eq_true h3
          have e1 : buyNew st l = st := (if_neg h).trans ((if_neg h2).trans (if_pos h3))
          have e2 : buyAns st l = [-5] := (if_neg h).trans ((if_neg h2).trans (if_pos h3))
          rw [e1, e2] at q
          exact ⟨_, rfl, by show 1 ≤ sizeLine; decide, fun p hp => q.tells hW _ p (same_new hp) hp upd_same⟩
        · have h3 : ¬ 30 ≤ st.tickets.length := fun z => h3 (decide_eq_true z)
          have e1 : buyNew st l = { st with tickets := st.tickets ++ [l] } := (if_neg h).trans ((if_neg h2).trans (if_neg h3))
          have e2 : buyAns st l = [(st.tickets.length : Int)] := (if_neg h).trans ((if_neg h2).trans (if_neg h3))
          rw [e1, e2] at q
          have hnot : l ∉ st.tickets := fun z => h2 (List.contains_iff_mem.mpr z)
          have g2 : Good { st with tickets := st.tickets ++ [l] } := by
            refine ⟨g.n2, g.n10, g.k1, g.k6, g.kn, g.t1, g.t6, g.tn, ?_, fun x hx => ?_, ?_⟩
            · refine List.nodup_append.mpr ⟨g.nd, by simp, fun x hx y hy z => ?_⟩
              rw [List.mem_singleton.mp hy] at z
              rw [z] at hx
              exact hnot hx
            · rcases List.mem_append.mp hx with hx | hx
              · exact g.len x hx
              · rw [List.mem_singleton.mp hx]
                exact isP_len (by rw [← isPick_is]; exact hp)
            · rw [List.length_append, List.length_singleton]
              omega
          refine ⟨_, rfl, a, dx, _, rfl, hw, wF_not _ _ _ _ (by decide +kernel), _, rfl, a, at', b, st, l, rfl, hW, hb, g2, fun H1 sb hW1 ap1 => ?_⟩
          refine ⟨by show 1 ≤ sizeLine; decide, fun p hp => ?_⟩
          have s1 : Same H1 (upd H1 p (.lst [iv st.tickets.length])) := same_new hp
          refine q _ p at' (hW1.same s1) (.inl rfl) (fun c o e _ z => s1 _ _ (sb _ _ e z)) (fun z hz ap => hW1.apart s1 (ap1 z hz ap)) ?_ upd_same
          cases e : H p with
          | none => rfl
          | some o =>
            by_cases z : p = at'
            · obtain ⟨⟨dx1, ak1, ad1, hw1, m1, m2, rk1, rd1, vs1, hv1, _⟩, _⟩ := hW1
              rw [z, hv1] at hp
              cases hp
            · rw [sb _ _ e z] at hp
              cases hp

theorem scDrop : FnScope ["wheel", "place"] ["wheel", "place"] (defScope sDrop) := ⟨rfl, rfl, rfl, by decide +kernel, rfl, by decide +kernel, by decide +kernel⟩
theorem c_drop (T : WTxt K C) (A : At K mg "drop" sDrop) (c1 : C8.Met P w K mg base 1 C "given_back" (spGiven C) []) (mL : mg "len" = none) : C8.Cal P w K mg base 2 "drop" (spDrop C) [] := by
  refine cal_of (N := ["wheel", "place"]) (ps := ["wheel", "place"]) A (fun _ _ _ _ _ _ us hl => match us, hl with | [_, _], _ => rfl) scDrop (fun vs H Q E h => ?_) (fun f cdv A outer s H vs Q E hr h => ?_)
  · obtain ⟨a, at', s, i, rfl, _⟩ := h
    rfl
  · obtain ⟨a, at', st, i, rfl, hW, q⟩ := h
    have hW0 := hW
    obtain ⟨⟨dx, ak, ad, hw, n1, n2, rk, rd, ⟨vs, hvs, hrows⟩⟩, g⟩ := hW0
    refine ⟨_, pss_cons (ps_if (pt_cmpR op_ge (pv 1) (pe_callB call_len_seq rfl mL PySem.boot_len (pa_cons (pe_fld (pv 0) rfl) pa_nil)) (nomark _)) (pss_one (ps_ret (pe_lst (pa_cons (pe_un un_neg pe_int) pa_nil)))) pss_nil)
      (pss_cons (ps_expr (C8.pe_mt c1 hr (by decide) (pv 0) (pa_cons (pv 1) pa_nil)))
      (pss_one (ps_ret (pe_lst (pa_cons (pe_callB call_len_seq rfl mL PySem.boot_len (pa_cons (pe_fld (pv 0) rfl) pa_nil)) pa_nil))))), ?_⟩
    refine ⟨_, rfl, _, rfl, a, C, dx, _, _, rfl, hw, T.cl, T.tickets, wF_tickets _ _ _ _, at', vs, rfl, .inl (sl_of hvs), _, _, rfl, rfl, _, rfl, ?_⟩
    have hl := hrows.len
    refine ite2 (fun h => ?_) (fun h => ?_)
    · have h : st.tickets.length ≤ i := by
        have := of_decide_eq_true h
        omega
      have e1 : dropNew st i = st := if_pos h
      have e2 : dropAns st i = [-2] := if_pos h
      rw [e1, e2] at q
      exact ⟨_, rfl, by show 1 ≤ sizeLine; decide, fun p hp => q.tells hW _ p (same_new hp) hp upd_same⟩
    · have h : ¬ st.tickets.length ≤ i := fun z => h (decide_eq_true (by omega))
      have e1 : dropNew st i = { st with tickets := st.tickets.eraseIdx i } := if_neg h
      have e2 : dropAns st i = [((st.tickets.length - 1 : Nat) : Int)] := if_neg h
      rw [e1, e2] at q
      refine ⟨_, rfl, a, dx, _, rfl, hw, wF_not _ _ _ _ (by decide +kernel), _, rfl, a, at', st, i, rfl, hW, by omega, fun H1 p sb np hW1 ap1 => ?_⟩
      have hW2 := hW1
      obtain ⟨⟨dx1, ak1, ad1, hw1, m1, m2, rk1, rd1, vs1, hv1, hr1⟩, g1⟩ := hW2
      refine ⟨_, rfl, a, C, dx1, _, _, rfl, hw1, T.cl, T.tickets, wF_tickets _ _ _ _, p, vs1, rfl, .inl (sl_of hv1), by show 1 ≤ sizeLine; decide, fun p2 hp2 => ?_⟩
      have s1 : Same H1 (upd H1 p2 (.lst [.int (vs1.length : Int)])) := same_new hp2
      refine q _ p2 p (hW1.same s1) (.inr np) (fun c o e z _ => s1 _ _ (sb _ _ e z)) (fun z hz ap => hW1.apart s1 (ap1 z hz ap)) ?_ ?_
      · cases e : H p2 with
        | none => rfl
        | some o =>
          by_cases z : p2 = a
          · rw [z, hw1] at hp2
            cases hp2
          · rw [sb _ _ e z] at hp2
            cases hp2
      · rw [upd_same, hr1.len]
        have e : (st.tickets.eraseIdx i).length = st.tickets.length - 1 := List.length_eraseIdx_of_lt (by omega)
        show some (HO.lst [V.int ((st.tickets.eraseIdx i).length : Int)]) = _
        rw [e]
        rfl

theorem scNeeded : FnScope ["wheel", "m", "many"] ["wheel", "m"] (defScope sNeeded) := ⟨rfl, rfl, rfl, by decide +kernel, rfl, by decide +kernel, by decide +kernel⟩
theorem c_needed (T : WTxt K C) (A : At K mg "needed" sNeeded) (c1 : C8.Cal P w K mg base 4 "open_draws" spOpen []) (c2 : C8.Cal P w K mg base 3 "give_back" (spGive C) []) (mL : mg "len" = none) : C8.Cal P w K mg base 5 "needed" (spNeeded C) [] := by
  refine cal_of (N := ["wheel", "m", "many"]) (ps := ["wheel", "m"]) A (fun _ _ _ _ _ _ us hl => match us, hl with | [_, _], _ => rfl) scNeeded (fun vs H Q E h => ?_) (fun f cdv A outer s H vs Q E hr h => ?_)
  · obtain ⟨a, at', s, m, rfl, _⟩ := h
    rfl
  · obtain ⟨a, at', st, m, rfl, hW, hm, q⟩ := h
    have hW0 := hW
    obtain ⟨⟨dx, ak, ad, hw, n1, n2, rk, rd, rt⟩, g⟩ := hW0
    refine ⟨_, pss_cons (ps_if (pt_cmpR (op_neD hr.units) (C8.pe_c c1 hr (by decide) rfl (pa_cons (pe_fld (pv 0) rfl) (pa_cons (pe_fld (pv 0) rfl) (pa_cons (pv 1) pa_nil)))) (pe_lst pa_nil) (nomark _)) (pss_one (ps_ret (pe_lst (pa_cons (pe_un un_neg pe_int) pa_nil)))) pss_nil)
      (pss_cons (ps_set (i := 2) scNeeded.nd rfl (.inl rfl) (C8.pe_c c2 hr (by decide) rfl (pa_cons (pv 0) (pa_cons (pv 1) pa_nil))))
      (pss_one (ps_ret (pe_lst (pa_cons (pv 2) (pa_cons (pe_callB call_len_seq rfl mL PySem.boot_len (pa_cons (pe_fld (pv 0) rfl) pa_nil)) pa_nil)))))), ?_⟩
    have hf : st.tickets.length ≤ 252 := by have := g.few; omega
    have hd := g.draws_few
    refine ⟨_, rfl, a, C, dx, _, _, rfl, hw, T.cl, T.tickets, wF_tickets _ _ _ _, _, rfl, a, C, dx, _, _, rfl, hw, T.cl, T.draws, wF_draws _ _ _ _, _, rfl, at', ad, st.tickets, allDraws st, m, rfl, rt, rd, hf, hd, fun H1 p1 s1 m1 h1 => ?_⟩
    refine ⟨by show 0 ≤ sizeLine; decide, fun p2 hp2 => ?_⟩
    have s2 : Same H1 (upd H1 p2 (.lst [])) := same_new hp2
    have s12 : Same H (upd H1 p2 (.lst [])) := Same.trans s1 s2
    refine ⟨_, _, rows_dp (h1.same s2), .lst (sl_of upd_same) .nil, lD_shaped _, nil_shaped, _, rfl, ?_⟩
    rw [eqv_lD_nil]
    have hiff := open_nil (ds := allDraws st) (T := st.tickets) (m := m)
    refine ite2 (fun h => ?_) (fun h => ?_)
    · have h : ¬ openOf (allDraws st) st.tickets m = [] := by simpa using h
      have hc : Mu24.allCovered st st.tickets m = false := by
        rw [allCovered_is]
        cases e : cov (allDraws st) st.tickets m with
        | false => rfl
        | true => exact (h (hiff.mpr e)).elim
      have e1 : needNew st m = st := if_pos hc
      have e2 : needAns st m = [-6] := if_pos hc
      rw [e1, e2] at q
      exact ⟨_, rfl, by show 1 ≤ sizeLine; decide, fun p hp => q.tells hW _ p (snew s12 (Same.free s12 hp)) (Same.free s12 hp) upd_same⟩
    · have h : openOf (allDraws st) st.tickets m = [] := by simpa using h
      have hc : ¬ Mu24.allCovered st st.tickets m = false := by
        rw [allCovered_is, hiff.mp h]
        decide
      have e1 : needNew st m = { st with tickets := keptOf st m } := if_neg hc
      have e2 : needAns st m = [((st.tickets.length - (keptOf st m).length : Nat) : Int), ((keptOf st m).length : Int)] := if_neg hc
      rw [e1, e2] at q
      refine ⟨_, rfl, _, rfl, a, at', st, m, rfl, hW.same s12, hm, fun H3 at2 hW3 hat sb ap3 => ?_⟩
      have hW4 := hW3
      obtain ⟨⟨dx3, ak3, ad3, hw3, m13, m23, rk3, rd3, vs3, hv3, hr3⟩, g3⟩ := hW4
      refine ⟨_, rfl, _, rfl, a, C, dx3, _, _, rfl, hw3, T.cl, T.tickets, wF_tickets _ _ _ _, at2, vs3, rfl, .inl (sl_of hv3), by show 2 ≤ sizeLine; decide, fun p4 hp4 => ?_⟩
      have s4 : Same H3 (upd H3 p4 (.lst [iv (st.tickets.length - (keptOf st m).length), .int (vs3.length : Int)])) := same_new hp4
      have fresh : ∀ x, H3 x = none → H x = none := fun x hx => by
        cases e : H x with
        | none => rfl
        | some o =>
          by_cases z : x = a
          · rw [z, hw3] at hx
            cases hx
          · rw [sb _ _ (s12 _ _ e) z] at hx
            cases hx
      refine q _ p4 at2 (hW3.same s4) ?_ (fun c o e z _ => s4 _ _ (sb _ _ (s12 _ _ e) z)) (fun z hz ap => hW3.apart s4 (ap3 z (fun y => hz (Same.free s12 y)) (hW.apart s12 ap))) (fresh p4 hp4) ?_
      · rcases hat with hat | hat
        · exact .inl hat
        · exact .inr (Same.free s12 hat)
      · rw [upd_same, hr3.len]
        rfl
end
end Wd

set_option linter.all false
/-! what is handed in, call by call -/
namespace Wd
open Mu24 (State)
/-- what a call's numbers are, from l on: word tells the form -/
inductive PartsIs : Nat → List Nat → List Nat → Nat → Prop
  | rows {word : Nat} {x r : List Nat} (h : word ∈ [1, 4, 10]) : PartsIs word (x.length :: (x ++ r)) x (x.length + 1)
  | begin_ {a b c : Nat} {r : List Nat} : PartsIs 0 (a :: b :: c :: r) [a, b, c] 3
  | alone {word : Nat} {l : List Nat} (h : word ∈ [3, 5]) : PartsIs word l [] 0
  | one {word a : Nat} {r : List Nat} (h : word ∈ [2, 6, 7, 8, 9, 11]) : PartsIs word (a :: r) [a] 1
/-- the specification's call -/
def callAs : Nat → List Nat → Option Mu24.Call
  | 0, [n, k, t] => some (.begin_ n k t)
  | 1, l => some (.buy l)
  | 2, [i] => some (.drop i)
  | 3, [] => some .look
  | 4, d => some (.matches_ d)
  | 5, [] => some .worst
  | 6, [m] => some (.covers m)
  | 7, [m] => some (.next m)
  | 8, [m] => some (.fewest m)
  | 9, [m] => some (.needed m)
  | 10, p => some (.pays p)
  | 11, [m] => some (.least m)
  | _, _ => none
/-- these numbers are these calls -/
inductive Dec : List Nat → List Mu24.Call → Prop
  | nil : Dec [] []
  | cons {word k : Nat} {l parts : List Nat} {c : Mu24.Call} {cs : List Mu24.Call} : PartsIs word l parts k → callAs word parts = some c → Dec (l.drop k) cs → Dec (word :: l) (c :: cs)
def outs : Option State → List Mu24.Call → List (List Int)
  | _, [] => []
  | o, c :: cs => (Mu24.step o c).2 :: outs (Mu24.step o c).1 cs
theorem whole_is (c : List (List Int)) : PyMu24.whole c = c := by
  unfold PyMu24.whole
  split <;> rfl
theorem step_is {s : Mu24Neutral.S} {c : List (List Int)} {x : Mu24.Call} (h : Mu24Neutral.callOf c = some x) : Mu24Neutral.step s c = Mu24.step s x := by
  unfold Mu24Neutral.step
  rw [h]
/-- one call of the document's -/
theorem one_call (c : List (List Int)) (h : Mu24Neutral.asked1 c = true) : ∃ (word k : Nat) (l parts : List Nat) (x : Mu24.Call), Mu24Neutral.callOf c = some x ∧ callAs word parts = some x ∧
    ∀ r : List Int, ∃ l : List Nat, (PyFlat.put1 c ++ r).map Int.toNat = word :: l ∧ PartsIs word l parts k ∧ l.drop k = r.map Int.toNat := by
  unfold Mu24Neutral.asked1 at h
  split at h
  · rename_i n k t
    exact ⟨0, 3, [], [n.toNat, k.toNat, t.toNat], _, rfl, rfl, fun r => ⟨n.toNat :: k.toNat :: t.toNat :: r.map Int.toNat, rfl, .begin_, rfl⟩⟩
  · rename_i x
    refine ⟨1, x.length + 1, [], x.map Int.toNat, _, rfl, rfl, fun r => ⟨x.length :: (x.map Int.toNat ++ r.map Int.toNat), ?_, ?_, ?_⟩⟩
    · show ((1 : Int) :: ((x.length : Int) :: x ++ []) ++ r).map Int.toNat = _
      simp
    · have := PartsIs.rows (word := 1) (x := x.map Int.toNat) (r := r.map Int.toNat) (by decide)
      rw [List.length_map] at this
      exact this
    · show (x.map Int.toNat ++ r.map Int.toNat).drop x.length = _
      rw [List.drop_append_of_le_length (by simp)]
      simp
  · rename_i i
    exact ⟨2, 1, [], [i.toNat], _, rfl, rfl, fun r => ⟨i.toNat :: r.map Int.toNat, rfl, .one (by decide), rfl⟩⟩
  · exact ⟨3, 0, [], [], _, rfl, rfl, fun r => ⟨r.map Int.toNat, rfl, .alone (by decide), rfl⟩⟩
  · rename_i x
    refine ⟨4, x.length + 1, [], x.map Int.toNat, _, rfl, rfl, fun r => ⟨x.length :: (x.map Int.toNat ++ r.map Int.toNat), ?_, ?_, ?_⟩⟩
    · show ((4 : Int) :: ((x.length : Int) :: x ++ []) ++ r).map Int.toNat = _
      simp
    · have := PartsIs.rows (word := 4) (x := x.map Int.toNat) (r := r.map Int.toNat) (by decide)
      rw [List.length_map] at this
      exact this
    · show (x.map Int.toNat ++ r.map Int.toNat).drop x.length = _
      rw [List.drop_append_of_le_length (by simp)]
      simp
  · exact ⟨5, 0, [], [], _, rfl, rfl, fun r => ⟨r.map Int.toNat, rfl, .alone (by decide), rfl⟩⟩
  · rename_i i
    exact ⟨6, 1, [], [i.toNat], _, rfl, rfl, fun r => ⟨i.toNat :: r.map Int.toNat, rfl, .one (by decide), rfl⟩⟩
  · rename_i i
    exact ⟨7, 1, [], [i.toNat], _, rfl, rfl, fun r => ⟨i.toNat :: r.map Int.toNat, rfl, .one (by decide), rfl⟩⟩
  · rename_i i
    exact ⟨8, 1, [], [i.toNat], _, rfl, rfl, fun r => ⟨i.toNat :: r.map Int.toNat, rfl, .one (by decide), rfl⟩⟩
  · rename_i i
    exact ⟨9, 1, [], [i.toNat], _, rfl, rfl, fun r => ⟨i.toNat :: r.map Int.toNat, rfl, .one (by decide), rfl⟩⟩
  · rename_i x
    refine ⟨10, x.length + 1, [], x.map Int.toNat, _, rfl, rfl, fun r => ⟨x.length :: (x.map Int.toNat ++ r.map Int.toNat), ?_, ?_, ?_⟩⟩
    · show ((10 : Int) :: ((x.length : Int) :: x ++ []) ++ r).map Int.toNat = _
      simp
    · have := PartsIs.rows (word := 10) (x := x.map Int.toNat) (r := r.map Int.toNat) (by decide)
      rw [List.length_map] at this
      exact this
    · show (x.map Int.toNat ++ r.map Int.toNat).drop x.length = _
      rw [List.drop_append_of_le_length (by simp)]
      simp
  · rename_i i
    exact ⟨11, 1, [], [i.toNat], _, rfl, rfl, fun r => ⟨i.toNat :: r.map Int.toNat, rfl, .one (by decide), rfl⟩⟩
  · cases h
theorem all_calls : ∀ raw : List (List (List Int)), raw.all Mu24Neutral.asked1 = true → ∃ cs, Dec ((PyFlat.put raw).map Int.toNat) cs ∧ ∀ o, PyFlat.played Mu24Neutral.step o raw = outs o cs
  | [], _ => ⟨[], .nil, fun _ => rfl⟩
  | c :: raw, h => by
    rw [List.all_cons, Bool.and_eq_true] at h
    obtain ⟨cs, h1, h2⟩ := all_calls raw h.2
    obtain ⟨word, k, _, parts, x, e1, e2, e3⟩ := one_call c h.1
    obtain ⟨l, f1, f2, f3⟩ := e3 (PyFlat.put raw)
    refine ⟨x :: cs, ?_, fun o => ?_⟩
    · show Dec ((PyFlat.put1 c ++ PyFlat.put raw).map Int.toNat) (x :: cs)
      rw [f1]
      exact .cons f2 e2 (by rw [f3]; exact h1)
    · show (Mu24Neutral.step o c).2 :: PyFlat.played Mu24Neutral.step (Mu24Neutral.step o c).1 raw = _
      rw [step_is e1, h2]
      rfl
/-- what is asked, and what is due -/
theorem asked_is {l : List Int} (h : PyMu24.answers_asked l = true) : ∃ cs, Dec (l.map Int.toNat) cs ∧ PyMu24.answers l = PyFlat.told (outs none cs) ∧ (PyFlat.told (outs none cs)).length ≤ 10000000 := by
  unfold PyMu24.answers_asked at h
  cases e : PyFlat.calls PyMu24.shape l.length l with
  | none => rw [e] at h; cases h
  | some raw =>
    rw [e] at h
    dsimp only at h
    simp only [Bool.and_eq_true] at h
    obtain ⟨⟨_, h1⟩, h2⟩ := h
    have ew : raw.map PyMu24.whole = raw := by
      have : (PyMu24.whole : List (List Int) → List (List Int)) = id := funext whole_is
      rw [this, List.map_id]
    rw [ew] at h1
    unfold Mu24Neutral.asked at h1
    simp only [Bool.and_eq_true] at h1
    obtain ⟨cs, d1, d2⟩ := all_calls raw h1.2.2
    obtain ⟨el, _⟩ := PyFlat.put_calls _ _ _ e
    have ea : PyMu24.answers l = PyFlat.told (outs none cs) := by
      unfold PyMu24.answers PyMu24.calls
      rw [e]
      show PyFlat.told (PyFlat.played Mu24Neutral.step Mu24Neutral.start (raw.map PyMu24.whole)) = _
      rw [ew, d2]
      rfl
    refine ⟨cs, by rw [el]; exact d1, ea, ?_⟩
    have h3 := of_decide_eq_true (show decide ((PyMu24.answers l).length ≤ 10000000) = true from h2)
    rw [← ea]
    exact h3
end Wd

set_option Elab.async false
set_option linter.all false
set_option maxRecDepth 100000
set_option maxHeartbeats 4000000
/-! wheel: parts_at, is_wrong_m, by_list, by_m -/
namespace Wd
open PySem PySem.Spec PyProof.Rows L2
open Mu24 (Pick right most State allTickets allDraws nums)
abbrev sParts : Stmt := tops 62
abbrev sWrong : Stmt := tops 63
abbrev sByList : Stmt := tops 64
abbrev sByM : Stmt := tops 65
/-- a module's tuple of whole numbers -/
abbrev TupG (K : PySem.W.Frag) (mg : Str → Option Value) (x : Str) (l : List Nat) : Prop := ∃ L : Addr, mg x = some (.ref L) ∧ ∀ H : Hp, SqT K H L (nI l)
def spParts (K : PySem.W.Frag) : Sp := fun vs H Q _ => ∃ (a : Addr) (ns : List Nat) (at' word : Nat) (parts : List Nat) (k : Nat), vs = [.ref a, iv at', iv word] ∧ SqL K H a (nI ns) ∧ ns.length ≤ 1000 ∧ at' ≤ ns.length ∧ PartsIs word (ns.drop at') parts k ∧
  ∀ (H' : Hp) (p T : Addr), Same H H' → H p = none → H' p = some (.lst (nI parts)) → H' T = some (.tup [.ref p, iv (at' + k)]) → Q (.ref T) H'
def spWrong (C : Addr) : Sp := fun vs H Q _ => ∃ (a at' : Addr) (s : State) (word m : Nat), vs = [.ref a, iv word, iv m] ∧ WheelAt C H a at' s ∧ Q (.bl (decide (s.k < m) || (decide (m = 0) && decide (word ≠ 6)))) H
def spByList (C : Addr) : Sp := fun vs H Q _ => ∃ (a at' b : Addr) (s : State) (word : Nat) (l : List Nat) (c : Mu24.Call), vs = [.ref a, iv word, .ref b] ∧ WheelAt C H a at' s ∧ H b = some (.lst (nI l)) ∧ word ∈ [1, 4, 10] ∧ callAs word l = some c ∧
  Moves C a at' H Q (stepW s c).1 (stepW s c).2
def spByM (C : Addr) : Sp := fun vs H Q _ => ∃ (a at' : Addr) (s : State) (word m : Nat) (c : Mu24.Call), vs = [.ref a, iv word, iv m] ∧ WheelAt C H a at' s ∧ word ∈ [6, 7, 8, 9, 11] ∧ callAs word [m] = some c ∧
  Moves C a at' H Q (stepW s c).1 (stepW s c).2

section
variable {P : Program} {w : World} {K : PySem.W.Frag} {mg : Str → Option Value} {base : Heap} {C : Addr}
theorem eq_iv (a b : Nat) : decide (iv a = iv b) = decide (a = b) := by
  by_cases h : a = b
  · subst h
    rw [decide_eq_true rfl, decide_eq_true rfl]
  · rw [decide_eq_false h]
    exact decide_eq_false fun z => h (by have := V.int.inj z; omega)
theorem nI_drop (l : List Nat) (i : Nat) : (nI l).drop i = nI (l.drop i) := by
  unfold nI
  rw [List.map_drop]
theorem nI_take (l : List Nat) (i : Nat) : (nI l).take i = nI (l.take i) := by
  unfold nI
  rw [List.map_take]
theorem take_pre {α : Type} (x r : List α) : (x ++ r).take x.length = x := by
  rw [List.take_append_of_le_length (Nat.le_refl _), List.take_length]
/-- a slice of the request -/
theorem cut_is {ns x r : List Nat} {y z : Int} {j k : Nat} (ey : y = (j : Int)) (ez : z = (k : Int)) (h : ns.drop j = x ++ r) (hk : k = j + x.length) (hj : j ≤ ns.length) : cutV (nI ns) (some y) (some z) = nI x := by
  have hl : (ns.drop j).length = x.length + r.length := by rw [h, List.length_append]
  rw [List.length_drop] at hl
  rw [cut_mid ey ez (by omega) (by rw [nI_len]; omega), nI_drop, nI_take, h]
  have e : k - j = x.length := by omega
  rw [e, take_pre]
theorem scParts : FnScope ["calls", "at", "word", "end"] ["calls", "at", "word"] (defScope sParts) := ⟨rfl, rfl, rfl, by decide +kernel, rfl, by decide +kernel, by decide +kernel⟩
theorem c_parts (A : At K mg "parts_at" sParts) (gL : TupG K mg "LISTS" [1, 4, 10]) (gA : TupG K mg "ALONE" [3, 5]) (gB : Num mg "BEGIN" 0) : C8.Cal P w K mg base 1 "parts_at" (spParts K) [] := by
  refine cal_of (N := ["calls", "at", "word", "end"]) (ps := ["calls", "at", "word"]) A (fun _ _ _ _ _ _ us hl => match us, hl with | [_, _, _], _ => rfl) scParts (fun vs H Q E h => ?_) (fun f cdv A outer s H vs Q E hr h => ?_)
  · obtain ⟨a, ns, at', word, parts, k, rfl, _⟩ := h
    rfl
  · obtain ⟨a, ns, at', word, parts, k, rfl, ha, hn, hat, hp, q⟩ := h
    obtain ⟨L1, m1, t1⟩ := gL
    obtain ⟨L2', m2, t2⟩ := gA
    refine ⟨_, pss_cons (ps_if (pt_cmpR op_in_seq (pv 2) (pe_glob (v := .ref L1) rfl m1 rfl) (by rfl))
        (pss_cons (ps_set (i := 3) scParts.nd rfl (.inl rfl) (pe_op op_add (pe_op op_add (pv 1) pe_int) (pe_ix ix_list (pv 0) (pv 1) (fun _ _ => rfl))))
        (pss_one (ps_ret (pe_tup (pa_cons (pe_slice sl_list (pv 0) (po_some (pe_op op_add (pv 1) pe_int)) (po_some (pv 3))) (pa_cons (pv 3) pa_nil)))))) pss_nil)
      (pss_cons (ps_if (pt_cmpR op_eq (pv 2) (C8.pe_gc rfl gB) (nomark _))
        (pss_one (ps_ret (pe_tup (pa_cons (pe_slice sl_list (pv 0) (po_some (pv 1)) (po_some (pe_op op_add (pv 1) pe_int))) (pa_cons (pe_op op_add (pv 1) pe_int) pa_nil))))) pss_nil)
      (pss_cons (ps_if (pt_cmpR op_in_seq (pv 2) (pe_glob (v := .ref L2') rfl m2 rfl) (by rfl))
        (pss_one (ps_ret (pe_tup (pa_cons (pe_lst pa_nil) (pa_cons (pv 1) pa_nil))))) pss_nil)
      (pss_one (ps_ret (pe_tup (pa_cons (pe_slice sl_list (pv 0) (po_some (pv 1)) (po_some (pe_op op_add (pv 1) pe_int))) (pa_cons (pe_op op_add (pv 1) pe_int) pa_nil))))))), ?_⟩
    refine ⟨_, rfl, L1, _, rfl, .inr (t1 H), rfl, flat_nI _, decide (word ∈ [1, 4, 10]), congrArg V.bl (in_nI word [1, 4, 10]), ?_⟩
    -- the last step is one: a list at p, the tuple
    have fin : ∀ (k' : Int), k' = ((at' + k : Nat) : Int) → ∀ p, H p = none → ∀ T, (upd H p (.lst (nI parts))) T = none → Q (.ref T) (upd (upd H p (.lst (nI parts))) T (.tup [.ref p, .int k'])) := fun k' ek p hp T hT => by
      have s1 : Same H (upd H p (.lst (nI parts))) := same_new hp
      refine q _ p T (snew s1 (Same.free s1 hT)) hp ?_ ?_
      · rw [upd_ne (ne_of_none (upd_same (H := H) (a := p)) hT)]
        exact upd_same
      · rw [upd_same, ek]
        rfl
    cases hp' : decide (word ∈ [1, 4, 10]) with
    | true =>
      have hm := of_decide_eq_true hp'
      refine iteT ?_
      generalize hD : ns.drop at' = D at hp
      cases hp with
      | rows h =>
        rename_i r
        have hlt : at' < ns.length := by
          have : (ns.drop at').length = parts.length + r.length + 1 := by
            rw [hD, List.length_cons, List.length_append]
          rw [List.length_drop] at this
          omega
        have hix : ns[at']? = some parts.length := by
          have := congrArg List.head? hD
          rw [List.head?_drop] at this
          exact this
        have hD2 : ns.drop (at' + 1) = parts ++ r := by
          have := congrArg List.tail hD
          rw [List.tail_drop] at this
          exact this
        refine ⟨_, rfl, _, _, rfl, rfl, _, rfl, _, rfl, a, nI ns, _, _, rfl, rfl, ha, atI_nat (nI_at hix), _, _, rfl, rfl, ?_⟩
        refine ⟨_, rfl, _, rfl, _, _, rfl, rfl, _, rfl, _, rfl, _, rfl, a, nI ns, rfl, ha, fun p hp => ?_⟩
        rw [cut_is (ns := ns) (x := parts) (r := r) (y := (at' : Int) + 1) (j := at' + 1) (k := at' + 1 + parts.length) rfl (by show (at' : Int) + 1 + (parts.length : Int) = _; omega) hD2 rfl (by omega)]
        refine ⟨_, rfl, by show 2 ≤ sizeLine; decide, fun T hT => fin _ ?_ p hp T hT⟩
        show (at' : Int) + 1 + (parts.length : Int) = _
        omega
      | begin_ => exact absurd hm (by decide)
      | alone h =>
        simp at hm h
        omega
      | one h =>
        simp at hm h
        omega
    | false =>
      have hm := of_decide_eq_false hp'
      refine iteF ?_
      refine ⟨_, rfl, rfl, _, rfl, ?_⟩
      refine ite2 (fun h0 => ?_) (fun h0 => ?_)
      · have h0 : word = 0 := by
          have := V.int.inj (of_decide_eq_true h0)
          omega
        subst h0
        generalize hD : ns.drop at' = D at hp
        cases hp with
        | rows h => exact (hm h).elim
        | alone h => exact absurd h (by decide)
        | one h => exact absurd h (by decide)
        | begin_ =>
          rename_i x y z r
          have hl : (ns.drop at').length = r.length + 3 := by
            rw [hD]
            rfl
          rw [List.length_drop] at hl
          refine ⟨_, rfl, _, rfl, _, rfl, _, rfl, _, _, rfl, rfl, _, rfl, a, nI ns, rfl, ha, fun p hp => ?_⟩
          rw [cut_is (ns := ns) (x := [x, y, z]) (r := r) (y := (at' : Int)) (j := at') (k := at' + 3) rfl (by show (at' : Int) + 3 = _; omega) hD rfl (by omega)]
          exact ⟨_, rfl, _, _, rfl, rfl, by show 2 ≤ sizeLine; decide, fun T hT => fin _ (by show (at' : Int) + 3 = _; omega) p hp T hT⟩
      · have h0 : word ≠ 0 := fun z => h0 (decide_eq_true (by rw [z]; rfl))
        refine ⟨_, rfl, L2', _, rfl, .inr (t2 H), rfl, flat_nI _, decide (word ∈ [3, 5]), congrArg V.bl (in_nI word [3, 5]), ?_⟩
        refine ite2 (fun h1 => ?_) (fun h1 => ?_)
        · have h1 := of_decide_eq_true h1
          generalize hD : ns.drop at' = D at hp
          cases hp with
          | rows h => exact (hm h).elim
          | begin_ => exact (h0 rfl).elim
          | one h =>
            simp at h1 h
            omega
          | alone h =>
            refine ⟨by show 0 ≤ sizeLine; decide, fun p hp => ⟨_, rfl, by show 2 ≤ sizeLine; decide, fun T hT => fin _ rfl p hp T hT⟩⟩
        · have h1 : word ∉ [3, 5] := fun z => h1 (decide_eq_true z)
          generalize hD : ns.drop at' = D at hp
          cases hp with
          | rows h => exact (hm h).elim
          | begin_ => exact (h0 rfl).elim
          | alone h => exact (h1 h).elim
          | one h =>
            rename_i x r
            have hl : (ns.drop at').length = r.length + 1 := by
              rw [hD]
              rfl
            rw [List.length_drop] at hl
            refine ⟨_, rfl, _, rfl, _, rfl, _, rfl, _, _, rfl, rfl, _, rfl, a, nI ns, rfl, ha, fun p hp => ?_⟩
            rw [cut_is (ns := ns) (x := [x]) (r := r) (y := (at' : Int)) (j := at') (k := at' + 1) rfl (by show (at' : Int) + 1 = _; omega) hD rfl (by omega)]
            exact ⟨_, rfl, _, _, rfl, rfl, by show 2 ≤ sizeLine; decide, fun T hT => fin _ (by show (at' : Int) + 1 = _; omega) p hp T hT⟩

theorem scWrong : FnScope ["wheel", "word", "m"] ["wheel", "word", "m"] (defScope sWrong) := ⟨rfl, rfl, rfl, by decide +kernel, rfl, by decide +kernel, by decide +kernel⟩
theorem c_wrong (T : WTxt K C) (A : At K mg "is_wrong_m" sWrong) (gC : Num mg "COVERS" 6) : C8.Cal P w K mg base 1 "is_wrong_m" (spWrong C) [] := by
  refine cal_of (N := ["wheel", "word", "m"]) (ps := ["wheel", "word", "m"]) A (fun _ _ _ _ _ _ us hl => match us, hl with | [_, _, _], _ => rfl) scWrong (fun vs H Q E h => ?_) (fun f cdv A outer s H vs Q E hr h => ?_)
  · obtain ⟨a, at', s, word, m, rfl, _⟩ := h
    rfl
  · obtain ⟨a, at', st, word, m, rfl, ⟨⟨dx, ak, ad, hw, n1, n2, rk, rd, rt⟩, g⟩, q⟩ := h
    refine ⟨_, pss_one (ps_ret (pe_or (pe_cmpR op_gt (pv 2) (pe_fld (pv 0) rfl) (nomark _)) (pe_one (pe_and (pe_cmpR op_eq (pv 2) pe_int (nomark _)) (pe_one (pe_cmpR op_ne (pv 1) (C8.pe_gc rfl gC) (nomark _))))))), ?_⟩
    refine ⟨_, rfl, _, rfl, a, C, dx, _, _, rfl, hw, T.cl, T.k, wF_k _ _ _ _, _, _, rfl, rfl, _, rfl, ?_⟩
    refine ite2 (fun h => ?_) (fun h => ?_)
    · have h : st.k < m := by
        have := of_decide_eq_true h
        omega
      rw [decide_eq_true h, Bool.true_or] at q
      exact q
    · have h : ¬ st.k < m := fun z => h (decide_eq_true (by omega))
      rw [decide_eq_false h, Bool.false_or] at q
      refine ⟨_, rfl, rfl, _, rfl, ?_⟩
      refine ite2 (fun h2 => ?_) (fun h2 => ?_)
      · have h2 : m = 0 := by
          have := V.int.inj (of_decide_eq_true h2)
          omega
        rw [decide_eq_true h2, Bool.true_and] at q
        refine ⟨_, rfl, rfl, ?_⟩
        have e : (!decide (V.int (word : Int) = V.int 6)) = decide (word ≠ 6) := by
          have := eq_iv word 6
          show (!decide (iv word = iv 6)) = _
          rw [this]
          by_cases z : word = 6
          · rw [decide_eq_true z, decide_eq_false (by omega)]
            rfl
          · rw [decide_eq_false z, decide_eq_true z]
            rfl
        show Q (.bl (!decide (V.int (word : Int) = V.int 6))) H
        rw [e]
        exact q
      · have h2 : ¬ m = 0 := fun z => h2 (decide_eq_true (by rw [z]; rfl))
        rw [decide_eq_false h2, Bool.false_and] at q
        exact q

theorem scByList : FnScope ["wheel", "word", "numbers"] ["wheel", "word", "numbers"] (defScope sByList) := ⟨rfl, rfl, rfl, by decide +kernel, rfl, by decide +kernel, by decide +kernel⟩
theorem Tells.of_moves {a at' : Addr} {H : Hp} {Q : VK} {s : State} {ans : List Int} (w : WheelAt C H a at' s) (h : Moves C a at' H Q s ans) : Tells H Q ans := h.tells w
theorem c_byList (T : WTxt K C) (A : At K mg "by_list" sByList) (c1 : C8.Cal P w K mg base 2 "buy" (spBuy C) []) (c2 : C8.Cal P w K mg base 4 "matches" (spMatches C) []) (c3 : C8.Cal P w K mg base 4 "pays" (spPays C) []) (g1 : Num mg "BUY" 1) (g2 : Num mg "MATCHES" 4) : C8.Cal P w K mg base 5 "by_list" (spByList C) [] := by
  refine cal_of (N := ["wheel", "word", "numbers"]) (ps := ["wheel", "word", "numbers"]) A (fun _ _ _ _ _ _ us hl => match us, hl with | [_, _, _], _ => rfl) scByList (fun vs H Q E h => ?_) (fun f cdv A outer s H vs Q E hr h => ?_)
  · obtain ⟨a, at', b, s, word, l, c, rfl, _⟩ := h
    rfl
  · obtain ⟨a, at', b, st, word, l, c, rfl, hW, hb, hm, hc, q⟩ := h
    refine ⟨_, pss_cons (ps_if (pt_cmpR op_eq (pv 1) (C8.pe_gc rfl g1) (nomark _)) (pss_one (ps_ret (C8.pe_c c1 hr (by decide) rfl (pa_cons (pv 0) (pa_cons (pv 2) pa_nil))))) pss_nil)
      (pss_cons (ps_if (pt_cmpR op_eq (pv 1) (C8.pe_gc rfl g2) (nomark _)) (pss_one (ps_ret (C8.pe_c c2 hr (by decide) rfl (pa_cons (pv 0) (pa_cons (pv 2) pa_nil))))) pss_nil)
      (pss_one (ps_ret (C8.pe_c c3 hr (by decide) rfl (pa_cons (pv 0) (pa_cons (pv 2) pa_nil)))))), ?_⟩
    refine ⟨_, rfl, rfl, _, rfl, ?_⟩
    refine ite2 (fun h => ?_) (fun h => ?_)
    · have h : word = 1 := by
        have := V.int.inj (of_decide_eq_true h)
        omega
      subst h
      obtain rfl : Mu24.Call.buy l = c := Option.some.inj hc
      exact ⟨_, rfl, _, rfl, a, at', b, st, l, rfl, hW, hb, q⟩
    · have h : word ≠ 1 := fun z => h (decide_eq_true (by rw [z]; rfl))
      refine ⟨_, rfl, rfl, _, rfl, ?_⟩
      refine ite2 (fun h2 => ?_) (fun h2 => ?_)
      · have h2 : word = 4 := by
          have := V.int.inj (of_decide_eq_true h2)
          omega
        subst h2
        obtain rfl : Mu24.Call.matches_ l = c := Option.some.inj hc
        exact ⟨_, rfl, _, rfl, a, at', b, st, l, rfl, hW, hb, Moves.tells q hW⟩
      · have h2 : word ≠ 4 := fun z => h2 (decide_eq_true (by rw [z]; rfl))
        have h3 : word = 10 := by
          simp at hm
          omega
        subst h3
        obtain rfl : Mu24.Call.pays l = c := Option.some.inj hc
        exact ⟨_, rfl, _, rfl, a, at', b, st, l, rfl, hW, hb, Moves.tells q hW⟩

theorem scByM : FnScope ["wheel", "word", "m"] ["wheel", "word", "m"] (defScope sByM) := ⟨rfl, rfl, rfl, by decide +kernel, rfl, by decide +kernel, by decide +kernel⟩
theorem c_byM (T : WTxt K C) (A : At K mg "by_m" sByM) (c0 : C8.Cal P w K mg base 1 "is_wrong_m" (spWrong C) []) (c1 : C8.Cal P w K mg base 5 "covers" (spCovers C) []) (c2 : C8.Cal P w K mg base 5 "best_more" (spMore C) []) (c3 : C8.Cal P w K mg base 7 "fewest" (spFewest C) [])
    (c4 : C8.Cal P w K mg base 5 "needed" (spNeeded C) []) (c5 : C8.Cal P w K mg base 3 "least_by_count" (spLeast C) []) (g1 : Num mg "COVERS" 6) (g2 : Num mg "NEXT" 7) (g3 : Num mg "FEWEST" 8) (g4 : Num mg "NEEDED" 9) : C8.Cal P w K mg base 8 "by_m" (spByM C) [] := by
  refine cal_of (N := ["wheel", "word", "m"]) (ps := ["wheel", "word", "m"]) A (fun _ _ _ _ _ _ us hl => match us, hl with | [_, _, _], _ => rfl) scByM (fun vs H Q E h => ?_) (fun f cdv A outer s H vs Q E hr h => ?_)
  · obtain ⟨a, at', s, word, m, c, rfl, _⟩ := h
    rfl
  · obtain ⟨a, at', st, word, m, c, rfl, hW, hm, hc, q⟩ := h
    refine ⟨_, pss_cons (ps_if (pt_val (C8.pe_c c0 hr (by decide) rfl (pa_cons (pv 0) (pa_cons (pv 1) (pa_cons (pv 2) pa_nil))))) (pss_one (ps_ret (pe_lst (pa_cons (pe_un un_neg pe_int) pa_nil)))) pss_nil)
      (pss_cons (ps_if (pt_cmpR op_eq (pv 1) (C8.pe_gc rfl g1) (nomark _)) (pss_one (ps_ret (C8.pe_c c1 hr (by decide) rfl (pa_cons (pv 0) (pa_cons (pv 2) pa_nil))))) pss_nil)
      (pss_cons (ps_if (pt_cmpR op_eq (pv 1) (C8.pe_gc rfl g2) (nomark _)) (pss_one (ps_ret (C8.pe_c c2 hr (by decide) rfl (pa_cons (pv 0) (pa_cons (pv 2) pa_nil))))) pss_nil)
      (pss_cons (ps_if (pt_cmpR op_eq (pv 1) (C8.pe_gc rfl g3) (nomark _)) (pss_one (ps_ret (C8.pe_c c3 hr (by decide) rfl (pa_cons (pv 0) (pa_cons (pv 2) pa_nil))))) pss_nil)
      (pss_cons (ps_if (pt_cmpR op_eq (pv 1) (C8.pe_gc rfl g4) (nomark _)) (pss_one (ps_ret (C8.pe_c c4 hr (by decide) rfl (pa_cons (pv 0) (pa_cons (pv 2) pa_nil))))) pss_nil)
      (pss_one (ps_ret (C8.pe_c c5 hr (by decide) rfl (pa_cons (pv 0) (pa_cons (pv 2) pa_nil))))))))), ?_⟩
    have hstep : word ≠ 6 → (m = 0 ∨ st.k < m) → (stepW st c).1 = st ∧ (stepW st c).2 = [-1] := fun h6 hbad => by
      have hw : word = 7 ∨ word = 8 ∨ word = 9 ∨ word = 11 := by
        simp at hm
        omega
      rcases hw with rfl | rfl | rfl | rfl
      · obtain rfl : Mu24.Call.next m = c := Option.some.inj hc
        exact ⟨rfl, if_pos hbad⟩
      · obtain rfl : Mu24.Call.fewest m = c := Option.some.inj hc
        exact ⟨rfl, if_pos hbad⟩
      · obtain rfl : Mu24.Call.needed m = c := Option.some.inj hc
        have e : stepW st (.needed m) = (st, [-1]) := if_pos hbad
        rw [e]
        exact ⟨rfl, rfl⟩
      · obtain rfl : Mu24.Call.least m = c := Option.some.inj hc
        exact ⟨rfl, if_pos hbad⟩
    refine ⟨_, rfl, _, rfl, _, rfl, a, at', st, word, m, rfl, hW, _, rfl, ?_⟩
    refine ite2 (fun h => ?_) (fun h => ?_)
    · have e : (stepW st c).1 = st ∧ (stepW st c).2 = [-1] := by
        rw [Bool.or_eq_true, Bool.and_eq_true] at h
        by_cases h6 : word = 6
        · subst h6
          obtain rfl : Mu24.Call.covers m = c := Option.some.inj hc
          rcases h with h | h
          · exact ⟨rfl, if_pos (of_decide_eq_true h)⟩
          · exact (of_decide_eq_true h.2 rfl).elim
        · refine hstep h6 ?_
          rcases h with h | h
          · exact .inr (of_decide_eq_true h)
          · exact .inl (of_decide_eq_true h.1)
      rw [e.1, e.2] at q
      exact ⟨_, rfl, by show 1 ≤ sizeLine; decide, fun p hp => Moves.tells q hW _ p (same_new hp) hp upd_same⟩
    · have hk : ¬ st.k < m := fun z => h (by rw [decide_eq_true z, Bool.true_or])
      refine ⟨_, rfl, rfl, _, rfl, ?_⟩
      refine ite2 (fun h6 => ?_) (fun h6 => ?_)
      · have h6 : word = 6 := by
          have := V.int.inj (of_decide_eq_true h6)
          omega
        subst h6
        obtain rfl : Mu24.Call.covers m = c := Option.some.inj hc
        refine ⟨_, rfl, _, rfl, a, at', st, m, rfl, hW, ?_⟩
        have := Moves.tells q hW
        have e : (stepW st (.covers m)).2 = nums [Mu24.covered st st.tickets m, Mu24.draws st, (Mu24.lowest (Mu24.covered st st.tickets m) (Mu24.draws st)).1, (Mu24.lowest (Mu24.covered st st.tickets m) (Mu24.draws st)).2] := if_neg hk
        rw [e] at this
        exact this
      · have h6 : word ≠ 6 := fun z => h6 (decide_eq_true (by rw [z]; rfl))
        have hm0 : m ≠ 0 := fun z => h (by rw [decide_eq_true z, decide_eq_true h6, Bool.and_self, Bool.or_true])
        have hgood : ¬ (m = 0 ∨ st.k < m) := fun z => z.elim hm0 hk
        refine ⟨_, rfl, rfl, _, rfl, ?_⟩
        refine ite2 (fun h7 => ?_) (fun h7 => ?_)
        · have h7 : word = 7 := by
            have := V.int.inj (of_decide_eq_true h7)
            omega
          subst h7
          obtain rfl : Mu24.Call.next m = c := Option.some.inj hc
          refine ⟨_, rfl, _, rfl, a, at', st, m, rfl, hW, ?_⟩
          have := Moves.tells q hW
          have e : (stepW st (.next m)).2 = nextAns st m := if_neg hgood
          rw [e] at this
          exact this
        · have h7 : word ≠ 7 := fun z => h7 (decide_eq_true (by rw [z]; rfl))
          refine ⟨_, rfl, rfl, _, rfl, ?_⟩
          refine ite2 (fun h8 => ?_) (fun h8 => ?_)
          · have h8 : word = 8 := by
              have := V.int.inj (of_decide_eq_true h8)
              omega
            subst h8
            obtain rfl : Mu24.Call.fewest m = c := Option.some.inj hc
            refine ⟨_, rfl, _, rfl, a, at', st, m, rfl, hW, by omega, ?_⟩
            have := Moves.tells q hW
            have e : (stepW st (.fewest m)).2 = fewAns st m := if_neg hgood
            rw [e] at this
            exact this
          · have h8 : word ≠ 8 := fun z => h8 (decide_eq_true (by rw [z]; rfl))
            refine ⟨_, rfl, rfl, _, rfl, ?_⟩
            refine ite2 (fun h9 => ?_) (fun h9 => ?_)
            · have h9 : word = 9 := by
                have := V.int.inj (of_decide_eq_true h9)
                omega
              subst h9
              obtain rfl : Mu24.Call.needed m = c := Option.some.inj hc
              have e : stepW st (.needed m) = (needNew st m, needAns st m) := if_neg hgood
              rw [e] at q
              exact ⟨_, rfl, _, rfl, a, at', st, m, rfl, hW, by omega, q⟩
            · have h9 : word ≠ 9 := fun z => h9 (decide_eq_true (by rw [z]; rfl))
              have h11 : word = 11 := by
                simp at hm
                omega
              subst h11
              obtain rfl : Mu24.Call.least m = c := Option.some.inj hc
              refine ⟨_, rfl, _, rfl, a, at', st, m, rfl, hW, ?_⟩
              have := Moves.tells q hW
              have e : (stepW st (.least m)).2 = leastAns st m := if_neg hgood
              rw [e] at this
              exact this
end
end Wd

set_option Elab.async false
set_option linter.all false
set_option maxRecDepth 100000
set_option maxHeartbeats 4000000
/-! the line of calls: Line, answers -/
namespace Wd
open PySem PySem.Spec PyProof.Rows L2
open Mu24 (Pick right most State allTickets allDraws nums)
abbrev sLInit : Stmt := inClass (tops 66) 0
abbrev sBegin : Stmt := inClass (tops 66) 1
abbrev sAnswer : Stmt := inClass (tops 66) 2
abbrev sAnswers : Stmt := tops 67
/-- what a line holds: the wheel's place, its tickets' place, its state -/
abbrev Held := Option (Addr × Addr × State)
def wV : Held → V
  | none => .non
  | some (a, _, _) => .ref a
def stOf (x : Held) : Option State := x.map fun y => y.2.2
def owns : Held → List Addr
  | none => []
  | some (a, at', _) => [a, at']
def lF (x : Held) : List (Str × V) := [("wheel", wV x)]
structure LineAt (CL C : Addr) (H : Hp) (l : Addr) (x : Held) : Prop where
  ex : ∃ dx, H l = some (.ins CL dx (lF x))
  wh : ∀ a at' s, x = some (a, at', s) → WheelAt C H a at' s ∧ a ≠ l
/-- what is promised of a call's answer -/
def LineAns (CL C l : Addr) (x : Held) (H : Hp) (Q : VK) (c : Mu24.Call) : Prop := ∀ (H' : Hp) (p : Addr) (x' : Held), LineAt CL C H' l x' → stOf x' = (Mu24.step (stOf x) c).1 → (∀ b ∈ owns x', b ∈ owns x ∨ H b = none) →
  (∀ b o, H b = some o → b ≠ l → b ∉ owns x → H' b = some o) → (∀ z, H z ≠ none → (∀ a at' s, x = some (a, at', s) → Apart H a z) → ∀ a at' s, x' = some (a, at', s) → Apart H' a z) → H p = none → H' p = some (.lst (aI (Mu24.step (stOf x) c).2)) → Q (.ref p) H'
structure LTxt (K : PySem.W.Frag) (CL : Addr) : Prop where
  cl : Cls K CL
  wheel : NoAttr K CL "wheel"
theorem lF_wheel (x : Held) : (lF x).lookup ("wheel" : Str) = some (wV x) := lk_here
theorem lF_not (x : Held) {m : Str} (h : (m == ("wheel" : Str)) = false) : (lF x).lookup m = none := (lk_past h).trans lk_end
theorem LineAt.same {CL C : Addr} {H H' : Hp} {l : Addr} {x : Held} (h : LineAt CL C H l x) (s : Same H H') : LineAt CL C H' l x := by
  obtain ⟨⟨dx, e⟩, w⟩ := h
  exact ⟨⟨dx, s _ _ e⟩, fun a at' st q => ⟨(w a at' st q).1.same s, (w a at' st q).2⟩⟩
/-- an answer that changes nothing -/
theorem LineAns.stay {CL C l : Addr} {x : Held} {H : Hp} {Q : VK} {c : Mu24.Call} {ans : List Int} (q : LineAns CL C l x H Q c) (hL : LineAt CL C H l x) (e : Mu24.step (stOf x) c = (stOf x, ans)) : Tells H Q ans := fun H' p sm np hp => by
  refine q H' p x (hL.same sm) (by rw [e]) (fun b hb => .inl hb) (fun b o h _ _ => sm b o h) (fun z hz ap a at' s y => (hL.wh a at' s y).1.apart sm (ap a at' s y)) np ?_
  rw [e]
  exact hp
theorem LineAns.moves {CL C l a at' : Addr} {s : State} {H : Hp} {Q : VK} {c : Mu24.Call} (q : LineAns CL C l (some (a, at', s)) H Q c) (hL : LineAt CL C H l (some (a, at', s))) (hc : ∀ n k t, c ≠ .begin_ n k t) : Moves C a at' H Q (stepW s c).1 (stepW s c).2 := fun H' p at2 hW hat fr apr np hp => by
  obtain ⟨⟨dx, e⟩, w⟩ := hL
  obtain ⟨hw, ne⟩ := w a at' s rfl
  obtain ⟨⟨dx1, ak, ad, hw1, n1, n2, rk, rd, ⟨vs, hvs, _⟩⟩, g⟩ := hw
  have es : Mu24.step (stOf (some (a, at', s))) c = (some (stepW s c).1, (stepW s c).2) := step_some s c hc
  refine q H' p (some (a, at2, (stepW s c).1)) ⟨⟨dx, fr l _ e ne.symm (ne_of e hvs (by intro z; cases z))⟩, fun a2 at3 s3 z => ?_⟩ (by rw [es]; rfl) (fun b hb => ?_) (fun b o h1 h2 h3 => fr b o h1 (fun z => h3 (by rw [z]; exact List.mem_cons_self ..)) (fun z => h3 (by rw [z]; exact List.mem_cons_of_mem _ (List.mem_cons_self ..)))) (fun z hz ap a2 at3 s3 y => by cases y; exact apr z hz (ap a at' s rfl)) np (by rw [es]; exact hp)
  · cases z
    exact ⟨hW, ne⟩
  · rcases List.mem_cons.mp hb with rfl | hb
    · exact .inl (List.mem_cons_self ..)
    · rw [List.mem_singleton.mp hb]
      rcases hat with rfl | hat
      · exact .inl (List.mem_cons_of_mem _ (List.mem_cons_self ..))
      · exact .inr hat

def spLInit (CL C : Addr) : Sp := fun vs H Q _ => ∃ (p dx : Addr), vs = [.ref p] ∧ H p = some (.ins CL dx []) ∧ ∀ H' : Hp, LineAt CL C H' p none → SameBut p H H' → Q .non H'
def spBegin (CL C : Addr) : Sp := fun vs H Q _ => ∃ (l : Addr) (x : Held) (n k t : Nat), vs = [.ref l, iv n, iv k, iv t] ∧ LineAt CL C H l x ∧ LineAns CL C l x H Q (.begin_ n k t)
def spAnswer (CL C : Addr) : Sp := fun vs H Q _ => ∃ (l b : Addr) (x : Held) (word : Nat) (parts : List Nat) (c : Mu24.Call), vs = [.ref l, iv word, .ref b] ∧ LineAt CL C H l x ∧ H b = some (.lst (nI parts)) ∧ callAs word parts = some c ∧ LineAns CL C l x H Q c

section
variable {P : Program} {w : World} {K : PySem.W.Frag} {mg : Str → Option Value} {base : Heap} {C CL : Addr}
theorem scLInit : FnScope ["self"] ["self"] (defScope sLInit) := ⟨rfl, rfl, rfl, by decide +kernel, rfl, by decide +kernel, by decide +kernel⟩
theorem m_linit (L : LTxt K CL) {f : Addr} {fd : FuncData} (F : Fun K "__init__" "Line.__init__" sLInit f fd) : FnOk P w K mg base CX0 1 f fd ["self"] (spLInit CL C) := by
  refine F.ok scLInit (fun vs H Q E h => ?_) (fun cdv A outer s H vs Q E hr h => ?_)
  · obtain ⟨p, dx, rfl, _⟩ := h
    rfl
  · obtain ⟨p, dx, rfl, hp, q⟩ := h
    refine ⟨_, pss_one (ps_fld (pv 0) pe_non rfl), ?_⟩
    refine ⟨_, rfl, p, CL, dx, _, rfl, hp, L.cl, L.wheel, by decide, ?_⟩
    exact q _ ⟨⟨dx, upd_same⟩, fun a at' s z => by cases z⟩ fun b o e z => by
      rw [upd_ne z]
      exact e

/-- a line's own object changes: a wheel stays -/
theorem WheelAt.ins {H : Hp} {a at' l dx : Addr} {s : State} {fs : List (Str × V)} {o : HO} (h : WheelAt C H a at' s) (hl : H l = some (.ins CL dx fs)) (ne : a ≠ l) : WheelAt C (upd H l o) a at' s := by
  obtain ⟨⟨dx1, ak, ad, hw, n1, n2, rk, rd, rt⟩, g⟩ := h
  exact ⟨⟨dx1, ak, ad, by rw [upd_ne ne]; exact hw, n1, n2, rk.ins hl, rd.ins hl, rt.ins hl⟩, g⟩
theorem scBegin : FnScope ["self", "n", "k", "t"] ["self", "n", "k", "t"] (defScope sBegin) := ⟨rfl, rfl, rfl, by decide +kernel, rfl, by decide +kernel, by decide +kernel⟩
theorem m_begin (T : WTxt K C) (L : LTxt K CL) (A : AtM K CL "begin" "Line.begin" sBegin) (c1 : C8.Cal P w K mg base 2 "is_wheel" spIsWheel []) (c2 : C8.Mak P w K mg base 3 "Wheel" C (spInit C) []) (mL : mg "len" = none) : C8.Met P w K mg base 5 CL "begin" (spBegin CL C) [] := by
  refine met_of (N := ["self", "n", "k", "t"]) (ps := ["self", "n", "k", "t"]) L.cl A (fun _ _ _ _ _ _ us hl => match us, hl with | [_, _, _, _], _ => rfl) scBegin (fun vs H Q E h => ?_) (fun f cdv A outer s H vs Q E hr h => ?_)
  · obtain ⟨l, x, n, k, t, rfl, _⟩ := h
    rfl
  · obtain ⟨l, x, n, k, t, rfl, hL, q⟩ := h
    have hL0 := hL
    obtain ⟨⟨dl, hl⟩, wh⟩ := hL0
    refine ⟨_, pss_cons (ps_if (pt_not (pt_val (C8.pe_c c1 hr (by decide) rfl (pa_cons (pv 1) (pa_cons (pv 2) (pa_cons (pv 3) pa_nil)))))) (pss_one (ps_ret (pe_lst (pa_cons (pe_un un_neg pe_int) pa_nil)))) pss_nil)
      (pss_cons (ps_fld (pv 0) (C8.pe_mk c2 hr (by decide) rfl (pa_cons (pv 1) (pa_cons (pv 2) (pa_cons (pv 3) pa_nil)))) rfl)
      (pss_one (ps_ret (pe_lst (pa_cons pe_int (pa_cons (pe_callB call_len_seq rfl mL PySem.boot_len (pa_cons (pe_fld (pe_fld (pv 0) rfl) rfl) pa_nil)) (pa_cons (pe_callB call_len_seq rfl mL PySem.boot_len (pa_cons (pe_fld (pe_fld (pv 0) rfl) rfl) pa_nil)) pa_nil))))))), ?_⟩
    have es := step_begin (stOf x) n k t
    refine ⟨_, rfl, _, rfl, _, rfl, n, k, t, rfl, _, rfl, ?_⟩
    refine ite2 (fun h => ?_) (fun h => ?_)
    · have h : ¬ wheelOk n k t = true := by simpa using h
      rw [if_neg h] at es
      exact ⟨_, rfl, by show 1 ≤ sizeLine; decide, fun p hp => q.stay hL es _ p (same_new hp) hp upd_same⟩
    · have h : wheelOk n k t = true := by simpa using h
      rw [if_pos h] at es
      refine ⟨_, rfl, _, rfl, _, rfl, fun a dx na nd ne => ⟨a, dx, n, k, t, rfl, upd_same, h, fun H1 at' hW sb nat apn => ⟨rfl, ?_⟩⟩⟩
      have s1 : Same H H1 := Same.made na nd sb
      have nat0 : H at' = none := by
        cases e : H at' with
        | none => rfl
        | some o =>
          rw [upd_ne (ne_of_none e na), upd_ne (ne_of_none e nd), e] at nat
          cases nat
      have hl1 := s1 _ _ hl
      have nel : a ≠ l := (ne_of_none hl na).symm
      refine ⟨_, rfl, l, CL, dl, _, rfl, hl1, L.cl, L.wheel, by show 1 < 1000; decide, ?_⟩
      have ep : putF "wheel" (.ref a) (lF x) = lF (some (a, at', ⟨n, k, t, []⟩)) := put_here
      rw [ep]
      have hW2 := hW.ins (o := .ins CL dl (lF (some (a, at', ⟨n, k, t, []⟩)))) hl1 nel
      have hW3 := hW2
      obtain ⟨⟨dx1, ak, ad, hw, n1, n2, ⟨ks, hks, hkr⟩, ⟨ds, hds, hdr⟩, rt⟩, g⟩ := hW3
      refine ⟨_, rfl, l, CL, dl, _, _, rfl, upd_same, L.cl, L.wheel, lF_wheel _, a, C, dx1, _, _, rfl, hw, T.cl, T.kinds, wF_kinds _ _ _ _, ak, ks, rfl, .inl (sl_of hks), ?_⟩
      refine ⟨_, rfl, l, CL, dl, _, _, rfl, upd_same, L.cl, L.wheel, lF_wheel _, a, C, dx1, _, _, rfl, hw, T.cl, T.draws, wF_draws _ _ _ _, ad, ds, rfl, .inl (sl_of hds), by show 3 ≤ sizeLine; decide, fun p hp => ?_⟩
      have s2 := same_new (o := .lst [.int 0, .int (ks.length : Int), .int (ds.length : Int)]) hp
      refine q _ p (some (a, at', ⟨n, k, t, []⟩)) ⟨⟨dl, s2 _ _ upd_same⟩, fun a2 at2 st2 z => ?_⟩ (by rw [es]; rfl) (fun b hb => ?_) (fun b o e z _ => s2 _ _ (by rw [upd_ne z]; exact s1 _ _ e)) (fun z hz _ a2 at2 st2 y => ?_) ?_ ?_
      · cases z
        exact ⟨hW2.same s2, nel⟩
      · refine .inr ?_
        rcases List.mem_cons.mp hb with rfl | hb
        · exact na
        · rw [List.mem_singleton.mp hb]
          exact nat0
      · cases y
        have ap1 : Apart H1 a z := apn z (by
          cases e : H z with
          | none => exact (hz e).elim
          | some o =>
            rw [upd_ne (ne_of_none e na), upd_ne (ne_of_none e nd), e]
            intro q
            cases q)
        have hW1 := hW
        obtain ⟨⟨dx1', ak', ad', hw', _, _, ⟨ks', hks', _⟩, ⟨ds', hds', _⟩, ⟨ts', hts', _⟩⟩, _⟩ := hW1
        obtain ⟨o1, o2, o3⟩ := ap1.at_ hw'
        have ll : ∀ {b : Addr} {us : List V}, H1 b = some (.lst us) → upd H1 l (.ins CL dl (lF (some (a, at', ⟨n, k, t, []⟩)))) b = some (.lst us) := fun {b us} e => by
          rw [upd_ne (ne_of e hl1 (by intro z; cases z))]
          exact e
        have hw2 : upd H1 l (.ins CL dl (lF (some (a, at', ⟨n, k, t, []⟩)))) a = _ := (upd_ne nel).trans hw'
        exact hW2.apart s2 (apart_mk hw2 (o1.keep hks' (ll hks')) (o2.keep hds' (ll hds')) (o3.keep hts' (ll hts')))
      · cases e : H p with
        | none => rfl
        | some o =>
          by_cases z : p = l
          · rw [z, upd_same] at hp
            cases hp
          · rw [upd_ne z, s1 _ _ e] at hp
            cases hp
      · rw [upd_same, es, hkr.len, hdr.len]
        rfl

theorem scAnswer : FnScope ["self", "word", "parts"] ["self", "word", "parts"] (defScope sAnswer) := ⟨rfl, rfl, rfl, by decide +kernel, rfl, by decide +kernel, by decide +kernel⟩
theorem m_answer (T : WTxt K C) (L : LTxt K CL) (A : AtM K CL "answer" "Line.answer" sAnswer) (c1 : C8.Met P w K mg base 5 CL "begin" (spBegin CL C) []) (c2 : C8.Cal P w K mg base 1 "laid_out" spLaid []) (c3 : C8.Cal P w K mg base 5 "worst" (spWorst C) []) (c4 : C8.Cal P w K mg base 2 "drop" (spDrop C) [])
    (c5 : C8.Cal P w K mg base 5 "by_list" (spByList C) []) (c6 : C8.Cal P w K mg base 8 "by_m" (spByM C) []) (gB : Num mg "BEGIN" 0) (gK : Num mg "LOOK" 3) (gW : Num mg "WORST" 5) (gD : Num mg "DROP" 2) (gL : TupG K mg "LISTS" [1, 4, 10]) : C8.Met P w K mg base 9 CL "answer" (spAnswer CL C) [] := by
  refine met_of (N := ["self", "word", "parts"]) (ps := ["self", "word", "parts"]) L.cl A (fun _ _ _ _ _ _ us hl => match us, hl with | [_, _, _], _ => rfl) scAnswer (fun vs H Q E h => ?_) (fun f cdv A outer s H vs Q E hr h => ?_)
  · obtain ⟨l, b, x, word, parts, c, rfl, _⟩ := h
    rfl
  · obtain ⟨l, b, x, word, parts, c, rfl, hL, hb, hc, q⟩ := h
    have hL0 := hL
    obtain ⟨⟨dl, hl⟩, wh⟩ := hL0
    obtain ⟨L1, m1, t1⟩ := gL
    refine ⟨_, pss_cons (ps_if (pt_cmpR op_eq (pv 1) (C8.pe_gc rfl gB) (nomark _)) (pss_one (ps_ret (C8.pe_mt c1 hr (by decide) (pv 0) (pa_cons (pe_ix ix_list (pv 2) pe_int (fun _ _ => rfl)) (pa_cons (pe_ix ix_list (pv 2) pe_int (fun _ _ => rfl)) (pa_cons (pe_ix ix_list (pv 2) pe_int (fun _ _ => rfl)) pa_nil)))))) pss_nil)
      (pss_cons (ps_if (pt_cmpR op_isN (pe_fld (pv 0) rfl) pe_non (nomark _)) (pss_one (ps_ret (pe_lst (pa_cons (pe_un un_neg pe_int) pa_nil)))) pss_nil)
      (pss_cons (ps_if (pt_cmpR op_eq (pv 1) (C8.pe_gc rfl gK) (nomark _)) (pss_one (ps_ret (C8.pe_c c2 hr (by decide) rfl (pa_cons (pe_fld (pe_fld (pv 0) rfl) rfl) pa_nil)))) pss_nil)
      (pss_cons (ps_if (pt_cmpR op_eq (pv 1) (C8.pe_gc rfl gW) (nomark _)) (pss_one (ps_ret (C8.pe_c c3 hr (by decide) rfl (pa_cons (pe_fld (pv 0) rfl) pa_nil)))) pss_nil)
      (pss_cons (ps_if (pt_cmpR op_eq (pv 1) (C8.pe_gc rfl gD) (nomark _)) (pss_one (ps_ret (C8.pe_c c4 hr (by decide) rfl (pa_cons (pe_fld (pv 0) rfl) (pa_cons (pe_ix ix_list (pv 2) pe_int (fun _ _ => rfl)) pa_nil))))) pss_nil)
      (pss_cons (ps_if (pt_cmpR op_in_seq (pv 1) (pe_glob (v := .ref L1) rfl m1 rfl) (by rfl)) (pss_one (ps_ret (C8.pe_c c5 hr (by decide) rfl (pa_cons (pe_fld (pv 0) rfl) (pa_cons (pv 1) (pa_cons (pv 2) pa_nil)))))) pss_nil)
      (pss_one (ps_ret (C8.pe_c c6 hr (by decide) rfl (pa_cons (pe_fld (pv 0) rfl) (pa_cons (pv 1) (pa_cons (pe_ix ix_list (pv 2) pe_int (fun _ _ => rfl)) pa_nil))))))))))), ?_⟩
    refine ⟨_, rfl, rfl, _, rfl, ?_⟩
    refine ite2 (fun h => ?_) (fun h => ?_)
    · have h : word = 0 := by
        have := V.int.inj (of_decide_eq_true h)
        omega
      subst h
      obtain ⟨n, k, t, rfl⟩ : ∃ n k t, parts = [n, k, t] := by
        match parts, hc with
        | [n, k, t], _ => exact ⟨n, k, t, rfl⟩
      obtain rfl : Mu24.Call.begin_ n k t = c := Option.some.inj hc
      exact ⟨_, rfl, l, dl, _, rfl, hl, lF_not _ (by decide +kernel), _, rfl, b, nI [n, k, t], 0, iv n, rfl, rfl, sl_of hb, atI_nat (j := 0) rfl, _, rfl, b, nI [n, k, t], 1, iv k, rfl, rfl, sl_of hb, atI_nat (j := 1) rfl, _, rfl, b, nI [n, k, t], 2, iv t, rfl, rfl, sl_of hb, atI_nat (j := 2) rfl, l, x, n, k, t, rfl, hL, q⟩
    · have h0 : word ≠ 0 := fun z => h (decide_eq_true (by rw [z]; rfl))
      have hnb : ∀ n k t, c ≠ .begin_ n k t := fun n k t z => by
        subst z
        unfold callAs at hc
        split at hc <;> first | exact h0 rfl | cases hc
      refine ⟨_, rfl, l, CL, dl, _, _, rfl, hl, L.cl, L.wheel, lF_wheel _, rfl, _, rfl, ?_⟩
      cases x with
      | none =>
        refine iteT ?_
        exact ⟨_, rfl, by show 1 ≤ sizeLine; decide, fun p hp => q.stay hL (step_none c hnb) _ p (same_new hp) hp upd_same⟩
      | some y =>
        obtain ⟨a, at', st⟩ := y
        refine iteF ?_
        obtain ⟨hW, nel⟩ := wh a at' st rfl
        have mv := q.moves hL hnb
        have hW0 := hW
        obtain ⟨⟨dx, ak, ad, hw, n1, n2, rk, rd, rt⟩, g⟩ := hW0
        refine ⟨_, rfl, rfl, _, rfl, ?_⟩
        refine ite2 (fun h3 => ?_) (fun h3 => ?_)
        · have h3 : word = 3 := by
            have := V.int.inj (of_decide_eq_true h3)
            omega
          subst h3
          obtain rfl : parts = [] := by
            match parts, hc with
            | [], _ => rfl
          obtain rfl : Mu24.Call.look = c := Option.some.inj hc
          have hf : st.tickets.length ≤ 252 := by have := g.few; omega
          refine ⟨_, rfl, l, CL, dl, _, _, rfl, hl, L.cl, L.wheel, lF_wheel _, a, C, dx, _, _, rfl, hw, T.cl, T.tickets, wF_tickets _ _ _ _, at', st.tickets, rfl, rt, hf, fun r hr => ?_, Moves.tells mv hW⟩
          rw [g.len r hr]
          have := g.k6
          omega
        · have h3 : word ≠ 3 := fun z => h3 (decide_eq_true (by rw [z]; rfl))
          refine ⟨_, rfl, rfl, _, rfl, ?_⟩
          refine ite2 (fun h5 => ?_) (fun h5 => ?_)
          · have h5 : word = 5 := by
              have := V.int.inj (of_decide_eq_true h5)
              omega
            subst h5
            obtain rfl : parts = [] := by
              match parts, hc with
              | [], _ => rfl
            obtain rfl : Mu24.Call.worst = c := Option.some.inj hc
            exact ⟨_, rfl, l, CL, dl, _, _, rfl, hl, L.cl, L.wheel, lF_wheel _, a, at', st, rfl, hW, Moves.tells mv hW⟩
          · have h5 : word ≠ 5 := fun z => h5 (decide_eq_true (by rw [z]; rfl))
            refine ⟨_, rfl, rfl, _, rfl, ?_⟩
            refine ite2 (fun h2 => ?_) (fun h2 => ?_)
            · have h2 : word = 2 := by
                have := V.int.inj (of_decide_eq_true h2)
                omega
              subst h2
              obtain ⟨i, rfl⟩ : ∃ i, parts = [i] := by
                match parts, hc with
                | [i], _ => exact ⟨i, rfl⟩
              obtain rfl : Mu24.Call.drop i = c := Option.some.inj hc
              exact ⟨_, rfl, l, CL, dl, _, _, rfl, hl, L.cl, L.wheel, lF_wheel _, _, rfl, b, nI [i], 0, iv i, rfl, rfl, sl_of hb, atI_nat (j := 0) rfl, a, at', st, i, rfl, hW, mv⟩
            · have h2 : word ≠ 2 := fun z => h2 (decide_eq_true (by rw [z]; rfl))
              refine ⟨_, rfl, L1, _, rfl, .inr (t1 H), rfl, flat_nI _, decide (word ∈ [1, 4, 10]), congrArg V.bl (in_nI word [1, 4, 10]), ?_⟩
              refine ite2 (fun hl3 => ?_) (fun hl3 => ?_)
              · have hl3 := of_decide_eq_true hl3
                exact ⟨_, rfl, l, CL, dl, _, _, rfl, hl, L.cl, L.wheel, lF_wheel _, _, rfl, _, rfl, a, at', b, st, word, parts, c, rfl, hW, hb, hl3, hc, mv⟩
              · have hl3 : word ∉ [1, 4, 10] := fun z => hl3 (decide_eq_true z)
                obtain ⟨m, rfl, hm⟩ : ∃ m, parts = [m] ∧ word ∈ [6, 7, 8, 9, 11] := by
                  simp at hl3
                  unfold callAs at hc
                  split at hc <;> first | omega | exact ⟨_, rfl, by decide⟩ | cases hc
                exact ⟨_, rfl, l, CL, dl, _, _, rfl, hl, L.cl, L.wheel, lF_wheel _, _, rfl, _, rfl, b, nI [m], 0, iv m, rfl, rfl, sl_of hb, atI_nat (j := 0) rfl, a, at', st, word, m, c, rfl, hW, hm, hc, mv⟩
end
end Wd

set_option Elab.async false
set_option linter.all false
set_option maxRecDepth 100000
set_option maxHeartbeats 4000000
/-! answers -/
namespace Wd
open PySem PySem.Spec PyProof.Rows L2
open Mu24 (Pick right most State allTickets allDraws nums)
def due (cs : List Mu24.Call) : List Int := PyFlat.told (outs none cs)
def spAnswers (K : PySem.W.Frag) : Sp := fun vs H Q _ => ∃ (a : Addr) (ns : List Nat) (cs : List Mu24.Call), vs = [.ref a] ∧ SqL K H a (nI ns) ∧ ns.length ≤ 1000 ∧ Dec ns cs ∧ (due cs).length ≤ 10000000 ∧
  ∀ (H' : Hp) (p : Addr), H' p = some (.lst (aI (due cs))) → Q (.ref p) H'
theorem aI_append (l l' : List Int) : aI (l ++ l') = aI l ++ aI l' := List.map_append
theorem aI_len (l : List Int) : (aI l).length = l.length := List.length_map ..
section
variable {P : Program} {w : World} {K : PySem.W.Frag} {mg : Str → Option Value} {base : Heap} {C CL : Addr}
theorem scAnswers : FnScope ["calls", "line", "found", "at", "word", "parts", "told"] ["calls"] (defScope sAnswers) := ⟨rfl, rfl, rfl, by decide +kernel, rfl, by decide +kernel, by decide +kernel⟩
theorem ok_answers {f : Addr} {fd : FuncData} (F0 : Fun K "answers" "answers" sAnswers f fd) (c1 : C8.Mak P w K mg base 1 "Line" CL (spLInit CL C) []) (c2 : C8.Cal P w K mg base 1 "parts_at" (spParts K) []) (c3 : C8.Met P w K mg base 9 CL "answer" (spAnswer CL C) []) (mL : mg "len" = none) : FnOk P w K mg base CX0 10 f fd ["calls"] (spAnswers K) := by
  refine F0.ok scAnswers (fun vs H Q E h => ?_) (fun cdv A outer s H vs Q E hr h => ?_)
  · obtain ⟨a, ns, cs, rfl, _⟩ := h
    rfl
  · obtain ⟨a, ns, cs, rfl, ha, hn, hd, hbig, q⟩ := h
    obtain ⟨fI, fdI, psI, dsI, M, F, hm, b, d⟩ := c1.ex
    refine ⟨_, pss_cons (ps_set (i := 1) scAnswers.nd rfl (.inl rfl) (pe_make0 M F (hr.mono (by decide)) rfl hm b d pass0))
      (pss_cons (ps_set (i := 2) scAnswers.nd rfl (.inl rfl) (pe_lst pa_nil))
      (pss_cons (ps_set (i := 3) scAnswers.nd rfl (.inl rfl) pe_int)
      (pss_cons (ps_while PassesOwn.never (pt_cmpR op_lt (pv 3) (pe_callB call_len_seq rfl mL PySem.boot_len (pa_cons (pv 0) pa_nil)) (nomark _))
        (pss_cons (ps_set (i := 4) scAnswers.nd rfl (.inl rfl) (pe_ix ix_list (pv 0) (pv 3) (fun _ _ => rfl)))
        (pss_cons (ps_asg (C8.pe_c c2 hr (by decide) rfl (pa_cons (pv 0) (pa_cons (pe_op op_add (pv 3) pe_int) (pa_cons (pv 4) pa_nil)))) (pg_tup rfl (pgs_cons (pg_name (i := 5) scAnswers.nd rfl (.inl rfl)) (pgs_cons (pg_name (i := 3) scAnswers.nd rfl (.inl rfl)) pgs_nil))))
        (pss_cons (ps_set (i := 6) scAnswers.nd rfl (.inl rfl) (C8.pe_mt c3 hr (by decide) (pv 1) (pa_cons (pv 4) (pa_cons (pv 5) pa_nil))))
        (pss_cons (ps_expr (pe_bm PySem.F.plainAttrs_list PySem.F.slot_list_append PySem.F.type_list_append mt_append (pv 2) (pa_cons (pe_callB call_len_seq rfl mL PySem.boot_len (pa_cons (pv 6) pa_nil)) pa_nil)))
        (pss_one (ps_expr (pe_bm PySem.F.plainAttrs_list PySem.F.slot_list_extend PySem.F.type_list_extend mt_extend (pv 2) (pa_cons (pv 6) pa_nil)))))))))
      (pss_one (ps_ret (pv 2)))))), ?_⟩
    refine fun l dl nl ndl ne => ⟨l, dl, rfl, upd_same, fun H1 hL sb => ⟨rfl, ?_⟩⟩
    have s1 : Same H H1 := Same.made nl ndl sb
    have hl1 := hL
    obtain ⟨⟨dx1, hl1⟩, _⟩ := hl1
    refine ⟨by show 0 ≤ sizeLine; decide, fun pf hpf => ?_⟩
    have s2 : Same H1 (upd H1 pf (.lst [])) := same_new hpf
    have s12 : Same H (upd H1 pf (.lst [])) := Same.trans s1 s2
    have npl : pf ≠ l := fun z => by
      rw [z, hl1] at hpf
      cases hpf
    refine ⟨fun m σ H' => ∃ (i : Nat) (x : Held) (cs' : List Mu24.Call) (done : List Int) (x4 x5 x6 : Option V), m = cs'.length ∧ Same H H' ∧ LineAt CL C H' l x ∧ (∀ b ∈ owns x, H b = none) ∧ (pf ∉ owns x ∧ ∀ a at' s, x = some (a, at', s) → Apart H' a pf) ∧ H' pf = some (.lst (aI done)) ∧
      i ≤ ns.length ∧ Dec (ns.drop i) cs' ∧ done ++ PyFlat.told (outs (stOf x) cs') = due cs ∧ σ = [some (.ref a), some (.ref l), some (.ref pf), some (iv i), x4, x5, x6],
      ⟨cs.length, 0, none, cs, [], none, none, none, rfl, s12, hL.same s2, (fun b hb => by cases hb), ⟨(fun hb => by cases hb), fun a at' s y => by cases y⟩, upd_same, Nat.zero_le _, hd, rfl, rfl⟩, ?_⟩
    rintro m σ H' ⟨i, x, cs', done, x4, x5, x6, rfl, sm, hLx, hown, ⟨hpo, hap⟩, hfound, hi, hdec, htot, rfl⟩
    refine ⟨_, rfl, _, rfl, a, nI ns, rfl, .inl (sm.seq ha), _, _, rfl, rfl, _, rfl, ?_⟩
    refine ite2 (fun h => ?_) (fun h => ?_)
    · have hlt : i < ns.length := by
        have := of_decide_eq_true h
        rw [nI_len] at this
        omega
      have hix : ns[i]? = some ns[i] := List.getElem?_eq_getElem hlt
      have hdr := drop_more hix
      generalize hdd : ns.drop i = rest at hdec hdr
      cases hdec with
      | nil => cases hdr
      | cons hp hc hrest =>
        rename_i word k l' parts c cs2
        have hword : word = ns[i] := (List.cons.inj hdr).1
        have hl' : l' = ns.drop (i + 1) := (List.cons.inj hdr).2
        subst hl'
        have hix' : ns[i]? = some word := by rw [hword]; exact hix
        have hout : PyFlat.told (outs (stOf x) (c :: cs2)) = ((Mu24.step (stOf x) c).2.length : Int) :: ((Mu24.step (stOf x) c).2 ++ PyFlat.told (outs (Mu24.step (stOf x) c).1 cs2)) := rfl
        have htotl := congrArg List.length htot
        rw [hout, List.length_append, List.length_cons, List.length_append] at htotl
        have hk : i + 1 + k ≤ ns.length := by
          have hle : k ≤ (ns.drop (i + 1)).length := by
            generalize ns.drop (i + 1) = D at hp
            cases hp with
            | rows _ => rw [List.length_cons, List.length_append]; omega
            | begin_ => simp
            | alone _ => exact Nat.zero_le _
            | one _ => simp
          rw [List.length_drop] at hle
          omega
        refine ⟨fun σ' H'' => ∃ (x' : Held) (x4 x5 x6 : Option V), Same H H'' ∧ LineAt CL C H'' l x' ∧ (∀ b ∈ owns x', H b = none) ∧ (pf ∉ owns x' ∧ ∀ a at' s, x' = some (a, at', s) → Apart H'' a pf) ∧ H'' pf = some (.lst (aI (done ++ (((Mu24.step (stOf x) c).2.length : Int) :: (Mu24.step (stOf x) c).2)))) ∧ stOf x' = (Mu24.step (stOf x) c).1 ∧
          σ' = [some (.ref a), some (.ref l), some (.ref pf), some (iv (i + 1 + k)), x4, x5, x6], fun σ' H'' z => ?_, ?_⟩
        · obtain ⟨x', y4, y5, y6, z1, z2, z3, z4, z5, z6, rfl⟩ := z
          refine ⟨cs2.length, Nat.lt_succ_self _, i + 1 + k, x', cs2, _, y4, y5, y6, rfl, z1, z2, z3, z4, z5, hk, ?_, ?_, rfl⟩
          · rw [List.drop_drop] at hrest
            exact hrest
          · rw [z6, ← htot, hout, List.append_assoc, List.cons_append]
        · -- word = calls[at]
          refine ⟨_, rfl, _, rfl, a, nI ns, (i : Int), iv word, rfl, rfl, sm.seq ha, atI_nat (nI_at hix'), ?_⟩
          -- parts, at = parts_at(calls, at + 1, word)
          refine ⟨_, rfl, _, rfl, _, _, rfl, rfl, _, rfl, a, ns, i + 1, word, parts, k, rfl, sm.seq ha, hn, by omega, hp, fun H2 pp T s3 npp hpp hT => ?_⟩
          refine ⟨T, _, rfl, st_of hT, rfl, _, _, rfl, _, _, rfl, rfl, ?_⟩
          -- told = line.answer(word, parts)
          have hL2 := hLx.same s3
          have hL3 := hL2
          obtain ⟨⟨dl2, hl2⟩, wh2⟩ := hL3
          refine ⟨_, rfl, l, dl2, _, rfl, hl2, lF_not _ (by decide +kernel), _, rfl, _, rfl, l, pp, x, word, parts, c, rfl, hL2, hpp, hc, fun H3 pt x' hL4 hst how fr apr npt hpt => ?_⟩
          have hpf2 := s3 _ _ hfound
          have hpf3 : H3 pf = some (.lst (aI done)) := fr pf _ hpf2 npl hpo
          have s4 : Same H H3 := fun b o e => by
            refine fr b o (s3 _ _ (sm _ _ e)) (fun z => ?_) (fun z => ?_)
            · rw [z, nl] at e
              cases e
            · rw [hown b z] at e
              cases e
          have npo' : pf ∉ owns x' := fun z => by
            rcases how pf z with z | z
            · exact hpo z
            · rw [hpf2] at z
              cases z
          have hown' : ∀ b ∈ owns x', H b = none := fun b hb => by
            rcases how b hb with z | z
            · exact hown b z
            · exact Same.free (Same.trans sm s3) z
          have npf : H pf = none := Same.free s1 hpf
          have nept : pt ≠ pf := fun z => by
            rw [z, hpf2] at npt
            cases npt
          -- found.append(len(told))
          refine ⟨_, rfl, .inl ⟨rfl, _, sl_of hpf3⟩, _, rfl, pt, _, rfl, .inl (sl_of hpt), pf, _, _, rfl, rfl, hpf3, ?_, ?_⟩
          · rw [aI_len]
            show done.length < 2 ^ 24
            omega
          have hpt5 : upd H3 pf (.lst (aI done ++ [.int ((aI (Mu24.step (stOf x) c).2).length : Int)])) pt = some (.lst (aI (Mu24.step (stOf x) c).2)) := by
            rw [upd_ne nept]
            exact hpt
          -- found.extend(told)
          refine ⟨_, rfl, .inl ⟨rfl, _, sl_of upd_same⟩, _, rfl, pf, pt, _, _, rfl, rfl, upd_same, hpt5, ?_, ?_⟩
          · rw [List.length_append, aI_len, aI_len, List.length_singleton]
            show done.length + 1 + _ ≤ 2 ^ 24
            omega
          rw [upd_upd]
          have hl4 := hL4
          obtain ⟨⟨dl4, hl4⟩, wh4⟩ := hl4
          have ap4 : ∀ a2 at2 st2, x' = some (a2, at2, st2) → Apart H3 a2 pf := apr pf (by rw [hpf2]; intro q; cases q) fun a2 at2 st2 y => (hLx.wh a2 at2 st2 y).1.apart s3 (hap a2 at2 st2 y)
          have wh5 : ∀ (o : HO) a2 at2 st2, x' = some (a2, at2, st2) → (WheelAt C (upd H3 pf o) a2 at2 st2 ∧ Apart (upd H3 pf o) a2 pf) ∧ a2 ≠ l := fun o a2 at2 st2 y => by
            obtain ⟨hW, ne2⟩ := wh4 a2 at2 st2 y
            refine ⟨hW.off (fun z => npo' ?_) (ap4 a2 at2 st2 y), ne2⟩
            rw [y, ← z]
            exact List.mem_cons_self ..
          refine ⟨x', some (iv word), some (.ref pp), some (.ref pt), snew s4 npf, ⟨⟨dl4, by rw [upd_ne npl.symm]; exact hl4⟩, fun a2 at2 st2 y => ⟨(wh5 _ a2 at2 st2 y).1.1, (wh5 (.lst []) a2 at2 st2 y).2⟩⟩, hown', ⟨npo', fun a2 at2 st2 y => (wh5 _ a2 at2 st2 y).1.2⟩, ?_, hst, rfl⟩
          · rw [upd_same, aI_append, aI_len]
            show some (HO.lst ((aI done ++ [V.int ((Mu24.step (stOf x) c).2.length : Int)]) ++ aI (Mu24.step (stOf x) c).2)) = some (HO.lst (aI done ++ (V.int ((Mu24.step (stOf x) c).2.length : Int) :: aI (Mu24.step (stOf x) c).2)))
            rw [List.append_assoc]
            rfl
    · have hge : ¬ i < ns.length := fun z => h (decide_eq_true (by rw [nI_len]; omega))
      have e : ns.drop i = [] := List.drop_eq_nil_of_le (by omega)
      rw [e] at hdec
      cases hdec with
      | nil =>
        have e2 : done = due cs := by
          rw [← htot]
          show done = done ++ []
          rw [List.append_nil]
        refine ⟨_, rfl, q H' pf ?_⟩
        rw [hfound, e2]
end
end Wd

set_option Elab.async false
set_option linter.all false
set_option maxRecDepth 100000
set_option maxHeartbeats 8000000
/-! the end: what the top has written, put together; the row -/
namespace Wd
open PySem PySem.Spec PyProof.Rows L2
theorem all_mk {P : Program} {w : World} {K : PySem.W.Frag} {h : Heap} {mg : Str → Option Value} {fa : Addr} (X : K.In h) (G : h.Ns mainGlobals mg) (hfa : mg "answers" = some (.ref fa))
    {f_right_of f_rights_of f_best_of f_bests_of f_open_draws f_covered_by f_left_by f_covers_all f_one_for f_two_for f_three_for f_fewest_for f_common_divisor f_lowest f_rounded_up f_first_behind f_rows_of f_is_row f_laid_out f_matches f_worst f_covers f_best_more f_fewest f_is_paying f_paid_for f_pays f_least_by_count f_how_often f_counts_without f_give_back f_buy f_drop f_needed f_is_size f_is_wheel f_parts_at f_is_wrong_m f_by_list f_by_m f_answers C CL f_C_is_full f_C_bought f_C_given_back f_CL_begin f_CL_answer f_C_init f_CL_init u_LISTS u_ALONE : Addr} {od_right_of an_right_of od_rights_of an_rights_of od_best_of an_best_of od_bests_of an_bests_of od_open_draws an_open_draws od_covered_by an_covered_by od_left_by an_left_by od_covers_all an_covers_all od_one_for an_one_for od_two_for an_two_for od_three_for an_three_for od_fewest_for an_fewest_for od_common_divisor an_common_divisor od_lowest an_lowest od_rounded_up an_rounded_up od_first_behind an_first_behind od_rows_of an_rows_of od_is_row an_is_row od_laid_out an_laid_out od_matches an_matches od_worst an_worst od_covers an_covers od_best_more an_best_more od_fewest an_fewest od_is_paying an_is_paying od_paid_for an_paid_for od_pays an_pays od_least_by_count an_least_by_count od_how_often an_how_often od_counts_without an_counts_without od_give_back an_give_back od_buy an_buy od_drop an_drop od_needed an_needed od_is_size an_is_size od_is_wheel an_is_wheel od_parts_at an_parts_at od_is_wrong_m an_is_wrong_m od_by_list an_by_list od_by_m an_by_m od_answers an_answers od_C_is_full an_C_is_full od_C_bought an_C_bought od_C_given_back an_C_given_back od_CL_begin an_CL_begin od_CL_answer an_CL_answer od_C_init an_C_init od_CL_init an_CL_init od_LISTS od_ALONE : Option Addr} {sl_right_of sl_rights_of sl_best_of sl_bests_of sl_open_draws sl_covered_by sl_left_by sl_covers_all sl_one_for sl_two_for sl_three_for sl_fewest_for sl_common_divisor sl_lowest sl_rounded_up sl_first_behind sl_rows_of sl_is_row sl_laid_out sl_matches sl_worst sl_covers sl_best_more sl_fewest sl_is_paying sl_paid_for sl_pays sl_least_by_count sl_how_often sl_counts_without sl_give_back sl_buy sl_drop sl_needed sl_is_size sl_is_wheel sl_parts_at sl_is_wrong_m sl_by_list sl_by_m sl_answers sl_C_is_full sl_C_bought sl_C_given_back sl_CL_begin sl_CL_answer sl_C_init sl_CL_init sl_LISTS sl_ALONE : Array (Option Value)}
    {oc_right_of kV_right_of dc_right_of pm_right_of cd_right_of ct_right_of oc_rights_of kV_rights_of dc_rights_of pm_rights_of cd_rights_of ct_rights_of oc_best_of kV_best_of dc_best_of pm_best_of cd_best_of ct_best_of oc_bests_of kV_bests_of dc_bests_of pm_bests_of cd_bests_of ct_bests_of oc_open_draws kV_open_draws dc_open_draws pm_open_draws cd_open_draws ct_open_draws oc_covered_by kV_covered_by dc_covered_by pm_covered_by cd_covered_by ct_covered_by oc_left_by kV_left_by dc_left_by pm_left_by cd_left_by ct_left_by oc_covers_all kV_covers_all dc_covers_all pm_covers_all cd_covers_all ct_covers_all oc_one_for kV_one_for dc_one_for pm_one_for cd_one_for ct_one_for oc_two_for kV_two_for dc_two_for pm_two_for cd_two_for ct_two_for oc_three_for kV_three_for dc_three_for pm_three_for cd_three_for ct_three_for oc_fewest_for kV_fewest_for dc_fewest_for pm_fewest_for cd_fewest_for ct_fewest_for oc_common_divisor kV_common_divisor dc_common_divisor pm_common_divisor cd_common_divisor ct_common_divisor oc_lowest kV_lowest dc_lowest pm_lowest cd_lowest ct_lowest oc_rounded_up kV_rounded_up dc_rounded_up pm_rounded_up cd_rounded_up ct_rounded_up oc_first_behind kV_first_behind dc_first_behind pm_first_behind cd_first_behind ct_first_behind oc_rows_of kV_rows_of dc_rows_of pm_rows_of cd_rows_of ct_rows_of oc_is_row kV_is_row dc_is_row pm_is_row cd_is_row ct_is_row oc_laid_out kV_laid_out dc_laid_out pm_laid_out cd_laid_out ct_laid_out oc_matches kV_matches dc_matches pm_matches cd_matches ct_matches oc_worst kV_worst dc_worst pm_worst cd_worst ct_worst oc_covers kV_covers dc_covers pm_covers cd_covers ct_covers oc_best_more kV_best_more dc_best_more pm_best_more cd_best_more ct_best_more oc_fewest kV_fewest dc_fewest pm_fewest cd_fewest ct_fewest oc_is_paying kV_is_paying dc_is_paying pm_is_paying cd_is_paying ct_is_paying oc_paid_for kV_paid_for dc_paid_for pm_paid_for cd_paid_for ct_paid_for oc_pays kV_pays dc_pays pm_pays cd_pays ct_pays oc_least_by_count kV_least_by_count dc_least_by_count pm_least_by_count cd_least_by_count ct_least_by_count oc_how_often kV_how_often dc_how_often pm_how_often cd_how_often ct_how_often oc_counts_without kV_counts_without dc_counts_without pm_counts_without cd_counts_without ct_counts_without oc_give_back kV_give_back dc_give_back pm_give_back cd_give_back ct_give_back oc_buy kV_buy dc_buy pm_buy cd_buy ct_buy oc_drop kV_drop dc_drop pm_drop cd_drop ct_drop oc_needed kV_needed dc_needed pm_needed cd_needed ct_needed oc_is_size kV_is_size dc_is_size pm_is_size cd_is_size ct_is_size oc_is_wheel kV_is_wheel dc_is_wheel pm_is_wheel cd_is_wheel ct_is_wheel oc_parts_at kV_parts_at dc_parts_at pm_parts_at cd_parts_at ct_parts_at oc_is_wrong_m kV_is_wrong_m dc_is_wrong_m pm_is_wrong_m cd_is_wrong_m ct_is_wrong_m oc_by_list kV_by_list dc_by_list pm_by_list cd_by_list ct_by_list oc_by_m kV_by_m dc_by_m pm_by_m cd_by_m ct_by_m oc_answers kV_answers dc_answers pm_answers cd_answers ct_answers oc_C_is_full kV_C_is_full dc_C_is_full pm_C_is_full cd_C_is_full ct_C_is_full oc_C_bought kV_C_bought dc_C_bought pm_C_bought cd_C_bought ct_C_bought oc_C_given_back kV_C_given_back dc_C_given_back pm_C_given_back cd_C_given_back ct_C_given_back oc_CL_begin kV_CL_begin dc_CL_begin pm_CL_begin cd_CL_begin ct_CL_begin oc_CL_answer kV_CL_answer dc_CL_answer pm_CL_answer cd_CL_answer ct_CL_answer oc_C_init kV_C_init dc_C_init pm_C_init cd_C_init ct_C_init oc_CL_init kV_CL_init dc_CL_init pm_CL_init cd_CL_init ct_CL_init : Value} {t_MOST_KINDS t_MOST_PRIZE t_MOST_TICKETS t_BEGIN t_BUY t_DROP t_LOOK t_MATCHES t_WORST t_COVERS t_NEXT t_FEWEST t_NEEDED t_LISTS0 t_LISTS1 t_LISTS2 t_ALONE0 t_ALONE1 : Tok} {e_LISTS e_ALONE : Nat}
    (a_right_of : PySem.W.nsIn K mainGlobals "right_of" = some (some (.ref f_right_of)))
    (l_right_of : K.lookup f_right_of = some ⟨oc_right_of, od_right_of, .func (PySem.W.fnOf "right_of" "right_of" (defArgs sRight) (defBody sRight) (defScope sRight) .none kV_right_of dc_right_of pm_right_of an_right_of cd_right_of ct_right_of), sl_right_of⟩)
    (q_right_of : PySem.W.codeIn K cd_right_of "right_of" = true)
    (k_right_of : PySem.W.keepIn K (.ref f_right_of) = true)
    (a_rights_of : PySem.W.nsIn K mainGlobals "rights_of" = some (some (.ref f_rights_of)))
    (l_rights_of : K.lookup f_rights_of = some ⟨oc_rights_of, od_rights_of, .func (PySem.W.fnOf "rights_of" "rights_of" (defArgs sRights) (defBody sRights) (defScope sRights) .none kV_rights_of dc_rights_of pm_rights_of an_rights_of cd_rights_of ct_rights_of), sl_rights_of⟩)
    (q_rights_of : PySem.W.codeIn K cd_rights_of "rights_of" = true)
    (k_rights_of : PySem.W.keepIn K (.ref f_rights_of) = true)
    (a_best_of : PySem.W.nsIn K mainGlobals "best_of" = some (some (.ref f_best_of)))
    (l_best_of : K.lookup f_best_of = some ⟨oc_best_of, od_best_of, .func (PySem.W.fnOf "best_of" "best_of" (defArgs sBest) (defBody sBest) (defScope sBest) .none kV_best_of dc_best_of pm_best_of an_best_of cd_best_of ct_best_of), sl_best_of⟩)
    (q_best_of : PySem.W.codeIn K cd_best_of "best_of" = true)
    (k_best_of : PySem.W.keepIn K (.ref f_best_of) = true)
    (a_bests_of : PySem.W.nsIn K mainGlobals "bests_of" = some (some (.ref f_bests_of)))
    (l_bests_of : K.lookup f_bests_of = some ⟨oc_bests_of, od_bests_of, .func (PySem.W.fnOf "bests_of" "bests_of" (defArgs sBests) (defBody sBests) (defScope sBests) .none kV_bests_of dc_bests_of pm_bests_of an_bests_of cd_bests_of ct_bests_of), sl_bests_of⟩)
    (q_bests_of : PySem.W.codeIn K cd_bests_of "bests_of" = true)
    (k_bests_of : PySem.W.keepIn K (.ref f_bests_of) = true)
    (a_open_draws : PySem.W.nsIn K mainGlobals "open_draws" = some (some (.ref f_open_draws)))
    (l_open_draws : K.lookup f_open_draws = some ⟨oc_open_draws, od_open_draws, .func (PySem.W.fnOf "open_draws" "open_draws" (defArgs sOpen) (defBody sOpen) (defScope sOpen) .none kV_open_draws dc_open_draws pm_open_draws an_open_draws cd_open_draws ct_open_draws), sl_open_draws⟩)
    (q_open_draws : PySem.W.codeIn K cd_open_draws "open_draws" = true)
    (k_open_draws : PySem.W.keepIn K (.ref f_open_draws) = true)
    (a_covered_by : PySem.W.nsIn K mainGlobals "covered_by" = some (some (.ref f_covered_by)))
    (l_covered_by : K.lookup f_covered_by = some ⟨oc_covered_by, od_covered_by, .func (PySem.W.fnOf "covered_by" "covered_by" (defArgs sCovBy) (defBody sCovBy) (defScope sCovBy) .none kV_covered_by dc_covered_by pm_covered_by an_covered_by cd_covered_by ct_covered_by), sl_covered_by⟩)
    (q_covered_by : PySem.W.codeIn K cd_covered_by "covered_by" = true)
    (k_covered_by : PySem.W.keepIn K (.ref f_covered_by) = true)
    (a_left_by : PySem.W.nsIn K mainGlobals "left_by" = some (some (.ref f_left_by)))
    (l_left_by : K.lookup f_left_by = some ⟨oc_left_by, od_left_by, .func (PySem.W.fnOf "left_by" "left_by" (defArgs sLeft) (defBody sLeft) (defScope sLeft) .none kV_left_by dc_left_by pm_left_by an_left_by cd_left_by ct_left_by), sl_left_by⟩)
    (q_left_by : PySem.W.codeIn K cd_left_by "left_by" = true)
    (k_left_by : PySem.W.keepIn K (.ref f_left_by) = true)
    (a_covers_all : PySem.W.nsIn K mainGlobals "covers_all" = some (some (.ref f_covers_all)))
    (l_covers_all : K.lookup f_covers_all = some ⟨oc_covers_all, od_covers_all, .func (PySem.W.fnOf "covers_all" "covers_all" (defArgs sCovAll) (defBody sCovAll) (defScope sCovAll) .none kV_covers_all dc_covers_all pm_covers_all an_covers_all cd_covers_all ct_covers_all), sl_covers_all⟩)
    (q_covers_all : PySem.W.codeIn K cd_covers_all "covers_all" = true)
    (k_covers_all : PySem.W.keepIn K (.ref f_covers_all) = true)
    (a_one_for : PySem.W.nsIn K mainGlobals "one_for" = some (some (.ref f_one_for)))
    (l_one_for : K.lookup f_one_for = some ⟨oc_one_for, od_one_for, .func (PySem.W.fnOf "one_for" "one_for" (defArgs sOne) (defBody sOne) (defScope sOne) .none kV_one_for dc_one_for pm_one_for an_one_for cd_one_for ct_one_for), sl_one_for⟩)
    (q_one_for : PySem.W.codeIn K cd_one_for "one_for" = true)
    (k_one_for : PySem.W.keepIn K (.ref f_one_for) = true)
    (a_two_for : PySem.W.nsIn K mainGlobals "two_for" = some (some (.ref f_two_for)))
    (l_two_for : K.lookup f_two_for = some ⟨oc_two_for, od_two_for, .func (PySem.W.fnOf "two_for" "two_for" (defArgs sTwo) (defBody sTwo) (defScope sTwo) .none kV_two_for dc_two_for pm_two_for an_two_for cd_two_for ct_two_for), sl_two_for⟩)
    (q_two_for : PySem.W.codeIn K cd_two_for "two_for" = true)
    (k_two_for : PySem.W.keepIn K (.ref f_two_for) = true)
    (a_three_for : PySem.W.nsIn K mainGlobals "three_for" = some (some (.ref f_three_for)))
    (l_three_for : K.lookup f_three_for = some ⟨oc_three_for, od_three_for, .func (PySem.W.fnOf "three_for" "three_for" (defArgs sThree) (defBody sThree) (defScope sThree) .none kV_three_for dc_three_for pm_three_for an_three_for cd_three_for ct_three_for), sl_three_for⟩)
    (q_three_for : PySem.W.codeIn K cd_three_for "three_for" = true)
    (k_three_for : PySem.W.keepIn K (.ref f_three_for) = true)
    (a_fewest_for : PySem.W.nsIn K mainGlobals "fewest_for" = some (some (.ref f_fewest_for)))
    (l_fewest_for : K.lookup f_fewest_for = some ⟨oc_fewest_for, od_fewest_for, .func (PySem.W.fnOf "fewest_for" "fewest_for" (defArgs sFewFor) (defBody sFewFor) (defScope sFewFor) .none kV_fewest_for dc_fewest_for pm_fewest_for an_fewest_for cd_fewest_for ct_fewest_for), sl_fewest_for⟩)
    (q_fewest_for : PySem.W.codeIn K cd_fewest_for "fewest_for" = true)
    (k_fewest_for : PySem.W.keepIn K (.ref f_fewest_for) = true)
    (a_common_divisor : PySem.W.nsIn K mainGlobals "common_divisor" = some (some (.ref f_common_divisor)))
    (l_common_divisor : K.lookup f_common_divisor = some ⟨oc_common_divisor, od_common_divisor, .func (PySem.W.fnOf "common_divisor" "common_divisor" (defArgs sGcd) (defBody sGcd) (defScope sGcd) .none kV_common_divisor dc_common_divisor pm_common_divisor an_common_divisor cd_common_divisor ct_common_divisor), sl_common_divisor⟩)
    (q_common_divisor : PySem.W.codeIn K cd_common_divisor "common_divisor" = true)
    (k_common_divisor : PySem.W.keepIn K (.ref f_common_divisor) = true)
    (a_lowest : PySem.W.nsIn K mainGlobals "lowest" = some (some (.ref f_lowest)))
    (l_lowest : K.lookup f_lowest = some ⟨oc_lowest, od_lowest, .func (PySem.W.fnOf "lowest" "lowest" (defArgs sLow) (defBody sLow) (defScope sLow) .none kV_lowest dc_lowest pm_lowest an_lowest cd_lowest ct_lowest), sl_lowest⟩)
    (q_lowest : PySem.W.codeIn K cd_lowest "lowest" = true)
    (k_lowest : PySem.W.keepIn K (.ref f_lowest) = true)
    (a_rounded_up : PySem.W.nsIn K mainGlobals "rounded_up" = some (some (.ref f_rounded_up)))
    (l_rounded_up : K.lookup f_rounded_up = some ⟨oc_rounded_up, od_rounded_up, .func (PySem.W.fnOf "rounded_up" "rounded_up" (defArgs sUp) (defBody sUp) (defScope sUp) .none kV_rounded_up dc_rounded_up pm_rounded_up an_rounded_up cd_rounded_up ct_rounded_up), sl_rounded_up⟩)
    (q_rounded_up : PySem.W.codeIn K cd_rounded_up "rounded_up" = true)
    (k_rounded_up : PySem.W.keepIn K (.ref f_rounded_up) = true)
    (a_first_behind : PySem.W.nsIn K mainGlobals "first_behind" = some (some (.ref f_first_behind)))
    (l_first_behind : K.lookup f_first_behind = some ⟨oc_first_behind, od_first_behind, .func (PySem.W.fnOf "first_behind" "first_behind" (defArgs sFirst) (defBody sFirst) (defScope sFirst) .none kV_first_behind dc_first_behind pm_first_behind an_first_behind cd_first_behind ct_first_behind), sl_first_behind⟩)
    (q_first_behind : PySem.W.codeIn K cd_first_behind "first_behind" = true)
    (k_first_behind : PySem.W.keepIn K (.ref f_first_behind) = true)
    (a_rows_of : PySem.W.nsIn K mainGlobals "rows_of" = some (some (.ref f_rows_of)))
    (l_rows_of : K.lookup f_rows_of = some ⟨oc_rows_of, od_rows_of, .func (PySem.W.fnOf "rows_of" "rows_of" (defArgs sRowsOf) (defBody sRowsOf) (defScope sRowsOf) .none kV_rows_of dc_rows_of pm_rows_of an_rows_of cd_rows_of ct_rows_of), sl_rows_of⟩)
    (q_rows_of : PySem.W.codeIn K cd_rows_of "rows_of" = true)
    (k_rows_of : PySem.W.keepIn K (.ref f_rows_of) = true)
    (a_is_row : PySem.W.nsIn K mainGlobals "is_row" = some (some (.ref f_is_row)))
    (l_is_row : K.lookup f_is_row = some ⟨oc_is_row, od_is_row, .func (PySem.W.fnOf "is_row" "is_row" (defArgs sIsRow) (defBody sIsRow) (defScope sIsRow) .none kV_is_row dc_is_row pm_is_row an_is_row cd_is_row ct_is_row), sl_is_row⟩)
    (q_is_row : PySem.W.codeIn K cd_is_row "is_row" = true)
    (k_is_row : PySem.W.keepIn K (.ref f_is_row) = true)
    (a_laid_out : PySem.W.nsIn K mainGlobals "laid_out" = some (some (.ref f_laid_out)))
    (l_laid_out : K.lookup f_laid_out = some ⟨oc_laid_out, od_laid_out, .func (PySem.W.fnOf "laid_out" "laid_out" (defArgs sLaid) (defBody sLaid) (defScope sLaid) .none kV_laid_out dc_laid_out pm_laid_out an_laid_out cd_laid_out ct_laid_out), sl_laid_out⟩)
    (q_laid_out : PySem.W.codeIn K cd_laid_out "laid_out" = true)
    (k_laid_out : PySem.W.keepIn K (.ref f_laid_out) = true)
    (a_matches : PySem.W.nsIn K mainGlobals "matches" = some (some (.ref f_matches)))
    (l_matches : K.lookup f_matches = some ⟨oc_matches, od_matches, .func (PySem.W.fnOf "matches" "matches" (defArgs sMatches) (defBody sMatches) (defScope sMatches) .none kV_matches dc_matches pm_matches an_matches cd_matches ct_matches), sl_matches⟩)
    (q_matches : PySem.W.codeIn K cd_matches "matches" = true)
    (k_matches : PySem.W.keepIn K (.ref f_matches) = true)
    (a_worst : PySem.W.nsIn K mainGlobals "worst" = some (some (.ref f_worst)))
    (l_worst : K.lookup f_worst = some ⟨oc_worst, od_worst, .func (PySem.W.fnOf "worst" "worst" (defArgs sWorst) (defBody sWorst) (defScope sWorst) .none kV_worst dc_worst pm_worst an_worst cd_worst ct_worst), sl_worst⟩)
    (q_worst : PySem.W.codeIn K cd_worst "worst" = true)
    (k_worst : PySem.W.keepIn K (.ref f_worst) = true)
    (a_covers : PySem.W.nsIn K mainGlobals "covers" = some (some (.ref f_covers)))
    (l_covers : K.lookup f_covers = some ⟨oc_covers, od_covers, .func (PySem.W.fnOf "covers" "covers" (defArgs sCovers) (defBody sCovers) (defScope sCovers) .none kV_covers dc_covers pm_covers an_covers cd_covers ct_covers), sl_covers⟩)
    (q_covers : PySem.W.codeIn K cd_covers "covers" = true)
    (k_covers : PySem.W.keepIn K (.ref f_covers) = true)
    (a_best_more : PySem.W.nsIn K mainGlobals "best_more" = some (some (.ref f_best_more)))
    (l_best_more : K.lookup f_best_more = some ⟨oc_best_more, od_best_more, .func (PySem.W.fnOf "best_more" "best_more" (defArgs sMore) (defBody sMore) (defScope sMore) .none kV_best_more dc_best_more pm_best_more an_best_more cd_best_more ct_best_more), sl_best_more⟩)
    (q_best_more : PySem.W.codeIn K cd_best_more "best_more" = true)
    (k_best_more : PySem.W.keepIn K (.ref f_best_more) = true)
    (a_fewest : PySem.W.nsIn K mainGlobals "fewest" = some (some (.ref f_fewest)))
    (l_fewest : K.lookup f_fewest = some ⟨oc_fewest, od_fewest, .func (PySem.W.fnOf "fewest" "fewest" (defArgs sFewest) (defBody sFewest) (defScope sFewest) .none kV_fewest dc_fewest pm_fewest an_fewest cd_fewest ct_fewest), sl_fewest⟩)
    (q_fewest : PySem.W.codeIn K cd_fewest "fewest" = true)
    (k_fewest : PySem.W.keepIn K (.ref f_fewest) = true)
    (a_is_paying : PySem.W.nsIn K mainGlobals "is_paying" = some (some (.ref f_is_paying)))
    (l_is_paying : K.lookup f_is_paying = some ⟨oc_is_paying, od_is_paying, .func (PySem.W.fnOf "is_paying" "is_paying" (defArgs sPaying) (defBody sPaying) (defScope sPaying) .none kV_is_paying dc_is_paying pm_is_paying an_is_paying cd_is_paying ct_is_paying), sl_is_paying⟩)
    (q_is_paying : PySem.W.codeIn K cd_is_paying "is_paying" = true)
    (k_is_paying : PySem.W.keepIn K (.ref f_is_paying) = true)
    (a_paid_for : PySem.W.nsIn K mainGlobals "paid_for" = some (some (.ref f_paid_for)))
    (l_paid_for : K.lookup f_paid_for = some ⟨oc_paid_for, od_paid_for, .func (PySem.W.fnOf "paid_for" "paid_for" (defArgs sPaidFor) (defBody sPaidFor) (defScope sPaidFor) .none kV_paid_for dc_paid_for pm_paid_for an_paid_for cd_paid_for ct_paid_for), sl_paid_for⟩)
    (q_paid_for : PySem.W.codeIn K cd_paid_for "paid_for" = true)
    (k_paid_for : PySem.W.keepIn K (.ref f_paid_for) = true)
    (a_pays : PySem.W.nsIn K mainGlobals "pays" = some (some (.ref f_pays)))
    (l_pays : K.lookup f_pays = some ⟨oc_pays, od_pays, .func (PySem.W.fnOf "pays" "pays" (defArgs sPays) (defBody sPays) (defScope sPays) .none kV_pays dc_pays pm_pays an_pays cd_pays ct_pays), sl_pays⟩)
    (q_pays : PySem.W.codeIn K cd_pays "pays" = true)
    (k_pays : PySem.W.keepIn K (.ref f_pays) = true)
    (a_least_by_count : PySem.W.nsIn K mainGlobals "least_by_count" = some (some (.ref f_least_by_count)))
    (l_least_by_count : K.lookup f_least_by_count = some ⟨oc_least_by_count, od_least_by_count, .func (PySem.W.fnOf "least_by_count" "least_by_count" (defArgs sLeast) (defBody sLeast) (defScope sLeast) .none kV_least_by_count dc_least_by_count pm_least_by_count an_least_by_count cd_least_by_count ct_least_by_count), sl_least_by_count⟩)
    (q_least_by_count : PySem.W.codeIn K cd_least_by_count "least_by_count" = true)
    (k_least_by_count : PySem.W.keepIn K (.ref f_least_by_count) = true)
    (a_how_often : PySem.W.nsIn K mainGlobals "how_often" = some (some (.ref f_how_often)))
    (l_how_often : K.lookup f_how_often = some ⟨oc_how_often, od_how_often, .func (PySem.W.fnOf "how_often" "how_often" (defArgs sHow) (defBody sHow) (defScope sHow) .none kV_how_often dc_how_often pm_how_often an_how_often cd_how_often ct_how_often), sl_how_often⟩)
    (q_how_often : PySem.W.codeIn K cd_how_often "how_often" = true)
    (k_how_often : PySem.W.keepIn K (.ref f_how_often) = true)
    (a_counts_without : PySem.W.nsIn K mainGlobals "counts_without" = some (some (.ref f_counts_without)))
    (l_counts_without : K.lookup f_counts_without = some ⟨oc_counts_without, od_counts_without, .func (PySem.W.fnOf "counts_without" "counts_without" (defArgs sWithout) (defBody sWithout) (defScope sWithout) .none kV_counts_without dc_counts_without pm_counts_without an_counts_without cd_counts_without ct_counts_without), sl_counts_without⟩)
    (q_counts_without : PySem.W.codeIn K cd_counts_without "counts_without" = true)
    (k_counts_without : PySem.W.keepIn K (.ref f_counts_without) = true)
    (a_give_back : PySem.W.nsIn K mainGlobals "give_back" = some (some (.ref f_give_back)))
    (l_give_back : K.lookup f_give_back = some ⟨oc_give_back, od_give_back, .func (PySem.W.fnOf "give_back" "give_back" (defArgs sGive) (defBody sGive) (defScope sGive) .none kV_give_back dc_give_back pm_give_back an_give_back cd_give_back ct_give_back), sl_give_back⟩)
    (q_give_back : PySem.W.codeIn K cd_give_back "give_back" = true)
    (k_give_back : PySem.W.keepIn K (.ref f_give_back) = true)
    (a_buy : PySem.W.nsIn K mainGlobals "buy" = some (some (.ref f_buy)))
    (l_buy : K.lookup f_buy = some ⟨oc_buy, od_buy, .func (PySem.W.fnOf "buy" "buy" (defArgs sBuy) (defBody sBuy) (defScope sBuy) .none kV_buy dc_buy pm_buy an_buy cd_buy ct_buy), sl_buy⟩)
    (q_buy : PySem.W.codeIn K cd_buy "buy" = true)
    (k_buy : PySem.W.keepIn K (.ref f_buy) = true)
    (a_drop : PySem.W.nsIn K mainGlobals "drop" = some (some (.ref f_drop)))
    (l_drop : K.lookup f_drop = some ⟨oc_drop, od_drop, .func (PySem.W.fnOf "drop" "drop" (defArgs sDrop) (defBody sDrop) (defScope sDrop) .none kV_drop dc_drop pm_drop an_drop cd_drop ct_drop), sl_drop⟩)
    (q_drop : PySem.W.codeIn K cd_drop "drop" = true)
    (k_drop : PySem.W.keepIn K (.ref f_drop) = true)
    (a_needed : PySem.W.nsIn K mainGlobals "needed" = some (some (.ref f_needed)))
    (l_needed : K.lookup f_needed = some ⟨oc_needed, od_needed, .func (PySem.W.fnOf "needed" "needed" (defArgs sNeeded) (defBody sNeeded) (defScope sNeeded) .none kV_needed dc_needed pm_needed an_needed cd_needed ct_needed), sl_needed⟩)
    (q_needed : PySem.W.codeIn K cd_needed "needed" = true)
    (k_needed : PySem.W.keepIn K (.ref f_needed) = true)
    (a_is_size : PySem.W.nsIn K mainGlobals "is_size" = some (some (.ref f_is_size)))
    (l_is_size : K.lookup f_is_size = some ⟨oc_is_size, od_is_size, .func (PySem.W.fnOf "is_size" "is_size" (defArgs sSize) (defBody sSize) (defScope sSize) .none kV_is_size dc_is_size pm_is_size an_is_size cd_is_size ct_is_size), sl_is_size⟩)
    (q_is_size : PySem.W.codeIn K cd_is_size "is_size" = true)
    (k_is_size : PySem.W.keepIn K (.ref f_is_size) = true)
    (a_is_wheel : PySem.W.nsIn K mainGlobals "is_wheel" = some (some (.ref f_is_wheel)))
    (l_is_wheel : K.lookup f_is_wheel = some ⟨oc_is_wheel, od_is_wheel, .func (PySem.W.fnOf "is_wheel" "is_wheel" (defArgs sIsWheel) (defBody sIsWheel) (defScope sIsWheel) .none kV_is_wheel dc_is_wheel pm_is_wheel an_is_wheel cd_is_wheel ct_is_wheel), sl_is_wheel⟩)
    (q_is_wheel : PySem.W.codeIn K cd_is_wheel "is_wheel" = true)
    (k_is_wheel : PySem.W.keepIn K (.ref f_is_wheel) = true)
    (a_parts_at : PySem.W.nsIn K mainGlobals "parts_at" = some (some (.ref f_parts_at)))
    (l_parts_at : K.lookup f_parts_at = some ⟨oc_parts_at, od_parts_at, .func (PySem.W.fnOf "parts_at" "parts_at" (defArgs sParts) (defBody sParts) (defScope sParts) .none kV_parts_at dc_parts_at pm_parts_at an_parts_at cd_parts_at ct_parts_at), sl_parts_at⟩)
    (q_parts_at : PySem.W.codeIn K cd_parts_at "parts_at" = true)
    (k_parts_at : PySem.W.keepIn K (.ref f_parts_at) = true)
    (a_is_wrong_m : PySem.W.nsIn K mainGlobals "is_wrong_m" = some (some (.ref f_is_wrong_m)))
    (l_is_wrong_m : K.lookup f_is_wrong_m = some ⟨oc_is_wrong_m, od_is_wrong_m, .func (PySem.W.fnOf "is_wrong_m" "is_wrong_m" (defArgs sWrong) (defBody sWrong) (defScope sWrong) .none kV_is_wrong_m dc_is_wrong_m pm_is_wrong_m an_is_wrong_m cd_is_wrong_m ct_is_wrong_m), sl_is_wrong_m⟩)
    (q_is_wrong_m : PySem.W.codeIn K cd_is_wrong_m "is_wrong_m" = true)
    (k_is_wrong_m : PySem.W.keepIn K (.ref f_is_wrong_m) = true)
    (a_by_list : PySem.W.nsIn K mainGlobals "by_list" = some (some (.ref f_by_list)))
    (l_by_list : K.lookup f_by_list = some ⟨oc_by_list, od_by_list, .func (PySem.W.fnOf "by_list" "by_list" (defArgs sByList) (defBody sByList) (defScope sByList) .none kV_by_list dc_by_list pm_by_list an_by_list cd_by_list ct_by_list), sl_by_list⟩)
    (q_by_list : PySem.W.codeIn K cd_by_list "by_list" = true)
    (k_by_list : PySem.W.keepIn K (.ref f_by_list) = true)
    (a_by_m : PySem.W.nsIn K mainGlobals "by_m" = some (some (.ref f_by_m)))
    (l_by_m : K.lookup f_by_m = some ⟨oc_by_m, od_by_m, .func (PySem.W.fnOf "by_m" "by_m" (defArgs sByM) (defBody sByM) (defScope sByM) .none kV_by_m dc_by_m pm_by_m an_by_m cd_by_m ct_by_m), sl_by_m⟩)
    (q_by_m : PySem.W.codeIn K cd_by_m "by_m" = true)
    (k_by_m : PySem.W.keepIn K (.ref f_by_m) = true)
    (a_answers : PySem.W.nsIn K mainGlobals "answers" = some (some (.ref f_answers)))
    (l_answers : K.lookup f_answers = some ⟨oc_answers, od_answers, .func (PySem.W.fnOf "answers" "answers" (defArgs sAnswers) (defBody sAnswers) (defScope sAnswers) .none kV_answers dc_answers pm_answers an_answers cd_answers ct_answers), sl_answers⟩)
    (q_answers : PySem.W.codeIn K cd_answers "answers" = true)
    (k_answers : PySem.W.keepIn K (.ref f_answers) = true)
    (g_C : PySem.W.nsIn K mainGlobals "Wheel" = some (some (.ref C)))
    (pg_C : PySem.W.plainGet K C Str.empty = true)
    (hd_C : PySem.W.hasDictIn K C = true)
    (po_C : PySem.W.plainOver K C = true)
    (sa_C : PySem.W.findIn K (.ref C) "__setattr__" = some (some (.builtin "object.__setattr__")))
    (mk_C : PySem.W.makesIn K C = true)
    (kc_C : PySem.W.keepIn K (.ref C) = true)
    (no_C_n : PySem.W.findIn K (.ref C) "n" = some none)
    (no_C_k : PySem.W.findIn K (.ref C) "k" = some none)
    (no_C_t : PySem.W.findIn K (.ref C) "t" = some none)
    (no_C_kinds : PySem.W.findIn K (.ref C) "kinds" = some none)
    (no_C_draws : PySem.W.findIn K (.ref C) "draws" = some none)
    (no_C_tickets : PySem.W.findIn K (.ref C) "tickets" = some none)
    (g_CL : PySem.W.nsIn K mainGlobals "Line" = some (some (.ref CL)))
    (pg_CL : PySem.W.plainGet K CL Str.empty = true)
    (hd_CL : PySem.W.hasDictIn K CL = true)
    (po_CL : PySem.W.plainOver K CL = true)
    (sa_CL : PySem.W.findIn K (.ref CL) "__setattr__" = some (some (.builtin "object.__setattr__")))
    (mk_CL : PySem.W.makesIn K CL = true)
    (kc_CL : PySem.W.keepIn K (.ref CL) = true)
    (no_CL_wheel : PySem.W.findIn K (.ref CL) "wheel" = some none)
    (a_C_is_full : PySem.W.findIn K (.ref C) "is_full" = some (some (.ref f_C_is_full)))
    (i_C_is_full : PySem.W.isFn K (.ref f_C_is_full) = true)
    (l_C_is_full : K.lookup f_C_is_full = some ⟨oc_C_is_full, od_C_is_full, .func (PySem.W.fnOf "is_full" "Wheel.is_full" (defArgs sFull) (defBody sFull) (defScope sFull) .none kV_C_is_full dc_C_is_full pm_C_is_full an_C_is_full cd_C_is_full ct_C_is_full), sl_C_is_full⟩)
    (q_C_is_full : PySem.W.codeIn K cd_C_is_full "Wheel.is_full" = true)
    (k_C_is_full : PySem.W.keepIn K (.ref f_C_is_full) = true)
    (a_C_bought : PySem.W.findIn K (.ref C) "bought" = some (some (.ref f_C_bought)))
    (i_C_bought : PySem.W.isFn K (.ref f_C_bought) = true)
    (l_C_bought : K.lookup f_C_bought = some ⟨oc_C_bought, od_C_bought, .func (PySem.W.fnOf "bought" "Wheel.bought" (defArgs sBought) (defBody sBought) (defScope sBought) .none kV_C_bought dc_C_bought pm_C_bought an_C_bought cd_C_bought ct_C_bought), sl_C_bought⟩)
    (q_C_bought : PySem.W.codeIn K cd_C_bought "Wheel.bought" = true)
    (k_C_bought : PySem.W.keepIn K (.ref f_C_bought) = true)
    (a_C_given_back : PySem.W.findIn K (.ref C) "given_back" = some (some (.ref f_C_given_back)))
    (i_C_given_back : PySem.W.isFn K (.ref f_C_given_back) = true)
    (l_C_given_back : K.lookup f_C_given_back = some ⟨oc_C_given_back, od_C_given_back, .func (PySem.W.fnOf "given_back" "Wheel.given_back" (defArgs sGiven) (defBody sGiven) (defScope sGiven) .none kV_C_given_back dc_C_given_back pm_C_given_back an_C_given_back cd_C_given_back ct_C_given_back), sl_C_given_back⟩)
    (q_C_given_back : PySem.W.codeIn K cd_C_given_back "Wheel.given_back" = true)
    (k_C_given_back : PySem.W.keepIn K (.ref f_C_given_back) = true)
    (a_CL_begin : PySem.W.findIn K (.ref CL) "begin" = some (some (.ref f_CL_begin)))
    (i_CL_begin : PySem.W.isFn K (.ref f_CL_begin) = true)
    (l_CL_begin : K.lookup f_CL_begin = some ⟨oc_CL_begin, od_CL_begin, .func (PySem.W.fnOf "begin" "Line.begin" (defArgs sBegin) (defBody sBegin) (defScope sBegin) .none kV_CL_begin dc_CL_begin pm_CL_begin an_CL_begin cd_CL_begin ct_CL_begin), sl_CL_begin⟩)
    (q_CL_begin : PySem.W.codeIn K cd_CL_begin "Line.begin" = true)
    (k_CL_begin : PySem.W.keepIn K (.ref f_CL_begin) = true)
    (a_CL_answer : PySem.W.findIn K (.ref CL) "answer" = some (some (.ref f_CL_answer)))
    (i_CL_answer : PySem.W.isFn K (.ref f_CL_answer) = true)
    (l_CL_answer : K.lookup f_CL_answer = some ⟨oc_CL_answer, od_CL_answer, .func (PySem.W.fnOf "answer" "Line.answer" (defArgs sAnswer) (defBody sAnswer) (defScope sAnswer) .none kV_CL_answer dc_CL_answer pm_CL_answer an_CL_answer cd_CL_answer ct_CL_answer), sl_CL_answer⟩)
    (q_CL_answer : PySem.W.codeIn K cd_CL_answer "Line.answer" = true)
    (k_CL_answer : PySem.W.keepIn K (.ref f_CL_answer) = true)
    (a_C_init : PySem.W.findIn K (.ref C) "__init__" = some (some (.ref f_C_init)))
    (i_C_init : PySem.W.isFn K (.ref f_C_init) = true)
    (l_C_init : K.lookup f_C_init = some ⟨oc_C_init, od_C_init, .func (PySem.W.fnOf "__init__" "Wheel.__init__" (defArgs sInit) (defBody sInit) (defScope sInit) .none kV_C_init dc_C_init pm_C_init an_C_init cd_C_init ct_C_init), sl_C_init⟩)
    (q_C_init : PySem.W.codeIn K cd_C_init "Wheel.__init__" = true)
    (k_C_init : PySem.W.keepIn K (.ref f_C_init) = true)
    (a_CL_init : PySem.W.findIn K (.ref CL) "__init__" = some (some (.ref f_CL_init)))
    (i_CL_init : PySem.W.isFn K (.ref f_CL_init) = true)
    (l_CL_init : K.lookup f_CL_init = some ⟨oc_CL_init, od_CL_init, .func (PySem.W.fnOf "__init__" "Line.__init__" (defArgs sLInit) (defBody sLInit) (defScope sLInit) .none kV_CL_init dc_CL_init pm_CL_init an_CL_init cd_CL_init ct_CL_init), sl_CL_init⟩)
    (q_CL_init : PySem.W.codeIn K cd_CL_init "Line.__init__" = true)
    (k_CL_init : PySem.W.keepIn K (.ref f_CL_init) = true)
    (v_MOST_KINDS : PySem.W.nsIn K mainGlobals "MOST_KINDS" = some (some (.int 60 t_MOST_KINDS)))
    (v_MOST_PRIZE : PySem.W.nsIn K mainGlobals "MOST_PRIZE" = some (some (.int 99999 t_MOST_PRIZE)))
    (v_MOST_TICKETS : PySem.W.nsIn K mainGlobals "MOST_TICKETS" = some (some (.int 30 t_MOST_TICKETS)))
    (v_BEGIN : PySem.W.nsIn K mainGlobals "BEGIN" = some (some (.int 0 t_BEGIN)))
    (v_BUY : PySem.W.nsIn K mainGlobals "BUY" = some (some (.int 1 t_BUY)))
    (v_DROP : PySem.W.nsIn K mainGlobals "DROP" = some (some (.int 2 t_DROP)))
    (v_LOOK : PySem.W.nsIn K mainGlobals "LOOK" = some (some (.int 3 t_LOOK)))
    (v_MATCHES : PySem.W.nsIn K mainGlobals "MATCHES" = some (some (.int 4 t_MATCHES)))
    (v_WORST : PySem.W.nsIn K mainGlobals "WORST" = some (some (.int 5 t_WORST)))
    (v_COVERS : PySem.W.nsIn K mainGlobals "COVERS" = some (some (.int 6 t_COVERS)))
    (v_NEXT : PySem.W.nsIn K mainGlobals "NEXT" = some (some (.int 7 t_NEXT)))
    (v_FEWEST : PySem.W.nsIn K mainGlobals "FEWEST" = some (some (.int 8 t_FEWEST)))
    (v_NEEDED : PySem.W.nsIn K mainGlobals "NEEDED" = some (some (.int 9 t_NEEDED)))
    (v_LISTS : PySem.W.nsIn K mainGlobals "LISTS" = some (some (.ref u_LISTS)))
    (w_LISTS : K.lookup u_LISTS = some ⟨.type "tuple", od_LISTS, .seq #[.int 1 t_LISTS0, .int 4 t_LISTS1, .int 10 t_LISTS2] e_LISTS, sl_LISTS⟩)
    (v_ALONE : PySem.W.nsIn K mainGlobals "ALONE" = some (some (.ref u_ALONE)))
    (w_ALONE : K.lookup u_ALONE = some ⟨.type "tuple", od_ALONE, .seq #[.int 3 t_ALONE0, .int 5 t_ALONE1] e_ALONE, sl_ALONE⟩)
    (y_max : PySem.W.nsIn K mainGlobals "max" = some none)
    (y_min : PySem.W.nsIn K mainGlobals "min" = some none)
    (y_len : PySem.W.nsIn K mainGlobals "len" = some none)
    (y_range : PySem.W.nsIn K mainGlobals "range" = some none)
    (y_enumerate : PySem.W.nsIn K mainGlobals "enumerate" = some none)
    (y_sum : PySem.W.nsIn K mainGlobals "sum" = some none)
    (y_zip : PySem.W.nsIn K mainGlobals "zip" = some none)
    (y_int : PySem.W.nsIn K mainGlobals "int" = some none)
    (y_list : PySem.W.nsIn K mainGlobals "list" = some none)
    : ∃ fd : FuncData, (∀ (s : Shared) (us : List Value), us.length = (["calls"] : List Str).length → BindsTo s fd ⟨us, []⟩ ((["calls"] : List Str).zip us)) ∧ ∀ base : Heap, K.In base → base.Ns mainGlobals mg → FnOk P w K mg base CX0 10 fa fd ["calls"] (spAnswers K) := by
  have e := hfa.symm.trans (PySem.W.mg_of X G a_answers)
  cases e
  have T : WTxt K C := ⟨⟨pg_C, hd_C, po_C, sa_C⟩, no_C_n, no_C_k, no_C_t, no_C_kinds, no_C_draws, no_C_tickets⟩
  have L : LTxt K CL := ⟨⟨pg_CL, hd_CL, po_CL, sa_CL⟩, no_CL_wheel⟩
  have z_max : mg "max" = none := PySem.W.mg_none_of X G y_max
  have z_min : mg "min" = none := PySem.W.mg_none_of X G y_min
  have z_len : mg "len" = none := PySem.W.mg_none_of X G y_len
  have z_range : mg "range" = none := PySem.W.mg_none_of X G y_range
  have z_enumerate : mg "enumerate" = none := PySem.W.mg_none_of X G y_enumerate
  have z_sum : mg "sum" = none := PySem.W.mg_none_of X G y_sum
  have z_zip : mg "zip" = none := PySem.W.mg_none_of X G y_zip
  have z_int : mg "int" = none := PySem.W.mg_none_of X G y_int
  have z_list : mg "list" = none := PySem.W.mg_none_of X G y_list
  have n_MOST_KINDS : Num mg "MOST_KINDS" 60 := ⟨_, PySem.W.mg_of X G v_MOST_KINDS, t_MOST_KINDS, rfl⟩
  have n_MOST_PRIZE : Num mg "MOST_PRIZE" 99999 := ⟨_, PySem.W.mg_of X G v_MOST_PRIZE, t_MOST_PRIZE, rfl⟩
  have n_MOST_TICKETS : Num mg "MOST_TICKETS" 30 := ⟨_, PySem.W.mg_of X G v_MOST_TICKETS, t_MOST_TICKETS, rfl⟩
  have n_BEGIN : Num mg "BEGIN" 0 := ⟨_, PySem.W.mg_of X G v_BEGIN, t_BEGIN, rfl⟩
  have n_BUY : Num mg "BUY" 1 := ⟨_, PySem.W.mg_of X G v_BUY, t_BUY, rfl⟩
  have n_DROP : Num mg "DROP" 2 := ⟨_, PySem.W.mg_of X G v_DROP, t_DROP, rfl⟩
  have n_LOOK : Num mg "LOOK" 3 := ⟨_, PySem.W.mg_of X G v_LOOK, t_LOOK, rfl⟩
  have n_MATCHES : Num mg "MATCHES" 4 := ⟨_, PySem.W.mg_of X G v_MATCHES, t_MATCHES, rfl⟩
  have n_WORST : Num mg "WORST" 5 := ⟨_, PySem.W.mg_of X G v_WORST, t_WORST, rfl⟩
  have n_COVERS : Num mg "COVERS" 6 := ⟨_, PySem.W.mg_of X G v_COVERS, t_COVERS, rfl⟩
  have n_NEXT : Num mg "NEXT" 7 := ⟨_, PySem.W.mg_of X G v_NEXT, t_NEXT, rfl⟩
  have n_FEWEST : Num mg "FEWEST" 8 := ⟨_, PySem.W.mg_of X G v_FEWEST, t_FEWEST, rfl⟩
  have n_NEEDED : Num mg "NEEDED" 9 := ⟨_, PySem.W.mg_of X G v_NEEDED, t_NEEDED, rfl⟩
  have t_LISTS : TupG K mg "LISTS" [1, 4, 10] := ⟨_, PySem.W.mg_of X G v_LISTS, fun H => .inr ⟨_, _, _, w_LISTS, rfl, rfl, by show 3 ≤ sizeLine; decide, .cons ⟨_, rfl⟩ (.cons ⟨_, rfl⟩ (.cons ⟨_, rfl⟩ (.nil)))⟩⟩
  have t_ALONE : TupG K mg "ALONE" [3, 5] := ⟨_, PySem.W.mg_of X G v_ALONE, fun H => .inr ⟨_, _, _, w_ALONE, rfl, rfl, by show 2 ≤ sizeLine; decide, .cons ⟨_, rfl⟩ (.cons ⟨_, rfl⟩ (.nil))⟩⟩
  refine ⟨PySem.W.fnOf "answers" "answers" (defArgs sAnswers) (defBody sAnswers) (defScope sAnswers) .none kV_answers dc_answers pm_answers an_answers cd_answers ct_answers, fun s us hu => match us, hu with | [_], _ => .of_eq rfl, fun base _ _ => ?_⟩
  have d_parts_at := c_parts (P := P) (w := w) (base := base) (⟨_, _, PySem.W.mg_of X G a_parts_at, fun_mk l_parts_at q_parts_at k_parts_at⟩ : At K mg "parts_at" sParts) t_LISTS t_ALONE n_BEGIN
  have d_is_size := c_size (P := P) (w := w) (base := base) (⟨_, _, PySem.W.mg_of X G a_is_size, fun_mk l_is_size q_is_size k_is_size⟩ : At K mg "is_size" sSize)
  have d_is_wheel := c_isWheel (P := P) (w := w) (base := base) (⟨_, _, PySem.W.mg_of X G a_is_wheel, fun_mk l_is_wheel q_is_wheel k_is_wheel⟩ : At K mg "is_wheel" sIsWheel) d_is_size
  have d_first_behind := c_first (P := P) (w := w) (base := base) (⟨_, _, PySem.W.mg_of X G a_first_behind, fun_mk l_first_behind q_first_behind k_first_behind⟩ : At K mg "first_behind" sFirst)
  have d_rows_of := c_rowsOf (P := P) (w := w) (base := base) (⟨_, _, PySem.W.mg_of X G a_rows_of, fun_mk l_rows_of q_rows_of k_rows_of⟩ : At K mg "rows_of" sRowsOf) d_first_behind z_range
  have F_Wheel := fun_mk (st := sInit) l_C_init q_C_init k_C_init
  have k_Wheel : C8.Mak P w K mg base 3 "Wheel" C (spInit C) [] := ⟨_, _, _, [], ⟨mk_C, a_C_init, i_C_init, kc_C⟩, m_init T F_Wheel d_rows_of, PySem.W.mg_of X G g_C, F_Wheel.binds (ps := ["self", "n", "k", "t"]) fun _ _ _ _ _ _ us hl => match us, hl with | [_, _, _, _], _ => rfl, .nil⟩
  have m_begin := m_begin T L (P := P) (w := w) (mg := mg) (base := base) (⟨_, _, ⟨a_CL_begin, i_CL_begin, k_CL_begin⟩, fun_mk l_CL_begin q_CL_begin k_CL_begin⟩ : AtM K CL "begin" "Line.begin" sBegin) d_is_wheel k_Wheel z_len
  have d_laid_out := c_laid (P := P) (w := w) (base := base) (⟨_, _, PySem.W.mg_of X G a_laid_out, fun_mk l_laid_out q_laid_out k_laid_out⟩ : At K mg "laid_out" sLaid) z_len
  have d_right_of := c_right (P := P) (w := w) (base := base) (⟨_, _, PySem.W.mg_of X G a_right_of, fun_mk l_right_of q_right_of k_right_of⟩ : At K mg "right_of" sRight)
  have d_rights_of := c_rights (P := P) (w := w) (base := base) (⟨_, _, PySem.W.mg_of X G a_rights_of, fun_mk l_rights_of q_rights_of k_rights_of⟩ : At K mg "rights_of" sRights) d_right_of
  have d_best_of := c_best (P := P) (w := w) (base := base) (⟨_, _, PySem.W.mg_of X G a_best_of, fun_mk l_best_of q_best_of k_best_of⟩ : At K mg "best_of" sBest) d_rights_of z_max
  have d_bests_of := c_bests (P := P) (w := w) (base := base) (⟨_, _, PySem.W.mg_of X G a_bests_of, fun_mk l_bests_of q_bests_of k_bests_of⟩ : At K mg "bests_of" sBests) d_best_of
  have d_worst := c_worst T (P := P) (w := w) (base := base) (⟨_, _, PySem.W.mg_of X G a_worst, fun_mk l_worst q_worst k_worst⟩ : At K mg "worst" sWorst) d_bests_of z_min
  have m_given_back := m_given T (P := P) (w := w) (mg := mg) (base := base) (⟨_, _, ⟨a_C_given_back, i_C_given_back, k_C_given_back⟩, fun_mk l_C_given_back q_C_given_back k_C_given_back⟩ : AtM K C "given_back" "Wheel.given_back" sGiven)
  have d_drop := c_drop T (P := P) (w := w) (base := base) (⟨_, _, PySem.W.mg_of X G a_drop, fun_mk l_drop q_drop k_drop⟩ : At K mg "drop" sDrop) m_given_back z_len
  have d_is_row := c_isRow (P := P) (w := w) (base := base) (⟨_, _, PySem.W.mg_of X G a_is_row, fun_mk l_is_row q_is_row k_is_row⟩ : At K mg "is_row" sIsRow) z_len z_range
  have m_is_full := m_full T (P := P) (w := w) (mg := mg) (base := base) (⟨_, _, ⟨a_C_is_full, i_C_is_full, k_C_is_full⟩, fun_mk l_C_is_full q_C_is_full k_C_is_full⟩ : AtM K C "is_full" "Wheel.is_full" sFull) z_len n_MOST_TICKETS
  have m_bought := m_bought T (P := P) (w := w) (mg := mg) (base := base) (⟨_, _, ⟨a_C_bought, i_C_bought, k_C_bought⟩, fun_mk l_C_bought q_C_bought k_C_bought⟩ : AtM K C "bought" "Wheel.bought" sBought) z_len z_list
  have d_buy := c_buy T (P := P) (w := w) (base := base) (⟨_, _, PySem.W.mg_of X G a_buy, fun_mk l_buy q_buy k_buy⟩ : At K mg "buy" sBuy) d_is_row m_is_full m_bought
  have d_matches := c_matches T (P := P) (w := w) (base := base) (⟨_, _, PySem.W.mg_of X G a_matches, fun_mk l_matches q_matches k_matches⟩ : At K mg "matches" sMatches) d_is_row d_best_of d_rights_of
  have d_is_paying := c_paying T (P := P) (w := w) (base := base) (⟨_, _, PySem.W.mg_of X G a_is_paying, fun_mk l_is_paying q_is_paying k_is_paying⟩ : At K mg "is_paying" sPaying) z_len z_max n_MOST_PRIZE
  have d_paid_for := c_paidFor T (P := P) (w := w) (base := base) (⟨_, _, PySem.W.mg_of X G a_paid_for, fun_mk l_paid_for q_paid_for k_paid_for⟩ : At K mg "paid_for" sPaidFor) d_rights_of
  have d_common_divisor := c_gcd (P := P) (w := w) (base := base) (⟨_, _, PySem.W.mg_of X G a_common_divisor, fun_mk l_common_divisor q_common_divisor k_common_divisor⟩ : At K mg "common_divisor" sGcd)
  have d_lowest := c_low (P := P) (w := w) (base := base) (⟨_, _, PySem.W.mg_of X G a_lowest, fun_mk l_lowest q_lowest k_lowest⟩ : At K mg "lowest" sLow) d_common_divisor
  have d_pays := c_pays T (P := P) (w := w) (base := base) (⟨_, _, PySem.W.mg_of X G a_pays, fun_mk l_pays q_pays k_pays⟩ : At K mg "pays" sPays) d_is_paying d_paid_for d_lowest z_len z_max z_sum
  have d_by_list := c_byList T (P := P) (w := w) (base := base) (⟨_, _, PySem.W.mg_of X G a_by_list, fun_mk l_by_list q_by_list k_by_list⟩ : At K mg "by_list" sByList) d_buy d_matches d_pays n_BUY n_MATCHES
  have d_is_wrong_m := c_wrong T (P := P) (w := w) (base := base) (⟨_, _, PySem.W.mg_of X G a_is_wrong_m, fun_mk l_is_wrong_m q_is_wrong_m k_is_wrong_m⟩ : At K mg "is_wrong_m" sWrong) n_COVERS
  have d_open_draws := c_open (P := P) (w := w) (base := base) (⟨_, _, PySem.W.mg_of X G a_open_draws, fun_mk l_open_draws q_open_draws k_open_draws⟩ : At K mg "open_draws" sOpen) d_best_of
  have d_covers := c_covers T (P := P) (w := w) (base := base) (⟨_, _, PySem.W.mg_of X G a_covers, fun_mk l_covers q_covers k_covers⟩ : At K mg "covers" sCovers) d_open_draws d_lowest z_len
  have d_covered_by := c_covBy (P := P) (w := w) (base := base) (⟨_, _, PySem.W.mg_of X G a_covered_by, fun_mk l_covered_by q_covered_by k_covered_by⟩ : At K mg "covered_by" sCovBy) d_right_of
  have d_best_more := c_more T (P := P) (w := w) (base := base) (⟨_, _, PySem.W.mg_of X G a_best_more, fun_mk l_best_more q_best_more k_best_more⟩ : At K mg "best_more" sMore) d_open_draws d_covered_by
  have d_covers_all := c_covAll (P := P) (w := w) (base := base) (⟨_, _, PySem.W.mg_of X G a_covers_all, fun_mk l_covers_all q_covers_all k_covers_all⟩ : At K mg "covers_all" sCovAll) d_right_of
  have d_one_for := c_one (P := P) (w := w) (base := base) (⟨_, _, PySem.W.mg_of X G a_one_for, fun_mk l_one_for q_one_for k_one_for⟩ : At K mg "one_for" sOne) d_covers_all
  have d_left_by := c_left (P := P) (w := w) (base := base) (⟨_, _, PySem.W.mg_of X G a_left_by, fun_mk l_left_by q_left_by k_left_by⟩ : At K mg "left_by" sLeft) d_right_of
  have d_two_for := c_two (P := P) (w := w) (base := base) (⟨_, _, PySem.W.mg_of X G a_two_for, fun_mk l_two_for q_two_for k_two_for⟩ : At K mg "two_for" sTwo) d_left_by d_one_for z_enumerate
  have d_three_for := c_three (P := P) (w := w) (base := base) (⟨_, _, PySem.W.mg_of X G a_three_for, fun_mk l_three_for q_three_for k_three_for⟩ : At K mg "three_for" sThree) d_left_by d_two_for z_enumerate
  have d_fewest_for := c_fewFor (P := P) (w := w) (base := base) (⟨_, _, PySem.W.mg_of X G a_fewest_for, fun_mk l_fewest_for q_fewest_for k_fewest_for⟩ : At K mg "fewest_for" sFewFor) d_one_for d_two_for d_three_for
  have d_fewest := c_fewest T (P := P) (w := w) (base := base) (⟨_, _, PySem.W.mg_of X G a_fewest, fun_mk l_fewest q_fewest k_fewest⟩ : At K mg "fewest" sFewest) d_fewest_for d_laid_out z_len n_MOST_KINDS
  have d_how_often := c_how (P := P) (w := w) (base := base) (⟨_, _, PySem.W.mg_of X G a_how_often, fun_mk l_how_often q_how_often k_how_often⟩ : At K mg "how_often" sHow) d_right_of z_len
  have d_counts_without := c_without (P := P) (w := w) (base := base) (⟨_, _, PySem.W.mg_of X G a_counts_without, fun_mk l_counts_without q_counts_without k_counts_without⟩ : At K mg "counts_without" sWithout) d_right_of z_zip z_int
  have d_give_back := c_give T (P := P) (w := w) (base := base) (⟨_, _, PySem.W.mg_of X G a_give_back, fun_mk l_give_back q_give_back k_give_back⟩ : At K mg "give_back" sGive) d_how_often d_counts_without m_given_back z_list z_min
  have d_needed := c_needed T (P := P) (w := w) (base := base) (⟨_, _, PySem.W.mg_of X G a_needed, fun_mk l_needed q_needed k_needed⟩ : At K mg "needed" sNeeded) d_open_draws d_give_back z_len
  have d_rounded_up := c_up (P := P) (w := w) (base := base) (⟨_, _, PySem.W.mg_of X G a_rounded_up, fun_mk l_rounded_up q_rounded_up k_rounded_up⟩ : At K mg "rounded_up" sUp)
  have d_least_by_count := c_least T (P := P) (w := w) (base := base) (⟨_, _, PySem.W.mg_of X G a_least_by_count, fun_mk l_least_by_count q_least_by_count k_least_by_count⟩ : At K mg "least_by_count" sLeast) d_covered_by d_rounded_up z_len
  have d_by_m := c_byM T (P := P) (w := w) (base := base) (⟨_, _, PySem.W.mg_of X G a_by_m, fun_mk l_by_m q_by_m k_by_m⟩ : At K mg "by_m" sByM) d_is_wrong_m d_covers d_best_more d_fewest d_needed d_least_by_count n_COVERS n_NEXT n_FEWEST n_NEEDED
  have m_answer := m_answer T L (P := P) (w := w) (mg := mg) (base := base) (⟨_, _, ⟨a_CL_answer, i_CL_answer, k_CL_answer⟩, fun_mk l_CL_answer q_CL_answer k_CL_answer⟩ : AtM K CL "answer" "Line.answer" sAnswer) m_begin d_laid_out d_worst d_drop d_by_list d_by_m n_BEGIN n_LOOK n_WORST n_DROP t_LISTS
  have F_Line := fun_mk (st := sLInit) l_CL_init q_CL_init k_CL_init
  have k_Line : C8.Mak P w K mg base 1 "Line" CL (spLInit CL C) [] := ⟨_, _, _, [], ⟨mk_CL, a_CL_init, i_CL_init, kc_CL⟩, m_linit L F_Line, PySem.W.mg_of X G g_CL, F_Line.binds (ps := ["self"]) fun _ _ _ _ _ _ us hl => match us, hl with | [_], _ => rfl, .nil⟩
  exact ok_answers (fun_mk l_answers q_answers k_answers) k_Line d_parts_at m_answer z_len

/-- the request, the answer -/
theorem request {K : PySem.W.Frag} {H : Hp} {b : Addr} {l : List Int} (hs : SqL K H b (l.map V.int)) (hl : l.length ≤ 1000) (hz : ∀ z ∈ l, 0 ≤ z) (hask : PyMu24.answers_asked l = true) :
    spAnswers K [.ref b] H (fun v H' => Dw K H' v (.list ((PyMu24.answers l).map PySem.W.WData.int))) fun _ _ _ => False := by
  obtain ⟨cs, hd, he, hb⟩ := asked_is hask
  have e : nI (l.map Int.toNat) = l.map V.int := by
    unfold nI
    rw [List.map_map]
    refine List.map_congr_left fun z m => ?_
    show V.int ((z.toNat : Nat) : Int) = V.int z
    rw [Int.toNat_of_nonneg (hz z m)]
  refine ⟨b, l.map Int.toNat, cs, rfl, by rw [e]; exact hs, by rw [List.length_map]; exact hl, hd, hb, fun H' p hp => ?_⟩
  rw [he]
  exact .lst (SqL.of hp) (dw_ints _)

end Wd

set_option Elab.async false
open PySem PySem.W PyProof.Rows
set_option maxRecDepth 100000 in
set_option maxHeartbeats 8000000 in
theorem PySem.Challenge.cw_wheeldraw_s01_answers_holds : PySem.Challenge.rw_wheeldraw_s01_answers.Holds := by
  w_on; k_headS; (case hw => exact ⟨[.list [.int 3]], by decide +kernel, by decide +kernel⟩)
  k_fillS
  refine L2.walk_specK (r := PySem.Challenge.rw_wheeldraw_s01_answers) (k := 10) (CX := L2.CX0) (ps := ["calls"]) (sp := Wd.spAnswers) (by decide +kernel) rfl rfl ⟨rfl, by decide, by decide⟩ (fun w h Y => PySem.W.kIn_of Y) ?F ?S (fun _ _ _ _ z => z)
  case F =>
    intro w mg fa h Y KX G hmg
    refine' Wd.all_mk KX G hmg ?a_right_of ?l_right_of ?q_right_of ?k_right_of ?a_rights_of ?l_rights_of ?q_rights_of ?k_rights_of ?a_best_of ?l_best_of ?q_best_of ?k_best_of ?a_bests_of ?l_bests_of ?q_bests_of ?k_bests_of ?a_open_draws ?l_open_draws ?q_open_draws ?k_open_draws ?a_covered_by ?l_covered_by ?q_covered_by ?k_covered_by ?a_left_by ?l_left_by ?q_left_by ?k_left_by ?a_covers_all ?l_covers_all ?q_covers_all ?k_covers_all ?a_one_for ?l_one_for ?q_one_for ?k_one_for ?a_two_for ?l_two_for ?q_two_for ?k_two_for ?a_three_for ?l_three_for ?q_three_for ?k_three_for ?a_fewest_for ?l_fewest_for ?q_fewest_for ?k_fewest_for ?a_common_divisor ?l_common_divisor ?q_common_divisor ?k_common_divisor ?a_lowest ?l_lowest ?q_lowest ?k_lowest ?a_rounded_up ?l_rounded_up ?q_rounded_up ?k_rounded_up ?a_first_behind ?l_first_behind ?q_first_behind ?k_first_behind ?a_rows_of ?l_rows_of ?q_rows_of ?k_rows_of ?a_is_row ?l_is_row ?q_is_row ?k_is_row ?a_laid_out ?l_laid_out ?q_laid_out ?k_laid_out ?a_matches ?l_matches ?q_matches ?k_matches ?a_worst ?l_worst ?q_worst ?k_worst ?a_covers ?l_covers ?q_covers ?k_covers ?a_best_more ?l_best_more ?q_best_more ?k_best_more ?a_fewest ?l_fewest ?q_fewest ?k_fewest ?a_is_paying ?l_is_paying ?q_is_paying ?k_is_paying ?a_paid_for ?l_paid_for ?q_paid_for ?k_paid_for ?a_pays ?l_pays ?q_pays ?k_pays ?a_least_by_count ?l_least_by_count ?q_least_by_count ?k_least_by_count ?a_how_often ?l_how_often ?q_how_often ?k_how_often ?a_counts_without ?l_counts_without ?q_counts_without ?k_counts_without ?a_give_back ?l_give_back ?q_give_back ?k_give_back ?a_buy ?l_buy ?q_buy ?k_buy ?a_drop ?l_drop ?q_drop ?k_drop ?a_needed ?l_needed ?q_needed ?k_needed ?a_is_size ?l_is_size ?q_is_size ?k_is_size ?a_is_wheel ?l_is_wheel ?q_is_wheel ?k_is_wheel ?a_parts_at ?l_parts_at ?q_parts_at ?k_parts_at ?a_is_wrong_m ?l_is_wrong_m ?q_is_wrong_m ?k_is_wrong_m ?a_by_list ?l_by_list ?q_by_list ?k_by_list ?a_by_m ?l_by_m ?q_by_m ?k_by_m ?a_answers ?l_answers ?q_answers ?k_answers ?g_C ?pg_C ?hd_C ?po_C ?sa_C ?mk_C ?kc_C ?no_C_n ?no_C_k ?no_C_t ?no_C_kinds ?no_C_draws ?no_C_tickets ?g_CL ?pg_CL ?hd_CL ?po_CL ?sa_CL ?mk_CL ?kc_CL ?no_CL_wheel ?a_C_is_full ?i_C_is_full ?l_C_is_full ?q_C_is_full ?k_C_is_full ?a_C_bought ?i_C_bought ?l_C_bought ?q_C_bought ?k_C_bought ?a_C_given_back ?i_C_given_back ?l_C_given_back ?q_C_given_back ?k_C_given_back ?a_CL_begin ?i_CL_begin ?l_CL_begin ?q_CL_begin ?k_CL_begin ?a_CL_answer ?i_CL_answer ?l_CL_answer ?q_CL_answer ?k_CL_answer ?a_C_init ?i_C_init ?l_C_init ?q_C_init ?k_C_init ?a_CL_init ?i_CL_init ?l_CL_init ?q_CL_init ?k_CL_init ?v_MOST_KINDS ?v_MOST_PRIZE ?v_MOST_TICKETS ?v_BEGIN ?v_BUY ?v_DROP ?v_LOOK ?v_MATCHES ?v_WORST ?v_COVERS ?v_NEXT ?v_FEWEST ?v_NEEDED ?v_LISTS ?w_LISTS ?v_ALONE ?w_ALONE ?y_max ?y_min ?y_len ?y_range ?y_enumerate ?y_sum ?y_zip ?y_int ?y_list
    (case a_right_of => k_is); (case l_right_of => k_is); (case q_right_of => k_is); (case k_right_of => k_is); (case a_rights_of => k_is); (case l_rights_of => k_is)
    (case q_rights_of => k_is); (case k_rights_of => k_is); (case a_best_of => k_is); (case l_best_of => k_is); (case q_best_of => k_is); (case k_best_of => k_is)
    (case a_bests_of => k_is); (case l_bests_of => k_is); (case q_bests_of => k_is); (case k_bests_of => k_is); (case a_open_draws => k_is); (case l_open_draws => k_is)
    (case q_open_draws => k_is); (case k_open_draws => k_is); (case a_covered_by => k_is); (case l_covered_by => k_is); (case q_covered_by => k_is); (case k_covered_by => k_is)
    (case a_left_by => k_is); (case l_left_by => k_is); (case q_left_by => k_is); (case k_left_by => k_is); (case a_covers_all => k_is); (case l_covers_all => k_is)
    (case q_covers_all => k_is); (case k_covers_all => k_is); (case a_one_for => k_is); (case l_one_for => k_is); (case q_one_for => k_is); (case k_one_for => k_is)
    (case a_two_for => k_is); (case l_two_for => k_is); (case q_two_for => k_is); (case k_two_for => k_is); (case a_three_for => k_is); (case l_three_for => k_is)
    (case q_three_for => k_is); (case k_three_for => k_is); (case a_fewest_for => k_is); (case l_fewest_for => k_is); (case q_fewest_for => k_is); (case k_fewest_for => k_is)
    (case a_common_divisor => k_is); (case l_common_divisor => k_is); (case q_common_divisor => k_is); (case k_common_divisor => k_is); (case a_lowest => k_is); (case l_lowest => k_is)
    (case q_lowest => k_is); (case k_lowest => k_is); (case a_rounded_up => k_is); (case l_rounded_up => k_is); (case q_rounded_up => k_is); (case k_rounded_up => k_is)
    (case a_first_behind => k_is); (case l_first_behind => k_is); (case q_first_behind => k_is); (case k_first_behind => k_is); (case a_rows_of => k_is); (case l_rows_of => k_is)
    (case q_rows_of => k_is); (case k_rows_of => k_is); (case a_is_row => k_is); (case l_is_row => k_is); (case q_is_row => k_is); (case k_is_row => k_is)
    (case a_laid_out => k_is); (case l_laid_out => k_is); (case q_laid_out => k_is); (case k_laid_out => k_is); (case a_matches => k_is); (case l_matches => k_is)
    (case q_matches => k_is); (case k_matches => k_is); (case a_worst => k_is); (case l_worst => k_is); (case q_worst => k_is); (case k_worst => k_is)
    (case a_covers => k_is); (case l_covers => k_is); (case q_covers => k_is); (case k_covers => k_is); (case a_best_more => k_is); (case l_best_more => k_is)
    (case q_best_more => k_is); (case k_best_more => k_is); (case a_fewest => k_is); (case l_fewest => k_is); (case q_fewest => k_is); (case k_fewest => k_is)
    (case a_is_paying => k_is); (case l_is_paying => k_is); (case q_is_paying => k_is); (case k_is_paying => k_is); (case a_paid_for => k_is); (case l_paid_for => k_is)
    (case q_paid_for => k_is); (case k_paid_for => k_is); (case a_pays => k_is); (case l_pays => k_is); (case q_pays => k_is); (case k_pays => k_is)
    (case a_least_by_count => k_is); (case l_least_by_count => k_is); (case q_least_by_count => k_is); (case k_least_by_count => k_is); (case a_how_often => k_is); (case l_how_often => k_is)
    (case q_how_often => k_is); (case k_how_often => k_is); (case a_counts_without => k_is); (case l_counts_without => k_is); (case q_counts_without => k_is); (case k_counts_without => k_is)
    (case a_give_back => k_is); (case l_give_back => k_is); (case q_give_back => k_is); (case k_give_back => k_is); (case a_buy => k_is); (case l_buy => k_is)
    (case q_buy => k_is); (case k_buy => k_is); (case a_drop => k_is); (case l_drop => k_is); (case q_drop => k_is); (case k_drop => k_is)
    (case a_needed => k_is); (case l_needed => k_is); (case q_needed => k_is); (case k_needed => k_is); (case a_is_size => k_is); (case l_is_size => k_is)
    (case q_is_size => k_is); (case k_is_size => k_is); (case a_is_wheel => k_is); (case l_is_wheel => k_is); (case q_is_wheel => k_is); (case k_is_wheel => k_is)
    (case a_parts_at => k_is); (case l_parts_at => k_is); (case q_parts_at => k_is); (case k_parts_at => k_is); (case a_is_wrong_m => k_is); (case l_is_wrong_m => k_is)
    (case q_is_wrong_m => k_is); (case k_is_wrong_m => k_is); (case a_by_list => k_is); (case l_by_list => k_is); (case q_by_list => k_is); (case k_by_list => k_is)
    (case a_by_m => k_is); (case l_by_m => k_is); (case q_by_m => k_is); (case k_by_m => k_is); (case a_answers => k_is); (case l_answers => k_is)
    (case q_answers => k_is); (case k_answers => k_is); (case g_C => k_is); (case pg_C => k_is); (case hd_C => k_is); (case po_C => k_is)
    (case sa_C => k_is); (case mk_C => k_is); (case kc_C => k_is); (case no_C_n => k_is); (case no_C_k => k_is); (case no_C_t => k_is)
    (case no_C_kinds => k_is); (case no_C_draws => k_is); (case no_C_tickets => k_is); (case g_CL => k_is); (case pg_CL => k_is); (case hd_CL => k_is)
    (case po_CL => k_is); (case sa_CL => k_is); (case mk_CL => k_is); (case kc_CL => k_is); (case no_CL_wheel => k_is); (case a_C_is_full => k_is)
    (case i_C_is_full => k_is); (case l_C_is_full => k_is); (case q_C_is_full => k_is); (case k_C_is_full => k_is); (case a_C_bought => k_is); (case i_C_bought => k_is)
    (case l_C_bought => k_is); (case q_C_bought => k_is); (case k_C_bought => k_is); (case a_C_given_back => k_is); (case i_C_given_back => k_is); (case l_C_given_back => k_is)
    (case q_C_given_back => k_is); (case k_C_given_back => k_is); (case a_CL_begin => k_is); (case i_CL_begin => k_is); (case l_CL_begin => k_is); (case q_CL_begin => k_is)
    (case k_CL_begin => k_is); (case a_CL_answer => k_is); (case i_CL_answer => k_is); (case l_CL_answer => k_is); (case q_CL_answer => k_is); (case k_CL_answer => k_is)
    (case a_C_init => k_is); (case i_C_init => k_is); (case l_C_init => k_is); (case q_C_init => k_is); (case k_C_init => k_is); (case a_CL_init => k_is)
    (case i_CL_init => k_is); (case l_CL_init => k_is); (case q_CL_init => k_is); (case k_CL_init => k_is); (case v_MOST_KINDS => k_is); (case v_MOST_PRIZE => k_is)
    (case v_MOST_TICKETS => k_is); (case v_BEGIN => k_is); (case v_BUY => k_is); (case v_DROP => k_is); (case v_LOOK => k_is); (case v_MATCHES => k_is)
    (case v_WORST => k_is); (case v_COVERS => k_is); (case v_NEXT => k_is); (case v_FEWEST => k_is); (case v_NEEDED => k_is); (case v_LISTS => k_is)
    (case w_LISTS => k_is); (case v_ALONE => k_is); (case w_ALONE => k_is); (case y_max => k_is); (case y_min => k_is); (case y_len => k_is)
    (case y_range => k_is); (case y_enumerate => k_is); (case y_sum => k_is); (case y_zip => k_is); (case y_int => k_is); (case y_list => k_is)
  case S =>
    intro K H xs a hO hwi hask hx
    cases hx with
    | cons h1 h2 =>
      cases h2
      cases h1 with
      | lst hs ha =>
        have e := L2.ints_dw a.1 _ ha
        subst e
        have q : ((Codec.inLen 0 1000 a.1 && a.1.all (Codec.inInt 0 100000)) && true) = true := hwi
        rw [Bool.and_eq_true, Bool.and_eq_true] at q
        exact Wd.request hs (Codec.inNat_iff.mp q.1.1).2 (fun z hz => (Codec.inInt_iff.mp (List.all_eq_true.mp q.1.2 z hz)).1) hask
#print axioms PySem.Challenge.cw_wheeldraw_s01_answers_holds

