import PyProof.Rows.All
import PySr96
import PyFlatLaws
import Wide.All
import OpenK.AllK
import Wide.FinOn
import KE.KStateDown
import KE.OsHead
import KE.OsGo
import HandS.ForMost
import HandS.ForSpec
import HandS.Style
import HandS.Walk
import HandS.Codes
import HandS.CallLocal
import HandS.Defaults
import HandS.Head0
import HandS.Head1
import HandS.Head2
import HandS.Head4
import HandS.HeadHook1
import HandS.HeadHook2
import HandS.HeadHook3
import HandS.HeadHook4
import PySem.Challenge.RW_flourblend_s01_answers
set_option Elab.async false
set_option linter.all false
set_option maxRecDepth 100000
set_option maxHeartbeats 4000000

/-! FbMath: the plain law. No program in sight: sums, blends by rows, minima, gcd, the calls' list. -/
namespace Fb
open Sr96

/-! ### sums -/
theorem sum_from : ∀ (l : List Nat) (a : Nat), l.foldl (· + ·) a = a + SrCommon.sum l
  | [], a => rfl
  | x :: r, a => by
    show r.foldl (· + ·) (a + x) = a + r.foldl (· + ·) (0 + x)
    rw [sum_from r (a + x), sum_from r (0 + x)]
    omega
theorem sum_nil : SrCommon.sum [] = 0 := rfl
theorem sum_cons (x : Nat) (r : List Nat) : SrCommon.sum (x :: r) = x + SrCommon.sum r := by
  show r.foldl (· + ·) (0 + x) = x + SrCommon.sum r
  rw [sum_from]
  omega
theorem sum_app : ∀ l m : List Nat, SrCommon.sum (l ++ m) = SrCommon.sum l + SrCommon.sum m
  | [], m => by rw [List.nil_append, sum_nil, Nat.zero_add]
  | x :: l, m => by rw [List.cons_append, sum_cons, sum_cons, sum_app l m]; omega
theorem sum_int : ∀ l : List Nat, (l.map fun n : Nat => (n : Int)).sum = ((SrCommon.sum l : Nat) : Int)
  | [] => rfl
  | x :: r => by rw [List.map_cons, List.sum_cons, sum_int r, sum_cons]; omega
theorem total_nil (p : Bin → Nat) (x : List Nat) : total p [] x = 0 := rfl
theorem total_cons (p : Bin → Nat) (b : Bin) (bs : List Bin) (k : Nat) (x : List Nat) : total p (b :: bs) (k :: x) = p b * k + total p bs x := by
  show SrCommon.sum (p b * k :: _) = _
  rw [sum_cons]
  rfl

/-! ### bins in range -/
structure Good (b : Bin) : Prop where
  k : b.kilograms ≤ 30
  s : b.strength ≤ 999
  a : b.ash ≤ 999
  p : b.price ≤ 99
structure Goods (bs : List Bin) : Prop where
  len : bs.length ≤ 4
  all : ∀ b ∈ bs, Good b
structure ROk (r : Request) : Prop where
  n : r.kilograms ≤ 30
  lo : r.minStrength ≤ 999
  hi : r.maxStrength ≤ 999
  a : r.maxAsh ≤ 999
structure SOk (s : Store) : Prop where
  bins : Goods s.bins
  req : ROk s.request

/-! ### the tests -/
def availB (bs : List Bin) (x : List Nat) : Bool := (bs.zip x).all fun y => decide (y.2 ≤ y.1.kilograms)
def strongB (bs : List Bin) (r : Request) (n : Nat) (x : List Nat) : Bool := decide (r.minStrength * n ≤ total Bin.strength bs x)
def softB (bs : List Bin) (r : Request) (n : Nat) (x : List Nat) : Bool := decide (total Bin.strength bs x ≤ r.maxStrength * n)
def cleanB (bs : List Bin) (r : Request) (n : Nat) (x : List Nat) : Bool := decide (total Bin.ash bs x ≤ r.maxAsh * n)
def keepsB (bs : List Bin) (r : Request) (n : Nat) (x : List Nat) : Bool := strongB bs r n x && (softB bs r n x && cleanB bs r n x)
def validB (bs : List Bin) (r : Request) (n : Nat) (x : List Nat) : Bool := availB bs x && (decide (SrCommon.sum x = n) && keepsB bs r n x)
theorem keeps_within {s : Store} {r : Request} {x : List Nat} {n : Nat} (h : SrCommon.sum x = n) : isWithinBounds s r x = keepsB s.bins r n x := by
  subst h
  rfl
def validL (bs : List Bin) (r : Request) (n : Nat) : List (List Nat) := (blendsFrom bs n).filter (keepsB bs r n)

/-! ### the blends -/
structure IsBlend (bs : List Bin) (n : Nat) (x : List Nat) : Prop where
  len : x.length = bs.length
  sum : SrCommon.sum x = n
  av : availB bs x = true
theorem mem_blends : ∀ {bs : List Bin} {n : Nat} {x : List Nat}, x ∈ blendsFrom bs n → IsBlend bs n x
  | [], n, x, h => by
    have h1 : x ∈ (if n = 0 then [[]] else []) := h
    by_cases e : n = 0
    · rw [if_pos e] at h1
      have e1 : x = [] := by simpa using h1
      subst e1 e
      exact ⟨rfl, rfl, rfl⟩
    · rw [if_neg e] at h1
      cases h1
  | b :: bs, n, x, h => by
    have h1 : x ∈ ((List.range (min b.kilograms n + 1)).reverse).flatMap fun k => (blendsFrom bs (n - k)).map fun x => k :: x := h
    obtain ⟨k, hk, hx⟩ := List.mem_flatMap.mp h1
    obtain ⟨y, hy, rfl⟩ := List.mem_map.mp hx
    have hk2 : k < min b.kilograms n + 1 := List.mem_range.mp (List.mem_reverse.mp hk)
    have ih := mem_blends hy
    refine ⟨by rw [List.length_cons, List.length_cons, ih.len], by rw [sum_cons, ih.sum]; omega, ?_⟩
    show (decide (k ≤ b.kilograms) && availB bs y) = true
    rw [ih.av, decide_eq_true (by omega : k ≤ b.kilograms)]
    rfl
theorem flat_len {α β : Type} {f : α → List β} {c : Nat} : ∀ {l : List α}, (∀ x ∈ l, (f x).length ≤ c) → (l.flatMap f).length ≤ l.length * c
  | [], _ => by simp
  | x :: l, h => by
    have h1 := h x (List.mem_cons_self ..)
    have h2 := flat_len (f := f) (c := c) (l := l) fun y hy => h y (List.mem_cons_of_mem _ hy)
    rw [List.flatMap_cons, List.length_append, List.length_cons, Nat.succ_mul]
    omega
theorem blends_len : ∀ {bs : List Bin} (n : Nat), (∀ b ∈ bs, Good b) → (blendsFrom bs n).length ≤ 31 ^ bs.length
  | [], n, _ => by
    show (if n = 0 then [[]] else [] : List (List Nat)).length ≤ 1
    split <;> simp
  | b :: bs, n, h => by
    have hb := (h b (List.mem_cons_self ..)).k
    have ih := fun m => blends_len (bs := bs) m fun c hc => h c (List.mem_cons_of_mem _ hc)
    have h1 := flat_len (f := fun k => (blendsFrom bs (n - k)).map fun x => k :: x) (c := 31 ^ bs.length) (l := (List.range (min b.kilograms n + 1)).reverse) (fun k _ => by
      rw [List.length_map]
      exact ih _)
    rw [List.length_reverse, List.length_range] at h1
    refine Nat.le_trans h1 ?_
    rw [List.length_cons, Nat.pow_succ, Nat.mul_comm]
    exact Nat.mul_le_mul_left _ (by omega)
theorem blends_lid {bs : List Bin} (h : Goods bs) (n : Nat) : (blendsFrom bs n).length ≤ 923521 :=
  Nat.le_trans (blends_len n h.all) (Nat.pow_le_pow_right (by decide) h.len)

/-! ### the program's way: rows with what is left -/
abbrev Row := List Nat × Nat
def rowStep (k : Nat) (R : List Row) : List Row := R.flatMap fun r => ((List.range (min k r.2 + 1)).reverse).map fun m => (r.1 ++ [m], r.2 - m)
def rowsOf (bs : List Bin) (R : List Row) : List Row := bs.foldl (fun R b => rowStep b.kilograms R) R
def lastOf (k : Nat) (R : List Row) : List (List Nat) := (R.filter fun r => decide (r.2 ≤ k)).map fun r => r.1 ++ [r.2]
theorem blends_one (b : Bin) (n : Nat) : blendsFrom [b] n = if n ≤ b.kilograms then [[n]] else [] := by
  show (((List.range (min b.kilograms n + 1)).reverse).flatMap fun k => (if n - k = 0 then [[]] else [] : List (List Nat)).map fun x => k :: x) = _
  rw [List.range_succ, List.reverse_append, List.reverse_singleton, List.singleton_append, List.flatMap_cons]
  have rest : ((List.range (min b.kilograms n)).reverse.flatMap fun k => (if n - k = 0 then [[]] else [] : List (List Nat)).map fun x => k :: x) = [] := by
    rw [List.flatMap_eq_nil_iff]
    intro k hk
    have hk2 := List.mem_range.mp (List.mem_reverse.mp hk)
    rw [if_neg (by omega : ¬ n - k = 0)]
    rfl
  rw [rest, List.append_nil]
  by_cases h : n ≤ b.kilograms
  · rw [if_pos h, Nat.min_eq_right h, if_pos (by omega : n - n = 0)]
    rfl
  · rw [if_neg h, Nat.min_eq_left (by omega), if_neg (by omega : ¬ n - b.kilograms = 0)]
    rfl
theorem last_flat (b : Bin) : ∀ R : List Row, lastOf b.kilograms R = R.flatMap fun r => (blendsFrom [b] r.2).map fun x => r.1 ++ x
  | [] => rfl
  | r :: R => by
    have ih := last_flat b R
    rw [List.flatMap_cons, ← ih, blends_one]
    unfold lastOf
    by_cases h : r.2 ≤ b.kilograms
    · rw [List.filter_cons_of_pos (by simpa using h), if_pos h]
      rfl
    · rw [List.filter_cons_of_neg (by simpa using h), if_neg h]
      rfl
theorem rows_blends : ∀ (bs : List Bin) (b : Bin) (R : List Row), lastOf b.kilograms (rowsOf bs R) = R.flatMap fun r => (blendsFrom (bs ++ [b]) r.2).map fun x => r.1 ++ x
  | [], b, R => last_flat b R
  | c :: bs, b, R => by
    show lastOf b.kilograms (rowsOf bs (rowStep c.kilograms R)) = _
    rw [rows_blends bs b (rowStep c.kilograms R)]
    unfold rowStep
    rw [List.flatMap_assoc]
    congr 1
    funext r
    rw [List.flatMap_map]
    show _ = ((((List.range (min c.kilograms r.2 + 1)).reverse).flatMap fun k => (blendsFrom (bs ++ [b]) (r.2 - k)).map fun x => k :: x).map fun x => r.1 ++ x)
    rw [List.map_flatMap]
    congr 1
    funext k
    rw [List.map_map]
    congr 1
    funext x
    show (r.1 ++ [k]) ++ x = r.1 ++ (k :: x)
    rw [List.append_assoc]
    rfl
theorem rows_all (bs : List Bin) (b : Bin) (n : Nat) : lastOf b.kilograms (rowsOf bs [([], n)]) = blendsFrom (bs ++ [b]) n := by
  rw [rows_blends, List.flatMap_cons, List.flatMap_nil, List.append_nil]
  show (blendsFrom (bs ++ [b]) n).map (fun x => x) = _
  rw [List.map_id']
/-- how many rows there are at most -/
theorem step_len {k : Nat} (hk : k ≤ 30) (R : List Row) : (rowStep k R).length ≤ R.length * 31 :=
  flat_len fun r _ => by rw [List.length_map, List.length_reverse, List.length_range]; omega
theorem rows_len : ∀ {bs : List Bin} (R : List Row), (∀ b ∈ bs, Good b) → (rowsOf bs R).length ≤ R.length * 31 ^ bs.length
  | [], R, _ => by show R.length ≤ R.length * 31 ^ 0; omega
  | b :: bs, R, h => by
    have h1 := rows_len (bs := bs) (rowStep b.kilograms R) fun c hc => h c (List.mem_cons_of_mem _ hc)
    have h2 := step_len (h b (List.mem_cons_self ..)).k R
    refine Nat.le_trans (show (rowsOf (b :: bs) R).length ≤ (rowStep b.kilograms R).length * 31 ^ bs.length from h1) ?_
    rw [List.length_cons, Nat.pow_succ, Nat.mul_comm (31 ^ bs.length) 31, ← Nat.mul_assoc]
    exact Nat.mul_le_mul_right _ h2

/-! ### the first of the least -/
def better (m : List Nat → Int) (o : Option (List Nat)) (x : List Nat) : Option (List Nat) := match o with
  | none => some x
  | some y => if m x < m y then some x else some y
theorem min_fold (m : List Nat → Int) (l : List (List Nat)) : minimumBy m l = l.foldl (better m) none := by
  unfold minimumBy
  congr 1
theorem min_snoc (m : List Nat → Int) (l : List (List Nat)) (x : List Nat) : minimumBy m (l ++ [x]) = better m (minimumBy m l) x := by
  rw [min_fold, min_fold, List.foldl_append]
  rfl
theorem fold_min (m : List Nat → Int) : ∀ (l : List (List Nat)) (y : List Nat), ∃ z, l.foldl (better m) (some y) = some z ∧ (z = y ∨ z ∈ l) ∧ m z ≤ m y ∧ ∀ w ∈ l, m z ≤ m w
  | [], y => ⟨y, rfl, .inl rfl, Int.le_refl _, fun w hw => by cases hw⟩
  | x :: l, y => by
    by_cases h : m x < m y
    · obtain ⟨z, e, h1, h2, h3⟩ := fold_min m l x
      refine ⟨z, ?_, .inr ?_, by omega, fun w hw => ?_⟩
      · rw [List.foldl_cons]
        show l.foldl (better m) (if m x < m y then some x else some y) = some z
        rw [if_pos h, e]
      · rcases h1 with h1 | h1
        · rw [h1]; exact List.mem_cons_self ..
        · exact List.mem_cons_of_mem _ h1
      · rcases List.mem_cons.mp hw with hw | hw
        · rw [hw]; exact h2
        · exact h3 w hw
    · obtain ⟨z, e, h1, h2, h3⟩ := fold_min m l y
      refine ⟨z, ?_, ?_, h2, fun w hw => ?_⟩
      · rw [List.foldl_cons]
        show l.foldl (better m) (if m x < m y then some x else some y) = some z
        rw [if_neg h, e]
      · rcases h1 with h1 | h1
        · exact .inl h1
        · exact .inr (List.mem_cons_of_mem _ h1)
      · rcases List.mem_cons.mp hw with hw | hw
        · rw [hw]; omega
        · exact h3 w hw
theorem min_nil (m : List Nat → Int) : minimumBy m [] = none := rfl
theorem min_some (m : List Nat → Int) : ∀ {l : List (List Nat)}, l ≠ [] → ∃ z, minimumBy m l = some z ∧ z ∈ l ∧ ∀ w ∈ l, m z ≤ m w
  | [], h => absurd rfl h
  | x :: l, _ => by
    obtain ⟨z, e, h1, h2, h3⟩ := fold_min m l x
    refine ⟨z, ?_, ?_, fun w hw => ?_⟩
    · rw [min_fold, List.foldl_cons]
      exact e
    · rcases h1 with h1 | h1
      · rw [h1]; exact List.mem_cons_self ..
      · exact List.mem_cons_of_mem _ h1
    · rcases List.mem_cons.mp hw with hw | hw
      · rw [hw]; exact h2
      · exact h3 w hw

/-! ### the choice -/
def costM (bs : List Bin) (x : List Nat) : Int := ((total Bin.price bs x : Nat) : Int)
theorem valid_is {s : Store} {r : Request} : validBlends s r = validL s.bins r r.kilograms := by
  show (blendsFrom s.bins r.kilograms).filter (isWithinBounds s r) = (blendsFrom s.bins r.kilograms).filter (keepsB s.bins r r.kilograms)
  refine List.filter_congr fun x hx => ?_
  exact keeps_within (mem_blends hx).sum
theorem cheapest_is {s : Store} {r : Request} : cheapestBlend s r = minimumBy (costM s.bins) (validL s.bins r r.kilograms) := by
  show minimumBy (fun x => (cost s x : Int)) (validBlends s r) = _
  rw [valid_is]
  rfl
def obstacleN (bs : List Bin) (r : Request) (n : Nat) : Nat :=
  if blendsFrom bs n = [] then 1
  else if (blendsFrom bs n).any (strongB bs r n) = false then 2
  else if (blendsFrom bs n).any (softB bs r n) = false then 3
  else if (blendsFrom bs n).any (cleanB bs r n) = false then 4
  else if (blendsFrom bs n).any (keepsB bs r n) = false then 5
  else 0
theorem any_min {p : List Nat → Bool} {l : List (List Nat)} {z : List Nat} (hz : z ∈ l) (h : ∀ w ∈ l, p w = true → p z = true) : l.any p = p z := by
  cases e : p z with
  | true => exact List.any_eq_true.mpr ⟨z, hz, e⟩
  | false =>
    refine List.any_eq_false.mpr fun w hw q => ?_
    rw [h w hw q] at e
    cases e
theorem obstacle_is (s : Store) (r : Request) : Sr96.obstacle s r = obstacleN s.bins r r.kilograms := by
  have eb : ∀ m, blends s m = blendsFrom s.bins m := fun _ => rfl
  unfold Sr96.obstacle obstacleN strongestBlend weakestBlend purestBlend
  rw [eb]
  by_cases h0 : blendsFrom s.bins r.kilograms = []
  · rw [if_pos h0, h0]
    rfl
  · rw [if_neg h0]
    obtain ⟨x, ex, hx, mx⟩ := min_some (fun x => -(total Bin.strength s.bins x : Int)) h0
    obtain ⟨y, ey, hy, my⟩ := min_some (fun x => (total Bin.strength s.bins x : Int)) h0
    obtain ⟨z, ez, hz, mz⟩ := min_some (fun x => (total Bin.ash s.bins x : Int)) h0
    rw [ex, ey, ez]
    have sx := (mem_blends hx).sum
    have sy := (mem_blends hy).sum
    have sz := (mem_blends hz).sum
    have e1 : (blendsFrom s.bins r.kilograms).any (strongB s.bins r r.kilograms) = strongB s.bins r r.kilograms x := any_min hx fun w hw q => by
      have q1 : r.minStrength * r.kilograms ≤ total Bin.strength s.bins w := of_decide_eq_true q
      have q2 := mx w hw
      exact decide_eq_true (by omega)
    have e2 : (blendsFrom s.bins r.kilograms).any (softB s.bins r r.kilograms) = softB s.bins r r.kilograms y := any_min hy fun w hw q => by
      have q1 : total Bin.strength s.bins w ≤ r.maxStrength * r.kilograms := of_decide_eq_true q
      have q2 := my w hw
      exact decide_eq_true (by omega)
    have e3 : (blendsFrom s.bins r.kilograms).any (cleanB s.bins r r.kilograms) = cleanB s.bins r r.kilograms z := any_min hz fun w hw q => by
      have q1 : total Bin.ash s.bins w ≤ r.maxAsh * r.kilograms := of_decide_eq_true q
      have q2 := mz w hw
      exact decide_eq_true (by omega)
    have f1 : isStrongEnough s r x = strongB s.bins r r.kilograms x := by rw [← sx]; rfl
    have f2 : isWeakEnough s r y = softB s.bins r r.kilograms y := by rw [← sy]; rfl
    have f3 : isPureEnough s r z = cleanB s.bins r r.kilograms z := by rw [← sz]; rfl
    have f4 : (validBlends s r).isEmpty = !(blendsFrom s.bins r.kilograms).any (keepsB s.bins r r.kilograms) := by
      rw [valid_is]
      unfold validL
      cases e : (blendsFrom s.bins r.kilograms).any (keepsB s.bins r r.kilograms) with
      | true =>
        obtain ⟨w, hw, q⟩ := List.any_eq_true.mp e
        have hm : w ∈ (blendsFrom s.bins r.kilograms).filter (keepsB s.bins r r.kilograms) := List.mem_filter.mpr ⟨hw, q⟩
        cases e2 : (blendsFrom s.bins r.kilograms).filter (keepsB s.bins r r.kilograms) with
        | nil => rw [e2] at hm; cases hm
        | cons _ _ => rfl
      | false =>
        have h := List.any_eq_false.mp e
        rw [List.filter_eq_nil_iff.mpr fun w hw => h w hw]
        rfl
    show (if (!isStrongEnough s r x) = true then 2 else if (!isWeakEnough s r y) = true then 3 else if (!isPureEnough s r z) = true then 4 else if (validBlends s r).isEmpty = true then 5 else 0) = _
    rw [f1, f2, f3, f4, e1, e2, e3]
    cases strongB s.bins r r.kilograms x <;> cases softB s.bins r r.kilograms y <;> cases cleanB s.bins r r.kilograms z <;> cases (blendsFrom s.bins r.kilograms).any (keepsB s.bins r r.kilograms) <;> rfl

/-! ### the greatest amount -/
theorem best_fold {P : Nat → Bool} : ∀ (m : Nat), (∀ w, w < m → 1 ≤ w → P w = true) → (List.range m).foldl (fun best n => if P n = true then best else n) 0 = 0
  | 0, _ => rfl
  | m + 1, h => by
    rw [List.range_succ, List.foldl_append, best_fold m fun w hw => h w (by omega)]
    show (if P m = true then 0 else m) = 0
    by_cases e : m = 0
    · rw [e]
      split <;> rfl
    · rw [if_pos (h m (by omega) (by omega))]
theorem best_at {P : Nat → Bool} {k : Nat} (hk : P k = false) : ∀ (m : Nat), k < m → (∀ w, w < m → k < w → P w = true) → (List.range m).foldl (fun best n => if P n = true then best else n) 0 = k
  | 0, h, _ => by omega
  | m + 1, hm, h => by
    rw [List.range_succ, List.foldl_append]
    show (if P m = true then _ else m) = k
    by_cases e : m = k
    · rw [e, hk]
      rfl
    · rw [if_pos (h m (by omega) (by omega))]
      exact best_at hk m (by omega) fun w hw => h w (by omega)
theorem amount_fold (s : Store) (r : Request) : Sr96.greatestAmount s r = (List.range 31).foldl (fun best n => if (fun n => (validL s.bins r n).isEmpty) n = true then best else n) 0 := by
  unfold Sr96.greatestAmount
  congr 1
  funext best n
  rw [valid_is (s := s) (r := { r with kilograms := n })]
  rfl
theorem amount_at {s : Store} {r : Request} {k : Nat} (hk : k ≤ 30) (h : validL s.bins r k ≠ []) (ha : ∀ w, k < w → w ≤ 30 → validL s.bins r w = []) : Sr96.greatestAmount s r = k := by
  rw [amount_fold]
  refine best_at (P := fun n => (validL s.bins r n).isEmpty) ?_ 31 (by omega) fun w hw h1 => ?_
  · show (validL s.bins r k).isEmpty = false
    cases e : validL s.bins r k with
    | nil => exact absurd e h
    | cons _ _ => rfl
  · show (validL s.bins r w).isEmpty = true
    rw [ha w h1 (by omega)]
    rfl
theorem amount_zero {s : Store} {r : Request} (ha : ∀ w, 1 ≤ w → w ≤ 30 → validL s.bins r w = []) : Sr96.greatestAmount s r = 0 := by
  rw [amount_fold]
  refine best_fold (P := fun n => (validL s.bins r n).isEmpty) 31 fun w hw h1 => ?_
  show (validL s.bins r w).isEmpty = true
  rw [ha w h1 (by omega)]
  rfl

/-! ### fractions -/
def averageL (t n : Nat) : List Int := if 0 < n then [((t / Nat.gcd t n : Nat) : Int), ((n / Nat.gcd t n : Nat) : Int)] else [0, 1]
theorem average_is (t n : Nat) : Sr96.average t n = averageL t n := by
  unfold Sr96.average averageL SrFraction.encode SrFraction.mk
  have e : ((t : Int)).natAbs = t := rfl
  rw [e]
  by_cases hn : 0 < n
  · have hg : 0 < Nat.gcd t n := Nat.gcd_pos_of_pos_right t hn
    have hd : 0 < n / Nat.gcd t n := Nat.div_pos (Nat.le_of_dvd hn (Nat.gcd_dvd_right t n)) hg
    rw [if_pos hn]
    simp only [if_neg (Nat.ne_of_gt hg), if_neg (Nat.ne_of_gt hd)]
    rfl
  · have e0 : n = 0 := by omega
    subst e0
    rw [if_neg hn, Nat.gcd_zero_right]
    by_cases ht : t = 0
    · simp only [if_pos ht]
      rfl
    · simp only [if_neg ht, Nat.zero_div, if_true]
      rfl
end Fb

/-! FbSteps: one call of the document, in the form in which the program decides it. Plain Lean. -/
namespace Fb
open Sr96 SrCommon
/-- a call as the document's row: 8 and 9 have a list, the others numbers -/
def mkc (j : Int) (ns is : List Int) : List (List Int) := if j = 8 ∨ j = 9 then [[j], is] else [j :: ns]
def out1 (s : Store) (c : Call) : Option Store × List Int := (some ((perform s c).1.getD s), (perform s c).2.code :: (perform s c).2.values)
theorem out_of {s : Store} {c : Call} {o : Option Store} {r : Result} (h : perform s c = (o, r)) : out1 s c = (some (o.getD s), r.code :: r.values) := by
  unfold out1
  rw [h]
theorem step_some (s : Store) (c : Call) (h : c ≠ .create) : ((Sr96.step (some s) c).1, (Sr96.step (some s) c).2.code :: (Sr96.step (some s) c).2.values) = out1 s c := by
  have e : Sr96.step (some s) c = match perform s c with
    | (some changed, result) => (some changed, result)
    | (none, result) => (some s, result) := by
    cases c <;> first | rfl | exact absurd rfl h
  rw [e]
  unfold out1
  cases perform s c with
  | mk o r => cases o <;> rfl
section
variable (s : Store) (a b c d : Int) (is : List Int)
theorem st1 : Sr96Neutral.step (some s) (mkc 1 [a, b, c, d] is) = out1 s (.addBin a b c d) := step_some s _ (by intro h; cases h)
theorem st2 : Sr96Neutral.step (some s) (mkc 2 [a, b] is) = out1 s (.addFlour a b) := step_some s _ (by intro h; cases h)
theorem st3 : Sr96Neutral.step (some s) (mkc 3 [a, b] is) = out1 s (.setPrice a b) := step_some s _ (by intro h; cases h)
theorem st4 : Sr96Neutral.step (some s) (mkc 4 [a] is) = out1 s (.emptyBin a) := step_some s _ (by intro h; cases h)
theorem st5 : Sr96Neutral.step (some s) (mkc 5 [a, b, c, d] is) = out1 s (.setRequest a b c d) := step_some s _ (by intro h; cases h)
theorem st6 : Sr96Neutral.step (some s) (mkc 6 [] is) = out1 s .cheapestBlend := step_some s _ (by intro h; cases h)
theorem st7 : Sr96Neutral.step (some s) (mkc 7 [] is) = out1 s .makeCheapestBlend := step_some s _ (by intro h; cases h)
theorem st8 : Sr96Neutral.step (some s) (mkc 8 [] is) = out1 s (.makeBlend is) := step_some s _ (by intro h; cases h)
theorem st9 : Sr96Neutral.step (some s) (mkc 9 [] is) = out1 s (.checkBlend is) := step_some s _ (by intro h; cases h)
theorem st10 : Sr96Neutral.step (some s) (mkc 10 [] is) = out1 s .countBlends := step_some s _ (by intro h; cases h)
theorem st11 : Sr96Neutral.step (some s) (mkc 11 [] is) = out1 s .greatestAmount := step_some s _ (by intro h; cases h)
theorem st12 : Sr96Neutral.step (some s) (mkc 12 [a] is) = out1 s (.extremeAverages a) := step_some s _ (by intro h; cases h)
theorem st13 : Sr96Neutral.step (some s) (mkc 13 [] is) = out1 s .obstacle := step_some s _ (by intro h; cases h)
theorem st14 : Sr96Neutral.step (some s) (mkc 14 [a, b] is) = out1 s (.cheapestIfPrice a b) := step_some s _ (by intro h; cases h)
theorem st15 : Sr96Neutral.step (some s) (mkc 15 [a] is) = out1 s (.cheapestWithout a) := step_some s _ (by intro h; cases h)
theorem st16 : Sr96Neutral.step (some s) (mkc 16 [] is) = out1 s .describe := step_some s _ (by intro h; cases h)
end
/-! ### what each call does -/
def flourB (k st a p : Int) : Bool := inRange k 0 30 && (inRange st 1 999 && (inRange a 0 999 && inRange p 1 99))
section
variable (s : Store)
theorem o1 (k st a p : Int) : out1 s (.addBin k st a p) = if flourB k st a p = false then (some s, [-22]) else if s.bins.length = 4 ∨ 4 < s.bins.length then (some s, [-28]) else
    (some { s with bins := s.bins ++ [⟨k.toNat, st.toNat, a.toNat, p.toNat⟩] }, [(s.bins.length : Int)]) := by
  unfold flourB
  by_cases h : inRange k 0 maxKilograms = false ∨ inRange st 1 999 = false ∨ inRange a 0 999 = false ∨ isPrice p = false
  · rw [out_of (show perform s (.addBin k st a p) = (none, .ofCode (-22)) from if_pos h)]
    have e : (inRange k 0 30 && (inRange st 1 999 && (inRange a 0 999 && inRange p 1 99))) = false := by
      rcases h with h | h | h | h
      · rw [show inRange k 0 30 = false from h]
        rfl
      · rw [h]
        simp
      · rw [h]
        simp
      · rw [show inRange p 1 99 = false from h]
        simp
    rw [if_pos e]
    rfl
  · have h0 : perform s (.addBin k st a p) = if maxBins ≤ s.bins.length then (none, .ofCode (-28)) else (some { s with bins := s.bins ++ [⟨k.toNat, st.toNat, a.toNat, p.toNat⟩] }, countResult s.bins.length) := if_neg h
    have e : ¬ (inRange k 0 30 && (inRange st 1 999 && (inRange a 0 999 && inRange p 1 99))) = false := fun z => h (by
      cases e1 : inRange k 0 30 with
      | false => exact .inl e1
      | true =>
        cases e2 : inRange st 1 999 with
        | false => exact .inr (.inl rfl)
        | true =>
          cases e3 : inRange a 0 999 with
          | false => exact .inr (.inr (.inl rfl))
          | true =>
            cases e4 : inRange p 1 99 with
            | false => exact .inr (.inr (.inr e4))
            | true =>
              rw [e1, e2, e3, e4] at z
              cases z)
    rw [if_neg e]
    by_cases h4 : maxBins ≤ s.bins.length
    · rw [out_of (h0.trans (if_pos h4)), if_pos (by unfold maxBins at h4; omega)]
      rfl
    · rw [out_of (h0.trans (if_neg h4)), if_neg (by unfold maxBins at h4; omega)]
      rfl
theorem o2 (i k : Int) : out1 s (.addFlour i k) = if isBin s i = false then (some s, [-2]) else if k < 1 ∨ 30 < ((binAt s i.toNat).kilograms : Int) + k then (some s, [-22]) else
    (some (withBin s i.toNat { binAt s i.toNat with kilograms := (binAt s i.toNat).kilograms + k.toNat }), [(((binAt s i.toNat).kilograms + k.toNat : Nat) : Int)]) := by
  by_cases h : isBin s i = false
  · rw [out_of (show perform s (.addFlour i k) = (none, .ofCode (-2)) from if_pos h), if_pos h]
    rfl
  · rw [if_neg h]
    by_cases h2 : k < 1 ∨ (maxKilograms : Int) < ((binAt s i.toNat).kilograms : Int) + k
    · rw [out_of (show perform s (.addFlour i k) = (none, .ofCode (-22)) from (if_neg h).trans (if_pos h2)), if_pos (show k < 1 ∨ 30 < ((binAt s i.toNat).kilograms : Int) + k from h2)]
      rfl
    · rw [out_of (show perform s (.addFlour i k) = (some (withBin s i.toNat { binAt s i.toNat with kilograms := (binAt s i.toNat).kilograms + k.toNat }), countResult ((binAt s i.toNat).kilograms + k.toNat)) from (if_neg h).trans (if_neg h2)), if_neg (show ¬ (k < 1 ∨ 30 < ((binAt s i.toNat).kilograms : Int) + k) from h2)]
      rfl
theorem o3 (i p : Int) : out1 s (.setPrice i p) = if isBin s i = false then (some s, [-2]) else if inRange p 1 99 = false then (some s, [-22]) else
    (some (withBin s i.toNat { binAt s i.toNat with price := p.toNat }), [((binAt s i.toNat).price : Int)]) := by
  by_cases h : isBin s i = false
  · rw [out_of (show perform s (.setPrice i p) = (none, .ofCode (-2)) from if_pos h), if_pos h]
    rfl
  · rw [if_neg h]
    by_cases h2 : isPrice p = false
    · rw [out_of (show perform s (.setPrice i p) = (none, .ofCode (-22)) from (if_neg h).trans (if_pos h2)), if_pos (show inRange p 1 99 = false from h2)]
      rfl
    · rw [out_of (show perform s (.setPrice i p) = (some (withBin s i.toNat { binAt s i.toNat with price := p.toNat }), countResult (binAt s i.toNat).price) from (if_neg h).trans (if_neg h2)), if_neg (show ¬ inRange p 1 99 = false from h2)]
      rfl
theorem o4 (i : Int) : out1 s (.emptyBin i) = if isBin s i = false then (some s, [-2]) else
    (some (withBin s i.toNat { binAt s i.toNat with kilograms := 0 }), [((binAt s i.toNat).kilograms : Int)]) := by
  by_cases h : isBin s i = false
  · rw [out_of (show perform s (.emptyBin i) = (none, .ofCode (-2)) from if_pos h), if_pos h]
    rfl
  · rw [out_of (show perform s (.emptyBin i) = (some (withBin s i.toNat { binAt s i.toNat with kilograms := 0 }), countResult (binAt s i.toNat).kilograms) from if_neg h), if_neg h]
    rfl
def reqB (n lo hi a : Int) : Bool := inRange n 1 30 && ((decide (0 ≤ lo) && (decide (lo ≤ hi) && decide (hi ≤ 999))) && inRange a 0 999)
theorem o5 (n lo hi a : Int) : out1 s (.setRequest n lo hi a) = if reqB n lo hi a = false then (some s, [-22]) else
    (some { s with request := ⟨n.toNat, lo.toNat, hi.toNat, a.toNat⟩ }, [0]) := by
  by_cases h : inRange n 1 maxKilograms = false ∨ lo < 0 ∨ hi < lo ∨ 999 < hi ∨ inRange a 0 999 = false
  · rw [out_of (show perform s (.setRequest n lo hi a) = (none, .ofCode (-22)) from if_pos h)]
    have e : reqB n lo hi a = false := by
      unfold reqB
      rcases h with h | h | h | h | h
      · rw [show inRange n 1 30 = false from h]
        rfl
      · rw [decide_eq_false (by omega : ¬ 0 ≤ lo)]
        simp
      · rw [decide_eq_false (by omega : ¬ lo ≤ hi)]
        simp
      · rw [decide_eq_false (by omega : ¬ hi ≤ 999)]
        simp
      · rw [h]
        simp
    rw [if_pos e]
    rfl
  · rw [out_of (show perform s (.setRequest n lo hi a) = (some { s with request := ⟨n.toNat, lo.toNat, hi.toNat, a.toNat⟩ }, .ofCode 0) from if_neg h)]
    have e : ¬ reqB n lo hi a = false := fun z => h (by
      unfold reqB at z
      by_cases h1 : inRange n 1 30 = false
      · exact .inl h1
      by_cases h2 : lo < 0
      · exact .inr (.inl h2)
      by_cases h3 : hi < lo
      · exact .inr (.inr (.inl h3))
      by_cases h4 : 999 < hi
      · exact .inr (.inr (.inr (.inl h4)))
      by_cases h5 : inRange a 0 999 = false
      · exact .inr (.inr (.inr (.inr h5)))
      rw [Bool.not_eq_false] at h1 h5
      rw [h1, h5, decide_eq_true (by omega : 0 ≤ lo), decide_eq_true (by omega : lo ≤ hi), decide_eq_true (by omega : hi ≤ 999)] at z
      cases z)
    rw [if_neg e]
    rfl
/-- what told_blend tells -/
def toldL (bs : List Bin) : Option (List Nat) → List Int
  | none => [-33]
  | some x => costM bs x :: x.map fun n : Nat => (n : Int)
theorem told_is (o : Option (List Nat)) : (blendResult s o).code :: (blendResult s o).values = toldL s.bins o := by
  cases o <;> rfl
theorem o6 : out1 s .cheapestBlend = (some s, toldL s.bins (minimumBy (costM s.bins) (validL s.bins s.request s.request.kilograms))) := by
  rw [← cheapest_is, ← told_is]
  rfl
theorem o7 : out1 s .makeCheapestBlend = match minimumBy (costM s.bins) (validL s.bins s.request s.request.kilograms) with
    | none => (some s, [-33])
    | some x => (some (takeBlend s x), toldL s.bins (some x)) := by
  rw [← cheapest_is]
  have e : perform s .makeCheapestBlend = match Sr96.cheapestBlend s s.request with
    | none => (none, .ofCode (-33))
    | some x => (some (takeBlend s x), blendResult s (some x)) := rfl
  cases h : Sr96.cheapestBlend s s.request with
  | none =>
    rw [h] at e
    rw [out_of e]
    rfl
  | some x =>
    rw [h] at e
    rw [out_of e]
    rfl
/-- a list of whole numbers from 0 on as naturals -/
theorem toNats {is : List Int} (h : ∀ i ∈ is, 0 ≤ i) : is = (intsToNats is).map fun n : Nat => (n : Int) := by
  unfold intsToNats
  rw [List.map_map]
  have e : is.map (fun i => i) = is := List.map_id' is
  conv => lhs; rw [← e]
  refine List.map_congr_left fun i hi => ?_
  show i = ((i.toNat : Nat) : Int)
  have := h i hi
  omega
theorem blend_pos {is : List Int} (h : isBlend s is = true) : (∀ i ∈ is, 0 ≤ i) ∧ (∀ i ∈ is, i ≤ 30) ∧ is.length = s.bins.length := by
  unfold isBlend at h
  obtain ⟨h1, h2⟩ := Bool.and_eq_true_iff.mp h
  have h3 := List.all_eq_true.mp h2
  refine ⟨fun i hi => ?_, fun i hi => ?_, of_decide_eq_true h1⟩
  · exact of_decide_eq_true (Bool.and_eq_true_iff.mp (h3 i hi)).1
  · exact of_decide_eq_true (Bool.and_eq_true_iff.mp (h3 i hi)).2
theorem avail_is {x : List Nat} (h : x.length = s.bins.length) : isAvailable s x = availB s.bins x := by
  unfold isAvailable availB
  rw [decide_eq_true h]
  rfl
theorem o8 (is : List Int) : out1 s (.makeBlend is) = if isBlend s is = false then (some s, [-22]) else if availB s.bins (intsToNats is) = false then (some s, [-6])
    else if validB s.bins s.request s.request.kilograms (intsToNats is) = false then (some s, [-33]) else (some (takeBlend s (intsToNats is)), [costM s.bins (intsToNats is)]) := by
  by_cases h : isBlend s is = false
  · rw [out_of (show perform s (.makeBlend is) = (none, .ofCode (-22)) from if_pos h), if_pos h]
    rfl
  · have h0 : perform s (.makeBlend is) = if isAvailable s (intsToNats is) = false then (none, .ofCode (-6)) else if SrCommon.sum (intsToNats is) ≠ s.request.kilograms ∨ isWithinBounds s s.request (intsToNats is) = false then (none, .ofCode (-33)) else (some (takeBlend s (intsToNats is)), countResult (cost s (intsToNats is))) := if_neg h
    rw [if_neg h]
    have hl : (intsToNats is).length = s.bins.length := by
      unfold intsToNats
      rw [List.length_map]
      exact (blend_pos s (by simpa using h)).2.2
    rw [avail_is s hl] at h0
    by_cases h2 : availB s.bins (intsToNats is) = false
    · rw [out_of (h0.trans (if_pos h2)), if_pos h2]
      rfl
    · rw [if_neg h2] at h0 ⊢
      rw [Bool.not_eq_false] at h2
      by_cases h3 : SrCommon.sum (intsToNats is) = s.request.kilograms
      · rw [keeps_within h3] at h0
        unfold validB
        rw [h2, decide_eq_true h3]
        by_cases h4 : keepsB s.bins s.request s.request.kilograms (intsToNats is) = false
        · rw [out_of (h0.trans (if_pos (.inr h4))), h4]
          rfl
        · rw [out_of (h0.trans (if_neg (fun z => z.elim (fun y => y h3) h4)))]
          rw [Bool.not_eq_false] at h4
          rw [h4]
          rfl
      · rw [out_of (h0.trans (if_pos (.inl h3)))]
        unfold validB
        rw [decide_eq_false h3, h2]
        rfl
theorem o9 (is : List Int) : out1 s (.checkBlend is) = (some s, if isBlend s is = false then [-22] else
    boolToInt (validB s.bins s.request s.request.kilograms (intsToNats is)) :: ((SrCommon.sum (intsToNats is) : Nat) : Int) ::
      (averageL (total Bin.strength s.bins (intsToNats is)) (SrCommon.sum (intsToNats is)) ++ averageL (total Bin.ash s.bins (intsToNats is)) (SrCommon.sum (intsToNats is)) ++ [costM s.bins (intsToNats is)])) := by
  have h0 : out1 s (.checkBlend is) = (some s, (if isBlend s is = false then Result.ofCode (-22) else (⟨boolToInt (isAvailable s (intsToNats is) && (decide (SrCommon.sum (intsToNats is) = s.request.kilograms) && isWithinBounds s s.request (intsToNats is))), ((SrCommon.sum (intsToNats is) : Nat) : Int) :: (Sr96.average (total Bin.strength s.bins (intsToNats is)) (SrCommon.sum (intsToNats is)) ++ Sr96.average (total Bin.ash s.bins (intsToNats is)) (SrCommon.sum (intsToNats is)) ++ [(cost s (intsToNats is) : Int)])⟩ : Result)).code :: (if isBlend s is = false then Result.ofCode (-22) else (⟨boolToInt (isAvailable s (intsToNats is) && (decide (SrCommon.sum (intsToNats is) = s.request.kilograms) && isWithinBounds s s.request (intsToNats is))), ((SrCommon.sum (intsToNats is) : Nat) : Int) :: (Sr96.average (total Bin.strength s.bins (intsToNats is)) (SrCommon.sum (intsToNats is)) ++ Sr96.average (total Bin.ash s.bins (intsToNats is)) (SrCommon.sum (intsToNats is)) ++ [(cost s (intsToNats is) : Int)])⟩ : Result)).values) := by
    rw [List.append_assoc]
    rfl
  rw [h0]
  by_cases h : isBlend s is = false
  · rw [if_pos h, if_pos h]
    rfl
  · rw [if_neg h, if_neg h]
    have hl : (intsToNats is).length = s.bins.length := by
      unfold intsToNats
      rw [List.length_map]
      exact (blend_pos s (by simpa using h)).2.2
    show (some s, boolToInt (isAvailable s (intsToNats is) && (decide (SrCommon.sum (intsToNats is) = s.request.kilograms) && isWithinBounds s s.request (intsToNats is))) :: _ :: (Sr96.average _ _ ++ Sr96.average _ _ ++ _)) = _
    rw [average_is, average_is, avail_is s hl]
    congr 3
    unfold validB
    by_cases h3 : SrCommon.sum (intsToNats is) = s.request.kilograms
    · rw [keeps_within h3]
    · rw [decide_eq_false h3]
      rfl
theorem o10 : out1 s .countBlends = (some s, [((blendsFrom s.bins s.request.kilograms).length : Int), ((validL s.bins s.request s.request.kilograms).length : Int)]) := by
  rw [← valid_is]
  rfl
theorem o11 {k : Nat} (h : (k ≤ 30 ∧ validL s.bins s.request k ≠ [] ∧ ∀ m, k < m → m ≤ 30 → validL s.bins s.request m = []) ∨ (k = 0 ∧ ∀ m, 1 ≤ m → m ≤ 30 → validL s.bins s.request m = [])) :
    out1 s .greatestAmount = (some s, [(k : Int)]) := by
  have e : Sr96.greatestAmount s s.request = k := by
    rcases h with ⟨h1, h2, h3⟩ | ⟨h1, h2⟩
    · exact amount_at h1 h2 h3
    · rw [h1]
      exact amount_zero h2
  rw [out_of (show perform s .greatestAmount = (none, countResult (Sr96.greatestAmount s s.request)) from rfl), e]
  rfl
theorem o12_bad {n : Int} (h : inRange n 1 30 = false) : out1 s (.extremeAverages n) = (some s, [-22]) := by
  have e : perform s (.extremeAverages n) = (none, .ofCode (-22)) := congrArg (fun r => (none, r)) (if_pos h)
  rw [out_of e]
  rfl
theorem o12_none {n : Nat} (h : inRange (n : Int) 1 30 = true) (h0 : blendsFrom s.bins n = []) : out1 s (.extremeAverages n) = (some s, [-33]) := by
  have e : ∀ m, minimumBy m (blends s n) = none := fun m => by
    show minimumBy m (blendsFrom s.bins n) = none
    rw [h0]
    rfl
  have e2 : perform s (.extremeAverages n) = (none, .ofCode (-33)) := congrArg (fun r => (none, r)) ((if_neg (show ¬ inRange (n : Int) 1 maxKilograms = false by rw [show inRange (n : Int) 1 maxKilograms = true from h]; decide)).trans (by
    show (match weakestBlend s n, strongestBlend s n, purestBlend s n with
      | some x, some y, some z => _
      | _, _, _ => _) = _
    unfold weakestBlend
    rw [e]
    rfl))
  rw [out_of e2]
  rfl
theorem o12_some {n : Nat} {m1 m2 m3 : Nat} (h : inRange (n : Int) 1 30 = true) (h0 : blendsFrom s.bins n ≠ [])
    (a1 : m1 ∈ (blendsFrom s.bins n).map (total Bin.strength s.bins)) (b1 : ∀ y ∈ (blendsFrom s.bins n).map (total Bin.strength s.bins), m1 ≤ y)
    (a2 : m2 ∈ (blendsFrom s.bins n).map (total Bin.strength s.bins)) (b2 : ∀ y ∈ (blendsFrom s.bins n).map (total Bin.strength s.bins), y ≤ m2)
    (a3 : m3 ∈ (blendsFrom s.bins n).map (total Bin.ash s.bins)) (b3 : ∀ y ∈ (blendsFrom s.bins n).map (total Bin.ash s.bins), m3 ≤ y) :
    out1 s (.extremeAverages n) = (some s, [0] ++ averageL m1 n ++ averageL m2 n ++ averageL m3 n) := by
  obtain ⟨x, ex, hx, mx⟩ := min_some (fun x => -(total Bin.strength s.bins x : Int)) h0
  obtain ⟨y, ey, hy, my⟩ := min_some (fun x => (total Bin.strength s.bins x : Int)) h0
  obtain ⟨z, ez, hz, mz⟩ := min_some (fun x => (total Bin.ash s.bins x : Int)) h0
  have e1 : total Bin.strength s.bins y = m1 := by
    obtain ⟨w, hw, rfl⟩ := List.mem_map.mp a1
    have h1 := my w hw
    have h2 := b1 _ (List.mem_map_of_mem hy)
    omega
  have e2 : total Bin.strength s.bins x = m2 := by
    obtain ⟨w, hw, rfl⟩ := List.mem_map.mp a2
    have h1 := mx w hw
    have h2 := b2 _ (List.mem_map_of_mem hx)
    omega
  have e3 : total Bin.ash s.bins z = m3 := by
    obtain ⟨w, hw, rfl⟩ := List.mem_map.mp a3
    have h1 := mz w hw
    have h2 := b3 _ (List.mem_map_of_mem hz)
    omega
  have f1 : weakestBlend s n = some y := ey
  have f2 : strongestBlend s n = some x := ex
  have f3 : purestBlend s n = some z := ez
  have e4 : perform s (.extremeAverages n) = (none, ⟨0, Sr96.average (total Bin.strength s.bins y) n ++ Sr96.average (total Bin.strength s.bins x) n ++ Sr96.average (total Bin.ash s.bins z) n⟩) := congrArg (fun r => (none, r)) ((if_neg (show ¬ inRange (n : Int) 1 maxKilograms = false by rw [show inRange (n : Int) 1 maxKilograms = true from h]; decide)).trans (by
    show (match weakestBlend s n, strongestBlend s n, purestBlend s n with
      | some x, some y, some z => _
      | _, _, _ => _) = _
    rw [f1, f2, f3]
    rfl))
  rw [out_of e4]
  simp only [e1, e2, e3, average_is]
  simp
theorem o13 : out1 s .obstacle = (some s, [(obstacleN s.bins s.request s.request.kilograms : Int)]) := by
  rw [← obstacle_is]
  rfl
theorem o14 (i p : Int) : out1 s (.cheapestIfPrice i p) = (some s, if isBin s i = false then [-2] else if inRange p 1 99 = false then [-22] else
    toldL (withBin s i.toNat { binAt s i.toNat with price := p.toNat }).bins (minimumBy (costM (withBin s i.toNat { binAt s i.toNat with price := p.toNat }).bins) (validL (withBin s i.toNat { binAt s i.toNat with price := p.toNat }).bins s.request s.request.kilograms))) := by
  by_cases h : isBin s i = false
  · rw [out_of (show perform s (.cheapestIfPrice i p) = (none, .ofCode (-2)) from congrArg (fun r => (none, r)) (if_pos h)), if_pos h]
    rfl
  · rw [if_neg h]
    by_cases h2 : isPrice p = false
    · rw [out_of (show perform s (.cheapestIfPrice i p) = (none, .ofCode (-22)) from congrArg (fun r => (none, r)) ((if_neg h).trans (if_pos h2))), if_pos (show inRange p 1 99 = false from h2)]
      rfl
    · rw [out_of (show perform s (.cheapestIfPrice i p) = (none, blendResult (withBin s i.toNat { binAt s i.toNat with price := p.toNat }) (Sr96.cheapestBlend (withBin s i.toNat { binAt s i.toNat with price := p.toNat }) s.request)) from congrArg (fun r => (none, r)) ((if_neg h).trans (if_neg h2))), if_neg (show ¬ inRange p 1 99 = false from h2)]
      show (some s, (blendResult _ _).code :: (blendResult _ _).values) = _
      rw [told_is, cheapest_is]
theorem o15 (i : Int) : out1 s (.cheapestWithout i) = (some s, if isBin s i = false then [-2] else
    toldL (withBin s i.toNat { binAt s i.toNat with kilograms := 0 }).bins (minimumBy (costM (withBin s i.toNat { binAt s i.toNat with kilograms := 0 }).bins) (validL (withBin s i.toNat { binAt s i.toNat with kilograms := 0 }).bins s.request s.request.kilograms))) := by
  by_cases h : isBin s i = false
  · rw [out_of (show perform s (.cheapestWithout i) = (none, .ofCode (-2)) from congrArg (fun r => (none, r)) (if_pos h)), if_pos h]
    rfl
  · rw [out_of (show perform s (.cheapestWithout i) = (none, blendResult (withBin s i.toNat { binAt s i.toNat with kilograms := 0 }) (Sr96.cheapestBlend (withBin s i.toNat { binAt s i.toNat with kilograms := 0 }) s.request)) from congrArg (fun r => (none, r)) (if_neg h)), if_neg h]
    show (some s, (blendResult _ _).code :: (blendResult _ _).values) = _
    rw [told_is, cheapest_is]
def binL (b : Bin) : List Int := [(b.kilograms : Int), (b.strength : Int), (b.ash : Int), (b.price : Int)]
theorem o16 : out1 s .describe = (some s, ([(s.bins.length : Int)] ++ s.bins.flatMap binL) ++ [(s.request.kilograms : Int)] ++ [(s.request.minStrength : Int), (s.request.maxStrength : Int), (s.request.maxAsh : Int)] ++ [(s.spent : Int)]) := by
  show (some s, (s.bins.length : Int) :: ((s.bins.flatMap binL) ++ _)) = _
  simp
end
end Fb

/-! FbCalls: the list of calls, as the document reads it. Plain Lean. -/
namespace Fb
open PyFlat
/-- how many whole numbers a call has -/
def wid (j : Nat) : Nat := [0, 4, 2, 2, 1, 4, 0, 0, 0, 0, 0, 0, 1, 0, 2, 1, 0].getD j 0
def listed (j : Nat) : Prop := j = 8 ∨ j = 9
instance (j : Nat) : Decidable (listed j) := inferInstanceAs (Decidable (j = 8 ∨ j = 9))
theorem shape_some {p : Int} {n k : Nat} (h : PySr96.shape p = some (n, k)) : ∃ j : Nat, p = (j : Int) ∧ j ≤ 16 ∧ n = wid j ∧ ((listed j ∧ k = 1) ∨ (¬ listed j ∧ k = 0)) := by
  unfold PySr96.shape at h
  by_cases e0 : p = 0
  · rw [if_pos e0] at h
    cases h
    exact ⟨0, e0, by decide, rfl, .inr ⟨by decide, rfl⟩⟩
  rw [if_neg e0] at h
  by_cases e1 : p = 1
  · rw [if_pos e1] at h
    cases h
    exact ⟨1, e1, by decide, rfl, .inr ⟨by decide, rfl⟩⟩
  rw [if_neg e1] at h
  by_cases e2 : p = 2
  · rw [if_pos e2] at h
    cases h
    exact ⟨2, e2, by decide, rfl, .inr ⟨by decide, rfl⟩⟩
  rw [if_neg e2] at h
  by_cases e3 : p = 3
  · rw [if_pos e3] at h
    cases h
    exact ⟨3, e3, by decide, rfl, .inr ⟨by decide, rfl⟩⟩
  rw [if_neg e3] at h
  by_cases e4 : p = 4
  · rw [if_pos e4] at h
    cases h
    exact ⟨4, e4, by decide, rfl, .inr ⟨by decide, rfl⟩⟩
  rw [if_neg e4] at h
  by_cases e5 : p = 5
  · rw [if_pos e5] at h
    cases h
    exact ⟨5, e5, by decide, rfl, .inr ⟨by decide, rfl⟩⟩
  rw [if_neg e5] at h
  by_cases e6 : p = 6
  · rw [if_pos e6] at h
    cases h
    exact ⟨6, e6, by decide, rfl, .inr ⟨by decide, rfl⟩⟩
  rw [if_neg e6] at h
  by_cases e7 : p = 7
  · rw [if_pos e7] at h
    cases h
    exact ⟨7, e7, by decide, rfl, .inr ⟨by decide, rfl⟩⟩
  rw [if_neg e7] at h
  by_cases e8 : p = 8
  · rw [if_pos e8] at h
    cases h
    exact ⟨8, e8, by decide, rfl, .inl ⟨by decide, rfl⟩⟩
  rw [if_neg e8] at h
  by_cases e9 : p = 9
  · rw [if_pos e9] at h
    cases h
    exact ⟨9, e9, by decide, rfl, .inl ⟨by decide, rfl⟩⟩
  rw [if_neg e9] at h
  by_cases e10 : p = 10
  · rw [if_pos e10] at h
    cases h
    exact ⟨10, e10, by decide, rfl, .inr ⟨by decide, rfl⟩⟩
  rw [if_neg e10] at h
  by_cases e11 : p = 11
  · rw [if_pos e11] at h
    cases h
    exact ⟨11, e11, by decide, rfl, .inr ⟨by decide, rfl⟩⟩
  rw [if_neg e11] at h
  by_cases e12 : p = 12
  · rw [if_pos e12] at h
    cases h
    exact ⟨12, e12, by decide, rfl, .inr ⟨by decide, rfl⟩⟩
  rw [if_neg e12] at h
  by_cases e13 : p = 13
  · rw [if_pos e13] at h
    cases h
    exact ⟨13, e13, by decide, rfl, .inr ⟨by decide, rfl⟩⟩
  rw [if_neg e13] at h
  by_cases e14 : p = 14
  · rw [if_pos e14] at h
    cases h
    exact ⟨14, e14, by decide, rfl, .inr ⟨by decide, rfl⟩⟩
  rw [if_neg e14] at h
  by_cases e15 : p = 15
  · rw [if_pos e15] at h
    cases h
    exact ⟨15, e15, by decide, rfl, .inr ⟨by decide, rfl⟩⟩
  rw [if_neg e15] at h
  by_cases e16 : p = 16
  · rw [if_pos e16] at h
    cases h
    exact ⟨16, e16, by decide, rfl, .inr ⟨by decide, rfl⟩⟩
  rw [if_neg e16] at h
  cases h
theorem mkc_listed {j : Nat} (h : listed j) (ns is : List Int) : mkc (j : Int) ns is = [[(j : Int)], is] := if_pos (h.imp (fun e => by rw [e]; rfl) fun e => by rw [e]; rfl)
theorem mkc_plain {j : Nat} (h : ¬ listed j) (ns is : List Int) : mkc (j : Int) ns is = [(j : Int) :: ns] := if_neg fun z => h (z.imp (fun e => by omega) fun e => by omega)
theorem wid_listed {j : Nat} (h : listed j) : wid j = 0 := by
  rcases h with h | h <;> rw [h] <;> rfl
theorem call_form {c : List (List Int)} (h : okCall PySr96.shape c) : ∃ (j : Nat) (ns is : List Int), c = mkc (j : Int) ns is ∧ j ≤ 16 ∧ ns.length = wid j ∧ (listed j → put1 c = (j : Int) :: (is.length : Int) :: is) ∧ (¬ listed j → is = [] ∧ put1 c = (j : Int) :: ns) := by
  obtain ⟨p, a, xs, rfl, hs⟩ := h
  obtain ⟨j, rfl, hj, hn, hk⟩ := shape_some hs
  rcases hk with ⟨h1, h2⟩ | ⟨h1, h2⟩
  · have ha : a = [] := List.length_eq_zero_iff.mp (hn.trans (wid_listed h1))
    subst ha
    obtain ⟨r, rfl⟩ : ∃ r, xs = [r] := match xs, h2 with
      | [r], _ => ⟨r, rfl⟩
    refine ⟨j, [], r, (mkc_listed h1 [] r).symm, hj, hn, fun _ => ?_, fun z => absurd h1 z⟩
    show (j : Int) :: ((r.length : Int) :: r ++ []) = _
    rw [List.append_nil]
  · have hx : xs = [] := List.length_eq_zero_iff.mp h2
    subst hx
    refine ⟨j, a, [], (mkc_plain h1 a []).symm, hj, hn, fun z => absurd z h1, fun _ => ⟨rfl, ?_⟩⟩
    show (j : Int) :: a ++ [] = _
    rw [List.append_nil]
theorem whole_id (c : List (List Int)) : PySr96.whole c = c := by
  unfold PySr96.whole
  split <;> rfl
theorem step_zero (st : Sr96.State) (is : List Int) : Sr96Neutral.step st (mkc 0 [] is) = (some ⟨[], ⟨1, 0, 999, 999⟩, 0⟩, [0]) := rfl
theorem step_none : ∀ {j : Nat} {ns : List Int} (is : List Int), 1 ≤ j → j ≤ 16 → ns.length = wid j → Sr96Neutral.step none (mkc (j : Int) ns is) = (none, [-11])
  | 1, [a, b, c, d], is, _, _, _ => rfl
  | 2, [a, b], is, _, _, _ => rfl
  | 3, [a, b], is, _, _, _ => rfl
  | 4, [a], is, _, _, _ => rfl
  | 5, [a, b, c, d], is, _, _, _ => rfl
  | 6, [], is, _, _, _ => rfl
  | 7, [], is, _, _, _ => rfl
  | 8, [], is, _, _, _ => rfl
  | 9, [], is, _, _, _ => rfl
  | 10, [], is, _, _, _ => rfl
  | 11, [], is, _, _, _ => rfl
  | 12, [a], is, _, _, _ => rfl
  | 13, [], is, _, _, _ => rfl
  | 14, [a, b], is, _, _, _ => rfl
  | 15, [a], is, _, _, _ => rfl
  | 16, [], is, _, _, _ => rfl
  | 1, [], _, _, _, h => by cases h
  | 1, [_], _, _, _, h => by cases h
  | 1, [_, _], _, _, _, h => by cases h
  | 1, [_, _, _], _, _, _, h => by cases h
  | 1, _ :: _ :: _ :: _ :: _ :: _, _, _, _, h => by simp [wid] at h
  | 2, [], _, _, _, h => by cases h
  | 2, [_], _, _, _, h => by cases h
  | 2, _ :: _ :: _ :: _, _, _, _, h => by simp [wid] at h
  | 3, [], _, _, _, h => by cases h
  | 3, [_], _, _, _, h => by cases h
  | 3, _ :: _ :: _ :: _, _, _, _, h => by simp [wid] at h
  | 4, [], _, _, _, h => by cases h
  | 4, _ :: _ :: _, _, _, _, h => by simp [wid] at h
  | 5, [], _, _, _, h => by cases h
  | 5, [_], _, _, _, h => by cases h
  | 5, [_, _], _, _, _, h => by cases h
  | 5, [_, _, _], _, _, _, h => by cases h
  | 5, _ :: _ :: _ :: _ :: _ :: _, _, _, _, h => by simp [wid] at h
  | 6, _ :: _, _, _, _, h => by simp [wid] at h
  | 7, _ :: _, _, _, _, h => by simp [wid] at h
  | 8, _ :: _, _, _, _, h => by simp [wid] at h
  | 9, _ :: _, _, _, _, h => by simp [wid] at h
  | 10, _ :: _, _, _, _, h => by simp [wid] at h
  | 11, _ :: _, _, _, _, h => by simp [wid] at h
  | 12, [], _, _, _, h => by cases h
  | 12, _ :: _ :: _, _, _, _, h => by simp [wid] at h
  | 13, _ :: _, _, _, _, h => by simp [wid] at h
  | 14, [], _, _, _, h => by cases h
  | 14, [_], _, _, _, h => by cases h
  | 14, _ :: _ :: _ :: _, _, _, _, h => by simp [wid] at h
  | 15, [], _, _, _, h => by cases h
  | 15, _ :: _ :: _, _, _, _, h => by simp [wid] at h
  | 16, _ :: _, _, _, _, h => by simp [wid] at h
  | 0, _, _, h, _, _ => by omega
  | _ + 17, _, _, _, h, _ => by omega
/-! ### playing -/
def fin {S : Type} (step : S → List (List Int) → S × List Int) : S → List (List (List Int)) → S
  | s, [] => s
  | s, c :: r => fin step (step s c).1 r
theorem fin_app {S : Type} (step : S → List (List Int) → S × List Int) : ∀ (s : S) (a b : List (List (List Int))), fin step s (a ++ b) = fin step (fin step s a) b
  | _, [], _ => rfl
  | s, c :: a, b => fin_app step (step s c).1 a b
theorem played_app {S : Type} (step : S → List (List Int) → S × List Int) : ∀ (s : S) (a b : List (List (List Int))), played step s (a ++ b) = played step s a ++ played step (fin step s a) b
  | _, [], _ => rfl
  | s, c :: a, b => congrArg (List.cons (step s c).2) (played_app step (step s c).1 a b)
theorem told_app (a b : List (List Int)) : told (a ++ b) = told a ++ told b := by
  unfold told
  rw [List.flatMap_append]
theorem put_app : ∀ a b : List (List (List Int)), put (a ++ b) = put a ++ put b
  | [], _ => rfl
  | c :: a, b => by
    show put1 c ++ put (a ++ b) = (put1 c ++ put a) ++ put b
    rw [put_app a b, List.append_assoc]
abbrev stp := Sr96Neutral.step
abbrev st0 : Sr96.State := Sr96Neutral.start
theorem told_snoc (a : List (List (List Int))) (c : List (List Int)) : told (played stp st0 (a ++ [c])) = told (played stp st0 a) ++ (((stp (fin stp st0 a) c).2.length : Int) :: (stp (fin stp st0 a) c).2) := by
  rw [played_app, told_app]
  show told (played stp st0 a) ++ ((((stp (fin stp st0 a) c).2.length : Int) :: (stp (fin stp st0 a) c).2) ++ []) = _
  rw [List.append_nil]
theorem fin_snoc (a : List (List (List Int))) (c : List (List Int)) : fin stp st0 (a ++ [c]) = (stp (fin stp st0 a) c).1 := by
  rw [fin_app]
  rfl
theorem told_ne {a : List (List (List Int))} (h : a ≠ []) : told (played stp st0 a) ≠ [] := by
  cases a with
  | nil => exact absurd rfl h
  | cons c r =>
    intro z
    cases z
/-- what the row asks, decoded -/
theorem decoded {l : List Int} (h : PySr96.answers_asked l = true) : ∃ cs, l = put cs ∧ (∀ c ∈ cs, okCall PySr96.shape c) ∧ PySr96.answers l = told (played stp st0 cs) ∧ (told (played stp st0 cs)).length ≤ 10000000 := by
  unfold PySr96.answers_asked at h
  cases e : PyFlat.calls PySr96.shape l.length l with
  | none =>
    rw [e] at h
    cases h
  | some cs =>
    rw [e] at h
    have h2 : (!cs.isEmpty && PyFlat.atMost 60 cs && PyInside.calls PySr96.bound cs && Sr96Neutral.asked (cs.map PySr96.whole) && PyFlat.short 10000000 (PySr96.answers l)) = true := h
    have h3 : (PySr96.answers l).length ≤ 10000000 := of_decide_eq_true (Bool.and_eq_true_iff.mp h2).2
    obtain ⟨e1, e2⟩ := put_calls _ _ _ e
    have e3 : PySr96.answers l = told (played stp st0 cs) := by
      unfold PySr96.answers PySr96.calls
      rw [e]
      show told (played Sr96Neutral.step Sr96Neutral.start (cs.map PySr96.whole)) = _
      have ew : cs.map PySr96.whole = cs := by
        have : PySr96.whole = fun c => c := funext whole_id
        rw [this, List.map_id']
      rw [ew]
    refine ⟨cs, e1, e2, e3, ?_⟩
    rw [← e3]
    exact h3
end Fb

/-! FbText: the text by places, each def as a datum, the facts of the top. Printed by gen_text.py. -/
namespace Fb
open PySem PySem.Spec PyProof.Rows L2
abbrev RR : PySem.W.OpenSpec := PySem.Challenge.rw_flourblend_s01_answers
abbrev PP : Program := PySem.Challenge.pw_flourblend_s01_answers
def top (i : Nat) : Stmt := PP.main.body.getD i (.Pass ⟨0, 0, 0, 0⟩)
abbrev s_weight_of : Stmt := top 1
abbrev s_strength_sum : Stmt := top 2
abbrev s_ash_sum : Stmt := top 3
abbrev s_cost_of : Stmt := top 4
abbrev s_is_available : Stmt := top 5
abbrev s_longer_rows : Stmt := top 6
abbrev s_available_blends : Stmt := top 7
abbrev s_bins_after : Stmt := top 8
abbrev s_is_strong : Stmt := top 16
abbrev s_is_soft : Stmt := top 17
abbrev s_is_clean : Stmt := top 18
abbrev s_keeps_bounds : Stmt := top 19
abbrev s_is_valid : Stmt := top 20
abbrev s_valid_blends : Stmt := top 21
abbrev s_cheapest_of : Stmt := top 22
abbrev s_cheapest_blend : Stmt := top 23
abbrev s_greatest_weight : Stmt := top 24
abbrev s_obstacle_of : Stmt := top 25
abbrev s_common_divisor : Stmt := top 27
abbrev s_lowest_terms : Stmt := top 28
abbrev s_average : Stmt := top 29
abbrev s_Store_init : Stmt := inClass (top 31) 0
abbrev s_Store_take_bins : Stmt := inClass (top 31) 1
abbrev s_Store_take_request : Stmt := inClass (top 31) 2
abbrev s_Store_take_out : Stmt := inClass (top 31) 3
abbrev s_Desk_init : Stmt := inClass (top 32) 0
abbrev s_Desk_place_store : Stmt := inClass (top 32) 1
abbrev s_with_item : Stmt := top 33
abbrev s_is_within : Stmt := top 45
abbrev s_has_bin : Stmt := top 46
abbrev s_is_price : Stmt := top 47
abbrev s_is_flour : Stmt := top 48
abbrev s_add_bin : Stmt := top 49
abbrev s_bins_with_kilograms : Stmt := top 50
abbrev s_bins_with_price : Stmt := top 51
abbrev s_add_flour : Stmt := top 52
abbrev s_price_refusal : Stmt := top 53
abbrev s_set_price : Stmt := top 54
abbrev s_empty_bin : Stmt := top 55
abbrev s_set_request : Stmt := top 56
abbrev s_told_blend : Stmt := top 57
abbrev s_answer_cheapest_blend : Stmt := top 58
abbrev s_make_cheapest_blend : Stmt := top 59
abbrev s_is_blend : Stmt := top 60
abbrev s_make_blend : Stmt := top 61
abbrev s_check_blend : Stmt := top 62
abbrev s_count_blends : Stmt := top 63
abbrev s_greatest_amount : Stmt := top 64
abbrev s_extreme_averages : Stmt := top 65
abbrev s_obstacle : Stmt := top 66
abbrev s_cheapest_if_price : Stmt := top 67
abbrev s_cheapest_without : Stmt := top 68
abbrev s_describe : Stmt := top 69
abbrev s_create : Stmt := top 76
abbrev s_answer_to : Stmt := top 77
abbrev s_list_end : Stmt := top 78
abbrev s_answers : Stmt := top 79
def d_weight_of : He.DefD := ⟨("weight_of", none), "weight_of", "weight_of", defArgs s_weight_of, defBody s_weight_of, defScope s_weight_of, [], []⟩
def d_strength_sum : He.DefD := ⟨("strength_sum", none), "strength_sum", "strength_sum", defArgs s_strength_sum, defBody s_strength_sum, defScope s_strength_sum, [], []⟩
def d_ash_sum : He.DefD := ⟨("ash_sum", none), "ash_sum", "ash_sum", defArgs s_ash_sum, defBody s_ash_sum, defScope s_ash_sum, [], []⟩
def d_cost_of : He.DefD := ⟨("cost_of", none), "cost_of", "cost_of", defArgs s_cost_of, defBody s_cost_of, defScope s_cost_of, [], []⟩
def d_is_available : He.DefD := ⟨("is_available", none), "is_available", "is_available", defArgs s_is_available, defBody s_is_available, defScope s_is_available, [], []⟩
def d_longer_rows : He.DefD := ⟨("longer_rows", none), "longer_rows", "longer_rows", defArgs s_longer_rows, defBody s_longer_rows, defScope s_longer_rows, [], []⟩
def d_available_blends : He.DefD := ⟨("available_blends", none), "available_blends", "available_blends", defArgs s_available_blends, defBody s_available_blends, defScope s_available_blends, [], []⟩
def d_bins_after : He.DefD := ⟨("bins_after", none), "bins_after", "bins_after", defArgs s_bins_after, defBody s_bins_after, defScope s_bins_after, [], []⟩
def d_is_strong : He.DefD := ⟨("is_strong", none), "is_strong", "is_strong", defArgs s_is_strong, defBody s_is_strong, defScope s_is_strong, [], []⟩
def d_is_soft : He.DefD := ⟨("is_soft", none), "is_soft", "is_soft", defArgs s_is_soft, defBody s_is_soft, defScope s_is_soft, [], []⟩
def d_is_clean : He.DefD := ⟨("is_clean", none), "is_clean", "is_clean", defArgs s_is_clean, defBody s_is_clean, defScope s_is_clean, [], []⟩
def d_keeps_bounds : He.DefD := ⟨("keeps_bounds", none), "keeps_bounds", "keeps_bounds", defArgs s_keeps_bounds, defBody s_keeps_bounds, defScope s_keeps_bounds, [], []⟩
def d_is_valid : He.DefD := ⟨("is_valid", none), "is_valid", "is_valid", defArgs s_is_valid, defBody s_is_valid, defScope s_is_valid, [], []⟩
def d_valid_blends : He.DefD := ⟨("valid_blends", none), "valid_blends", "valid_blends", defArgs s_valid_blends, defBody s_valid_blends, defScope s_valid_blends, [], []⟩
def d_cheapest_of : He.DefD := ⟨("cheapest_of", none), "cheapest_of", "cheapest_of", defArgs s_cheapest_of, defBody s_cheapest_of, defScope s_cheapest_of, [], []⟩
def d_cheapest_blend : He.DefD := ⟨("cheapest_blend", none), "cheapest_blend", "cheapest_blend", defArgs s_cheapest_blend, defBody s_cheapest_blend, defScope s_cheapest_blend, [], []⟩
def d_greatest_weight : He.DefD := ⟨("greatest_weight", none), "greatest_weight", "greatest_weight", defArgs s_greatest_weight, defBody s_greatest_weight, defScope s_greatest_weight, [], []⟩
def d_obstacle_of : He.DefD := ⟨("obstacle_of", none), "obstacle_of", "obstacle_of", defArgs s_obstacle_of, defBody s_obstacle_of, defScope s_obstacle_of, [], []⟩
def d_common_divisor : He.DefD := ⟨("common_divisor", none), "common_divisor", "common_divisor", defArgs s_common_divisor, defBody s_common_divisor, defScope s_common_divisor, [], []⟩
def d_lowest_terms : He.DefD := ⟨("lowest_terms", none), "lowest_terms", "lowest_terms", defArgs s_lowest_terms, defBody s_lowest_terms, defScope s_lowest_terms, [], []⟩
def d_average : He.DefD := ⟨("average", none), "average", "average", defArgs s_average, defBody s_average, defScope s_average, [], []⟩
def d_Store_init : He.DefD := ⟨("Store", some "__init__"), "__init__", "Store.__init__", defArgs s_Store_init, defBody s_Store_init, defScope s_Store_init, [], []⟩
def d_Store_take_bins : He.DefD := ⟨("Store", some "take_bins"), "take_bins", "Store.take_bins", defArgs s_Store_take_bins, defBody s_Store_take_bins, defScope s_Store_take_bins, [], []⟩
def d_Store_take_request : He.DefD := ⟨("Store", some "take_request"), "take_request", "Store.take_request", defArgs s_Store_take_request, defBody s_Store_take_request, defScope s_Store_take_request, [], []⟩
def d_Store_take_out : He.DefD := ⟨("Store", some "take_out"), "take_out", "Store.take_out", defArgs s_Store_take_out, defBody s_Store_take_out, defScope s_Store_take_out, [], []⟩
def d_Desk_init : He.DefD := ⟨("Desk", some "__init__"), "__init__", "Desk.__init__", defArgs s_Desk_init, defBody s_Desk_init, defScope s_Desk_init, [], []⟩
def d_Desk_place_store : He.DefD := ⟨("Desk", some "place_store"), "place_store", "Desk.place_store", defArgs s_Desk_place_store, defBody s_Desk_place_store, defScope s_Desk_place_store, [], []⟩
def d_with_item : He.DefD := ⟨("with_item", none), "with_item", "with_item", defArgs s_with_item, defBody s_with_item, defScope s_with_item, [], []⟩
def d_is_within : He.DefD := ⟨("is_within", none), "is_within", "is_within", defArgs s_is_within, defBody s_is_within, defScope s_is_within, [], []⟩
def d_has_bin : He.DefD := ⟨("has_bin", none), "has_bin", "has_bin", defArgs s_has_bin, defBody s_has_bin, defScope s_has_bin, [], []⟩
def d_is_price : He.DefD := ⟨("is_price", none), "is_price", "is_price", defArgs s_is_price, defBody s_is_price, defScope s_is_price, [], []⟩
def d_is_flour : He.DefD := ⟨("is_flour", none), "is_flour", "is_flour", defArgs s_is_flour, defBody s_is_flour, defScope s_is_flour, [], []⟩
def d_add_bin : He.DefD := ⟨("add_bin", none), "add_bin", "add_bin", defArgs s_add_bin, defBody s_add_bin, defScope s_add_bin, [], []⟩
def d_bins_with_kilograms : He.DefD := ⟨("bins_with_kilograms", none), "bins_with_kilograms", "bins_with_kilograms", defArgs s_bins_with_kilograms, defBody s_bins_with_kilograms, defScope s_bins_with_kilograms, [], []⟩
def d_bins_with_price : He.DefD := ⟨("bins_with_price", none), "bins_with_price", "bins_with_price", defArgs s_bins_with_price, defBody s_bins_with_price, defScope s_bins_with_price, [], []⟩
def d_add_flour : He.DefD := ⟨("add_flour", none), "add_flour", "add_flour", defArgs s_add_flour, defBody s_add_flour, defScope s_add_flour, [], []⟩
def d_price_refusal : He.DefD := ⟨("price_refusal", none), "price_refusal", "price_refusal", defArgs s_price_refusal, defBody s_price_refusal, defScope s_price_refusal, [], []⟩
def d_set_price : He.DefD := ⟨("set_price", none), "set_price", "set_price", defArgs s_set_price, defBody s_set_price, defScope s_set_price, [], []⟩
def d_empty_bin : He.DefD := ⟨("empty_bin", none), "empty_bin", "empty_bin", defArgs s_empty_bin, defBody s_empty_bin, defScope s_empty_bin, [], []⟩
def d_set_request : He.DefD := ⟨("set_request", none), "set_request", "set_request", defArgs s_set_request, defBody s_set_request, defScope s_set_request, [], []⟩
def d_told_blend : He.DefD := ⟨("told_blend", none), "told_blend", "told_blend", defArgs s_told_blend, defBody s_told_blend, defScope s_told_blend, [], []⟩
def d_answer_cheapest_blend : He.DefD := ⟨("answer_cheapest_blend", none), "answer_cheapest_blend", "answer_cheapest_blend", defArgs s_answer_cheapest_blend, defBody s_answer_cheapest_blend, defScope s_answer_cheapest_blend, [], []⟩
def d_make_cheapest_blend : He.DefD := ⟨("make_cheapest_blend", none), "make_cheapest_blend", "make_cheapest_blend", defArgs s_make_cheapest_blend, defBody s_make_cheapest_blend, defScope s_make_cheapest_blend, [], []⟩
def d_is_blend : He.DefD := ⟨("is_blend", none), "is_blend", "is_blend", defArgs s_is_blend, defBody s_is_blend, defScope s_is_blend, [], []⟩
def d_make_blend : He.DefD := ⟨("make_blend", none), "make_blend", "make_blend", defArgs s_make_blend, defBody s_make_blend, defScope s_make_blend, [], []⟩
def d_check_blend : He.DefD := ⟨("check_blend", none), "check_blend", "check_blend", defArgs s_check_blend, defBody s_check_blend, defScope s_check_blend, [], []⟩
def d_count_blends : He.DefD := ⟨("count_blends", none), "count_blends", "count_blends", defArgs s_count_blends, defBody s_count_blends, defScope s_count_blends, [], []⟩
def d_greatest_amount : He.DefD := ⟨("greatest_amount", none), "greatest_amount", "greatest_amount", defArgs s_greatest_amount, defBody s_greatest_amount, defScope s_greatest_amount, [], []⟩
def d_extreme_averages : He.DefD := ⟨("extreme_averages", none), "extreme_averages", "extreme_averages", defArgs s_extreme_averages, defBody s_extreme_averages, defScope s_extreme_averages, [], []⟩
def d_obstacle : He.DefD := ⟨("obstacle", none), "obstacle", "obstacle", defArgs s_obstacle, defBody s_obstacle, defScope s_obstacle, [], []⟩
def d_cheapest_if_price : He.DefD := ⟨("cheapest_if_price", none), "cheapest_if_price", "cheapest_if_price", defArgs s_cheapest_if_price, defBody s_cheapest_if_price, defScope s_cheapest_if_price, [], []⟩
def d_cheapest_without : He.DefD := ⟨("cheapest_without", none), "cheapest_without", "cheapest_without", defArgs s_cheapest_without, defBody s_cheapest_without, defScope s_cheapest_without, [], []⟩
def d_describe : He.DefD := ⟨("describe", none), "describe", "describe", defArgs s_describe, defBody s_describe, defScope s_describe, [], []⟩
def d_create : He.DefD := ⟨("create", none), "create", "create", defArgs s_create, defBody s_create, defScope s_create, [], []⟩
def d_answer_to : He.DefD := ⟨("answer_to", none), "answer_to", "answer_to", defArgs s_answer_to, defBody s_answer_to, defScope s_answer_to, [], []⟩
def d_list_end : He.DefD := ⟨("list_end", none), "list_end", "list_end", defArgs s_list_end, defBody s_list_end, defScope s_list_end, [], []⟩
def d_answers : He.DefD := ⟨("answers", none), "answers", "answers", defArgs s_answers, defBody s_answers, defScope s_answers, [], []⟩
def fn : List He.DefD := [d_weight_of, d_strength_sum, d_ash_sum, d_cost_of, d_is_available, d_longer_rows, d_available_blends, d_bins_after, d_is_strong, d_is_soft, d_is_clean, d_keeps_bounds, d_is_valid, d_valid_blends, d_cheapest_of, d_cheapest_blend, d_greatest_weight, d_obstacle_of, d_common_divisor, d_lowest_terms, d_average, d_Store_init, d_Store_take_bins, d_Store_take_request, d_Store_take_out, d_Desk_init, d_Desk_place_store, d_with_item, d_is_within, d_has_bin, d_is_price, d_is_flour, d_add_bin, d_bins_with_kilograms, d_bins_with_price, d_add_flour, d_price_refusal, d_set_price, d_empty_bin, d_set_request, d_told_blend, d_answer_cheapest_blend, d_make_cheapest_blend, d_is_blend, d_make_blend, d_check_blend, d_count_blends, d_greatest_amount, d_extreme_averages, d_obstacle, d_cheapest_if_price, d_cheapest_without, d_describe, d_create, d_answer_to, d_list_end, d_answers]
def fa : List He.Fa := [.glo "weight_of", .glo "strength_sum", .glo "ash_sum", .glo "cost_of", .glo "is_available", .glo "longer_rows", .glo "available_blends", .glo "bins_after", .glo "is_strong", .glo "is_soft", .glo "is_clean", .glo "keeps_bounds", .glo "is_valid", .glo "valid_blends", .glo "cheapest_of", .glo "cheapest_blend", .glo "greatest_weight", .glo "obstacle_of", .glo "common_divisor", .glo "lowest_terms", .glo "average", .glo "with_item", .glo "is_within", .glo "has_bin", .glo "is_price", .glo "is_flour", .glo "add_bin", .glo "bins_with_kilograms", .glo "bins_with_price", .glo "add_flour", .glo "price_refusal", .glo "set_price", .glo "empty_bin", .glo "set_request", .glo "told_blend", .glo "answer_cheapest_blend", .glo "make_cheapest_blend", .glo "is_blend", .glo "make_blend", .glo "check_blend", .glo "count_blends", .glo "greatest_amount", .glo "extreme_averages", .glo "obstacle", .glo "cheapest_if_price", .glo "cheapest_without", .glo "describe", .glo "create", .glo "answer_to", .glo "list_end", .glo "answers", .glo "Store", .glo "Desk", .glo "WIDTHS", .glo "WITH_LIST", .glo "DEEDS", .int "FOUND" (0), .int "NO_BLEND_choice" (1), .int "TOO_WEAK" (2), .int "TOO_STRONG" (3), .int "TOO_MUCH_ASH" (4), .int "NOT_TOGETHER" (5), .int "MAX_KILOGRAMS" (30), .int "MAX_CONTENT" (999), .int "MAX_PRICE" (99), .int "MAX_WEIGHT" (30), .int "MAX_BINS" (4), .int "NO_BIN" (-2), .int "TOO_LITTLE" (-6), .int "OUT_OF_RANGE" (-22), .int "FULL" (-28), .int "NO_BLEND_operations" (-33), .int "CREATE" (0), .int "NO_INSTANCE" (-11), .free "len", .free "sum", .free "zip", .free "min", .free "max", .free "all", .free "any", .free "range", .free "int", .free "list", .cls "Store", .noat "Store" "bins", .noat "Store" "weight", .noat "Store" "bounds", .noat "Store" "spent", .meth "Store" "take_bins", .meth "Store" "take_request", .meth "Store" "take_out", .mkr "Store", .cls "Desk", .noat "Desk" "store", .meth "Desk" "place_store", .mkr "Desk"]
def tab_WIDTHS : List He.Dv := [.int 0, .int 4, .int 2, .int 2, .int 1, .int 4, .int 0, .int 0, .int 0, .int 0, .int 0, .int 0, .int 1, .int 0, .int 2, .int 1, .int 0]
def tab_WITH_LIST : List He.Dv := [.int 8, .int 9]
def tab_DEEDS : List He.Dv := [.glo "add_bin", .glo "add_flour", .glo "set_price", .glo "empty_bin", .glo "set_request", .glo "answer_cheapest_blend", .glo "make_cheapest_blend", .glo "make_blend", .glo "check_blend", .glo "count_blends", .glo "greatest_amount", .glo "extreme_averages", .glo "obstacle", .glo "cheapest_if_price", .glo "cheapest_without", .glo "describe"]
def ex (K : PySem.W.Frag) : Bool := He.tupB K "WIDTHS" tab_WIDTHS && He.tupB K "WITH_LIST" tab_WITH_LIST && He.tupB K "DEEDS" tab_DEEDS
/-- what the top has written, as the walks ask it -/
abbrev Says (w : World) (h : Heap) (K : PySem.W.Frag) : Prop := He.SaysX fa fn [] [] ex w h K
end Fb

/-! FbHead: the top run once in the kernel, its facts read off. Printed by gen_text.py. -/
namespace Fb
open PySem PySem.W PySem.Calls PyProof.Rows
def names0 : List PySem.Str := ["weight_of", "strength_sum", "ash_sum", "cost_of", "is_available", "longer_rows", "available_blends", "bins_after", "FOUND", "NO_BLEND_choice", "TOO_WEAK", "TOO_STRONG", "TOO_MUCH_ASH", "NOT_TOGETHER", "is_strong", "is_soft", "is_clean", "keeps_bounds", "is_valid", "valid_blends", "cheapest_of", "cheapest_blend", "greatest_weight", "obstacle_of", "common_divisor", "lowest_terms", "average", "Store", "Desk", "with_item"]
def names1 : List PySem.Str := ["MAX_KILOGRAMS", "MAX_CONTENT", "MAX_PRICE", "MAX_WEIGHT", "MAX_BINS", "NO_BIN", "TOO_LITTLE", "OUT_OF_RANGE", "FULL", "NO_BLEND_operations", "is_within", "has_bin", "is_price", "is_flour", "add_bin", "bins_with_kilograms", "bins_with_price", "add_flour", "price_refusal", "set_price", "empty_bin", "set_request", "told_blend", "answer_cheapest_blend", "make_cheapest_blend", "is_blend", "make_blend", "check_blend", "count_blends", "greatest_amount"]
def names2 : List PySem.Str := ["extreme_averages", "obstacle", "cheapest_if_price", "cheapest_without", "describe", "CREATE", "NO_INSTANCE", "WIDTHS", "WITH_LIST", "DEEDS", "create", "answer_to", "list_end"]
def names : List PySem.Str := names0 ++ names1 ++ names2
abbrev qv : Program := view PP [79]
abbrev hk : PySem.W.Hook := He.hookX 5 fa fn [] [] ex
def ob (s : PySem.W.SharedT) : He.AlX := He.obsX 5 fa fn [] [] ex (HandSHeadRun.getT s)
theorem ob_eq (s : PySem.W.SharedT) : ob s = hk.obs s.abs := He.obsX_eq (HandSHeadRun.getT_eq s)
set_option maxHeartbeats 0 in
theorem run (w : World) : HandSHeadRun.RunEqS RR qv hk ob 6000 names w := by
  intro os
  kernel_rfl
end Fb

/-! FbHeap: what stands in the heap, by the specification's own data; comprehensions and loops in the form the walks use. -/
namespace Fb
open PySem PySem.Spec PyProof.Rows L2

/-! ### heaps -/
theorem same_new {H : Hp} {p : Addr} {o : HO} (h : H p = none) : Same H (upd H p o) := fun b x e => by
  rw [upd_ne (ne_of_none e h)]
  exact e
/-- all that was tracked is as it was, but for the thing at a -/
def SameBut (a : Addr) (H H' : Hp) : Prop := ∀ b o, H b = some o → b ≠ a → H' b = some o
theorem _root_.L2.Same.but {H H' : Hp} (s : Same H H') (a : Addr) : SameBut a H H' := fun b o e _ => s b o e
theorem SameBut.refl (a : Addr) (H : Hp) : SameBut a H H := fun _ _ e _ => e
theorem SameBut.trans {a : Addr} {H H1 H2 : Hp} (s : SameBut a H H1) (t : SameBut a H1 H2) : SameBut a H H2 := fun b o e n => t b o (s b o e n) n
theorem SameBut.upd {a : Addr} {H H1 : Hp} {o : HO} (s : SameBut a H H1) : SameBut a H (L2.upd H1 a o) := fun b x e n => by
  rw [upd_ne n]
  exact s b x e n
/-- new since H: what was tracked in H is as it was, though the new thing at a is changed -/
theorem SameBut.same {a : Addr} {H0 H H' : Hp} (s0 : Same H0 H) (n : H0 a = none) (s : SameBut a H H') : Same H0 H' := fun b o e => s b o (s0 b o e) (ne_of_none e n)
theorem same_upd_new {a : Addr} {H0 H : Hp} {o : HO} (s : Same H0 H) (n : H0 a = none) : Same H0 (L2.upd H a o) := fun b x e => by
  rw [upd_ne (ne_of_none e n)]
  exact s b x e
def del (H : Hp) (a : Addr) : Hp := fun b => if b = a then none else H b
theorem del_ne {H : Hp} {a b : Addr} (h : b ≠ a) : del H a b = H b := if_neg h
theorem del_upd {H : Hp} {a : Addr} {o : HO} : del (upd H a o) a = del H a := by
  funext b
  unfold del
  by_cases e : b = a
  · rw [if_pos e, if_pos e]
  · rw [if_neg e, if_neg e, upd_ne e]
theorem del_same (H : Hp) (a : Addr) : Same (del H a) H := fun b o e => by
  unfold del at e
  by_cases h : b = a
  · rw [if_pos h] at e
    cases e
  · rw [if_neg h] at e
    exact e
theorem same_del {H H' : Hp} {a : Addr} (s : Same H H') : Same (del H a) (del H' a) := fun b o e => by
  unfold del at e ⊢
  by_cases h : b = a
  · rw [if_pos h] at e
    cases e
  · rw [if_neg h] at e ⊢
    exact s b o e
theorem to_del {H0 H : Hp} {a : Addr} (s : Same H0 H) (n : H0 a = none) : Same H0 (del H a) := fun b o e => by
  rw [del_ne (ne_of_none e n)]
  exact s b o e

/-! ### short displays -/
theorem le0 : ([] : List V).length ≤ sizeLine := Nat.zero_le _
theorem le1 {a : V} : [a].length ≤ sizeLine := by
  show 1 ≤ sizeLine
  decide
theorem le2 {a b : V} : [a, b].length ≤ sizeLine := by
  show 2 ≤ sizeLine
  decide
theorem le3 {a b c : V} : [a, b, c].length ≤ sizeLine := by
  show 3 ≤ sizeLine
  decide
theorem le4 {a b c d : V} : [a, b, c, d].length ≤ sizeLine := by
  show 4 ≤ sizeLine
  decide

/-! ### lists of things -/
abbrev RX (α : Type) := Hp → V → α → Prop
def Mono {α : Type} (R : RX α) : Prop := ∀ H H' v x, Same H H' → R H v x → R H' v x
section
variable {α : Type} {R : RX α} {H H' : Hp} {a : Addr} {l : List α}
theorem pair_get {β : Type} {F : α → β → Prop} : ∀ {xs : List α} {ys : List β} {i : Nat} {y : β}, Paired F xs ys → ys[i]? = some y → ∃ x, xs[i]? = some x ∧ F x y
  | _, _, _, _, .nil, e => by simp at e
  | _, _, 0, _, .cons r _, e => by simp at e; subst e; exact ⟨_, rfl, r⟩
  | _, _, i + 1, y, .cons _ t, e => by
    obtain ⟨x, h1, h2⟩ := pair_get (i := i) (y := y) t (by simpa using e)
    exact ⟨x, by simpa using h1, h2⟩
theorem pair_got {β : Type} {F : α → β → Prop} : ∀ {xs : List α} {ys : List β} {i : Nat} {x : α}, Paired F xs ys → xs[i]? = some x → ∃ y, ys[i]? = some y ∧ F x y
  | _, _, _, _, .nil, e => by simp at e
  | _, _, 0, _, .cons r _, e => by simp at e; subst e; exact ⟨_, rfl, r⟩
  | _, _, i + 1, y, .cons _ t, e => by
    obtain ⟨x, h1, h2⟩ := pair_got (i := i) (x := y) t (by simpa using e)
    exact ⟨x, by simpa using h1, h2⟩
theorem pair_take {β : Type} {F : α → β → Prop} : ∀ {xs : List α} {ys : List β} (n : Nat), Paired F xs ys → Paired F (xs.take n) (ys.take n)
  | _, _, 0, _ => .nil
  | _, _, _ + 1, .nil => .nil
  | _, _, n + 1, .cons r t => .cons r (pair_take n t)
theorem pair_drop {β : Type} {F : α → β → Prop} : ∀ {xs : List α} {ys : List β} (n : Nat), Paired F xs ys → Paired F (xs.drop n) (ys.drop n)
  | _, _, 0, r => r
  | _, _, _ + 1, .nil => .nil
  | _, _, n + 1, .cons _ t => pair_drop n t
theorem pair_app {β : Type} {F : α → β → Prop} : ∀ {xs xs' : List α} {ys ys' : List β}, Paired F xs ys → Paired F xs' ys' → Paired F (xs ++ xs') (ys ++ ys')
  | _, _, _, _, .nil, s => s
  | _, _, _, _, .cons r t, s => .cons r (pair_app t s)
/-- at a stands a list of things -/
def LsAt (R : RX α) (H : Hp) (a : Addr) (l : List α) : Prop := ∃ vs, H a = some (.lst vs) ∧ Paired (R H) vs l
/-- the same while the list grows: its things don't lean on it -/
def GrAt (R : RX α) (H : Hp) (a : Addr) (l : List α) : Prop := ∃ vs, H a = some (.lst vs) ∧ Paired (R (del H a)) vs l
theorem LsAt.same (m : Mono R) (h : LsAt R H a l) (s : Same H H') : LsAt R H' a l := by
  obtain ⟨vs, e, p⟩ := h
  exact ⟨vs, s _ _ e, L2.Paired.mapP p fun v x r => m _ _ v x s r⟩
theorem GrAt.same (m : Mono R) (h : GrAt R H a l) (s : Same H H') : GrAt R H' a l := by
  obtain ⟨vs, e, p⟩ := h
  exact ⟨vs, s _ _ e, L2.Paired.mapP p fun v x r => m _ _ v x (same_del s) r⟩
theorem GrAt.ls (m : Mono R) (h : GrAt R H a l) : LsAt R H a l := by
  obtain ⟨vs, e, p⟩ := h
  exact ⟨vs, e, L2.Paired.mapP p fun v x r => m _ _ v x (del_same _ _) r⟩
theorem GrAt.nil : GrAt R (upd H a (.lst [])) a ([] : List α) := ⟨[], upd_same, .nil⟩
theorem GrAt.there (h : GrAt R H a l) : ∃ vs, H a = some (.lst vs) ∧ vs.length = l.length := by
  obtain ⟨vs, e, p⟩ := h
  exact ⟨vs, e, p.length⟩
theorem LsAt.there (h : LsAt R H a l) : ∃ vs, H a = some (.lst vs) ∧ vs.length = l.length := by
  obtain ⟨vs, e, p⟩ := h
  exact ⟨vs, e, p.length⟩
theorem GrAt.snoc {vs : List V} {v : V} {x : α} (h : GrAt R H a l) (e : H a = some (.lst vs)) (r : R (del H a) v x) : GrAt R (upd H a (.lst (vs ++ [v]))) a (l ++ [x]) := by
  obtain ⟨us, e2, p⟩ := h
  rw [e] at e2
  cases e2
  refine ⟨_, upd_same, ?_⟩
  rw [del_upd]
  exact p.snoc r
end

/-! ### the things -/
def RInt : RX Int := fun _ v n => v = .int n
def RNat : RX Nat := fun _ v n => v = .int (n : Int)
def RBl : RX Bool := fun _ v b => v = .bl b
def bv (b : Sr96.Bin) : List V := [.int (b.kilograms : Int), .int (b.strength : Int), .int (b.ash : Int), .int (b.price : Int)]
def RBin : RX Sr96.Bin := fun H v b => ∃ t, v = .ref t ∧ H t = some (.tup (bv b))
def nv (x : List Nat) : List V := x.map fun n : Nat => V.int (n : Int)
def RBlend : RX (List Nat) := fun H v x => ∃ t, v = .ref t ∧ H t = some (.lst (nv x))
def RRow : RX Row := fun H v r => ∃ t l, v = .ref t ∧ H t = some (.tup [.ref l, .int (r.2 : Int)]) ∧ H l = some (.lst (nv r.1))
theorem mInt : Mono RInt := fun _ _ _ _ _ r => r
theorem mNat : Mono RNat := fun _ _ _ _ _ r => r
theorem mBl : Mono RBl := fun _ _ _ _ _ r => r
theorem mBin : Mono RBin := fun _ _ _ _ s ⟨t, e, h⟩ => ⟨t, e, s _ _ h⟩
theorem mBlend : Mono RBlend := fun _ _ _ _ s ⟨t, e, h⟩ => ⟨t, e, s _ _ h⟩
theorem mRow : Mono RRow := fun _ _ _ _ s ⟨t, l, e, h, h2⟩ => ⟨t, l, e, s _ _ h, s _ _ h2⟩
def Ints (H : Hp) (a : Addr) (ns : List Int) : Prop := H a = some (.lst (ns.map V.int))
def Nats (H : Hp) (a : Addr) (x : List Nat) : Prop := H a = some (.lst (nv x))
def Bins (H : Hp) (a : Addr) (bs : List Sr96.Bin) : Prop := LsAt RBin H a bs ∧ Goods bs
def Bnd (H : Hp) (t : Addr) (r : Sr96.Request) : Prop := H t = some (.tup [.int (r.minStrength : Int), .int (r.maxStrength : Int), .int (r.maxAsh : Int)]) ∧ ROk r
theorem Ints.same {H H' : Hp} {a : Addr} {ns : List Int} (h : Ints H a ns) (s : Same H H') : Ints H' a ns := s _ _ h
theorem Nats.same {H H' : Hp} {a : Addr} {x : List Nat} (h : Nats H a x) (s : Same H H') : Nats H' a x := s _ _ h
theorem Bins.same {H H' : Hp} {a : Addr} {bs : List Sr96.Bin} (h : Bins H a bs) (s : Same H H') : Bins H' a bs := ⟨h.1.same mBin s, h.2⟩
theorem Bnd.same {H H' : Hp} {t : Addr} {r : Sr96.Request} (h : Bnd H t r) (s : Same H H') : Bnd H' t r := ⟨s _ _ h.1, h.2⟩
theorem pair_int : ∀ ns : List Int, Paired (RInt H) (ns.map V.int) ns
  | [] => .nil
  | n :: r => .cons rfl (pair_int r)
theorem int_pair {H : Hp} : ∀ {vs : List V} {ns : List Int}, Paired (RInt H) vs ns → vs = ns.map V.int
  | _, _, .nil => rfl
  | _, _, .cons r t => by
    have e : _ = V.int _ := r
    rw [e, int_pair t]
    rfl
theorem pair_nat : ∀ x : List Nat, Paired (RNat H) (nv x) x
  | [] => .nil
  | n :: r => .cons rfl (pair_nat r)
theorem nat_pair {H : Hp} : ∀ {vs : List V} {x : List Nat}, Paired (RNat H) vs x → vs = nv x
  | _, _, .nil => rfl
  | _, _, .cons r t => by
    have e : _ = V.int _ := r
    rw [e, nat_pair t]
    rfl
theorem bl_pair {H : Hp} : ∀ {vs : List V} {x : List Bool}, Paired (RBl H) vs x → vs = x.map V.bl
  | _, _, .nil => rfl
  | _, _, .cons r t => by
    have e : _ = V.bl _ := r
    rw [e, bl_pair t]
    rfl
theorem Ints.ls {H : Hp} {a : Addr} {ns : List Int} (h : Ints H a ns) : LsAt RInt H a ns := ⟨_, h, pair_int ns⟩
theorem LsAt.ints {H : Hp} {a : Addr} {ns : List Int} (h : LsAt RInt H a ns) : Ints H a ns := by
  obtain ⟨vs, e, p⟩ := h
  rw [int_pair p] at e
  exact e
theorem Nats.ls {H : Hp} {a : Addr} {x : List Nat} (h : Nats H a x) : LsAt RNat H a x := ⟨_, h, pair_nat x⟩
theorem LsAt.nats {H : Hp} {a : Addr} {x : List Nat} (h : LsAt RNat H a x) : Nats H a x := by
  obtain ⟨vs, e, p⟩ := h
  rw [nat_pair p] at e
  exact e
theorem nv_int (x : List Nat) : nv x = (x.map fun n : Nat => (n : Int)).map V.int := by
  unfold nv
  rw [List.map_map]
  rfl
theorem LsAt.bls {H : Hp} {a : Addr} {x : List Bool} (h : LsAt RBl H a x) : H a = some (.lst (x.map V.bl)) := by
  obtain ⟨vs, e, p⟩ := h
  rw [bl_pair p] at e
  exact e

/-! ### comprehensions -/
section
variable {α β γ : Type} {Rs : RX α} {Rt : RX γ} {R : RX β} {K : PySem.W.Frag} {a b : Addr} {l : List α} {m : List γ} {H1 : Hp} {D : Addr} {g : TG} {tt : TT} {te : TE} {vs : List Nat} {σ : L2.St} {Qd : Hp → Prop}
theorem take_snoc {l : List α} {i : Nat} {x : α} (h : l[i]? = some x) : l.take (i + 1) = l.take i ++ [x] := by
  rw [List.take_add_one, h]
  rfl
/-- over a list: what passes the test p becomes f of it -/
theorem lc_ls {p : α → Bool} {f : α → β} (ms : Mono Rs) (mr : Mono R) (h : LsAt Rs H1 a l) (nD : H1 D = none) (lid : l.length ≤ 1000000)
    (turn : ∀ (x : α) (v : V) (H : Hp), x ∈ l → Same H1 H → (∃ acc, H D = some (.lst acc)) → Rs (del H D) v x → ∀ (Z : V → Hp → Prop) (Zf : Hp → Prop),
      (p x = true → ∀ y H', Same H H' → R (del H' D) y (f x) → Z y H') → (p x = false → ∀ H', Same H H' → Zf H') →
      g v (wipe σ vs) H fun σ2 H2 => wipe σ2 vs = wipe σ vs ∧ tt σ2 H2 fun c H3 => if c = true then te σ2 H3 Z else Zf H3)
    (done : ∀ H, Same H1 H → LsAt R H D ((l.filter p).map f) → Qd H) :
    ∃ W : Nat → Nat → Hp → Prop, (∃ m, W 0 m (upd H1 D (.lst []))) ∧ ∀ i m H, W i m H →
      ((Itl K a).stop i H ∧ Qd H) ∨ ((Itl K a).go i H ∧ ∃ Nx : Hp → Prop, (∀ H', Nx H' → ∃ m', m' < m ∧ W (i + 1) m' H') ∧ ∀ x H', (Itl K a).yld i H x H' → g x (wipe σ vs) H' fun σ2 H2 => wipe σ2 vs = wipe σ vs ∧ tt σ2 H2 fun c H3 =>
        if c = true then te σ2 H3 fun y H4 => ∃ acc, H4 D = some (.lst acc) ∧ acc.length < sizeLine ∧ Nx (upd H4 D (.lst (acc ++ [y]))) else Nx H3) := by
  obtain ⟨us, ea, pa⟩ := h
  have hl := pa.length
  refine lc_it (walk_list (K := K) (a := a) (xs := us)) (fun i H => Same H1 H ∧ GrAt R H D (((l.take i).filter p).map f)) ⟨same_new nD, GrAt.nil⟩
    (fun i H _ h => .inl (.inl (h.1 _ _ ea))) (fun i v H H' hi hP hy => ?_) (fun H hP => done H hP.1 ?_)
  · obtain ⟨eH, ev⟩ := hy
    subst eH
    obtain ⟨s, gr⟩ := hP
    obtain ⟨x, ex, rx⟩ := pair_got pa ev
    obtain ⟨acc, eacc, lacc⟩ := gr.there
    have hx : x ∈ l := List.mem_of_getElem? ex
    have lm : (((l.take i).filter p).map f).length ≤ 1000000 := by
      rw [List.length_map]
      have h1 := List.length_filter_le p (l.take i)
      rw [List.length_take] at h1
      omega
    refine turn x v _ hx s ⟨acc, eacc⟩ (ms _ _ _ _ (to_del s nD) rx) _ _ (fun hp y H' s' ry => ⟨acc, s' _ _ eacc, ?_, ?_, ?_⟩) (fun hp H' s' => ?_)
    · rw [lacc]
      exact Nat.lt_of_le_of_lt lm (by decide)
    · exact same_upd_new (s.trans s') nD
    · rw [take_snoc ex, List.filter_append, List.map_append, List.filter_cons_of_pos hp]
      exact (gr.same mr s').snoc (s' _ _ eacc) ry
    · rw [take_snoc ex, List.filter_append, List.map_append, List.filter_cons_of_neg (by rw [hp]; exact Bool.false_ne_true), List.filter_nil, List.map_nil, List.append_nil]
      exact ⟨s.trans s', gr.same mr s'⟩
  · have e := hP.2
    rw [hl, List.take_length] at e
    exact e.ls mr
/-- over two lists side by side -/
theorem lc_zp {f : α → γ → β} (ms : Mono Rs) (mt : Mono Rt) (mr : Mono R) (ha : LsAt Rs H1 a l) (hb : LsAt Rt H1 b m) (nD : H1 D = none) (lid : l.length ≤ 1000000)
    (turn : ∀ (x : α) (z : γ) (v u : V) (T : Addr) (H : Hp), (x, z) ∈ l.zip m → Same H1 H → (∃ acc, H D = some (.lst acc)) → H T = some (.tup [v, u]) → Rs H v x → Rt H u z → ∀ (Z : V → Hp → Prop),
      (∀ y H', Same H H' → R (del H' D) y (f x z) → Z y H') →
      g (.ref T) (wipe σ vs) H fun σ2 H2 => wipe σ2 vs = wipe σ vs ∧ te σ2 H2 Z)
    (done : ∀ H, Same H1 H → LsAt R H D ((l.zip m).map fun q => f q.1 q.2) → Qd H) :
    ∃ W : Nat → Nat → Hp → Prop, (∃ m, W 0 m (upd H1 D (.lst []))) ∧ ∀ i m H, W i m H →
      ((Itz K a b).stop i H ∧ Qd H) ∨ ((Itz K a b).go i H ∧ ∃ Nx : Hp → Prop, (∀ H', Nx H' → ∃ m', m' < m ∧ W (i + 1) m' H') ∧ ∀ x H', (Itz K a b).yld i H x H' → g x (wipe σ vs) H' fun σ2 H2 => wipe σ2 vs = wipe σ vs ∧ tYes σ2 H2 fun c H3 =>
        if c = true then te σ2 H3 fun y H4 => ∃ acc, H4 D = some (.lst acc) ∧ acc.length < sizeLine ∧ Nx (upd H4 D (.lst (acc ++ [y]))) else Nx H3) := by
  obtain ⟨us, ea, pa⟩ := ha
  obtain ⟨ws, eb, pb⟩ := hb
  have hl := pa.length
  have hm := pb.length
  refine lc_it (walk_zip (K := K) (a := a) (b := b) (xs := us) (ys := ws) rfl) (fun i H => Same H1 H ∧ GrAt R H D (((l.zip m).take i).map fun q => f q.1 q.2)) ⟨same_new nD, GrAt.nil⟩
    (fun i H _ h => ⟨.inl (.inl (h.1 _ _ ea)), .inl (.inl (h.1 _ _ eb))⟩) (fun i v H H' hi hP hy => ?_) (fun H hP => done H hP.1 ?_)
  · obtain ⟨T, v1, v2, rfl, nT, rfl, g1, g2⟩ := hy
    obtain ⟨s, gr⟩ := hP
    obtain ⟨x, ex, rx⟩ := pair_got pa g1
    obtain ⟨z, ez, rz⟩ := pair_got pb g2
    obtain ⟨acc, eacc, lacc⟩ := gr.there
    have exz : (l.zip m)[i]? = some (x, z) := List.getElem?_zip_eq_some.mpr ⟨ex, ez⟩
    have sT : Same H (upd H T (.tup [v1, v2])) := same_new nT
    have lm : (((l.zip m).take i).map fun q => f q.1 q.2).length ≤ 1000000 := by
      rw [List.length_map, List.length_take, List.length_zip]
      omega
    have st := s.trans sT
    have goal := turn x z v1 v2 T _ (List.mem_of_getElem? exz) st ⟨acc, sT _ _ eacc⟩ upd_same (ms _ _ _ _ st rx) (mt _ _ _ _ st rz)
      (fun y H4 => ∃ acc, H4 D = some (.lst acc) ∧ acc.length < sizeLine ∧ (Same H1 (upd H4 D (.lst (acc ++ [y]))) ∧ GrAt R (upd H4 D (.lst (acc ++ [y]))) D (((l.zip m).take (i + 1)).map fun q => f q.1 q.2)))
      (fun y H' s' ry => ⟨acc, s' _ _ (sT _ _ eacc), by rw [lacc]; exact Nat.lt_of_le_of_lt lm (by decide), same_upd_new (st.trans s') nD, by
        rw [take_snoc exz, List.map_append]
        exact (gr.same mr (sT.trans s')).snoc (s' _ _ (sT _ _ eacc)) ry⟩)
    have e : (fun (σ2 : L2.St) (H2 : Hp) => wipe σ2 vs = wipe σ vs ∧ te σ2 H2 (fun y H4 => ∃ acc, H4 D = some (.lst acc) ∧ acc.length < sizeLine ∧ (Same H1 (upd H4 D (.lst (acc ++ [y]))) ∧ GrAt R (upd H4 D (.lst (acc ++ [y]))) D (((l.zip m).take (i + 1)).map fun q => f q.1 q.2)))) =
        fun σ2 H2 => wipe σ2 vs = wipe σ vs ∧ tYes σ2 H2 fun c H3 => if c = true then te σ2 H3 (fun y H4 => ∃ acc, H4 D = some (.lst acc) ∧ acc.length < sizeLine ∧ (Same H1 (upd H4 D (.lst (acc ++ [y]))) ∧ GrAt R (upd H4 D (.lst (acc ++ [y]))) D (((l.zip m).take (i + 1)).map fun q => f q.1 q.2))) else (Same H1 H3 ∧ GrAt R H3 D (((l.zip m).take (i + 1)).map fun q => f q.1 q.2)) := by
      funext σ2 H2
      simp only [tYes, ↓reduceIte]
    rw [e] at goal
    exact goal
  · have e := hP.2
    rw [show min us.length ws.length = (l.zip m).length by rw [List.length_zip, hl, hm], List.take_length] at e
    exact e.ls mr
end

/-! ### a list against [] -/
section
variable {α : Type} {R : RX α} {K : PySem.W.Frag} {H : Hp} {a : Addr} {l : List α}
/-- each thing can be compared -/
def Cmp (R : RX α) : Prop := ∀ K H v x, R H v x → ∃ d, Dp K H v d ∧ d.canLay0 = true ∧ d.depth ≤ 8
theorem dp_all (c : Cmp R) : ∀ {vs : List V} {l : List α}, Paired (R H) vs l → ∃ ds, DpAll K H vs ds ∧ PyData.canLayAll0 ds = true ∧ PyData.depthAll ds ≤ 8 ∧ ds.length = l.length
  | _, _, .nil => ⟨[], .nil, rfl, Nat.zero_le _, rfl⟩
  | _, _, .cons r t => by
    obtain ⟨d, h1, h2, h3⟩ := c K H _ _ r
    obtain ⟨ds, g1, g2, g3, g4⟩ := dp_all c t
    refine ⟨d :: ds, .cons h1 g1, ?_, ?_, by rw [List.length_cons, List.length_cons, g4]⟩
    · show (d.canLay0 && PyData.canLayAll0 ds) = true
      rw [h2, g2]
      rfl
    · show max d.depth (PyData.depthAll ds) ≤ 8
      omega
theorem LsAt.dp (c : Cmp R) (h : LsAt R H a l) : ∃ ds, Dp K H (.ref a) (.list ds) ∧ SeqAt.shaped (.list ds) = true ∧ PyData.eqv (.list ds) (.list []) = l.isEmpty := by
  obtain ⟨vs, e, p⟩ := h
  obtain ⟨ds, g1, g2, g3, g4⟩ := dp_all (K := K) c p
  refine ⟨ds, .lst (.inl (.inl e)) g1, ?_, ?_⟩
  · show (PyData.canLayAll0 ds && decide (PyData.depthAll ds + 1 ≤ 64)) = true
    rw [g2, decide_eq_true (by omega : PyData.depthAll ds + 1 ≤ 64)]
    rfl
  · cases ds with
    | nil =>
      cases l with
      | nil => rfl
      | cons _ _ => simp at g4
    | cons _ _ =>
      cases l with
      | nil => simp at g4
      | cons _ _ => rfl
theorem dp_nil {p : Addr} (h : H p = some (.lst [])) : Dp K H (.ref p) (.list []) := .lst (.inl (.inl h)) .nil
theorem cInt : Cmp RInt := fun _ _ _ n e => by
  have e1 : _ = V.int n := e
  rw [e1]
  exact ⟨.int n, .int n, rfl, Nat.zero_le _⟩
theorem cNat : Cmp RNat := fun _ _ _ n e => by
  have e1 : _ = V.int _ := e
  rw [e1]
  exact ⟨.int n, .int n, rfl, Nat.zero_le _⟩
theorem cBin : Cmp RBin := fun K H v b ⟨t, e, h⟩ => by
  rw [e]
  exact ⟨.tuple [.int b.kilograms, .int b.strength, .int b.ash, .int b.price], .tup (.inl (.inl h)) (.cons (.int _) (.cons (.int _) (.cons (.int _) (.cons (.int _) .nil)))), rfl, Nat.le_trans (Nat.le_of_eq (show _ = 1 from rfl)) (by decide)⟩
theorem cBlend : Cmp RBlend := fun K H v x ⟨t, e, h⟩ => by
  obtain ⟨ds, g1, g2, g3, g4⟩ := dp_all (K := K) (H := H) cNat (pair_nat x)
  have depthInt : ∀ {vs : List V} {ds : List PyData}, DpAll K H vs ds → (∀ v ∈ vs, ∃ i, v = V.int i) → PyData.depthAll ds = 0 := by
    intro vs
    induction vs with
    | nil =>
      intro ds h _
      cases h
      rfl
    | cons v vs ih =>
      intro ds h hv
      cases h with
      | cons a b =>
        obtain ⟨i, rfl⟩ := hv v (List.mem_cons_self ..)
        cases a
        have := ih b fun w hw => hv w (List.mem_cons_of_mem _ hw)
        show max 0 _ = 0
        omega
  rw [e]
  refine ⟨.list ds, .lst (.inl (.inl h)) g1, g2, ?_⟩
  show PyData.depthAll ds + 1 ≤ 8
  rw [depthInt g1 fun v hv => ?_]
  · decide
  · obtain ⟨n, _, rfl⟩ := List.mem_map.mp hv
    exact ⟨_, rfl⟩
end
end Fb

/-! FbCtx: the facts of the top by names, the rule for a def of the module, the rule for a method. Printed by gen_text.py. -/
namespace Fb
open PySem PySem.Spec PyProof.Rows L2
/-- what the top has left -/
structure Ctx (w : World) (K : PySem.W.Frag) (mg : Str → Option Value) (h : Heap) : Prop where
  X : K.In h
  G : h.Ns mainGlobals mg
  c : Says w h K
section
variable {w : World} {K : PySem.W.Frag} {mg : Str → Option Value} {base h : Heap}
theorem Ctx.cal {x : Str} {st : Stmt} {f : Addr} {N ps : List Str} {k : Nat} {sp : Sp} (c : Ctx w K mg h) (hg : mg x = some (.ref f)) (F : ∃ fd, FunD K x x (defArgs st) (defBody st) (defScope st) [] [] f fd) (S : FnScope N ps (defScope st))
    (hb : ∀ (kV doc pm : Value) (an : Option Addr) (cdv ct : Value) (us : List Value), us.length = ps.length → bindArgs (PySem.W.fnOf x x (defArgs st) (defBody st) (defScope st) .none kV doc pm an cdv ct) ⟨us, []⟩ = pure (ps.zip us))
    (len : ∀ vs H Q E, sp vs H Q E → vs.length = ps.length)
    (hbody : ∀ (cdv : Value) (A : Around) (outer : List Env) (s : Shared) (H : Hp) (vs : List V) (Q : VK) (E : XK), Room k (A.deeper (envOfC x (defScope st) s.heap.objs.size f cdv)) → sp vs H Q E →
      ∃ t, PSs (cxOf CX0 PP w K mg base N x (defScope st) f cdv A outer s H E).nox (defBody st) t ∧ t { nx := fun _ H' => Q .non H', rt := Q } (start N vs) H) : C8.Cal PP w K mg base (k + 1) x sp [] := by
  obtain ⟨fd, F⟩ := F
  refine ⟨f, fd, ps, [], ?_, hg, F.kp, F.bindsN hb, .nil⟩
  exact F.ok S len fun cdv A outer s H vs Q E hr hs => by
    obtain ⟨t, h1, h2⟩ := hbody cdv A outer s H vs Q E hr hs
    exact ⟨t, h1.nox, h2⟩
/-- a method of a class -/
theorem Ctx.met {x q : Str} {C : Addr} {st : Stmt} {f : Addr} {N ps : List Str} {k : Nat} {sp : Sp} (c : Ctx w K mg h) (hc : Cls K C) (hm : Meth K C x f) (F : ∃ fd, FunD K x q (defArgs st) (defBody st) (defScope st) [] [] f fd) (S : FnScope N ps (defScope st))
    (hb : ∀ (kV doc pm : Value) (an : Option Addr) (cdv ct : Value) (us : List Value), us.length = ps.length → bindArgs (PySem.W.fnOf x q (defArgs st) (defBody st) (defScope st) .none kV doc pm an cdv ct) ⟨us, []⟩ = pure (ps.zip us))
    (len : ∀ vs H Q E, sp vs H Q E → vs.length = ps.length)
    (hbody : ∀ (cdv : Value) (A : Around) (outer : List Env) (s : Shared) (H : Hp) (vs : List V) (Q : VK) (E : XK), Room k (A.deeper (envOfC q (defScope st) s.heap.objs.size f cdv)) → sp vs H Q E →
      ∃ t, PSs (cxOf CX0 PP w K mg base N q (defScope st) f cdv A outer s H E).nox (defBody st) t ∧ t { nx := fun _ H' => Q .non H', rt := Q } (start N vs) H) : C8.Met PP w K mg base (k + 1) C x sp [] := by
  obtain ⟨fd, F⟩ := F
  refine ⟨f, fd, ps, [], hc, hm, ?_, F.bindsN hb, .nil⟩
  exact F.ok S len fun cdv A outer s H vs Q E hr hs => by
    obtain ⟨t, h1, h2⟩ := hbody cdv A outer s H vs Q E hr hs
    exact ⟨t, h1.nox, h2⟩
/-- a class that is made, by its __init__ -/
theorem Ctx.mak {x q : Str} {C : Addr} {st : Stmt} {f : Addr} {N ps : List Str} {k : Nat} {sp : Sp} (c : Ctx w K mg h) (hg : mg x = some (.ref C)) (M : Mk K C f) (F : ∃ fd, FunD K "__init__" q (defArgs st) (defBody st) (defScope st) [] [] f fd) (S : FnScope N ps (defScope st))
    (hb : ∀ (kV doc pm : Value) (an : Option Addr) (cdv ct : Value) (us : List Value), us.length = ps.length → bindArgs (PySem.W.fnOf "__init__" q (defArgs st) (defBody st) (defScope st) .none kV doc pm an cdv ct) ⟨us, []⟩ = pure (ps.zip us))
    (len : ∀ vs H Q E, sp vs H Q E → vs.length = ps.length)
    (hbody : ∀ (cdv : Value) (A : Around) (outer : List Env) (s : Shared) (H : Hp) (vs : List V) (Q : VK) (E : XK), Room k (A.deeper (envOfC q (defScope st) s.heap.objs.size f cdv)) → sp vs H Q E →
      ∃ t, PSs (cxOf CX0 PP w K mg base N q (defScope st) f cdv A outer s H E).nox (defBody st) t ∧ t { nx := fun _ H' => Q .non H', rt := Q } (start N vs) H) : C8.Mak PP w K mg base (k + 1) x C sp [] := by
  obtain ⟨fd, F⟩ := F
  refine ⟨f, fd, ps, [], M, ?_, hg, F.bindsN hb, .nil⟩
  exact F.ok S len fun cdv A outer s H vs Q E hr hs => by
    obtain ⟨t, h1, h2⟩ := hbody cdv A outer s H vs Q E hr hs
    exact ⟨t, h1.nox, h2⟩
theorem pe_mk0 {X : Cx} {j k : Nat} {C : Addr} {x : Str} {sp : Sp} {p pos : Pos} (c : C8.Mak X.prog X.w X.K X.mg X.base k x C sp []) (hr : Room j X.A) (hk : k + 1 ≤ j) (hg : Gl X x) (hdb : (x == ("__debug__" : Str)) = false := by decide) :
    PE X (.Call (.Name x p) [] [] pos) (tMake C sp [] E0 tNil) := by
  obtain ⟨f, fd, ps, ds, M, F, hm, b, d⟩ := c.ex
  exact pe_make0 M F (hr.mono hk) hg hm b d pass0 hdb
abbrev CS (K : PySem.W.Frag) : Addr := He.ga K "Store"
abbrev CD (K : PySem.W.Frag) : Addr := He.ga K "Desk"
theorem g_weight_of (c : Ctx w K mg h) : mg "weight_of" = some (.ref (He.ga K "weight_of")) := He.glo_ok c.X c.G (c.c.t.d.fact 0)
theorem g_strength_sum (c : Ctx w K mg h) : mg "strength_sum" = some (.ref (He.ga K "strength_sum")) := He.glo_ok c.X c.G (c.c.t.d.fact 1)
theorem g_ash_sum (c : Ctx w K mg h) : mg "ash_sum" = some (.ref (He.ga K "ash_sum")) := He.glo_ok c.X c.G (c.c.t.d.fact 2)
theorem g_cost_of (c : Ctx w K mg h) : mg "cost_of" = some (.ref (He.ga K "cost_of")) := He.glo_ok c.X c.G (c.c.t.d.fact 3)
theorem g_is_available (c : Ctx w K mg h) : mg "is_available" = some (.ref (He.ga K "is_available")) := He.glo_ok c.X c.G (c.c.t.d.fact 4)
theorem g_longer_rows (c : Ctx w K mg h) : mg "longer_rows" = some (.ref (He.ga K "longer_rows")) := He.glo_ok c.X c.G (c.c.t.d.fact 5)
theorem g_available_blends (c : Ctx w K mg h) : mg "available_blends" = some (.ref (He.ga K "available_blends")) := He.glo_ok c.X c.G (c.c.t.d.fact 6)
theorem g_bins_after (c : Ctx w K mg h) : mg "bins_after" = some (.ref (He.ga K "bins_after")) := He.glo_ok c.X c.G (c.c.t.d.fact 7)
theorem g_is_strong (c : Ctx w K mg h) : mg "is_strong" = some (.ref (He.ga K "is_strong")) := He.glo_ok c.X c.G (c.c.t.d.fact 8)
theorem g_is_soft (c : Ctx w K mg h) : mg "is_soft" = some (.ref (He.ga K "is_soft")) := He.glo_ok c.X c.G (c.c.t.d.fact 9)
theorem g_is_clean (c : Ctx w K mg h) : mg "is_clean" = some (.ref (He.ga K "is_clean")) := He.glo_ok c.X c.G (c.c.t.d.fact 10)
theorem g_keeps_bounds (c : Ctx w K mg h) : mg "keeps_bounds" = some (.ref (He.ga K "keeps_bounds")) := He.glo_ok c.X c.G (c.c.t.d.fact 11)
theorem g_is_valid (c : Ctx w K mg h) : mg "is_valid" = some (.ref (He.ga K "is_valid")) := He.glo_ok c.X c.G (c.c.t.d.fact 12)
theorem g_valid_blends (c : Ctx w K mg h) : mg "valid_blends" = some (.ref (He.ga K "valid_blends")) := He.glo_ok c.X c.G (c.c.t.d.fact 13)
theorem g_cheapest_of (c : Ctx w K mg h) : mg "cheapest_of" = some (.ref (He.ga K "cheapest_of")) := He.glo_ok c.X c.G (c.c.t.d.fact 14)
theorem g_cheapest_blend (c : Ctx w K mg h) : mg "cheapest_blend" = some (.ref (He.ga K "cheapest_blend")) := He.glo_ok c.X c.G (c.c.t.d.fact 15)
theorem g_greatest_weight (c : Ctx w K mg h) : mg "greatest_weight" = some (.ref (He.ga K "greatest_weight")) := He.glo_ok c.X c.G (c.c.t.d.fact 16)
theorem g_obstacle_of (c : Ctx w K mg h) : mg "obstacle_of" = some (.ref (He.ga K "obstacle_of")) := He.glo_ok c.X c.G (c.c.t.d.fact 17)
theorem g_common_divisor (c : Ctx w K mg h) : mg "common_divisor" = some (.ref (He.ga K "common_divisor")) := He.glo_ok c.X c.G (c.c.t.d.fact 18)
theorem g_lowest_terms (c : Ctx w K mg h) : mg "lowest_terms" = some (.ref (He.ga K "lowest_terms")) := He.glo_ok c.X c.G (c.c.t.d.fact 19)
theorem g_average (c : Ctx w K mg h) : mg "average" = some (.ref (He.ga K "average")) := He.glo_ok c.X c.G (c.c.t.d.fact 20)
theorem g_with_item (c : Ctx w K mg h) : mg "with_item" = some (.ref (He.ga K "with_item")) := He.glo_ok c.X c.G (c.c.t.d.fact 21)
theorem g_is_within (c : Ctx w K mg h) : mg "is_within" = some (.ref (He.ga K "is_within")) := He.glo_ok c.X c.G (c.c.t.d.fact 22)
theorem g_has_bin (c : Ctx w K mg h) : mg "has_bin" = some (.ref (He.ga K "has_bin")) := He.glo_ok c.X c.G (c.c.t.d.fact 23)
theorem g_is_price (c : Ctx w K mg h) : mg "is_price" = some (.ref (He.ga K "is_price")) := He.glo_ok c.X c.G (c.c.t.d.fact 24)
theorem g_is_flour (c : Ctx w K mg h) : mg "is_flour" = some (.ref (He.ga K "is_flour")) := He.glo_ok c.X c.G (c.c.t.d.fact 25)
theorem g_add_bin (c : Ctx w K mg h) : mg "add_bin" = some (.ref (He.ga K "add_bin")) := He.glo_ok c.X c.G (c.c.t.d.fact 26)
theorem g_bins_with_kilograms (c : Ctx w K mg h) : mg "bins_with_kilograms" = some (.ref (He.ga K "bins_with_kilograms")) := He.glo_ok c.X c.G (c.c.t.d.fact 27)
theorem g_bins_with_price (c : Ctx w K mg h) : mg "bins_with_price" = some (.ref (He.ga K "bins_with_price")) := He.glo_ok c.X c.G (c.c.t.d.fact 28)
theorem g_add_flour (c : Ctx w K mg h) : mg "add_flour" = some (.ref (He.ga K "add_flour")) := He.glo_ok c.X c.G (c.c.t.d.fact 29)
theorem g_price_refusal (c : Ctx w K mg h) : mg "price_refusal" = some (.ref (He.ga K "price_refusal")) := He.glo_ok c.X c.G (c.c.t.d.fact 30)
theorem g_set_price (c : Ctx w K mg h) : mg "set_price" = some (.ref (He.ga K "set_price")) := He.glo_ok c.X c.G (c.c.t.d.fact 31)
theorem g_empty_bin (c : Ctx w K mg h) : mg "empty_bin" = some (.ref (He.ga K "empty_bin")) := He.glo_ok c.X c.G (c.c.t.d.fact 32)
theorem g_set_request (c : Ctx w K mg h) : mg "set_request" = some (.ref (He.ga K "set_request")) := He.glo_ok c.X c.G (c.c.t.d.fact 33)
theorem g_told_blend (c : Ctx w K mg h) : mg "told_blend" = some (.ref (He.ga K "told_blend")) := He.glo_ok c.X c.G (c.c.t.d.fact 34)
theorem g_answer_cheapest_blend (c : Ctx w K mg h) : mg "answer_cheapest_blend" = some (.ref (He.ga K "answer_cheapest_blend")) := He.glo_ok c.X c.G (c.c.t.d.fact 35)
theorem g_make_cheapest_blend (c : Ctx w K mg h) : mg "make_cheapest_blend" = some (.ref (He.ga K "make_cheapest_blend")) := He.glo_ok c.X c.G (c.c.t.d.fact 36)
theorem g_is_blend (c : Ctx w K mg h) : mg "is_blend" = some (.ref (He.ga K "is_blend")) := He.glo_ok c.X c.G (c.c.t.d.fact 37)
theorem g_make_blend (c : Ctx w K mg h) : mg "make_blend" = some (.ref (He.ga K "make_blend")) := He.glo_ok c.X c.G (c.c.t.d.fact 38)
theorem g_check_blend (c : Ctx w K mg h) : mg "check_blend" = some (.ref (He.ga K "check_blend")) := He.glo_ok c.X c.G (c.c.t.d.fact 39)
theorem g_count_blends (c : Ctx w K mg h) : mg "count_blends" = some (.ref (He.ga K "count_blends")) := He.glo_ok c.X c.G (c.c.t.d.fact 40)
theorem g_greatest_amount (c : Ctx w K mg h) : mg "greatest_amount" = some (.ref (He.ga K "greatest_amount")) := He.glo_ok c.X c.G (c.c.t.d.fact 41)
theorem g_extreme_averages (c : Ctx w K mg h) : mg "extreme_averages" = some (.ref (He.ga K "extreme_averages")) := He.glo_ok c.X c.G (c.c.t.d.fact 42)
theorem g_obstacle (c : Ctx w K mg h) : mg "obstacle" = some (.ref (He.ga K "obstacle")) := He.glo_ok c.X c.G (c.c.t.d.fact 43)
theorem g_cheapest_if_price (c : Ctx w K mg h) : mg "cheapest_if_price" = some (.ref (He.ga K "cheapest_if_price")) := He.glo_ok c.X c.G (c.c.t.d.fact 44)
theorem g_cheapest_without (c : Ctx w K mg h) : mg "cheapest_without" = some (.ref (He.ga K "cheapest_without")) := He.glo_ok c.X c.G (c.c.t.d.fact 45)
theorem g_describe (c : Ctx w K mg h) : mg "describe" = some (.ref (He.ga K "describe")) := He.glo_ok c.X c.G (c.c.t.d.fact 46)
theorem g_create (c : Ctx w K mg h) : mg "create" = some (.ref (He.ga K "create")) := He.glo_ok c.X c.G (c.c.t.d.fact 47)
theorem g_answer_to (c : Ctx w K mg h) : mg "answer_to" = some (.ref (He.ga K "answer_to")) := He.glo_ok c.X c.G (c.c.t.d.fact 48)
theorem g_list_end (c : Ctx w K mg h) : mg "list_end" = some (.ref (He.ga K "list_end")) := He.glo_ok c.X c.G (c.c.t.d.fact 49)
theorem g_answers (c : Ctx w K mg h) : mg "answers" = some (.ref (He.ga K "answers")) := He.glo_ok c.X c.G (c.c.t.d.fact 50)
theorem g_Store (c : Ctx w K mg h) : mg "Store" = some (.ref (He.ga K "Store")) := He.glo_ok c.X c.G (c.c.t.d.fact 51)
theorem g_Desk (c : Ctx w K mg h) : mg "Desk" = some (.ref (He.ga K "Desk")) := He.glo_ok c.X c.G (c.c.t.d.fact 52)
theorem g_WIDTHS (c : Ctx w K mg h) : mg "WIDTHS" = some (.ref (He.ga K "WIDTHS")) := He.glo_ok c.X c.G (c.c.t.d.fact 53)
theorem g_WITH_LIST (c : Ctx w K mg h) : mg "WITH_LIST" = some (.ref (He.ga K "WITH_LIST")) := He.glo_ok c.X c.G (c.c.t.d.fact 54)
theorem g_DEEDS (c : Ctx w K mg h) : mg "DEEDS" = some (.ref (He.ga K "DEEDS")) := He.glo_ok c.X c.G (c.c.t.d.fact 55)
theorem i_FOUND (c : Ctx w K mg h) : ∃ t, mg "FOUND" = some (.int (0) t) := He.int_ok c.X c.G (c.c.t.d.fact 56)
theorem i_NO_BLEND_choice (c : Ctx w K mg h) : ∃ t, mg "NO_BLEND_choice" = some (.int (1) t) := He.int_ok c.X c.G (c.c.t.d.fact 57)
theorem i_TOO_WEAK (c : Ctx w K mg h) : ∃ t, mg "TOO_WEAK" = some (.int (2) t) := He.int_ok c.X c.G (c.c.t.d.fact 58)
theorem i_TOO_STRONG (c : Ctx w K mg h) : ∃ t, mg "TOO_STRONG" = some (.int (3) t) := He.int_ok c.X c.G (c.c.t.d.fact 59)
theorem i_TOO_MUCH_ASH (c : Ctx w K mg h) : ∃ t, mg "TOO_MUCH_ASH" = some (.int (4) t) := He.int_ok c.X c.G (c.c.t.d.fact 60)
theorem i_NOT_TOGETHER (c : Ctx w K mg h) : ∃ t, mg "NOT_TOGETHER" = some (.int (5) t) := He.int_ok c.X c.G (c.c.t.d.fact 61)
theorem i_MAX_KILOGRAMS (c : Ctx w K mg h) : ∃ t, mg "MAX_KILOGRAMS" = some (.int (30) t) := He.int_ok c.X c.G (c.c.t.d.fact 62)
theorem i_MAX_CONTENT (c : Ctx w K mg h) : ∃ t, mg "MAX_CONTENT" = some (.int (999) t) := He.int_ok c.X c.G (c.c.t.d.fact 63)
theorem i_MAX_PRICE (c : Ctx w K mg h) : ∃ t, mg "MAX_PRICE" = some (.int (99) t) := He.int_ok c.X c.G (c.c.t.d.fact 64)
theorem i_MAX_WEIGHT (c : Ctx w K mg h) : ∃ t, mg "MAX_WEIGHT" = some (.int (30) t) := He.int_ok c.X c.G (c.c.t.d.fact 65)
theorem i_MAX_BINS (c : Ctx w K mg h) : ∃ t, mg "MAX_BINS" = some (.int (4) t) := He.int_ok c.X c.G (c.c.t.d.fact 66)
theorem i_NO_BIN (c : Ctx w K mg h) : ∃ t, mg "NO_BIN" = some (.int (-2) t) := He.int_ok c.X c.G (c.c.t.d.fact 67)
theorem i_TOO_LITTLE (c : Ctx w K mg h) : ∃ t, mg "TOO_LITTLE" = some (.int (-6) t) := He.int_ok c.X c.G (c.c.t.d.fact 68)
theorem i_OUT_OF_RANGE (c : Ctx w K mg h) : ∃ t, mg "OUT_OF_RANGE" = some (.int (-22) t) := He.int_ok c.X c.G (c.c.t.d.fact 69)
theorem i_FULL (c : Ctx w K mg h) : ∃ t, mg "FULL" = some (.int (-28) t) := He.int_ok c.X c.G (c.c.t.d.fact 70)
theorem i_NO_BLEND_operations (c : Ctx w K mg h) : ∃ t, mg "NO_BLEND_operations" = some (.int (-33) t) := He.int_ok c.X c.G (c.c.t.d.fact 71)
theorem i_CREATE (c : Ctx w K mg h) : ∃ t, mg "CREATE" = some (.int (0) t) := He.int_ok c.X c.G (c.c.t.d.fact 72)
theorem i_NO_INSTANCE (c : Ctx w K mg h) : ∃ t, mg "NO_INSTANCE" = some (.int (-11) t) := He.int_ok c.X c.G (c.c.t.d.fact 73)
theorem m_len (c : Ctx w K mg h) : mg "len" = none := He.free_ok c.X c.G (c.c.t.d.fact 74)
theorem m_sum (c : Ctx w K mg h) : mg "sum" = none := He.free_ok c.X c.G (c.c.t.d.fact 75)
theorem m_zip (c : Ctx w K mg h) : mg "zip" = none := He.free_ok c.X c.G (c.c.t.d.fact 76)
theorem m_min (c : Ctx w K mg h) : mg "min" = none := He.free_ok c.X c.G (c.c.t.d.fact 77)
theorem m_max (c : Ctx w K mg h) : mg "max" = none := He.free_ok c.X c.G (c.c.t.d.fact 78)
theorem m_all (c : Ctx w K mg h) : mg "all" = none := He.free_ok c.X c.G (c.c.t.d.fact 79)
theorem m_any (c : Ctx w K mg h) : mg "any" = none := He.free_ok c.X c.G (c.c.t.d.fact 80)
theorem m_range (c : Ctx w K mg h) : mg "range" = none := He.free_ok c.X c.G (c.c.t.d.fact 81)
theorem m_int (c : Ctx w K mg h) : mg "int" = none := He.free_ok c.X c.G (c.c.t.d.fact 82)
theorem m_list (c : Ctx w K mg h) : mg "list" = none := He.free_ok c.X c.G (c.c.t.d.fact 83)
theorem cls_Store (c : Ctx w K mg h) : Cls K (He.ga K "Store") := He.cls_ok (c.c.t.d.fact 84)
theorem no_Store_bins (c : Ctx w K mg h) : NoAttr K (He.ga K "Store") "bins" := He.noat_ok (c.c.t.d.fact 85)
theorem no_Store_weight (c : Ctx w K mg h) : NoAttr K (He.ga K "Store") "weight" := He.noat_ok (c.c.t.d.fact 86)
theorem no_Store_bounds (c : Ctx w K mg h) : NoAttr K (He.ga K "Store") "bounds" := He.noat_ok (c.c.t.d.fact 87)
theorem no_Store_spent (c : Ctx w K mg h) : NoAttr K (He.ga K "Store") "spent" := He.noat_ok (c.c.t.d.fact 88)
theorem me_Store_take_bins (c : Ctx w K mg h) : Meth K (He.ga K "Store") "take_bins" (He.ma K (He.ga K "Store") "take_bins") := He.meth_ok (c.c.t.d.fact 89)
theorem me_Store_take_request (c : Ctx w K mg h) : Meth K (He.ga K "Store") "take_request" (He.ma K (He.ga K "Store") "take_request") := He.meth_ok (c.c.t.d.fact 90)
theorem me_Store_take_out (c : Ctx w K mg h) : Meth K (He.ga K "Store") "take_out" (He.ma K (He.ga K "Store") "take_out") := He.meth_ok (c.c.t.d.fact 91)
theorem mk_Store (c : Ctx w K mg h) : Mk K (He.ga K "Store") (He.ma K (He.ga K "Store") "__init__") := He.mkr_ok (c.c.t.d.fact 92)
theorem cls_Desk (c : Ctx w K mg h) : Cls K (He.ga K "Desk") := He.cls_ok (c.c.t.d.fact 93)
theorem no_Desk_store (c : Ctx w K mg h) : NoAttr K (He.ga K "Desk") "store" := He.noat_ok (c.c.t.d.fact 94)
theorem me_Desk_place_store (c : Ctx w K mg h) : Meth K (He.ga K "Desk") "place_store" (He.ma K (He.ga K "Desk") "place_store") := He.meth_ok (c.c.t.d.fact 95)
theorem mk_Desk (c : Ctx w K mg h) : Mk K (He.ga K "Desk") (He.ma K (He.ga K "Desk") "__init__") := He.mkr_ok (c.c.t.d.fact 96)
theorem F_weight_of (c : Ctx w K mg h) : ∃ fd, FunD K "weight_of" "weight_of" (defArgs s_weight_of) (defBody s_weight_of) (defScope s_weight_of) [] [] (He.ga K "weight_of") fd := c.c.t.d.def_ 0 (d := d_weight_of)
theorem F_strength_sum (c : Ctx w K mg h) : ∃ fd, FunD K "strength_sum" "strength_sum" (defArgs s_strength_sum) (defBody s_strength_sum) (defScope s_strength_sum) [] [] (He.ga K "strength_sum") fd := c.c.t.d.def_ 1 (d := d_strength_sum)
theorem F_ash_sum (c : Ctx w K mg h) : ∃ fd, FunD K "ash_sum" "ash_sum" (defArgs s_ash_sum) (defBody s_ash_sum) (defScope s_ash_sum) [] [] (He.ga K "ash_sum") fd := c.c.t.d.def_ 2 (d := d_ash_sum)
theorem F_cost_of (c : Ctx w K mg h) : ∃ fd, FunD K "cost_of" "cost_of" (defArgs s_cost_of) (defBody s_cost_of) (defScope s_cost_of) [] [] (He.ga K "cost_of") fd := c.c.t.d.def_ 3 (d := d_cost_of)
theorem F_is_available (c : Ctx w K mg h) : ∃ fd, FunD K "is_available" "is_available" (defArgs s_is_available) (defBody s_is_available) (defScope s_is_available) [] [] (He.ga K "is_available") fd := c.c.t.d.def_ 4 (d := d_is_available)
theorem F_longer_rows (c : Ctx w K mg h) : ∃ fd, FunD K "longer_rows" "longer_rows" (defArgs s_longer_rows) (defBody s_longer_rows) (defScope s_longer_rows) [] [] (He.ga K "longer_rows") fd := c.c.t.d.def_ 5 (d := d_longer_rows)
theorem F_available_blends (c : Ctx w K mg h) : ∃ fd, FunD K "available_blends" "available_blends" (defArgs s_available_blends) (defBody s_available_blends) (defScope s_available_blends) [] [] (He.ga K "available_blends") fd := c.c.t.d.def_ 6 (d := d_available_blends)
theorem F_bins_after (c : Ctx w K mg h) : ∃ fd, FunD K "bins_after" "bins_after" (defArgs s_bins_after) (defBody s_bins_after) (defScope s_bins_after) [] [] (He.ga K "bins_after") fd := c.c.t.d.def_ 7 (d := d_bins_after)
theorem F_is_strong (c : Ctx w K mg h) : ∃ fd, FunD K "is_strong" "is_strong" (defArgs s_is_strong) (defBody s_is_strong) (defScope s_is_strong) [] [] (He.ga K "is_strong") fd := c.c.t.d.def_ 8 (d := d_is_strong)
theorem F_is_soft (c : Ctx w K mg h) : ∃ fd, FunD K "is_soft" "is_soft" (defArgs s_is_soft) (defBody s_is_soft) (defScope s_is_soft) [] [] (He.ga K "is_soft") fd := c.c.t.d.def_ 9 (d := d_is_soft)
theorem F_is_clean (c : Ctx w K mg h) : ∃ fd, FunD K "is_clean" "is_clean" (defArgs s_is_clean) (defBody s_is_clean) (defScope s_is_clean) [] [] (He.ga K "is_clean") fd := c.c.t.d.def_ 10 (d := d_is_clean)
theorem F_keeps_bounds (c : Ctx w K mg h) : ∃ fd, FunD K "keeps_bounds" "keeps_bounds" (defArgs s_keeps_bounds) (defBody s_keeps_bounds) (defScope s_keeps_bounds) [] [] (He.ga K "keeps_bounds") fd := c.c.t.d.def_ 11 (d := d_keeps_bounds)
theorem F_is_valid (c : Ctx w K mg h) : ∃ fd, FunD K "is_valid" "is_valid" (defArgs s_is_valid) (defBody s_is_valid) (defScope s_is_valid) [] [] (He.ga K "is_valid") fd := c.c.t.d.def_ 12 (d := d_is_valid)
theorem F_valid_blends (c : Ctx w K mg h) : ∃ fd, FunD K "valid_blends" "valid_blends" (defArgs s_valid_blends) (defBody s_valid_blends) (defScope s_valid_blends) [] [] (He.ga K "valid_blends") fd := c.c.t.d.def_ 13 (d := d_valid_blends)
theorem F_cheapest_of (c : Ctx w K mg h) : ∃ fd, FunD K "cheapest_of" "cheapest_of" (defArgs s_cheapest_of) (defBody s_cheapest_of) (defScope s_cheapest_of) [] [] (He.ga K "cheapest_of") fd := c.c.t.d.def_ 14 (d := d_cheapest_of)
theorem F_cheapest_blend (c : Ctx w K mg h) : ∃ fd, FunD K "cheapest_blend" "cheapest_blend" (defArgs s_cheapest_blend) (defBody s_cheapest_blend) (defScope s_cheapest_blend) [] [] (He.ga K "cheapest_blend") fd := c.c.t.d.def_ 15 (d := d_cheapest_blend)
theorem F_greatest_weight (c : Ctx w K mg h) : ∃ fd, FunD K "greatest_weight" "greatest_weight" (defArgs s_greatest_weight) (defBody s_greatest_weight) (defScope s_greatest_weight) [] [] (He.ga K "greatest_weight") fd := c.c.t.d.def_ 16 (d := d_greatest_weight)
theorem F_obstacle_of (c : Ctx w K mg h) : ∃ fd, FunD K "obstacle_of" "obstacle_of" (defArgs s_obstacle_of) (defBody s_obstacle_of) (defScope s_obstacle_of) [] [] (He.ga K "obstacle_of") fd := c.c.t.d.def_ 17 (d := d_obstacle_of)
theorem F_common_divisor (c : Ctx w K mg h) : ∃ fd, FunD K "common_divisor" "common_divisor" (defArgs s_common_divisor) (defBody s_common_divisor) (defScope s_common_divisor) [] [] (He.ga K "common_divisor") fd := c.c.t.d.def_ 18 (d := d_common_divisor)
theorem F_lowest_terms (c : Ctx w K mg h) : ∃ fd, FunD K "lowest_terms" "lowest_terms" (defArgs s_lowest_terms) (defBody s_lowest_terms) (defScope s_lowest_terms) [] [] (He.ga K "lowest_terms") fd := c.c.t.d.def_ 19 (d := d_lowest_terms)
theorem F_average (c : Ctx w K mg h) : ∃ fd, FunD K "average" "average" (defArgs s_average) (defBody s_average) (defScope s_average) [] [] (He.ga K "average") fd := c.c.t.d.def_ 20 (d := d_average)
theorem F_Store_init (c : Ctx w K mg h) : ∃ fd, FunD K "__init__" "Store.__init__" (defArgs s_Store_init) (defBody s_Store_init) (defScope s_Store_init) [] [] (He.ma K (He.ga K "Store") "__init__") fd := c.c.t.d.def_ 21 (d := d_Store_init)
theorem F_Store_take_bins (c : Ctx w K mg h) : ∃ fd, FunD K "take_bins" "Store.take_bins" (defArgs s_Store_take_bins) (defBody s_Store_take_bins) (defScope s_Store_take_bins) [] [] (He.ma K (He.ga K "Store") "take_bins") fd := c.c.t.d.def_ 22 (d := d_Store_take_bins)
theorem F_Store_take_request (c : Ctx w K mg h) : ∃ fd, FunD K "take_request" "Store.take_request" (defArgs s_Store_take_request) (defBody s_Store_take_request) (defScope s_Store_take_request) [] [] (He.ma K (He.ga K "Store") "take_request") fd := c.c.t.d.def_ 23 (d := d_Store_take_request)
theorem F_Store_take_out (c : Ctx w K mg h) : ∃ fd, FunD K "take_out" "Store.take_out" (defArgs s_Store_take_out) (defBody s_Store_take_out) (defScope s_Store_take_out) [] [] (He.ma K (He.ga K "Store") "take_out") fd := c.c.t.d.def_ 24 (d := d_Store_take_out)
theorem F_Desk_init (c : Ctx w K mg h) : ∃ fd, FunD K "__init__" "Desk.__init__" (defArgs s_Desk_init) (defBody s_Desk_init) (defScope s_Desk_init) [] [] (He.ma K (He.ga K "Desk") "__init__") fd := c.c.t.d.def_ 25 (d := d_Desk_init)
theorem F_Desk_place_store (c : Ctx w K mg h) : ∃ fd, FunD K "place_store" "Desk.place_store" (defArgs s_Desk_place_store) (defBody s_Desk_place_store) (defScope s_Desk_place_store) [] [] (He.ma K (He.ga K "Desk") "place_store") fd := c.c.t.d.def_ 26 (d := d_Desk_place_store)
theorem F_with_item (c : Ctx w K mg h) : ∃ fd, FunD K "with_item" "with_item" (defArgs s_with_item) (defBody s_with_item) (defScope s_with_item) [] [] (He.ga K "with_item") fd := c.c.t.d.def_ 27 (d := d_with_item)
theorem F_is_within (c : Ctx w K mg h) : ∃ fd, FunD K "is_within" "is_within" (defArgs s_is_within) (defBody s_is_within) (defScope s_is_within) [] [] (He.ga K "is_within") fd := c.c.t.d.def_ 28 (d := d_is_within)
theorem F_has_bin (c : Ctx w K mg h) : ∃ fd, FunD K "has_bin" "has_bin" (defArgs s_has_bin) (defBody s_has_bin) (defScope s_has_bin) [] [] (He.ga K "has_bin") fd := c.c.t.d.def_ 29 (d := d_has_bin)
theorem F_is_price (c : Ctx w K mg h) : ∃ fd, FunD K "is_price" "is_price" (defArgs s_is_price) (defBody s_is_price) (defScope s_is_price) [] [] (He.ga K "is_price") fd := c.c.t.d.def_ 30 (d := d_is_price)
theorem F_is_flour (c : Ctx w K mg h) : ∃ fd, FunD K "is_flour" "is_flour" (defArgs s_is_flour) (defBody s_is_flour) (defScope s_is_flour) [] [] (He.ga K "is_flour") fd := c.c.t.d.def_ 31 (d := d_is_flour)
theorem F_add_bin (c : Ctx w K mg h) : ∃ fd, FunD K "add_bin" "add_bin" (defArgs s_add_bin) (defBody s_add_bin) (defScope s_add_bin) [] [] (He.ga K "add_bin") fd := c.c.t.d.def_ 32 (d := d_add_bin)
theorem F_bins_with_kilograms (c : Ctx w K mg h) : ∃ fd, FunD K "bins_with_kilograms" "bins_with_kilograms" (defArgs s_bins_with_kilograms) (defBody s_bins_with_kilograms) (defScope s_bins_with_kilograms) [] [] (He.ga K "bins_with_kilograms") fd := c.c.t.d.def_ 33 (d := d_bins_with_kilograms)
theorem F_bins_with_price (c : Ctx w K mg h) : ∃ fd, FunD K "bins_with_price" "bins_with_price" (defArgs s_bins_with_price) (defBody s_bins_with_price) (defScope s_bins_with_price) [] [] (He.ga K "bins_with_price") fd := c.c.t.d.def_ 34 (d := d_bins_with_price)
theorem F_add_flour (c : Ctx w K mg h) : ∃ fd, FunD K "add_flour" "add_flour" (defArgs s_add_flour) (defBody s_add_flour) (defScope s_add_flour) [] [] (He.ga K "add_flour") fd := c.c.t.d.def_ 35 (d := d_add_flour)
theorem F_price_refusal (c : Ctx w K mg h) : ∃ fd, FunD K "price_refusal" "price_refusal" (defArgs s_price_refusal) (defBody s_price_refusal) (defScope s_price_refusal) [] [] (He.ga K "price_refusal") fd := c.c.t.d.def_ 36 (d := d_price_refusal)
theorem F_set_price (c : Ctx w K mg h) : ∃ fd, FunD K "set_price" "set_price" (defArgs s_set_price) (defBody s_set_price) (defScope s_set_price) [] [] (He.ga K "set_price") fd := c.c.t.d.def_ 37 (d := d_set_price)
theorem F_empty_bin (c : Ctx w K mg h) : ∃ fd, FunD K "empty_bin" "empty_bin" (defArgs s_empty_bin) (defBody s_empty_bin) (defScope s_empty_bin) [] [] (He.ga K "empty_bin") fd := c.c.t.d.def_ 38 (d := d_empty_bin)
theorem F_set_request (c : Ctx w K mg h) : ∃ fd, FunD K "set_request" "set_request" (defArgs s_set_request) (defBody s_set_request) (defScope s_set_request) [] [] (He.ga K "set_request") fd := c.c.t.d.def_ 39 (d := d_set_request)
theorem F_told_blend (c : Ctx w K mg h) : ∃ fd, FunD K "told_blend" "told_blend" (defArgs s_told_blend) (defBody s_told_blend) (defScope s_told_blend) [] [] (He.ga K "told_blend") fd := c.c.t.d.def_ 40 (d := d_told_blend)
theorem F_answer_cheapest_blend (c : Ctx w K mg h) : ∃ fd, FunD K "answer_cheapest_blend" "answer_cheapest_blend" (defArgs s_answer_cheapest_blend) (defBody s_answer_cheapest_blend) (defScope s_answer_cheapest_blend) [] [] (He.ga K "answer_cheapest_blend") fd := c.c.t.d.def_ 41 (d := d_answer_cheapest_blend)
theorem F_make_cheapest_blend (c : Ctx w K mg h) : ∃ fd, FunD K "make_cheapest_blend" "make_cheapest_blend" (defArgs s_make_cheapest_blend) (defBody s_make_cheapest_blend) (defScope s_make_cheapest_blend) [] [] (He.ga K "make_cheapest_blend") fd := c.c.t.d.def_ 42 (d := d_make_cheapest_blend)
theorem F_is_blend (c : Ctx w K mg h) : ∃ fd, FunD K "is_blend" "is_blend" (defArgs s_is_blend) (defBody s_is_blend) (defScope s_is_blend) [] [] (He.ga K "is_blend") fd := c.c.t.d.def_ 43 (d := d_is_blend)
theorem F_make_blend (c : Ctx w K mg h) : ∃ fd, FunD K "make_blend" "make_blend" (defArgs s_make_blend) (defBody s_make_blend) (defScope s_make_blend) [] [] (He.ga K "make_blend") fd := c.c.t.d.def_ 44 (d := d_make_blend)
theorem F_check_blend (c : Ctx w K mg h) : ∃ fd, FunD K "check_blend" "check_blend" (defArgs s_check_blend) (defBody s_check_blend) (defScope s_check_blend) [] [] (He.ga K "check_blend") fd := c.c.t.d.def_ 45 (d := d_check_blend)
theorem F_count_blends (c : Ctx w K mg h) : ∃ fd, FunD K "count_blends" "count_blends" (defArgs s_count_blends) (defBody s_count_blends) (defScope s_count_blends) [] [] (He.ga K "count_blends") fd := c.c.t.d.def_ 46 (d := d_count_blends)
theorem F_greatest_amount (c : Ctx w K mg h) : ∃ fd, FunD K "greatest_amount" "greatest_amount" (defArgs s_greatest_amount) (defBody s_greatest_amount) (defScope s_greatest_amount) [] [] (He.ga K "greatest_amount") fd := c.c.t.d.def_ 47 (d := d_greatest_amount)
theorem F_extreme_averages (c : Ctx w K mg h) : ∃ fd, FunD K "extreme_averages" "extreme_averages" (defArgs s_extreme_averages) (defBody s_extreme_averages) (defScope s_extreme_averages) [] [] (He.ga K "extreme_averages") fd := c.c.t.d.def_ 48 (d := d_extreme_averages)
theorem F_obstacle (c : Ctx w K mg h) : ∃ fd, FunD K "obstacle" "obstacle" (defArgs s_obstacle) (defBody s_obstacle) (defScope s_obstacle) [] [] (He.ga K "obstacle") fd := c.c.t.d.def_ 49 (d := d_obstacle)
theorem F_cheapest_if_price (c : Ctx w K mg h) : ∃ fd, FunD K "cheapest_if_price" "cheapest_if_price" (defArgs s_cheapest_if_price) (defBody s_cheapest_if_price) (defScope s_cheapest_if_price) [] [] (He.ga K "cheapest_if_price") fd := c.c.t.d.def_ 50 (d := d_cheapest_if_price)
theorem F_cheapest_without (c : Ctx w K mg h) : ∃ fd, FunD K "cheapest_without" "cheapest_without" (defArgs s_cheapest_without) (defBody s_cheapest_without) (defScope s_cheapest_without) [] [] (He.ga K "cheapest_without") fd := c.c.t.d.def_ 51 (d := d_cheapest_without)
theorem F_describe (c : Ctx w K mg h) : ∃ fd, FunD K "describe" "describe" (defArgs s_describe) (defBody s_describe) (defScope s_describe) [] [] (He.ga K "describe") fd := c.c.t.d.def_ 52 (d := d_describe)
theorem F_create (c : Ctx w K mg h) : ∃ fd, FunD K "create" "create" (defArgs s_create) (defBody s_create) (defScope s_create) [] [] (He.ga K "create") fd := c.c.t.d.def_ 53 (d := d_create)
theorem F_answer_to (c : Ctx w K mg h) : ∃ fd, FunD K "answer_to" "answer_to" (defArgs s_answer_to) (defBody s_answer_to) (defScope s_answer_to) [] [] (He.ga K "answer_to") fd := c.c.t.d.def_ 54 (d := d_answer_to)
theorem F_list_end (c : Ctx w K mg h) : ∃ fd, FunD K "list_end" "list_end" (defArgs s_list_end) (defBody s_list_end) (defScope s_list_end) [] [] (He.ga K "list_end") fd := c.c.t.d.def_ 55 (d := d_list_end)
theorem F_answers (c : Ctx w K mg h) : ∃ fd, FunD K "answers" "answers" (defArgs s_answers) (defBody s_answers) (defScope s_answers) [] [] (He.ga K "answers") fd := c.c.t.d.def_ 56 (d := d_answers)
theorem tb_WIDTHS (c : Ctx w K mg h) (H : Hp) : SqT K H (He.ga K "WIDTHS") (tab_WIDTHS.map (He.Dv.v K)) := He.tupB_ok (He.ba (He.ba c.c.more).1).1 H
theorem tb_WITH_LIST (c : Ctx w K mg h) (H : Hp) : SqT K H (He.ga K "WITH_LIST") (tab_WITH_LIST.map (He.Dv.v K)) := He.tupB_ok (He.ba (He.ba c.c.more).1).2 H
theorem tb_DEEDS (c : Ctx w K mg h) (H : Hp) : SqT K H (He.ga K "DEEDS") (tab_DEEDS.map (He.Dv.v K)) := He.tupB_ok (He.ba c.c.more).2 H
end
end Fb

/-! FbBlends: the defs of blends. Source: src/FbBlends.src, filled by gen_walk.py. -/
namespace Fb
open PySem PySem.Spec PyProof.Rows L2
section
variable {w : World} {K : PySem.W.Frag} {mg : Str → Option Value} {base h : Heap}
/-! ### sums of a blend -/
/-- sum(blend) -/
def spWeight : Sp := fun vs H Q _ => ∃ b x, vs = [.ref b] ∧ Nats H b x ∧ Q (.int (SrCommon.sum x : Nat)) H
theorem sc_weight_of : FnScope ["blend"] ["blend"] (defScope s_weight_of) := ⟨rfl, rfl, rfl, by decide +kernel, rfl, by decide +kernel, by decide +kernel⟩
theorem ok_weight_of (c : Ctx w K mg h) : C8.Cal PP w K mg base 1 "weight_of" (spWeight) [] := by
  refine c.cal (k := 0) (g_weight_of c) (F_weight_of c) sc_weight_of (fun _ _ _ _ _ _ us hl => match us, hl with | [_], _ => rfl) (fun vs H Q E z => ?_) (fun cdv A outer s H vs Q E hr z => ?_)
  · obtain ⟨b, x, rfl, _⟩ := z
    rfl
  · obtain ⟨b, x, rfl, hx, q⟩ := z
    refine ⟨_, (pss_one (ps_ret (pe_callB (cr_sum rfl) (by rfl) (m_sum c) (by decide +kernel) (pa_cons (pv 0) pa_nil)))), ?_⟩
    refine ⟨.ref b, rfl, b, _, rfl, .inl (.inl (by rw [← nv_int]; exact hx)), ?_⟩
    rw [sum_int]
    exact q
/-- a property times the kilograms, over all bins -/
def spTotal (p : Sr96.Bin → Nat) : Sp := fun vs H Q _ => ∃ a b bs x, vs = [.ref a, .ref b] ∧ Bins H a bs ∧ Nats H b x ∧ ∀ H', Same H H' → Q (.int (Sr96.total p bs x : Nat)) H'
theorem sc_strength_sum : FnScope ["bins", "blend", "flour", "taken"] ["bins", "blend"] (defScope s_strength_sum) := ⟨rfl, rfl, rfl, by decide +kernel, rfl, by decide +kernel, by decide +kernel⟩
theorem ok_strength_sum (c : Ctx w K mg h) : C8.Cal PP w K mg base 1 "strength_sum" (spTotal Sr96.Bin.strength) [] := by
  refine c.cal (k := 0) (g_strength_sum c) (F_strength_sum c) sc_strength_sum (fun _ _ _ _ _ _ us hl => match us, hl with | [_, _], _ => rfl) (fun vs H Q E z => ?_) (fun cdv A outer s H vs Q E hr z => ?_)
  · obtain ⟨a, b, bs, x, rfl, _⟩ := z
    rfl
  · obtain ⟨a, b, bs, x, rfl, hb, hx, q⟩ := z
    refine ⟨_, (pss_one (ps_ret (pe_callB (cr_sum rfl) (by rfl) (m_sum c) (by decide +kernel) (pa_cons (pe_lc (own := [("flour", 2), ("taken", 3)]) (g := (gTup K 2 (gCons (gName 2) (gCons (gName 3) gNil)))) (tt := tYes) (te := (tOp (rI CMul fun i j => .int (i * j)) (tOp (rIxT K) (tVar 2) (tC (.int (1)))) (tVar 3))) rfl sc_strength_sum.nd (pi_zip (by rfl) (m_zip c) (pa_cons (pv 0) (pa_cons (pv 1) pa_nil))) (blkOk_by (own := [("flour", 2), ("taken", 3)]) (N := ["bins", "blend", "flour", "taken"]) (sc := defScope s_strength_sum) (by decide +kernel)) (fun _ _ _ _ _ => (pg_tup rfl (pgs_cons (pg_name (i := 2) sc_strength_sum.nd rfl (Or.inl rfl)) (pgs_cons (pg_name (i := 3) sc_strength_sum.nd rfl (Or.inl rfl)) pgs_nil)))) (fun _ _ _ _ _ => pts_nil) (fun _ _ _ _ _ => (pe_op op_mul (pe_ix ix_tup (pv 2) pe_int (fun _ _ => rfl)) (pv 3)))) pa_nil)))), ?_⟩
    refine ⟨.ref a, rfl, .ref b, rfl, a, b, _, _, rfl, .inl (.inl hb.1.choose_spec.1), .inl (.inl hx), fun D nD => ?_⟩
    refine lc_zp (f := fun (y : Sr96.Bin) (k : Nat) => y.strength * k) mBin mNat mNat hb.1 hx.ls nD (Nat.le_trans hb.2.len (by decide)) (fun y k v u T H2 hm sm _ hT ry rk Z kz => ?_) (fun H2 sm hl => ?_)
    · obtain ⟨t, rfl, ht⟩ := ry
      have ek : u = V.int (k : Int) := rk
      subst ek
      refine ⟨T, _, rfl, .inl (.inl hT), rfl, _, _, rfl, _, _, rfl, rfl, rfl, ?_⟩
      refine ⟨_, rfl, t, _, 1, _, rfl, rfl, .inl (.inl ht), atI_nat (j := 1) rfl, _, rfl, _, _, rfl, rfl, .inl ⟨by omega, ?_⟩, ?_⟩
      · have := (hb.2.all y (List.of_mem_zip hm).1).s
        omega
      · exact kz _ _ (Same.refl _) (by show V.int _ = V.int _; rw [Int.natCast_mul])
    · refine ⟨D, _, rfl, .inl (.inl (by rw [← nv_int]; exact hl.nats)), ?_⟩
      rw [sum_int]
      exact q _ sm
theorem sc_ash_sum : FnScope ["bins", "blend", "flour", "taken"] ["bins", "blend"] (defScope s_ash_sum) := ⟨rfl, rfl, rfl, by decide +kernel, rfl, by decide +kernel, by decide +kernel⟩
theorem ok_ash_sum (c : Ctx w K mg h) : C8.Cal PP w K mg base 1 "ash_sum" (spTotal Sr96.Bin.ash) [] := by
  refine c.cal (k := 0) (g_ash_sum c) (F_ash_sum c) sc_ash_sum (fun _ _ _ _ _ _ us hl => match us, hl with | [_, _], _ => rfl) (fun vs H Q E z => ?_) (fun cdv A outer s H vs Q E hr z => ?_)
  · obtain ⟨a, b, bs, x, rfl, _⟩ := z
    rfl
  · obtain ⟨a, b, bs, x, rfl, hb, hx, q⟩ := z
    refine ⟨_, (pss_one (ps_ret (pe_callB (cr_sum rfl) (by rfl) (m_sum c) (by decide +kernel) (pa_cons (pe_lc (own := [("flour", 2), ("taken", 3)]) (g := (gTup K 2 (gCons (gName 2) (gCons (gName 3) gNil)))) (tt := tYes) (te := (tOp (rI CMul fun i j => .int (i * j)) (tOp (rIxT K) (tVar 2) (tC (.int (2)))) (tVar 3))) rfl sc_ash_sum.nd (pi_zip (by rfl) (m_zip c) (pa_cons (pv 0) (pa_cons (pv 1) pa_nil))) (blkOk_by (own := [("flour", 2), ("taken", 3)]) (N := ["bins", "blend", "flour", "taken"]) (sc := defScope s_ash_sum) (by decide +kernel)) (fun _ _ _ _ _ => (pg_tup rfl (pgs_cons (pg_name (i := 2) sc_ash_sum.nd rfl (Or.inl rfl)) (pgs_cons (pg_name (i := 3) sc_ash_sum.nd rfl (Or.inl rfl)) pgs_nil)))) (fun _ _ _ _ _ => pts_nil) (fun _ _ _ _ _ => (pe_op op_mul (pe_ix ix_tup (pv 2) pe_int (fun _ _ => rfl)) (pv 3)))) pa_nil)))), ?_⟩
    refine ⟨.ref a, rfl, .ref b, rfl, a, b, _, _, rfl, .inl (.inl hb.1.choose_spec.1), .inl (.inl hx), fun D nD => ?_⟩
    refine lc_zp (f := fun (y : Sr96.Bin) (k : Nat) => y.ash * k) mBin mNat mNat hb.1 hx.ls nD (Nat.le_trans hb.2.len (by decide)) (fun y k v u T H2 hm sm _ hT ry rk Z kz => ?_) (fun H2 sm hl => ?_)
    · obtain ⟨t, rfl, ht⟩ := ry
      have ek : u = V.int (k : Int) := rk
      subst ek
      refine ⟨T, _, rfl, .inl (.inl hT), rfl, _, _, rfl, _, _, rfl, rfl, rfl, ?_⟩
      refine ⟨_, rfl, t, _, 2, _, rfl, rfl, .inl (.inl ht), atI_nat (j := 2) rfl, _, rfl, _, _, rfl, rfl, .inl ⟨by omega, ?_⟩, ?_⟩
      · have := (hb.2.all y (List.of_mem_zip hm).1).a
        omega
      · exact kz _ _ (Same.refl _) (by show V.int _ = V.int _; rw [Int.natCast_mul])
    · refine ⟨D, _, rfl, .inl (.inl (by rw [← nv_int]; exact hl.nats)), ?_⟩
      rw [sum_int]
      exact q _ sm
theorem sc_cost_of : FnScope ["bins", "blend", "flour", "taken"] ["bins", "blend"] (defScope s_cost_of) := ⟨rfl, rfl, rfl, by decide +kernel, rfl, by decide +kernel, by decide +kernel⟩
theorem ok_cost_of (c : Ctx w K mg h) : C8.Cal PP w K mg base 1 "cost_of" (spTotal Sr96.Bin.price) [] := by
  refine c.cal (k := 0) (g_cost_of c) (F_cost_of c) sc_cost_of (fun _ _ _ _ _ _ us hl => match us, hl with | [_, _], _ => rfl) (fun vs H Q E z => ?_) (fun cdv A outer s H vs Q E hr z => ?_)
  · obtain ⟨a, b, bs, x, rfl, _⟩ := z
    rfl
  · obtain ⟨a, b, bs, x, rfl, hb, hx, q⟩ := z
    refine ⟨_, (pss_one (ps_ret (pe_callB (cr_sum rfl) (by rfl) (m_sum c) (by decide +kernel) (pa_cons (pe_lc (own := [("flour", 2), ("taken", 3)]) (g := (gTup K 2 (gCons (gName 2) (gCons (gName 3) gNil)))) (tt := tYes) (te := (tOp (rI CMul fun i j => .int (i * j)) (tOp (rIxT K) (tVar 2) (tC (.int (3)))) (tVar 3))) rfl sc_cost_of.nd (pi_zip (by rfl) (m_zip c) (pa_cons (pv 0) (pa_cons (pv 1) pa_nil))) (blkOk_by (own := [("flour", 2), ("taken", 3)]) (N := ["bins", "blend", "flour", "taken"]) (sc := defScope s_cost_of) (by decide +kernel)) (fun _ _ _ _ _ => (pg_tup rfl (pgs_cons (pg_name (i := 2) sc_cost_of.nd rfl (Or.inl rfl)) (pgs_cons (pg_name (i := 3) sc_cost_of.nd rfl (Or.inl rfl)) pgs_nil)))) (fun _ _ _ _ _ => pts_nil) (fun _ _ _ _ _ => (pe_op op_mul (pe_ix ix_tup (pv 2) pe_int (fun _ _ => rfl)) (pv 3)))) pa_nil)))), ?_⟩
    refine ⟨.ref a, rfl, .ref b, rfl, a, b, _, _, rfl, .inl (.inl hb.1.choose_spec.1), .inl (.inl hx), fun D nD => ?_⟩
    refine lc_zp (f := fun (y : Sr96.Bin) (k : Nat) => y.price * k) mBin mNat mNat hb.1 hx.ls nD (Nat.le_trans hb.2.len (by decide)) (fun y k v u T H2 hm sm _ hT ry rk Z kz => ?_) (fun H2 sm hl => ?_)
    · obtain ⟨t, rfl, ht⟩ := ry
      have ek : u = V.int (k : Int) := rk
      subst ek
      refine ⟨T, _, rfl, .inl (.inl hT), rfl, _, _, rfl, _, _, rfl, rfl, rfl, ?_⟩
      refine ⟨_, rfl, t, _, 3, _, rfl, rfl, .inl (.inl ht), atI_nat (j := 3) rfl, _, rfl, _, _, rfl, rfl, .inl ⟨by omega, ?_⟩, ?_⟩
      · have := (hb.2.all y (List.of_mem_zip hm).1).p
        omega
      · exact kz _ _ (Same.refl _) (by show V.int _ = V.int _; rw [Int.natCast_mul])
    · refine ⟨D, _, rfl, .inl (.inl (by rw [← nv_int]; exact hl.nats)), ?_⟩
      rw [sum_int]
      exact q _ sm
/-! ### is_available -/
def spAvail : Sp := fun vs H Q _ => ∃ a b bs x, vs = [.ref a, .ref b] ∧ Bins H a bs ∧ Nats H b x ∧ ∀ H', Same H H' → Q (.bl (availB bs x)) H'
theorem sc_is_available : FnScope ["bins", "blend", "flour", "taken"] ["bins", "blend"] (defScope s_is_available) := ⟨rfl, rfl, rfl, by decide +kernel, rfl, by decide +kernel, by decide +kernel⟩
theorem ok_is_available (c : Ctx w K mg h) : C8.Cal PP w K mg base 1 "is_available" (spAvail) [] := by
  refine c.cal (k := 0) (g_is_available c) (F_is_available c) sc_is_available (fun _ _ _ _ _ _ us hl => match us, hl with | [_, _], _ => rfl) (fun vs H Q E z => ?_) (fun cdv A outer s H vs Q E hr z => ?_)
  · obtain ⟨a, b, bs, x, rfl, _⟩ := z
    rfl
  · obtain ⟨a, b, bs, x, rfl, hb, hx, q⟩ := z
    refine ⟨_, (pss_one (ps_ret (pe_callB (cr_all rfl) (by rfl) (m_all c) (by decide +kernel) (pa_cons (pe_lc (own := [("flour", 2), ("taken", 3)]) (g := (gTup K 2 (gCons (gName 2) (gCons (gName 3) gNil)))) (tt := tYes) (te := (tOp (rI0 fun i j => .bl (decide (i ≤ j))) (tVar 3) (tOp (rIxT K) (tVar 2) (tC (.int (0)))))) rfl sc_is_available.nd (pi_zip (by rfl) (m_zip c) (pa_cons (pv 0) (pa_cons (pv 1) pa_nil))) (blkOk_by (own := [("flour", 2), ("taken", 3)]) (N := ["bins", "blend", "flour", "taken"]) (sc := defScope s_is_available) (by decide +kernel)) (fun _ _ _ _ _ => (pg_tup rfl (pgs_cons (pg_name (i := 2) sc_is_available.nd rfl (Or.inl rfl)) (pgs_cons (pg_name (i := 3) sc_is_available.nd rfl (Or.inl rfl)) pgs_nil)))) (fun _ _ _ _ _ => pts_nil) (fun _ _ _ _ _ => (pe_cmpR op_le (pv 3) (pe_ix ix_tup (pv 2) pe_int (fun _ _ => rfl)) (nomark _)))) pa_nil)))), ?_⟩
    refine ⟨.ref a, rfl, .ref b, rfl, a, b, _, _, rfl, .inl (.inl hb.1.choose_spec.1), .inl (.inl hx), fun D nD => ?_⟩
    refine lc_zp (f := fun (y : Sr96.Bin) (k : Nat) => decide (k ≤ y.kilograms)) mBin mNat mBl hb.1 hx.ls nD (Nat.le_trans hb.2.len (by decide)) (fun y k v u T H2 hm sm _ hT ry rk Z kz => ?_) (fun H2 sm hl => ?_)
    · obtain ⟨t, rfl, ht⟩ := ry
      have ek : u = V.int (k : Int) := rk
      subst ek
      refine ⟨T, _, rfl, .inl (.inl hT), rfl, _, _, rfl, _, _, rfl, rfl, rfl, ?_⟩
      refine ⟨_, rfl, _, rfl, t, _, 0, _, rfl, rfl, .inl (.inl ht), atI_nat (j := 0) rfl, _, _, rfl, rfl, ?_⟩
      exact kz _ _ (Same.refl _) (congrArg V.bl (decide_eq_decide.mpr (by omega)))
    · refine ⟨D, _, rfl, .inl (.inl hl.bls), ?_⟩
      rw [List.all_map]
      exact q _ sm
/-! ### rows -/
theorem range_rev (m : Nat) {j : Nat} (h : j ≤ m) : ((List.range (m + 1)).reverse)[j]? = some (m - j) := by
  rw [List.getElem?_reverse (by rw [List.length_range]; omega), List.length_range, List.getElem?_range (by omega)]
  congr 1 <;> omega
def spLonger : Sp := fun vs H Q _ => ∃ a R k, vs = [.ref a, .int (k : Nat)] ∧ LsAt RRow H a R ∧ (∀ r ∈ R, r.1.length ≤ 8) ∧ k ≤ 30 ∧ (rowStep k R).length ≤ 1000000 ∧ R.length ≤ 1000000 ∧ (∀ r ∈ R, r.2 ≤ 30) ∧
  ∀ H' p, Same H H' → LsAt RRow H' p (rowStep k R) → Q (.ref p) H'
theorem sc_longer_rows : FnScope ["rows", "kilograms", "found", "taken", "left", "more"] ["rows", "kilograms"] (defScope s_longer_rows) := ⟨rfl, rfl, rfl, by decide +kernel, rfl, by decide +kernel, by decide +kernel⟩
theorem ok_longer_rows (c : Ctx w K mg h) : C8.Cal PP w K mg base 1 "longer_rows" (spLonger) [] := by
  refine c.cal (k := 0) (g_longer_rows c) (F_longer_rows c) sc_longer_rows (fun _ _ _ _ _ _ us hl => match us, hl with | [_, _], _ => rfl) (fun vs H Q E z => ?_) (fun cdv A outer s H vs Q E hr z => ?_)
  · obtain ⟨a, R, k, rfl, _⟩ := z
    rfl
  · obtain ⟨a, R, k, rfl, hR, h8, hk, hlid, hlr, h30, q⟩ := z
    refine ⟨_, (pss_cons (ps_set (i := 2) sc_longer_rows.nd rfl (Or.inl rfl) (pe_lst pa_nil))
      (pss_cons (ps_for PassesOwn.never rfl (pi_list (pv 0)) (pg_tup rfl (pgs_cons (pg_name (i := 3) sc_longer_rows.nd rfl (Or.inl rfl)) (pgs_cons (pg_name (i := 4) sc_longer_rows.nd rfl (Or.inl rfl)) pgs_nil))) (pss_one (ps_for PassesOwn.never rfl (pi_range3 (by rfl) (m_range c) (pa_cons (pe_callB (call_min2 rfl) (by rfl) (m_min c) (by decide +kernel) (pa_cons (pv 1) (pa_cons (pv 4) pa_nil))) (pa_cons (pe_un un_neg pe_int) (pa_cons (pe_un un_neg pe_int) pa_nil)))) (pg_name (i := 5) sc_longer_rows.nd rfl (Or.inl rfl)) (pss_one (ps_expr (pe_bm PySem.F.plainAttrs_list PySem.F.slot_list_append PySem.F.type_list_append mt_append (pv 2) (pa_cons (pe_tup (pa_cons (pe_op op_cat (pv 3) (pe_lst (pa_cons (pv 5) pa_nil))) (pa_cons (pe_op op_sub (pv 4) (pv 5)) pa_nil))) pa_nil)))))))
      (pss_one (ps_ret (pv 2))))), ?_⟩
    -- found = []
    refine ⟨Nat.zero_le _, fun o no => ?_⟩
    have s1 : Same H (upd H o (.lst [])) := same_new no
    obtain ⟨us, ea, pa⟩ := hR
    have hl := pa.length
    refine ⟨.ref a, rfl, a, rfl, ⟨us, .inl (.inl (s1 _ _ ea))⟩, for_it (walk_list (K := K) (a := a) (xs := us)) (fun i σ H' => ∃ y3 y4 y5, σ = [some (.ref a), some (.int (k : Nat)), some (.ref o), y3, y4, y5] ∧ Same H H' ∧ GrAt RRow H' o (rowStep k (R.take i)))
      ⟨none, none, none, rfl, s1, GrAt.nil⟩ (fun i σ H' _ ⟨_, _, _, _, s, _⟩ => .inl (.inl (s _ _ ea))) (fun i v σ H1 H2 hi hP hy => ?_) (fun σ H1 hP => ?_)⟩
    · obtain ⟨e2, ev⟩ := hy
      subst e2
      obtain ⟨y3, y4, y5, rfl, s, gr⟩ := hP
      obtain ⟨r, er, t, l, rfl, ht, hl1⟩ := pair_got pa ev
      have hr8 := h8 r (List.mem_of_getElem? er)
      have hr30 := h30 r (List.mem_of_getElem? er)
      refine ⟨t, _, rfl, .inl (.inl (s _ _ ht)), rfl, _, _, rfl, _, _, rfl, rfl, ?_⟩
      -- for more in range(min(kilograms, left), -1, -1)
      refine ⟨_, rfl, _, rfl, _, _, rfl, _, rfl, _, rfl, ?_⟩
      have em : (if (r.2 : Int) < (k : Int) then (r.2 : Int) else (k : Int)) = ((min k r.2 : Nat) : Int) := by
        by_cases e : r.2 < k
        · rw [if_pos (by omega), Nat.min_eq_right (by omega)]
        · rw [if_neg (by omega), Nat.min_eq_left (by omega)]
      rw [em]
      refine ⟨_, _, _, _, rfl, RgC.neg (by omega) (by omega) (by decide) (by decide), ?_⟩
      have en : (((min k r.2 : Nat) : Int) - -1).toNat = min k r.2 + 1 := by omega
      rw [en]
      refine for_it (walk_rangeC (lo := ((min k r.2 : Nat) : Int)) (c := -1) (n := min k r.2 + 1)) (fun j σ H' => ∃ y5, σ = [some (.ref a), some (.int (k : Nat)), some (.ref o), some (.ref l), some (.int (r.2 : Nat)), y5] ∧ Same H H' ∧
          GrAt RRow H' o (rowStep k (R.take i) ++ (((List.range (min k r.2 + 1)).reverse.take j).map fun m => (r.1 ++ [m], r.2 - m))))
        ⟨y5, rfl, s, by rw [List.take_zero, List.map_nil, List.append_nil]; exact gr⟩ (fun _ _ _ _ _ => trivial) (fun j v σ H1 H2 hj hP hy => ?_) (fun σ H1 hP => ?_)
      · obtain ⟨e2, ev⟩ := hy
        subst e2
        obtain ⟨y5, rfl, s2, gr2⟩ := hP
        obtain ⟨acc, eo, lo⟩ := gr2.there
        -- found.append((taken + [more], left - more))
        have ej : (((min k r.2 : Nat) : Int) + (j : Nat) * -1) = ((min k r.2 - j : Nat) : Int) := by omega
        have ev2 : v = V.int ((min k r.2 - j : Nat) : Int) := ev.trans (congrArg V.int ej)
        subst ev2
        refine ⟨_, rfl, .inl ⟨rfl, _, .inl (.inl eo)⟩, _, rfl, _, rfl, le1, fun p1 n1 => ?_⟩
        have t1 := same_new (o := .lst [V.int ((min k r.2 - j : Nat) : Int)]) n1
        refine ⟨l, p1, _, _, rfl, rfl, t1 _ _ (s2 _ _ hl1), upd_same, ?_, fun p2 n2 => ?_⟩
        · show (nv r.1).length + 1 ≤ sizeLine
          unfold nv
          rw [List.length_map]
          exact Nat.le_trans (Nat.succ_le_succ hr8) (by decide)
        have t2 := same_new (o := .lst (nv r.1 ++ [V.int ((min k r.2 - j : Nat) : Int)])) n2
        refine ⟨_, rfl, _, rfl, _, _, rfl, rfl, le2, fun p3 n3 => ?_⟩
        have t3 := same_new (o := .tup [.ref p2, .int ((r.2 : Int) - ((min k r.2 - j : Nat) : Int))]) n3
        have s3 := t1.trans (t2.trans t3)
        have eo3 := s3 _ _ eo
        refine ⟨o, acc, _, rfl, rfl, eo3, ?_, ?_⟩
        · rw [lo]
          have hle : (rowStep k (R.take i) ++ (((List.range (min k r.2 + 1)).reverse.take j).map fun m => (r.1 ++ [m], r.2 - m))).length ≤ (rowStep k R).length := by
            have e1 : R = R.take i ++ (r :: R.drop (i + 1)) := by
              have h1 := List.take_append_drop i R
              rw [List.drop_eq_getElem?_toList_append, er] at h1
              exact h1.symm
            have e2 : (rowStep k R).length = (rowStep k (R.take i)).length + ((min k r.2 + 1) + (rowStep k (R.drop (i + 1))).length) := by
              conv => lhs; rw [e1]
              unfold rowStep
              rw [List.flatMap_append, List.length_append, List.flatMap_cons, List.length_append, List.length_map, List.length_reverse, List.length_range]
            rw [List.length_append, List.length_map, List.length_take, List.length_reverse, List.length_range, e2]
            omega
          exact Nat.lt_of_le_of_lt (Nat.le_trans hle hlid) (by decide)
        · refine ⟨_, rfl, same_upd_new (s2.trans s3) no, ?_⟩
          rw [take_snoc (range_rev _ (by omega)), List.map_append, ← List.append_assoc]
          refine (gr2.same mRow s3).snoc eo3 ⟨p3, p2, rfl, ?_, ?_⟩
          · rw [del_ne (fun e => by subst e; rw [(t1.trans t2) _ _ eo] at n3; cases n3), upd_same]
            have e5 : ((r.2 : Int) - ((min k r.2 - j : Nat) : Int)) = ((r.2 - (min k r.2 - j) : Nat) : Int) := by omega
            rw [e5]
          · rw [del_ne (fun e => by subst e; rw [t1 _ _ eo] at n2; cases n2), t3 _ _ upd_same]
            show some (HO.lst (nv r.1 ++ nv [min k r.2 - j])) = _
            unfold nv
            rw [← List.map_append]
      · obtain ⟨y5, rfl, s2, gr2⟩ := hP
        refine ⟨_, _, _, rfl, s2, ?_⟩
        have et : (List.range (min k r.2 + 1)).reverse.take (min k r.2 + 1) = (List.range (min k r.2 + 1)).reverse := List.take_of_length_le (by rw [List.length_reverse, List.length_range]; exact Nat.le_refl _)
        rw [et] at gr2
        rw [take_snoc er]
        unfold rowStep at gr2 ⊢
        rw [List.flatMap_append, List.flatMap_cons, List.flatMap_nil, List.append_nil]
        exact gr2
    · obtain ⟨y3, y4, y5, rfl, s, gr⟩ := hP
      rw [hl, List.take_length] at gr
      exact ⟨.ref o, rfl, q _ _ s (gr.ls mRow)⟩
end
end Fb

/-! FbBlends2: available_blends, bins_after. Source: src/FbBlends2.src, filled by gen_walk.py. -/
namespace Fb
open PySem PySem.Spec PyProof.Rows L2
/-! ### the rows' shape -/
theorem rows_snoc (bs : List Sr96.Bin) (b : Sr96.Bin) (R : List Row) : rowsOf (bs ++ [b]) R = rowStep b.kilograms (rowsOf bs R) := by
  unfold rowsOf
  rw [List.foldl_append]
  rfl
theorem rows_shape {n : Nat} : ∀ {bs : List Sr96.Bin} {R : List Row} {m : Nat}, (∀ r ∈ R, r.1.length ≤ m ∧ r.2 ≤ n) → ∀ r ∈ rowsOf bs R, r.1.length ≤ m + bs.length ∧ r.2 ≤ n
  | [], R, m, h, r, hr => h r hr
  | b :: bs, R, m, h, r, hr => by
    have h1 : ∀ r ∈ rowStep b.kilograms R, r.1.length ≤ m + 1 ∧ r.2 ≤ n := fun r hr => by
      obtain ⟨r0, h0, h2⟩ := List.mem_flatMap.mp hr
      obtain ⟨k, hk, rfl⟩ := List.mem_map.mp h2
      have := h r0 h0
      refine ⟨?_, ?_⟩
      · show (r0.1 ++ [k]).length ≤ m + 1
        rw [List.length_append, List.length_singleton]
        omega
      · show r0.2 - k ≤ n
        omega
    have h3 := rows_shape (bs := bs) h1 r hr
    rw [List.length_cons]
    omega
theorem cut_last {xs : List V} (h : xs ≠ []) : cutV xs none (some (-1)) = xs.dropLast := by
  have hp : 0 < xs.length := List.length_pos_iff.mpr h
  show (xs.drop 0).take ((if (-1 : Int) < 0 then ((-1 : Int) + (xs.length : Int)).toNat else min (-1 : Int).toNat xs.length) - 0) = _
  rw [if_pos (by decide), List.drop_zero, List.dropLast_eq_take, show ((-1 : Int) + (xs.length : Int)).toNat - 0 = xs.length - 1 by omega]
theorem pair_last {α β : Type} {F : α → β → Prop} {xs : List α} {ys : List β} {y : β} (p : Paired F xs (ys ++ [y])) : ∃ us u, xs = us ++ [u] ∧ Paired F us ys ∧ F u y := by
  have hl := p.length
  rw [List.length_append, List.length_singleton] at hl
  have p1 := pair_take ys.length p
  have p2 := pair_drop ys.length p
  rw [List.take_left' rfl] at p1
  rw [List.drop_left' rfl] at p2
  have e := List.take_append_drop ys.length xs
  cases h : xs.drop ys.length with
  | nil =>
    rw [h] at p2
    cases p2
  | cons u r =>
    rw [h] at p2 e
    cases p2 with
    | cons q t =>
      cases t
      exact ⟨_, u, e.symm, p1, q⟩
theorem snoc_of {α : Type} {l : List α} (h : l ≠ []) : ∃ cs b, l = cs ++ [b] := ⟨l.dropLast, l.getLast h, (List.dropLast_concat_getLast h).symm⟩
section
variable {w : World} {K : PySem.W.Frag} {mg : Str → Option Value} {base h : Heap}
def spBlends : Sp := fun vs H Q _ => ∃ a bs n, vs = [.ref a, .int (n : Nat)] ∧ Bins H a bs ∧ n ≤ 30 ∧
  ∀ H' p, Same H H' → LsAt RBlend H' p (Sr96.blendsFrom bs n) → Q (.ref p) H'
theorem sc_available_blends : FnScope ["bins", "weight", "rows", "flour", "taken", "left"] ["bins", "weight"] (defScope s_available_blends) := ⟨rfl, rfl, rfl, by decide +kernel, rfl, by decide +kernel, by decide +kernel⟩
theorem ok_available_blends (c : Ctx w K mg h) : C8.Cal PP w K mg base 2 "available_blends" (spBlends) [] := by
  refine c.cal (k := 1) (g_available_blends c) (F_available_blends c) sc_available_blends (fun _ _ _ _ _ _ us hl => match us, hl with | [_, _], _ => rfl) (fun vs H Q E z => ?_) (fun cdv A outer s H vs Q E hr z => ?_)
  · obtain ⟨a, bs, n, rfl, _⟩ := z
    rfl
  · obtain ⟨a, bs, n, rfl, hb, hn, q⟩ := z
    refine ⟨_, (pss_cons (ps_if (pt_cmpR (op_eqD hr.units) (pv 0) (pe_lst pa_nil) (nomark _)) (pss_one (ps_ret (pe_ifExp (pt_cmpR op_eq (pv 1) pe_int (nomark _)) (pe_lst (pa_cons (pe_lst pa_nil) pa_nil)) (pe_lst pa_nil)))) pss_nil)
      (pss_cons (ps_set (i := 2) sc_available_blends.nd rfl (Or.inl rfl) (pe_lst (pa_cons (pe_tup (pa_cons (pe_lst pa_nil) (pa_cons (pv 1) pa_nil))) pa_nil)))
      (pss_cons (ps_for PassesOwn.never rfl (pi_list (pe_slice sl_list (pv 0) po_none (po_some (pe_un un_neg pe_int)))) (pg_name (i := 3) sc_available_blends.nd rfl (Or.inl rfl)) (pss_one (ps_set (i := 2) sc_available_blends.nd rfl (Or.inl rfl) (C8.pe_c (ok_longer_rows (K := K) c) hr (by decide) rfl (pa_cons (pv 2) (pa_cons (pe_ix ix_tup (pv 3) pe_int (fun _ _ => rfl)) pa_nil))))))
      (pss_one (ps_ret (pe_lc (own := [("taken", 4), ("left", 5)]) (g := (gTup K 2 (gCons (gName 4) (gCons (gName 5) gNil)))) (tt := (tTest (tOp (rI0 fun i j => .bl (decide (i ≤ j))) (tVar 5) (tOp (rIxT K) (tOp (rIxL K) (tVar 0) (tUn (rU fun i => .int (-i)) (tC (.int (1))))) (tC (.int (0))))))) (te := (tOp rCat (tVar 4) (tLst (tCons (tVar 5) tNil)))) rfl sc_available_blends.nd (pi_list (pv 2)) (blkOk_by (own := [("taken", 4), ("left", 5)]) (N := ["bins", "weight", "rows", "flour", "taken", "left"]) (sc := defScope s_available_blends) (by decide +kernel)) (fun _ _ _ _ _ => (pg_tup rfl (pgs_cons (pg_name (i := 4) sc_available_blends.nd rfl (Or.inl rfl)) (pgs_cons (pg_name (i := 5) sc_available_blends.nd rfl (Or.inl rfl)) pgs_nil)))) (fun _ _ _ _ _ => (pts_one (pt_cmpR op_le (pv 5) (pe_ix ix_tup (pe_ix ix_list (pv 0) (pe_un un_neg pe_int) (fun _ _ => rfl)) pe_int (fun _ _ => rfl)) (nomark _)))) (fun _ _ _ _ _ => (pe_op op_cat (pv 4) (pe_lst (pa_cons (pv 5) pa_nil)))))))))), ?_⟩
    -- if bins == []
    refine ⟨.ref a, rfl, le0, fun e1 ne1 => ?_⟩
    have s1 : Same H (upd H e1 (.lst [])) := same_new ne1
    obtain ⟨ds, g1, g2, g3⟩ := (hb.same s1).1.dp (K := K) cBin
    refine ⟨.list ds, .list [], g1, dp_nil upd_same, g2, rfl, _, rfl, ?_⟩
    rw [g3]
    by_cases hne : bs = []
    · subst hne
      refine iteT ?_
      refine ⟨_, rfl, rfl, _, rfl, ite2 (fun e => ?_) (fun e => ?_)⟩
      · have e0 : n = 0 := by
          have := V.int.inj (of_decide_eq_true e)
          omega
        subst e0
        refine ⟨le0, fun p1 n1 => ⟨le1, fun p2 n2 => ?_⟩⟩
        refine q _ p2 (s1.trans ((same_new n1).trans (same_new n2))) ⟨_, upd_same, .cons ⟨p1, rfl, ?_⟩ .nil⟩
        exact same_new n2 _ _ upd_same
      · have e0 : ¬ n = 0 := fun e0 => by
          subst e0
          exact e (decide_eq_true rfl)
        refine ⟨le0, fun p2 n2 => ?_⟩
        refine q _ p2 (s1.trans (same_new n2)) ⟨_, upd_same, ?_⟩
        show Paired _ _ (if n = 0 then [[]] else [])
        rw [if_neg e0]
        exact .nil
    · obtain ⟨cs, b, rfl⟩ := snoc_of hne
      rw [show (cs ++ [b]).isEmpty = false by simp]
      refine iteF ?_
      -- rows = [([], weight)]
      refine ⟨le0, fun p1 n1 => ⟨_, rfl, le2, fun p2 n2 => ⟨le1, fun p3 n3 => ?_⟩⟩⟩
      have t1 := same_new (o := .lst []) n1
      have t2 := same_new (o := .tup [.ref p1, .int (n : Nat)]) n2
      have t3 := same_new (o := .lst [.ref p2]) n3
      have s3 := s1.trans (t1.trans (t2.trans t3))
      -- bins[:-1]
      obtain ⟨us, ea, pa⟩ := hb.1
      obtain ⟨us, u, rfl, pc, hu⟩ := pair_last pa
      refine ⟨.ref a, rfl, _, rfl, _, rfl, a, _, rfl, .inl (.inl (s3 _ _ ea)), fun p4 n4 => ?_⟩
      have ec : cutV (us ++ [u]) none (some (-1)) = us := by rw [cut_last (by simp), List.dropLast_concat]
      rw [ec]
      have t4 := same_new (o := .lst us) n4
      have s4 := s3.trans t4
      have hlen := pc.length
      have hc4 : cs.length ≤ 3 := by
        have := hb.2.len
        rw [List.length_append, List.length_singleton] at this
        omega
      have good : ∀ i, ∀ c ∈ cs.take i, Good c := fun i c hc => hb.2.all c (List.mem_append_left _ (List.mem_of_mem_take hc))
      have r0 : ∀ r ∈ ([([], n)] : List Row), r.1.length ≤ 0 ∧ r.2 ≤ n := fun r hr => by
        cases List.mem_singleton.mp hr
        exact ⟨Nat.le_refl _, Nat.le_refl _⟩
      have rlen : ∀ i, (rowsOf (cs.take i) [([], n)]).length ≤ 29791 := fun i => by
        have h1 := rows_len [([], n)] (good i)
        have h2 : (cs.take i).length ≤ 3 := by
          rw [List.length_take]
          omega
        have h3 := Nat.pow_le_pow_right (n := 31) (by decide) h2
        simp only [List.length_singleton, Nat.one_mul] at h1
        omega
      refine ⟨p4, rfl, ⟨us, .inl (.inl upd_same)⟩, for_it (walk_list (K := K) (a := p4) (xs := us)) (fun i σ H' => ∃ p y3, σ = [some (.ref a), some (.int (n : Nat)), some (.ref p), y3, none, none] ∧ Same (upd (upd (upd (upd (upd H e1 (.lst [])) p1 (.lst [])) p2 (.tup [.ref p1, .int (n : Nat)])) p3 (.lst [.ref p2])) p4 (.lst us)) H' ∧ LsAt RRow H' p (rowsOf (cs.take i) [([], n)]))
        ⟨p3, none, rfl, Same.refl _, ?_⟩ (fun i σ H' _ ⟨_, _, _, s, _⟩ => .inl (.inl (s _ _ upd_same))) (fun i v σ H1 H2 hi hP hy => ?_) (fun σ H1 hP => ?_)⟩
      · exact ⟨_, t4 _ _ upd_same, .cons ⟨p2, p1, rfl, t4 _ _ (t3 _ _ upd_same), t4 _ _ (t3 _ _ (t2 _ _ upd_same))⟩ .nil⟩
      · obtain ⟨e2, ev⟩ := hy
        subst e2
        obtain ⟨p, y3, rfl, s, hR⟩ := hP
        obtain ⟨d, ed, t, rfl, ht⟩ := pair_got pc ev
        have hd := hb.2.all d (List.mem_append_left _ (List.mem_of_getElem? ed))
        have sh := rows_shape (bs := cs.take i) r0
        have hti : (cs.take i).length ≤ 3 := by
          rw [List.length_take]
          omega
        refine ⟨_, rfl, _, rfl, t, _, 0, _, rfl, rfl, .inl (.inl (s _ _ (s4 _ _ ht))), atI_nat (j := 0) rfl, ?_⟩
        refine ⟨p, _, d.kilograms, rfl, hR, fun r hr => ?_, hd.k, ?_, ?_, fun r hr => ?_, fun H' p' sm hR' => ?_⟩
        · have := (sh r hr).1
          omega
        · rw [← rows_snoc, ← take_snoc ed]
          exact Nat.le_trans (rlen (i + 1)) (by decide)
        · exact Nat.le_trans (rlen i) (by decide)
        · exact Nat.le_trans (sh r hr).2 hn
        · refine ⟨p', _, rfl, s.trans sm, ?_⟩
          rw [take_snoc ed, rows_snoc]
          exact hR'
      · obtain ⟨p, y3, rfl, s, hR⟩ := hP
        rw [hlen, List.take_length] at hR
        have rl := rlen cs.length
        rw [List.take_length] at rl
        have sh := rows_shape (bs := cs) r0
        have s5 := s4.trans s
        refine ⟨.ref p, rfl, p, rfl, ⟨_, .inl (.inl hR.choose_spec.1)⟩, fun D nD => ?_⟩
        refine lc_ls (p := fun r : Row => decide (r.2 ≤ b.kilograms)) (f := fun r : Row => r.1 ++ [r.2]) mRow mBlend hR nD (Nat.le_trans rl (by decide)) (fun r v H2 hr sm hD rv Z Zf kz kf => ?_) (fun H2 sm hl => ?_)
        · obtain ⟨t, l, rfl, ht, hl1⟩ := mRow _ _ _ _ (del_same _ _) rv
          obtain ⟨tb, rfl, hu⟩ := hu
          have s6 := s5.trans sm
          refine ⟨t, _, rfl, .inl (.inl ht), rfl, _, _, rfl, _, _, rfl, rfl, rfl, ?_⟩
          refine ⟨_, rfl, _, rfl, _, rfl, a, _, -1, _, rfl, rfl, .inl (.inl (s6 _ _ ea)), atI_last _ _, tb, _, 0, _, rfl, rfl, .inl (.inl (s6 _ _ hu)), atI_nat (j := 0) rfl, _, _, rfl, rfl, _, rfl, ite2 (fun e => ?_) (fun e => ?_)⟩
          · have e1 : r.2 ≤ b.kilograms := by
              have := of_decide_eq_true e
              omega
            refine ⟨_, rfl, _, rfl, le1, fun q1 m1 => ?_⟩
            have u1 := same_new (o := .lst [V.int (r.2 : Nat)]) m1
            refine ⟨l, q1, _, _, rfl, rfl, u1 _ _ hl1, upd_same, ?_, fun q2 m2 => ?_⟩
            · have := (sh r hr).1
              show (nv r.1).length + 1 ≤ sizeLine
              unfold nv
              rw [List.length_map]
              exact Nat.le_trans (show r.1.length + 1 ≤ 8 by omega) (by decide)
            · refine kz (decide_eq_true e1) _ _ (u1.trans (same_new m2)) ⟨q2, rfl, ?_⟩
              obtain ⟨acc, hD⟩ := hD
              rw [del_ne (fun e => by subst e; rw [u1 _ _ hD] at m2; cases m2), upd_same]
              show some (HO.lst (nv r.1 ++ nv [r.2])) = _
              unfold nv
              rw [← List.map_append]
          · refine kf (decide_eq_false fun e1 => e (decide_eq_true (by omega))) _ (Same.refl _)
        · refine q _ D (s5.trans sm) ?_
          have e := rows_all cs b n
          unfold lastOf at e
          rw [← e]
          exact hl
/-! ### bins_after -/
def takeBins (bs : List Sr96.Bin) (x : List Nat) : List Sr96.Bin := (bs.zip x).map fun y => { y.1 with kilograms := y.1.kilograms - y.2 }
def spAfter : Sp := fun vs H Q _ => ∃ a b bs x, vs = [.ref a, .ref b] ∧ Bins H a bs ∧ Nats H b x ∧ availB bs x = true ∧
  ∀ H' p, Same H H' → LsAt RBin H' p (takeBins bs x) → Q (.ref p) H'
theorem sc_bins_after : FnScope ["bins", "blend", "found", "flour", "taken"] ["bins", "blend"] (defScope s_bins_after) := ⟨rfl, rfl, rfl, by decide +kernel, rfl, by decide +kernel, by decide +kernel⟩
theorem ok_bins_after (c : Ctx w K mg h) : C8.Cal PP w K mg base 1 "bins_after" (spAfter) [] := by
  refine c.cal (k := 0) (g_bins_after c) (F_bins_after c) sc_bins_after (fun _ _ _ _ _ _ us hl => match us, hl with | [_, _], _ => rfl) (fun vs H Q E z => ?_) (fun cdv A outer s H vs Q E hr z => ?_)
  · obtain ⟨a, b, bs, x, rfl, _⟩ := z
    rfl
  · obtain ⟨a, b, bs, x, rfl, hb, hx, hav, q⟩ := z
    refine ⟨_, (pss_cons (ps_set (i := 2) sc_bins_after.nd rfl (Or.inl rfl) (pe_lst pa_nil))
      (pss_cons (ps_for PassesOwn.never rfl (pi_zip (by rfl) (m_zip c) (pa_cons (pv 0) (pa_cons (pv 1) pa_nil))) (pg_tup rfl (pgs_cons (pg_name (i := 3) sc_bins_after.nd rfl (Or.inl rfl)) (pgs_cons (pg_name (i := 4) sc_bins_after.nd rfl (Or.inl rfl)) pgs_nil))) (pss_one (ps_expr (pe_bm PySem.F.plainAttrs_list PySem.F.slot_list_append PySem.F.type_list_append mt_append (pv 2) (pa_cons (pe_tup (pa_cons (pe_op op_sub (pe_ix ix_tup (pv 3) pe_int (fun _ _ => rfl)) (pv 4)) (pa_cons (pe_ix ix_tup (pv 3) pe_int (fun _ _ => rfl)) (pa_cons (pe_ix ix_tup (pv 3) pe_int (fun _ _ => rfl)) (pa_cons (pe_ix ix_tup (pv 3) pe_int (fun _ _ => rfl)) pa_nil))))) pa_nil)))))
      (pss_one (ps_ret (pv 2))))), ?_⟩
    refine ⟨le0, fun o no => ?_⟩
    have s1 : Same H (upd H o (.lst [])) := same_new no
    obtain ⟨us, ea, pa⟩ := hb.1
    have hl := pa.length
    have hlx : (nv x).length = x.length := by
      unfold nv
      rw [List.length_map]
    refine ⟨.ref a, rfl, .ref b, rfl, a, b, us, nv x, rfl, .inl (.inl (s1 _ _ ea)), .inl (.inl (s1 _ _ hx)), ?_⟩
    refine for_it (walk_zip (K := K) (a := a) (b := b) (xs := us) (ys := nv x) rfl) (fun i σ H' => ∃ y3 y4, σ = [some (.ref a), some (.ref b), some (.ref o), y3, y4] ∧ Same H H' ∧ GrAt RBin H' o ((takeBins bs x).take i))
      ⟨none, none, rfl, s1, GrAt.nil⟩ (fun i σ H' _ ⟨_, _, _, s, _⟩ => ⟨.inl (.inl (s _ _ ea)), .inl (.inl (s _ _ hx))⟩) (fun i v σ H1 H2 hi hP hy => ?_) (fun σ H1 hP => ?_)
    · obtain ⟨T, v1, v2, rfl, nT, rfl, f1, f2⟩ := hy
      obtain ⟨y3, y4, rfl, s, gr⟩ := hP
      obtain ⟨d, ed, t, rfl, ht⟩ := pair_got pa f1
      obtain ⟨k, ek, rk⟩ := pair_got (pair_nat (H := H1) x) f2
      have ev2 : v2 = V.int (k : Int) := rk
      subst ev2
      have exz : (bs.zip x)[i]? = some (d, k) := List.getElem?_zip_eq_some.mpr ⟨ed, ek⟩
      have hk : k ≤ d.kilograms := of_decide_eq_true (List.all_eq_true.mp hav (d, k) (List.mem_of_getElem? exz))
      have sT := same_new (o := .tup [.ref t, .int (k : Nat)]) nT
      have ht2 := sT _ _ (s _ _ ht)
      obtain ⟨acc, eo, lo⟩ := gr.there
      have eo2 := sT _ _ eo
      refine ⟨T, _, rfl, .inl (.inl upd_same), rfl, _, _, rfl, _, _, rfl, rfl, ?_⟩
      refine ⟨_, rfl, .inl ⟨rfl, _, .inl (.inl eo2)⟩, ?_⟩
      refine ⟨_, rfl, t, _, 0, _, rfl, rfl, .inl (.inl ht2), atI_nat (j := 0) rfl, _, rfl, _, _, rfl, rfl, ?_⟩
      refine ⟨_, rfl, t, _, 1, _, rfl, rfl, .inl (.inl ht2), atI_nat (j := 1) rfl, ?_⟩
      refine ⟨_, rfl, t, _, 2, _, rfl, rfl, .inl (.inl ht2), atI_nat (j := 2) rfl, ?_⟩
      refine ⟨_, rfl, t, _, 3, _, rfl, rfl, .inl (.inl ht2), atI_nat (j := 3) rfl, ?_⟩
      refine ⟨le4, fun p np => ?_⟩
      have sp := same_new (o := .tup [.int ((d.kilograms : Int) - (k : Int)), .int (d.strength : Nat), .int (d.ash : Nat), .int (d.price : Nat)]) np
      have eo3 := sp _ _ eo2
      refine ⟨o, acc, _, rfl, rfl, eo3, ?_, ?_⟩
      · rw [lo, List.length_take]
        have h4 := hb.2.len
        have : (takeBins bs x).length ≤ 4 := by
          unfold takeBins
          rw [List.length_map, List.length_zip]
          omega
        exact Nat.lt_of_le_of_lt (show min i (takeBins bs x).length ≤ 4 by omega) (by decide)
      · refine ⟨_, _, rfl, same_upd_new (s.trans (sT.trans sp)) no, ?_⟩
        have eg : (takeBins bs x)[i]? = some { d with kilograms := d.kilograms - k } := by
          unfold takeBins
          rw [List.getElem?_map, exz]
          rfl
        rw [take_snoc eg]
        refine (gr.same mBin (sT.trans sp)).snoc eo3 ⟨p, rfl, ?_⟩
        rw [del_ne (fun e => by subst e; rw [eo2] at np; cases np), upd_same]
        have e5 : ((d.kilograms : Int) - (k : Int)) = ((d.kilograms - k : Nat) : Int) := by omega
        rw [e5]
        rfl
    · obtain ⟨y3, y4, rfl, s, gr⟩ := hP
      have e : (takeBins bs x).take (min us.length (nv x).length) = takeBins bs x := List.take_of_length_le (by
        unfold takeBins
        rw [List.length_map, List.length_zip, hl, hlx]
        exact Nat.le_refl _)
      rw [e] at gr
      exact ⟨.ref o, rfl, q _ _ s (gr.ls mBin)⟩
end
end Fb

/-! FbFrac: fractions. Source: src/FbFrac.src, filled by gen_walk.py. -/
namespace Fb
open PySem PySem.Spec PyProof.Rows L2
section
variable {w : World} {K : PySem.W.Frag} {mg : Str → Option Value} {base h : Heap}
def spGcd : Sp := fun vs H Q _ => ∃ a b : Nat, vs = [.int (a : Int), .int (b : Int)] ∧ Q (.int (Nat.gcd a b : Nat)) H
theorem sc_common_divisor : FnScope ["one", "other", "first", "second"] ["one", "other"] (defScope s_common_divisor) := ⟨rfl, rfl, rfl, by decide +kernel, rfl, by decide +kernel, by decide +kernel⟩
theorem ok_common_divisor (c : Ctx w K mg h) : C8.Cal PP w K mg base 1 "common_divisor" (spGcd) [] := by
  refine c.cal (k := 0) (g_common_divisor c) (F_common_divisor c) sc_common_divisor (fun _ _ _ _ _ _ us hl => match us, hl with | [_, _], _ => rfl) (fun vs H Q E z => ?_) (fun cdv A outer s H vs Q E hr z => ?_)
  · obtain ⟨a, b, rfl, _⟩ := z
    rfl
  · obtain ⟨a, b, rfl, q⟩ := z
    refine ⟨_, (pss_cons (ps_par (i := 2) (j := 3) rfl sc_common_divisor.nd rfl rfl (by decide) rfl rfl (pa_cons (pv 0) (pa_cons (pv 1) pa_nil)) (by rfl))
      (pss_cons (ps_while PassesOwn.never (pt_cmpR op_gt (pv 3) pe_int (nomark _)) (pss_one (ps_par (i := 2) (j := 3) rfl sc_common_divisor.nd rfl rfl (by decide) rfl rfl (pa_cons (pv 3) (pa_cons (pe_op op_mod (pv 2) (pv 3)) pa_nil)) (by rfl))))
      (pss_one (ps_ret (pv 2))))), ?_⟩
    refine ⟨_, rfl, _, rfl, _, _, rfl, ?_⟩
    refine ⟨fun m σ H' => H' = H ∧ ∃ x y : Nat, σ = [some (.int (a : Int)), some (.int (b : Int)), some (.int (x : Int)), some (.int (y : Int))] ∧ m = y ∧ Nat.gcd x y = Nat.gcd a b, ⟨b, rfl, a, b, rfl, rfl, rfl⟩, ?_⟩
    rintro m σ H' ⟨rfl, x, y, rfl, rfl, e⟩
    refine ⟨_, rfl, _, _, rfl, rfl, _, rfl, ite2 (fun e1 => ?_) (fun e1 => ?_)⟩
    · have hy : 0 < m := by
        have := of_decide_eq_true e1
        omega
      refine ⟨fun σ H1 => H1 = H' ∧ σ = [some (.int (a : Int)), some (.int (b : Int)), some (.int (m : Int)), some (.int ((x % m : Nat) : Int))], fun σ H1 h1 => ?_, ?_⟩
      · obtain ⟨e2, e3⟩ := h1
        refine ⟨x % m, Nat.mod_lt _ hy, e2, m, x % m, e3, rfl, ?_⟩
        exact (Nat.gcd_comm m (x % m)).trans ((Nat.gcd_rec m x).symm.trans ((Nat.gcd_comm m x).trans e))
      · exact ⟨_, rfl, _, rfl, _, rfl, _, _, rfl, rfl, by omega, _, _, rfl, rfl, rfl⟩
    · have hy : m = 0 := by
        have : ¬ (0 : Int) < (m : Int) := fun z => e1 (decide_eq_true z)
        omega
      subst hy
      refine ⟨_, rfl, ?_⟩
      rw [← e, Nat.gcd_zero_right] at q
      exact q
def spLow : Sp := fun vs H Q _ => ∃ t n : Nat, vs = [.int (t : Int), .int (n : Int)] ∧ 0 < n ∧ n ≤ 1000 ∧ ∀ H' p, Same H H' → Ints H' p (averageL t n) → Q (.ref p) H'
theorem sc_lowest_terms : FnScope ["above", "below", "divisor"] ["above", "below"] (defScope s_lowest_terms) := ⟨rfl, rfl, rfl, by decide +kernel, rfl, by decide +kernel, by decide +kernel⟩
theorem ok_lowest_terms (c : Ctx w K mg h) : C8.Cal PP w K mg base 2 "lowest_terms" (spLow) [] := by
  refine c.cal (k := 1) (g_lowest_terms c) (F_lowest_terms c) sc_lowest_terms (fun _ _ _ _ _ _ us hl => match us, hl with | [_, _], _ => rfl) (fun vs H Q E z => ?_) (fun cdv A outer s H vs Q E hr z => ?_)
  · obtain ⟨a, b, rfl, _⟩ := z
    rfl
  · obtain ⟨t, n, rfl, hn, hl, q⟩ := z
    refine ⟨_, (pss_cons (ps_set (i := 2) sc_lowest_terms.nd rfl (Or.inl rfl) (C8.pe_c (ok_common_divisor (K := K) c) hr (by decide) rfl (pa_cons (pv 0) (pa_cons (pv 1) pa_nil))))
      (pss_one (ps_ret (pe_lst (pa_cons (pe_op op_fdiv (pv 0) (pv 2)) (pa_cons (pe_op op_fdiv (pv 1) (pv 2)) pa_nil)))))), ?_⟩
    refine ⟨_, rfl, _, rfl, t, n, rfl, ?_⟩
    have hg : 0 < Nat.gcd t n := Nat.gcd_pos_of_pos_right t hn
    have hg2 : Nat.gcd t n ≤ n := Nat.le_of_dvd hn (Nat.gcd_dvd_right t n)
    refine ⟨_, rfl, _, rfl, _, _, rfl, rfl, ⟨by omega, by omega⟩, _, rfl, _, rfl, _, _, rfl, rfl, ⟨by omega, by omega⟩, le2, fun p np => ?_⟩
    refine q _ p (same_new np) ?_
    unfold Ints averageL
    rw [upd_same, if_pos hn]
    rfl
def spAvg : Sp := fun vs H Q _ => ∃ t n : Nat, vs = [.int (t : Int), .int (n : Int)] ∧ n ≤ 1000 ∧ ∀ H' p, Same H H' → Ints H' p (averageL t n) → Q (.ref p) H'
theorem sc_average : FnScope ["total", "weight"] ["total", "weight"] (defScope s_average) := ⟨rfl, rfl, rfl, by decide +kernel, rfl, by decide +kernel, by decide +kernel⟩
theorem ok_average (c : Ctx w K mg h) : C8.Cal PP w K mg base 3 "average" (spAvg) [] := by
  refine c.cal (k := 2) (g_average c) (F_average c) sc_average (fun _ _ _ _ _ _ us hl => match us, hl with | [_, _], _ => rfl) (fun vs H Q E z => ?_) (fun cdv A outer s H vs Q E hr z => ?_)
  · obtain ⟨a, b, rfl, _⟩ := z
    rfl
  · obtain ⟨t, n, rfl, hl, q⟩ := z
    refine ⟨_, (pss_one (ps_ret (pe_ifExp (pt_cmpR op_gt (pv 1) pe_int (nomark _)) (C8.pe_c (ok_lowest_terms (K := K) c) hr (by decide) rfl (pa_cons (pv 0) (pa_cons (pv 1) pa_nil))) (pe_lst (pa_cons pe_int (pa_cons pe_int pa_nil)))))), ?_⟩
    refine ⟨_, rfl, _, _, rfl, rfl, _, rfl, ite2 (fun e1 => ?_) (fun e1 => ?_)⟩
    · have hn : 0 < n := by
        have := of_decide_eq_true e1
        omega
      exact ⟨_, rfl, _, rfl, t, n, rfl, hn, hl, q⟩
    · have hn : ¬ 0 < n := fun hn => e1 (decide_eq_true (by omega))
      refine ⟨le2, fun p np => q _ p (same_new np) ?_⟩
      unfold Ints averageL
      rw [upd_same, if_neg hn]
      rfl
end
end Fb

/-! FbChoice: tests, valid blends, the cheapest, the greatest weight, the obstacle. Source: src/FbChoice.src, filled by gen_walk.py. -/
namespace Fb
open PySem PySem.Spec PyProof.Rows L2
section
variable {w : World} {K : PySem.W.Frag} {mg : Str → Option Value} {base h : Heap}
/-! ### tests -/
def spTest (f : List Sr96.Bin → Sr96.Request → Nat → List Nat → Bool) : Sp := fun vs H Q _ => ∃ a n t b bs r x, vs = [.ref a, .int (n : Nat), .ref t, .ref b] ∧ Bins H a bs ∧ Bnd H t r ∧ Nats H b x ∧
  ∀ H', Same H H' → Q (.bl (f bs r n x)) H'
theorem sc_is_strong : FnScope ["bins", "weight", "bounds", "blend"] ["bins", "weight", "bounds", "blend"] (defScope s_is_strong) := ⟨rfl, rfl, rfl, by decide +kernel, rfl, by decide +kernel, by decide +kernel⟩
theorem ok_is_strong (c : Ctx w K mg h) : C8.Cal PP w K mg base 2 "is_strong" (spTest strongB) [] := by
  refine c.cal (k := 1) (g_is_strong c) (F_is_strong c) sc_is_strong (fun _ _ _ _ _ _ us hl => match us, hl with | [_, _, _, _], _ => rfl) (fun vs H Q E z => ?_) (fun cdv A outer s H vs Q E hr z => ?_)
  · obtain ⟨a, n, t, b, bs, r, x, rfl, _⟩ := z
    rfl
  · obtain ⟨a, n, t, b, bs, r, x, rfl, hb, ht, hx, q⟩ := z
    refine ⟨_, (pss_one (ps_ret (pe_cmpR op_ge (C8.pe_c (ok_strength_sum (K := K) c) hr (by decide) rfl (pa_cons (pv 0) (pa_cons (pv 3) pa_nil))) (pe_op op_mul (pe_ix ix_tup (pv 2) pe_int (fun _ _ => rfl)) (pv 1)) (nomark _)))), ?_⟩
    refine ⟨_, rfl, _, rfl, a, b, bs, x, rfl, hb, hx, fun H1 s => ?_⟩
    refine ⟨_, rfl, t, _, 0, _, rfl, rfl, .inl (.inl (s _ _ ht.1)), atI_nat (j := 0) rfl, _, rfl, _, _, rfl, rfl, .inl ⟨by omega, ?_⟩, _, _, rfl, rfl, ?_⟩
    · have := ht.2.lo
      omega
    · have e : decide ((r.minStrength : Int) * (n : Int) ≤ ((Sr96.total Sr96.Bin.strength bs x : Nat) : Int)) = strongB bs r n x := decide_eq_decide.mpr (by rw [← Int.natCast_mul]; exact Int.ofNat_le)
      have q1 := q _ s
      rw [← e] at q1
      exact q1
theorem sc_is_soft : FnScope ["bins", "weight", "bounds", "blend"] ["bins", "weight", "bounds", "blend"] (defScope s_is_soft) := ⟨rfl, rfl, rfl, by decide +kernel, rfl, by decide +kernel, by decide +kernel⟩
theorem ok_is_soft (c : Ctx w K mg h) : C8.Cal PP w K mg base 2 "is_soft" (spTest softB) [] := by
  refine c.cal (k := 1) (g_is_soft c) (F_is_soft c) sc_is_soft (fun _ _ _ _ _ _ us hl => match us, hl with | [_, _, _, _], _ => rfl) (fun vs H Q E z => ?_) (fun cdv A outer s H vs Q E hr z => ?_)
  · obtain ⟨a, n, t, b, bs, r, x, rfl, _⟩ := z
    rfl
  · obtain ⟨a, n, t, b, bs, r, x, rfl, hb, ht, hx, q⟩ := z
    refine ⟨_, (pss_one (ps_ret (pe_cmpR op_le (C8.pe_c (ok_strength_sum (K := K) c) hr (by decide) rfl (pa_cons (pv 0) (pa_cons (pv 3) pa_nil))) (pe_op op_mul (pe_ix ix_tup (pv 2) pe_int (fun _ _ => rfl)) (pv 1)) (nomark _)))), ?_⟩
    refine ⟨_, rfl, _, rfl, a, b, bs, x, rfl, hb, hx, fun H1 s => ?_⟩
    refine ⟨_, rfl, t, _, 1, _, rfl, rfl, .inl (.inl (s _ _ ht.1)), atI_nat (j := 1) rfl, _, rfl, _, _, rfl, rfl, .inl ⟨by omega, ?_⟩, _, _, rfl, rfl, ?_⟩
    · have := ht.2.hi
      omega
    · have e : decide (((Sr96.total Sr96.Bin.strength bs x : Nat) : Int) ≤ (r.maxStrength : Int) * (n : Int)) = softB bs r n x := decide_eq_decide.mpr (by rw [← Int.natCast_mul]; exact Int.ofNat_le)
      have q1 := q _ s
      rw [← e] at q1
      exact q1
theorem sc_is_clean : FnScope ["bins", "weight", "bounds", "blend"] ["bins", "weight", "bounds", "blend"] (defScope s_is_clean) := ⟨rfl, rfl, rfl, by decide +kernel, rfl, by decide +kernel, by decide +kernel⟩
theorem ok_is_clean (c : Ctx w K mg h) : C8.Cal PP w K mg base 2 "is_clean" (spTest cleanB) [] := by
  refine c.cal (k := 1) (g_is_clean c) (F_is_clean c) sc_is_clean (fun _ _ _ _ _ _ us hl => match us, hl with | [_, _, _, _], _ => rfl) (fun vs H Q E z => ?_) (fun cdv A outer s H vs Q E hr z => ?_)
  · obtain ⟨a, n, t, b, bs, r, x, rfl, _⟩ := z
    rfl
  · obtain ⟨a, n, t, b, bs, r, x, rfl, hb, ht, hx, q⟩ := z
    refine ⟨_, (pss_one (ps_ret (pe_cmpR op_le (C8.pe_c (ok_ash_sum (K := K) c) hr (by decide) rfl (pa_cons (pv 0) (pa_cons (pv 3) pa_nil))) (pe_op op_mul (pe_ix ix_tup (pv 2) pe_int (fun _ _ => rfl)) (pv 1)) (nomark _)))), ?_⟩
    refine ⟨_, rfl, _, rfl, a, b, bs, x, rfl, hb, hx, fun H1 s => ?_⟩
    refine ⟨_, rfl, t, _, 2, _, rfl, rfl, .inl (.inl (s _ _ ht.1)), atI_nat (j := 2) rfl, _, rfl, _, _, rfl, rfl, .inl ⟨by omega, ?_⟩, _, _, rfl, rfl, ?_⟩
    · have := ht.2.a
      omega
    · have e : decide (((Sr96.total Sr96.Bin.ash bs x : Nat) : Int) ≤ (r.maxAsh : Int) * (n : Int)) = cleanB bs r n x := decide_eq_decide.mpr (by rw [← Int.natCast_mul]; exact Int.ofNat_le)
      have q1 := q _ s
      rw [← e] at q1
      exact q1
theorem sc_keeps_bounds : FnScope ["bins", "weight", "bounds", "blend"] ["bins", "weight", "bounds", "blend"] (defScope s_keeps_bounds) := ⟨rfl, rfl, rfl, by decide +kernel, rfl, by decide +kernel, by decide +kernel⟩
theorem ok_keeps_bounds (c : Ctx w K mg h) : C8.Cal PP w K mg base 3 "keeps_bounds" (spTest keepsB) [] := by
  refine c.cal (k := 2) (g_keeps_bounds c) (F_keeps_bounds c) sc_keeps_bounds (fun _ _ _ _ _ _ us hl => match us, hl with | [_, _, _, _], _ => rfl) (fun vs H Q E z => ?_) (fun cdv A outer s H vs Q E hr z => ?_)
  · obtain ⟨a, n, t, b, bs, r, x, rfl, _⟩ := z
    rfl
  · obtain ⟨a, n, t, b, bs, r, x, rfl, hb, ht, hx, q⟩ := z
    refine ⟨_, (pss_cons (ps_if (PW.pt (pw_or (pt_not (pt_val (C8.pe_c (ok_is_strong (K := K) c) hr (by decide) rfl (pa_cons (pv 0) (pa_cons (pv 1) (pa_cons (pv 2) (pa_cons (pv 3) pa_nil))))))) (pw_or1 (pt_not (pt_val (C8.pe_c (ok_is_soft (K := K) c) hr (by decide) rfl (pa_cons (pv 0) (pa_cons (pv 1) (pa_cons (pv 2) (pa_cons (pv 3) pa_nil)))))))))) (pss_one (ps_ret pe_bl)) pss_nil)
      (pss_one (ps_ret (C8.pe_c (ok_is_clean (K := K) c) hr (by decide) rfl (pa_cons (pv 0) (pa_cons (pv 1) (pa_cons (pv 2) (pa_cons (pv 3) pa_nil)))))))), ?_⟩
    refine ⟨_, rfl, _, rfl, _, rfl, _, rfl, a, n, t, b, bs, r, x, rfl, hb, ht, hx, fun H1 s1 => ⟨_, rfl, ?_⟩⟩
    cases e1 : strongB bs r n x with
    | false =>
      refine iteT (iteT ?_)
      have e : keepsB bs r n x = false := by
        unfold keepsB
        rw [e1]
        rfl
      rw [e] at q
      exact q _ s1
    | true =>
      refine iteF ?_
      refine ⟨_, rfl, _, rfl, _, rfl, _, rfl, a, n, t, b, bs, r, x, rfl, hb.same s1, ht.same s1, hx.same s1, fun H2 s2 => ⟨_, rfl, ?_⟩⟩
      have s12 := s1.trans s2
      cases e2 : softB bs r n x with
      | false =>
        refine iteT ?_
        have e : keepsB bs r n x = false := by
          unfold keepsB
          rw [e1, e2]
          rfl
        rw [e] at q
        exact q _ s12
      | true =>
        refine iteF ?_
        refine ⟨_, rfl, _, rfl, _, rfl, _, rfl, a, n, t, b, bs, r, x, rfl, hb.same s12, ht.same s12, hx.same s12, fun H3 s3 => ?_⟩
        have e : keepsB bs r n x = cleanB bs r n x := by
          unfold keepsB
          rw [e1, e2]
          rfl
        rw [← e]
        exact q _ (s12.trans s3)
theorem sc_is_valid : FnScope ["bins", "weight", "bounds", "blend"] ["bins", "weight", "bounds", "blend"] (defScope s_is_valid) := ⟨rfl, rfl, rfl, by decide +kernel, rfl, by decide +kernel, by decide +kernel⟩
theorem ok_is_valid (c : Ctx w K mg h) : C8.Cal PP w K mg base 4 "is_valid" (spTest validB) [] := by
  refine c.cal (k := 3) (g_is_valid c) (F_is_valid c) sc_is_valid (fun _ _ _ _ _ _ us hl => match us, hl with | [_, _, _, _], _ => rfl) (fun vs H Q E z => ?_) (fun cdv A outer s H vs Q E hr z => ?_)
  · obtain ⟨a, n, t, b, bs, r, x, rfl, _⟩ := z
    rfl
  · obtain ⟨a, n, t, b, bs, r, x, rfl, hb, ht, hx, q⟩ := z
    refine ⟨_, (pss_cons (ps_if (PW.pt (pw_or (pt_not (pt_val (C8.pe_c (ok_is_available (K := K) c) hr (by decide) rfl (pa_cons (pv 0) (pa_cons (pv 3) pa_nil))))) (pw_or1 (pt_cmpR op_ne (C8.pe_c (ok_weight_of (K := K) c) hr (by decide) rfl (pa_cons (pv 3) pa_nil)) (pv 1) (nomark _))))) (pss_one (ps_ret pe_bl)) pss_nil)
      (pss_one (ps_ret (C8.pe_c (ok_keeps_bounds (K := K) c) hr (by decide) rfl (pa_cons (pv 0) (pa_cons (pv 1) (pa_cons (pv 2) (pa_cons (pv 3) pa_nil)))))))), ?_⟩
    refine ⟨_, rfl, _, rfl, a, b, bs, x, rfl, hb, hx, fun H1 s1 => ⟨_, rfl, ?_⟩⟩
    cases e1 : availB bs x with
    | false =>
      refine iteT (iteT ?_)
      have e : validB bs r n x = false := by
        unfold validB
        rw [e1]
        rfl
      rw [e] at q
      exact q _ s1
    | true =>
      refine iteF ?_
      refine ⟨_, rfl, b, x, rfl, hx.same s1, _, rfl, rfl, _, rfl, ?_⟩
      have ed : decide (V.int ((SrCommon.sum x : Nat) : Int) = V.int (n : Nat)) = decide (SrCommon.sum x = n) := decide_eq_decide.mpr ⟨fun e => Int.ofNat.inj (V.int.inj e), fun e => by rw [e]⟩
      rw [ed]
      cases e2 : decide (SrCommon.sum x = n) with
      | false =>
        refine iteT ?_
        have e : validB bs r n x = false := by
          unfold validB
          rw [e1, e2]
          rfl
        rw [e] at q
        exact q _ s1
      | true =>
        refine iteF ?_
        refine ⟨_, rfl, _, rfl, _, rfl, _, rfl, a, n, t, b, bs, r, x, rfl, hb.same s1, ht.same s1, hx.same s1, fun H3 s3 => ?_⟩
        have e : validB bs r n x = keepsB bs r n x := by
          unfold validB
          rw [e1, e2]
          rfl
        rw [← e]
        exact q _ (s1.trans s3)
/-! ### valid blends -/
def spValid : Sp := fun vs H Q _ => ∃ a n t bs r, vs = [.ref a, .int (n : Nat), .ref t] ∧ Bins H a bs ∧ n ≤ 30 ∧ Bnd H t r ∧
  ∀ H' p, Same H H' → LsAt RBlend H' p (validL bs r n) → Q (.ref p) H'
theorem sc_valid_blends : FnScope ["bins", "weight", "bounds", "blend"] ["bins", "weight", "bounds"] (defScope s_valid_blends) := ⟨rfl, rfl, rfl, by decide +kernel, rfl, by decide +kernel, by decide +kernel⟩
theorem ok_valid_blends (c : Ctx w K mg h) : C8.Cal PP w K mg base 4 "valid_blends" (spValid) [] := by
  refine c.cal (k := 3) (g_valid_blends c) (F_valid_blends c) sc_valid_blends (fun _ _ _ _ _ _ us hl => match us, hl with | [_, _, _], _ => rfl) (fun vs H Q E z => ?_) (fun cdv A outer s H vs Q E hr z => ?_)
  · obtain ⟨a, n, t, bs, r, rfl, _⟩ := z
    rfl
  · obtain ⟨a, n, t, bs, r, rfl, hb, hn, ht, q⟩ := z
    refine ⟨_, (pss_one (ps_ret (pe_lc (own := [("blend", 3)]) (g := (gName 3)) (tt := (tB (tCall (spTest keepsB) [] E0 (tCons (tVar 0) (tCons (tVar 1) (tCons (tVar 2) (tCons (tVar 3) tNil))))))) (te := (tVar 3)) rfl sc_valid_blends.nd (pi_list (C8.pe_c (ok_available_blends (K := K) c) hr (by decide) rfl (pa_cons (pv 0) (pa_cons (pv 1) pa_nil)))) (blkOk_by (own := [("blend", 3)]) (N := ["bins", "weight", "bounds", "blend"]) (sc := defScope s_valid_blends) (by decide +kernel)) (fun _ _ _ _ _ => (pg_name (i := 3) sc_valid_blends.nd rfl (Or.inl rfl))) (fun _ _ _ _ _ => (pts_one (pt_val (C8.pe_c (ok_keeps_bounds (K := K) c) hr (by decide) rfl (pa_cons (pv 0) (pa_cons (pv 1) (pa_cons (pv 2) (pa_cons (pv 3) pa_nil)))))))) (fun _ _ _ _ _ => (pv 3))))), ?_⟩
    refine ⟨_, rfl, _, rfl, a, bs, n, rfl, hb, hn, fun H1 p s1 hl => ?_⟩
    refine ⟨p, rfl, ⟨_, .inl (.inl hl.choose_spec.1)⟩, fun D nD => ?_⟩
    refine lc_ls (p := keepsB bs r n) (f := fun x => x) mBlend mBlend hl nD (Nat.le_trans (blends_lid hb.2 n) (by decide)) (fun x v H2 hx sm hD rv Z Zf kz kf => ?_) (fun H2 sm hl2 => ?_)
    · obtain ⟨b, rfl, hb2⟩ := rv
      have s2 := s1.trans sm
      refine ⟨rfl, _, rfl, _, rfl, _, rfl, _, rfl, a, n, t, b, bs, r, x, rfl, hb.same s2, ht.same s2, del_same _ _ _ _ hb2, fun H3 s3 => ⟨_, rfl, ite2 (fun e => ?_) (fun e => ?_)⟩⟩
      · exact ⟨_, rfl, kz e _ _ s3 ⟨b, rfl, same_del s3 _ _ hb2⟩⟩
      · exact kf (by simpa using e) _ s3
    · rw [List.map_id'] at hl2
      exact q _ D (s1.trans sm) hl2
/-! ### the cheapest -/
def ROpt (H : Hp) (v : V) : Option (List Nat) → Prop
  | none => v = .non
  | some x => ∃ t, v = .ref t ∧ Nats H t x
theorem ROpt.same {H H' : Hp} {v : V} {o : Option (List Nat)} (r : ROpt H v o) (s : Same H H') : ROpt H' v o := by
  cases o with
  | none => exact r
  | some x =>
    obtain ⟨t, e, n⟩ := r
    exact ⟨t, e, s _ _ n⟩
def spOf : Sp := fun vs H Q _ => ∃ a p bs l, vs = [.ref a, .ref p] ∧ Bins H a bs ∧ LsAt RBlend H p l ∧ ∀ H' v, Same H H' → ROpt H' v (Sr96.minimumBy (costM bs) l) → Q v H'
theorem sc_cheapest_of : FnScope ["bins", "blends", "best", "blend"] ["bins", "blends"] (defScope s_cheapest_of) := ⟨rfl, rfl, rfl, by decide +kernel, rfl, by decide +kernel, by decide +kernel⟩
theorem ok_cheapest_of (c : Ctx w K mg h) : C8.Cal PP w K mg base 2 "cheapest_of" (spOf) [] := by
  refine c.cal (k := 1) (g_cheapest_of c) (F_cheapest_of c) sc_cheapest_of (fun _ _ _ _ _ _ us hl => match us, hl with | [_, _], _ => rfl) (fun vs H Q E z => ?_) (fun cdv A outer s H vs Q E hr z => ?_)
  · obtain ⟨a, p, bs, l, rfl, _⟩ := z
    rfl
  · obtain ⟨a, p, bs, l, rfl, hb, hl, q⟩ := z
    refine ⟨_, (pss_cons (ps_set (i := 2) sc_cheapest_of.nd rfl (Or.inl rfl) pe_non)
      (pss_cons (ps_for PassesOwn.never rfl (pi_list (pv 1)) (pg_name (i := 3) sc_cheapest_of.nd rfl (Or.inl rfl)) (pss_one (ps_if (PW.pt (pw_or (pt_cmpR op_isN (pv 2) pe_non (nomark _)) (pw_or1 (pt_cmpR op_lt (C8.pe_c (ok_cost_of (K := K) c) hr (by decide) rfl (pa_cons (pv 0) (pa_cons (pv 3) pa_nil))) (C8.pe_c (ok_cost_of (K := K) c) hr (by decide) rfl (pa_cons (pv 0) (pa_cons (pv 2) pa_nil))) (nomark _))))) (pss_one (ps_set (i := 2) sc_cheapest_of.nd rfl (Or.inl rfl) (pv 3))) pss_nil)))
      (pss_one (ps_ret (pv 2))))), ?_⟩
    obtain ⟨us, ea, pa⟩ := hl
    have hlen := pa.length
    refine ⟨.ref p, rfl, p, rfl, ⟨us, .inl (.inl ea)⟩, for_it (walk_list (K := K) (a := p) (xs := us)) (fun i σ H' => ∃ v y3, σ = [some (.ref a), some (.ref p), some v, y3] ∧ Same H H' ∧ ROpt H' v (Sr96.minimumBy (costM bs) (l.take i)))
      ⟨.non, none, rfl, Same.refl _, rfl⟩ (fun i σ H' _ ⟨_, _, _, s, _⟩ => .inl (.inl (s _ _ ea))) (fun i u σ H1 H2 hi hP hy => ?_) (fun σ H1 hP => ?_)⟩
    · obtain ⟨e2, ev⟩ := hy
      subst e2
      obtain ⟨v, y3, rfl, s, hv⟩ := hP
      obtain ⟨x, ex, b, rfl, hx⟩ := pair_got pa ev
      rw [take_snoc ex, min_snoc]
      have hx2 : Nats H2 b x := s _ _ hx
      refine ⟨_, rfl, rfl, _, rfl, ?_⟩
      cases o : Sr96.minimumBy (costM bs) (l.take i) with
      | none =>
        rw [o] at hv
        have ev : v = .non := hv
        subst ev
        exact iteT (iteT ⟨_, rfl, _, _, rfl, s, b, rfl, hx2⟩)
      | some y =>
        rw [o] at hv
        obtain ⟨t, rfl, hy⟩ := hv
        refine iteF ?_
        refine ⟨_, rfl, _, rfl, a, b, bs, x, rfl, hb.same s, hx2, fun H3 s3 => ?_⟩
        have s23 := s.trans s3
        refine ⟨_, rfl, _, rfl, a, t, bs, y, rfl, hb.same s23, hy.same s3, fun H4 s4 => ?_⟩
        refine ⟨_, _, rfl, rfl, _, rfl, ite2 (fun e => ?_) (fun e => ?_)⟩
        · refine ⟨_, rfl, _, _, rfl, s23.trans s4, ?_⟩
          show ROpt H4 (.ref b) (if costM bs x < costM bs y then some x else some y)
          rw [if_pos (show costM bs x < costM bs y from of_decide_eq_true e)]
          exact ⟨b, rfl, hx2.same (s3.trans s4)⟩
        · refine ⟨_, _, rfl, s23.trans s4, ?_⟩
          show ROpt H4 (.ref t) (if costM bs x < costM bs y then some x else some y)
          rw [if_neg (show ¬ costM bs x < costM bs y from fun z => e (decide_eq_true z))]
          exact ⟨t, rfl, hy.same (s3.trans s4)⟩
    · obtain ⟨v, y3, rfl, s, hv⟩ := hP
      rw [hlen, List.take_length] at hv
      exact ⟨_, rfl, q _ _ s hv⟩
def spCheapest : Sp := fun vs H Q _ => ∃ a n t bs r, vs = [.ref a, .int (n : Nat), .ref t] ∧ Bins H a bs ∧ n ≤ 30 ∧ Bnd H t r ∧
  ∀ H' v, Same H H' → ROpt H' v (Sr96.minimumBy (costM bs) (validL bs r n)) → Q v H'
theorem sc_cheapest_blend : FnScope ["bins", "weight", "bounds"] ["bins", "weight", "bounds"] (defScope s_cheapest_blend) := ⟨rfl, rfl, rfl, by decide +kernel, rfl, by decide +kernel, by decide +kernel⟩
theorem ok_cheapest_blend (c : Ctx w K mg h) : C8.Cal PP w K mg base 5 "cheapest_blend" (spCheapest) [] := by
  refine c.cal (k := 4) (g_cheapest_blend c) (F_cheapest_blend c) sc_cheapest_blend (fun _ _ _ _ _ _ us hl => match us, hl with | [_, _, _], _ => rfl) (fun vs H Q E z => ?_) (fun cdv A outer s H vs Q E hr z => ?_)
  · obtain ⟨a, n, t, bs, r, rfl, _⟩ := z
    rfl
  · obtain ⟨a, n, t, bs, r, rfl, hb, hn, ht, q⟩ := z
    refine ⟨_, (pss_one (ps_ret (C8.pe_c (ok_cheapest_of (K := K) c) hr (by decide) rfl (pa_cons (pv 0) (pa_cons (C8.pe_c (ok_valid_blends (K := K) c) hr (by decide) rfl (pa_cons (pv 0) (pa_cons (pv 1) (pa_cons (pv 2) pa_nil)))) pa_nil))))), ?_⟩
    refine ⟨_, rfl, _, rfl, _, rfl, _, rfl, a, n, t, bs, r, rfl, hb, hn, ht, fun H1 p s1 hl => ?_⟩
    exact ⟨a, p, bs, _, rfl, hb.same s1, hl, fun H2 v s2 hv => q _ _ (s1.trans s2) hv⟩
/-! ### the greatest weight -/
def Greatest (bs : List Sr96.Bin) (r : Sr96.Request) (k : Nat) : Prop := (k ≤ 30 ∧ validL bs r k ≠ [] ∧ ∀ m, k < m → m ≤ 30 → validL bs r m = []) ∨ (k = 0 ∧ ∀ m, 1 ≤ m → m ≤ 30 → validL bs r m = [])
def spGreatest : Sp := fun vs H Q _ => ∃ a t bs r, vs = [.ref a, .ref t, .int 30] ∧ Bins H a bs ∧ Bnd H t r ∧ ∀ H' (k : Nat), Same H H' → Greatest bs r k → Q (.int (k : Nat)) H'
theorem sc_greatest_weight : FnScope ["bins", "bounds", "most", "weight"] ["bins", "bounds", "most"] (defScope s_greatest_weight) := ⟨rfl, rfl, rfl, by decide +kernel, rfl, by decide +kernel, by decide +kernel⟩
theorem ok_greatest_weight (c : Ctx w K mg h) : C8.Cal PP w K mg base 5 "greatest_weight" (spGreatest) [] := by
  refine c.cal (k := 4) (g_greatest_weight c) (F_greatest_weight c) sc_greatest_weight (fun _ _ _ _ _ _ us hl => match us, hl with | [_, _, _], _ => rfl) (fun vs H Q E z => ?_) (fun cdv A outer s H vs Q E hr z => ?_)
  · obtain ⟨a, t, bs, r, rfl, _⟩ := z
    rfl
  · obtain ⟨a, t, bs, r, rfl, hb, ht, q⟩ := z
    refine ⟨_, (pss_cons (ps_for PassesOwn.never rfl (pi_range3 (by rfl) (m_range c) (pa_cons (pv 2) (pa_cons pe_int (pa_cons (pe_un un_neg pe_int) pa_nil)))) (pg_name (i := 3) sc_greatest_weight.nd rfl (Or.inl rfl)) (pss_one (ps_if (pt_cmpR (op_neD hr.units) (C8.pe_c (ok_valid_blends (K := K) c) hr (by decide) rfl (pa_cons (pv 0) (pa_cons (pv 3) (pa_cons (pv 1) pa_nil)))) (pe_lst pa_nil) (nomark _)) (pss_one (ps_ret (pv 3))) pss_nil)))
      (pss_one (ps_ret pe_int))), ?_⟩
    refine ⟨_, rfl, _, rfl, 30, 0, -1, _, rfl, RgC.neg (by decide) (by decide) (by decide) (by decide), ?_⟩
    refine for_it (walk_rangeC (lo := 30) (c := -1) (n := 30)) (fun i σ H' => ∃ y3, σ = [some (.ref a), some (.ref t), some (.int 30), y3] ∧ Same H H' ∧ ∀ m, 30 - i < m → m ≤ 30 → validL bs r m = [])
      ⟨none, rfl, Same.refl _, fun m h1 h2 => by omega⟩ (fun _ _ _ _ _ => trivial) (fun i v σ H1 H2 hi hP hy => ?_) (fun σ H1 hP => ?_)
    · obtain ⟨e2, ev⟩ := hy
      subst e2
      obtain ⟨y3, rfl, s, hm⟩ := hP
      have ev2 : v = V.int ((30 - i : Nat) : Int) := ev.trans (congrArg V.int (by omega))
      subst ev2
      refine ⟨_, rfl, _, rfl, _, rfl, a, 30 - i, t, bs, r, rfl, hb.same s, by omega, ht.same s, fun H3 p s3 hl => ⟨le0, fun e ne => ?_⟩⟩
      have s4 := same_new (o := .lst []) ne
      obtain ⟨ds, g1, g2, g3⟩ := (hl.same mBlend s4).dp (K := K) cBlend
      refine ⟨.list ds, .list [], g1, dp_nil upd_same, g2, rfl, _, rfl, ?_⟩
      rw [g3]
      have s5 := s.trans (s3.trans s4)
      cases o : validL bs r (30 - i) with
      | nil =>
        refine iteF ⟨_, rfl, s5, fun m h1 h2 => ?_⟩
        by_cases e : m = 30 - i
        · rw [e, o]
        · exact hm m (by omega) h2
      | cons x l =>
        refine iteT ⟨_, rfl, ?_⟩
        exact q _ _ s5 (.inl ⟨by omega, by rw [o]; exact List.cons_ne_nil _ _, hm⟩)
    · obtain ⟨y3, rfl, s, hm⟩ := hP
      exact q _ 0 s (.inr ⟨rfl, fun m h1 h2 => hm m (by omega) h2⟩)
/-! ### the obstacle -/
theorem filter_all {α : Type} (l : List α) : l.filter (fun _ => true) = l := List.filter_eq_self.mpr fun _ _ => rfl
/-- any([f(bins, weight, bounds, blend) for blend in blends]) -/
theorem any_lc {f : List Sr96.Bin → Sr96.Request → Nat → List Nat → Bool} {a t p : Addr} {n : Nat} {bs : List Sr96.Bin} {r : Sr96.Request} {l : List (List Nat)} {H : Hp} {Q : VK} (hb : Bins H a bs) (ht : Bnd H t r) (hl : LsAt RBlend H p l) (lid : l.length ≤ 1000000)
    (q : ∀ H', Same H H' → Q (.bl (l.any (f bs r n))) H') :
    tCB (rAny K) (tCons (tLc (iList K (tVar 3)) (gName 4) tYes (tCall (spTest f) [] E0 (tCons (tVar 0) (tCons (tVar 1) (tCons (tVar 2) (tCons (tVar 4) tNil))))) [4]) tNil) [some (.ref a), some (.int (n : Nat)), some (.ref t), some (.ref p), none] H Q := by
  refine ⟨.ref p, rfl, p, rfl, ⟨_, .inl (.inl hl.choose_spec.1)⟩, fun D nD => ?_⟩
  refine lc_ls (p := fun _ => true) (f := f bs r n) mBlend mBl hl nD lid (fun x v H2 hx sm hD rv Z Zf kz kf => ?_) (fun H2 sm hl2 => ?_)
  · obtain ⟨b, rfl, hb2⟩ := rv
    exact ⟨rfl, _, rfl, _, rfl, _, rfl, _, rfl, a, n, t, b, bs, r, x, rfl, hb.same sm, ht.same sm, del_same _ _ _ _ hb2, fun H3 s3 => kz rfl _ _ s3 rfl⟩
  · rw [filter_all] at hl2
    refine ⟨D, _, rfl, .inl (.inl hl2.bls), ?_⟩
    rw [List.any_map]
    exact q _ sm
def spObst : Sp := fun vs H Q _ => ∃ a n t bs r, vs = [.ref a, .int (n : Nat), .ref t] ∧ Bins H a bs ∧ n ≤ 30 ∧ Bnd H t r ∧ ∀ H', Same H H' → Q (.int (obstacleN bs r n : Nat)) H'
theorem sc_obstacle_of : FnScope ["bins", "weight", "bounds", "blends", "blend"] ["bins", "weight", "bounds"] (defScope s_obstacle_of) := ⟨rfl, rfl, rfl, by decide +kernel, rfl, by decide +kernel, by decide +kernel⟩
theorem ok_obstacle_of (c : Ctx w K mg h) : C8.Cal PP w K mg base 4 "obstacle_of" (spObst) [] := by
  refine c.cal (k := 3) (g_obstacle_of c) (F_obstacle_of c) sc_obstacle_of (fun _ _ _ _ _ _ us hl => match us, hl with | [_, _, _], _ => rfl) (fun vs H Q E z => ?_) (fun cdv A outer s H vs Q E hr z => ?_)
  · obtain ⟨a, n, t, bs, r, rfl, _⟩ := z
    rfl
  · obtain ⟨a, n, t, bs, r, rfl, hb, hn, ht, q⟩ := z
    refine ⟨_, (pss_cons (ps_set (i := 3) sc_obstacle_of.nd rfl (Or.inl rfl) (C8.pe_c (ok_available_blends (K := K) c) hr (by decide) rfl (pa_cons (pv 0) (pa_cons (pv 1) pa_nil))))
      (pss_cons (ps_if (pt_cmpR (op_eqD hr.units) (pv 3) (pe_lst pa_nil) (nomark _)) (pss_one (ps_ret (pe_glob (v := .int (1)) rfl (i_NO_BLEND_choice c).choose_spec ⟨_, rfl⟩))) pss_nil)
      (pss_cons (ps_if (pt_not (pt_val (pe_callB (cr_any rfl) (by rfl) (m_any c) (by decide +kernel) (pa_cons (pe_lc (own := [("blend", 4)]) (g := (gName 4)) (tt := tYes) (te := (tCall (spTest strongB) [] E0 (tCons (tVar 0) (tCons (tVar 1) (tCons (tVar 2) (tCons (tVar 4) tNil)))))) rfl sc_obstacle_of.nd (pi_list (pv 3)) (blkOk_by (own := [("blend", 4)]) (N := ["bins", "weight", "bounds", "blends", "blend"]) (sc := defScope s_obstacle_of) (by decide +kernel)) (fun _ _ _ _ _ => (pg_name (i := 4) sc_obstacle_of.nd rfl (Or.inl rfl))) (fun _ _ _ _ _ => pts_nil) (fun _ _ _ _ _ => (C8.pe_c (ok_is_strong (K := K) c) hr (by decide) rfl (pa_cons (pv 0) (pa_cons (pv 1) (pa_cons (pv 2) (pa_cons (pv 4) pa_nil))))))) pa_nil)))) (pss_one (ps_ret (pe_glob (v := .int (2)) rfl (i_TOO_WEAK c).choose_spec ⟨_, rfl⟩))) pss_nil)
      (pss_cons (ps_if (pt_not (pt_val (pe_callB (cr_any rfl) (by rfl) (m_any c) (by decide +kernel) (pa_cons (pe_lc (own := [("blend", 4)]) (g := (gName 4)) (tt := tYes) (te := (tCall (spTest softB) [] E0 (tCons (tVar 0) (tCons (tVar 1) (tCons (tVar 2) (tCons (tVar 4) tNil)))))) rfl sc_obstacle_of.nd (pi_list (pv 3)) (blkOk_by (own := [("blend", 4)]) (N := ["bins", "weight", "bounds", "blends", "blend"]) (sc := defScope s_obstacle_of) (by decide +kernel)) (fun _ _ _ _ _ => (pg_name (i := 4) sc_obstacle_of.nd rfl (Or.inl rfl))) (fun _ _ _ _ _ => pts_nil) (fun _ _ _ _ _ => (C8.pe_c (ok_is_soft (K := K) c) hr (by decide) rfl (pa_cons (pv 0) (pa_cons (pv 1) (pa_cons (pv 2) (pa_cons (pv 4) pa_nil))))))) pa_nil)))) (pss_one (ps_ret (pe_glob (v := .int (3)) rfl (i_TOO_STRONG c).choose_spec ⟨_, rfl⟩))) pss_nil)
      (pss_cons (ps_if (pt_not (pt_val (pe_callB (cr_any rfl) (by rfl) (m_any c) (by decide +kernel) (pa_cons (pe_lc (own := [("blend", 4)]) (g := (gName 4)) (tt := tYes) (te := (tCall (spTest cleanB) [] E0 (tCons (tVar 0) (tCons (tVar 1) (tCons (tVar 2) (tCons (tVar 4) tNil)))))) rfl sc_obstacle_of.nd (pi_list (pv 3)) (blkOk_by (own := [("blend", 4)]) (N := ["bins", "weight", "bounds", "blends", "blend"]) (sc := defScope s_obstacle_of) (by decide +kernel)) (fun _ _ _ _ _ => (pg_name (i := 4) sc_obstacle_of.nd rfl (Or.inl rfl))) (fun _ _ _ _ _ => pts_nil) (fun _ _ _ _ _ => (C8.pe_c (ok_is_clean (K := K) c) hr (by decide) rfl (pa_cons (pv 0) (pa_cons (pv 1) (pa_cons (pv 2) (pa_cons (pv 4) pa_nil))))))) pa_nil)))) (pss_one (ps_ret (pe_glob (v := .int (4)) rfl (i_TOO_MUCH_ASH c).choose_spec ⟨_, rfl⟩))) pss_nil)
      (pss_cons (ps_if (pt_not (pt_val (pe_callB (cr_any rfl) (by rfl) (m_any c) (by decide +kernel) (pa_cons (pe_lc (own := [("blend", 4)]) (g := (gName 4)) (tt := tYes) (te := (tCall (spTest keepsB) [] E0 (tCons (tVar 0) (tCons (tVar 1) (tCons (tVar 2) (tCons (tVar 4) tNil)))))) rfl sc_obstacle_of.nd (pi_list (pv 3)) (blkOk_by (own := [("blend", 4)]) (N := ["bins", "weight", "bounds", "blends", "blend"]) (sc := defScope s_obstacle_of) (by decide +kernel)) (fun _ _ _ _ _ => (pg_name (i := 4) sc_obstacle_of.nd rfl (Or.inl rfl))) (fun _ _ _ _ _ => pts_nil) (fun _ _ _ _ _ => (C8.pe_c (ok_keeps_bounds (K := K) c) hr (by decide) rfl (pa_cons (pv 0) (pa_cons (pv 1) (pa_cons (pv 2) (pa_cons (pv 4) pa_nil))))))) pa_nil)))) (pss_one (ps_ret (pe_glob (v := .int (5)) rfl (i_NOT_TOGETHER c).choose_spec ⟨_, rfl⟩))) pss_nil)
      (pss_one (ps_ret (pe_glob (v := .int (0)) rfl (i_FOUND c).choose_spec ⟨_, rfl⟩))))))))), ?_⟩
    refine ⟨_, rfl, _, rfl, a, bs, n, rfl, hb, hn, fun H1 p s1 hl => ?_⟩
    refine ⟨_, rfl, le0, fun e ne => ?_⟩
    have s2 := s1.trans (same_new (o := .lst []) ne)
    have hl2 := hl.same mBlend (same_new (o := .lst []) ne)
    obtain ⟨ds, g1, g2, g3⟩ := hl2.dp (K := K) cBlend
    refine ⟨.list ds, .list [], g1, dp_nil upd_same, g2, rfl, _, rfl, ?_⟩
    rw [g3]
    have lid := Nat.le_trans (blends_lid hb.2 n) (show 923521 ≤ 1000000 by decide)
    unfold obstacleN at q
    cases e0 : (Sr96.blendsFrom bs n).isEmpty with
    | true =>
      rw [if_pos (List.isEmpty_iff.mp e0)] at q
      exact iteT (q _ s2)
    | false =>
      rw [if_neg (fun z => by rw [z] at e0; cases e0)] at q
      refine iteF (any_lc (hb.same s2) (ht.same s2) hl2 lid fun H3 s3 => ⟨_, rfl, ?_⟩)
      have s23 := s2.trans s3
      cases e1 : (Sr96.blendsFrom bs n).any (strongB bs r n) with
      | false =>
        rw [e1, if_pos rfl] at q
        exact iteT (q _ s23)
      | true =>
        rw [e1, if_neg (by decide)] at q
        refine iteF (any_lc (hb.same s23) (ht.same s23) (hl2.same mBlend s3) lid fun H4 s4 => ⟨_, rfl, ?_⟩)
        have s24 := s23.trans s4
        cases e2 : (Sr96.blendsFrom bs n).any (softB bs r n) with
        | false =>
          rw [e2, if_pos rfl] at q
          exact iteT (q _ s24)
        | true =>
          rw [e2, if_neg (by decide)] at q
          refine iteF (any_lc (hb.same s24) (ht.same s24) (hl2.same mBlend (s3.trans s4)) lid fun H5 s5 => ⟨_, rfl, ?_⟩)
          have s25 := s24.trans s5
          cases e3 : (Sr96.blendsFrom bs n).any (cleanB bs r n) with
          | false =>
            rw [e3, if_pos rfl] at q
            exact iteT (q _ s25)
          | true =>
            rw [e3, if_neg (by decide)] at q
            refine iteF (any_lc (hb.same s25) (ht.same s25) (hl2.same mBlend (s3.trans (s4.trans s5))) lid fun H6 s6 => ⟨_, rfl, ?_⟩)
            have s26 := s25.trans s6
            cases e4 : (Sr96.blendsFrom bs n).any (keepsB bs r n) with
            | false =>
              rw [e4, if_pos rfl] at q
              exact iteT (q _ s26)
            | true =>
              rw [e4, if_neg (by decide)] at q
              exact iteF (q _ s26)
end
end Fb

/-! FbStore: the two classes, with_item. Source: src/FbStore.src, filled by gen_walk.py. -/
namespace Fb
open PySem PySem.Spec PyProof.Rows L2
/-! ### behind a change of an instance -/
theorem but_del {a : Addr} {H H' : Hp} (s : SameBut a H H') : Same (del H a) H' := fun b o e => by
  unfold del at e
  by_cases h : b = a
  · rw [if_pos h] at e
    cases e
  · rw [if_neg h] at e
    exact s b o e h
section
variable {H H' : Hp} {a b : Addr} {C dx : Addr} {fs : List (Str × V)}
theorem ne_lst {xs : List V} (e : H b = some (.lst xs)) (ha : H a = some (.ins C dx fs)) : b ≠ a := fun z => by
  subst z
  rw [e] at ha
  cases ha
theorem ne_tup {xs : List V} (e : H b = some (.tup xs)) (ha : H a = some (.ins C dx fs)) : b ≠ a := fun z => by
  subst z
  rw [e] at ha
  cases ha
theorem lst_del {xs : List V} (e : H b = some (.lst xs)) (ha : H a = some (.ins C dx fs)) : del H a b = some (.lst xs) := by
  rw [del_ne (ne_lst e ha)]
  exact e
theorem tup_del {xs : List V} (e : H b = some (.tup xs)) (ha : H a = some (.ins C dx fs)) : del H a b = some (.tup xs) := by
  rw [del_ne (ne_tup e ha)]
  exact e
theorem LsAt.delI {α : Type} {R : RX α} {l : List α} (hR : ∀ v x, R H v x → R (del H a) v x) (h : LsAt R H b l) (ha : H a = some (.ins C dx fs)) : LsAt R (del H a) b l := by
  obtain ⟨vs, e, p⟩ := h
  exact ⟨vs, lst_del e ha, L2.Paired.mapP p fun v x r => hR v x r⟩
theorem bin_del (ha : H a = some (.ins C dx fs)) : ∀ v x, RBin H v x → RBin (del H a) v x := fun v x ⟨t, e, h⟩ => ⟨t, e, tup_del h ha⟩
theorem Bins.delI {bs : List Sr96.Bin} (h : Bins H b bs) (ha : H a = some (.ins C dx fs)) : Bins (del H a) b bs := ⟨h.1.delI (bin_del ha) ha, h.2⟩
theorem Bins.but {bs : List Sr96.Bin} (h : Bins H b bs) (ha : H a = some (.ins C dx fs)) (s : SameBut a H H') : Bins H' b bs := (h.delI ha).same (but_del s)
theorem LsAt.butB {bs : List Sr96.Bin} (h : LsAt RBin H b bs) (ha : H a = some (.ins C dx fs)) (s : SameBut a H H') : LsAt RBin H' b bs := (h.delI (bin_del ha) ha).same mBin (but_del s)
theorem Nats.but {x : List Nat} (h : Nats H b x) (ha : H a = some (.ins C dx fs)) (s : SameBut a H H') : Nats H' b x := s _ _ h (ne_lst h ha)
theorem Ints.but {x : List Int} (h : Ints H b x) (ha : H a = some (.ins C dx fs)) (s : SameBut a H H') : Ints H' b x := s _ _ h (ne_lst h ha)
theorem Bnd.but {r : Sr96.Request} (h : Bnd H b r) (ha : H a = some (.ins C dx fs)) (s : SameBut a H H') : Bnd H' b r := ⟨s _ _ h.1 (ne_tup h.1 ha), h.2⟩
end
/-! ### the fields -/
def sF (b : V) (n : V) (t : V) (m : V) : List (Str × V) := [("bins", b), ("weight", n), ("bounds", t), ("spent", m)]
def dF (v : V) : List (Str × V) := [("store", v)]
theorem lk_here {k : Str} {v : V} {r : List (Str × V)} : List.lookup k ((k, v) :: r) = some v := by
  have e : (k == k) = true := beq_self_eq_true k
  simp only [List.lookup, e]
theorem lk_past {k g : Str} {v : V} {r : List (Str × V)} (h : (k == g) = false) : List.lookup k ((g, v) :: r) = List.lookup k r := by
  simp only [List.lookup, h]
theorem put_here {f : Str} {v x : V} {r : List (Str × V)} : putF f v ((f, x) :: r) = (f, v) :: r := if_pos rfl
theorem put_past {f g : Str} {v x : V} {r : List (Str × V)} (h : ¬ g = f) : putF f v ((g, x) :: r) = (g, x) :: putF f v r := if_neg h
section
variable {b n t m y : V}
theorem sF_bins : (sF b n t m).lookup ("bins" : Str) = some b := lk_here
theorem sF_weight : (sF b n t m).lookup ("weight" : Str) = some n := (lk_past (by decide +kernel)).trans lk_here
theorem sF_bounds : (sF b n t m).lookup ("bounds" : Str) = some t := (lk_past (by decide +kernel)).trans ((lk_past (by decide +kernel)).trans lk_here)
theorem sF_spent : (sF b n t m).lookup ("spent" : Str) = some m := (lk_past (by decide +kernel)).trans ((lk_past (by decide +kernel)).trans ((lk_past (by decide +kernel)).trans lk_here))
theorem sF_no {x : Str} (h1 : (x == ("bins" : Str)) = false) (h2 : (x == ("weight" : Str)) = false) (h3 : (x == ("bounds" : Str)) = false) (h4 : (x == ("spent" : Str)) = false) : (sF b n t m).lookup x = none :=
  (lk_past h1).trans ((lk_past h2).trans ((lk_past h3).trans ((lk_past h4).trans rfl)))
theorem sF_take_bins : (sF b n t m).lookup ("take_bins" : Str) = none := sF_no (by decide +kernel) (by decide +kernel) (by decide +kernel) (by decide +kernel)
theorem sF_take_request : (sF b n t m).lookup ("take_request" : Str) = none := sF_no (by decide +kernel) (by decide +kernel) (by decide +kernel) (by decide +kernel)
theorem sF_take_out : (sF b n t m).lookup ("take_out" : Str) = none := sF_no (by decide +kernel) (by decide +kernel) (by decide +kernel) (by decide +kernel)
theorem put_bins : putF "bins" y (sF b n t m) = sF y n t m := put_here
theorem put_weight : putF "weight" y (sF b n t m) = sF b y t m := (put_past (by decide +kernel)).trans (congrArg _ put_here)
theorem put_bounds : putF "bounds" y (sF b n t m) = sF b n y m := (put_past (by decide +kernel)).trans (congrArg _ ((put_past (by decide +kernel)).trans (congrArg _ put_here)))
theorem put_spent : putF "spent" y (sF b n t m) = sF b n t y := (put_past (by decide +kernel)).trans (congrArg _ ((put_past (by decide +kernel)).trans (congrArg _ ((put_past (by decide +kernel)).trans (congrArg _ put_here)))))
theorem put1 : putF "bins" b [] = [(("bins" : Str), b)] := rfl
theorem put2 : putF "weight" n [(("bins" : Str), b)] = [(("bins" : Str), b), (("weight" : Str), n)] := (put_past (by decide +kernel)).trans rfl
theorem put3 : putF "bounds" t [(("bins" : Str), b), (("weight" : Str), n)] = [(("bins" : Str), b), (("weight" : Str), n), (("bounds" : Str), t)] := (put_past (by decide +kernel)).trans (congrArg _ ((put_past (by decide +kernel)).trans rfl))
theorem put4 : putF "spent" m [(("bins" : Str), b), (("weight" : Str), n), (("bounds" : Str), t)] = sF b n t m :=
  (put_past (by decide +kernel)).trans (congrArg _ ((put_past (by decide +kernel)).trans (congrArg _ ((put_past (by decide +kernel)).trans rfl))))
theorem dF_store {v : V} : (dF v).lookup ("store" : Str) = some v := lk_here
theorem dF_place {v : V} : (dF v).lookup ("place_store" : Str) = none := (lk_past (by decide +kernel)).trans rfl
theorem put_store {v : V} : putF "store" y (dF v) = dF y := put_here
end
/-! ### an instance, a desk -/
def StoreAt (K : PySem.W.Frag) (H : Hp) (a : Addr) (s : Sr96.Store) : Prop := ∃ dx b t, H a = some (.ins (CS K) dx (sF (.ref b) (.int (s.request.kilograms : Nat)) (.ref t) (.int (s.spent : Nat)))) ∧ Bins H b s.bins ∧ Bnd H t s.request
def fresh : Sr96.Store := ⟨[], ⟨1, 0, 999, 999⟩, 0⟩
def DeskAt (K : PySem.W.Frag) (H : Hp) (d : Addr) : Sr96.State → Prop
  | none => ∃ dx, H d = some (.ins (CD K) dx (dF .non))
  | some s => ∃ dx a, H d = some (.ins (CD K) dx (dF (.ref a))) ∧ StoreAt K H a s
theorem few {b n t m : V} : (sF b n t m).length < 1000 := by
  show 4 < 1000
  decide
section
variable {w : World} {K : PySem.W.Frag} {mg : Str → Option Value} {base h : Heap}
/-! ### Store -/
def spInitS (K : PySem.W.Frag) : Sp := fun vs H Q _ => ∃ p dx, vs = [.ref p] ∧ H p = some (.ins (CS K) dx []) ∧ ∀ H', SameBut p H H' → StoreAt K H' p fresh → Q .non H'
theorem sc_Store_init : FnScope ["self"] ["self"] (defScope s_Store_init) := ⟨rfl, rfl, rfl, by decide +kernel, rfl, by decide +kernel, by decide +kernel⟩
theorem ok_Store (c : Ctx w K mg h) : C8.Mak PP w K mg base 1 "Store" (He.ga K "Store") (spInitS K) [] := by
  refine c.mak (k := 0) (g_Store c) (mk_Store c) (F_Store_init c) sc_Store_init (fun _ _ _ _ _ _ us hl => match us, hl with | [_], _ => rfl) (fun vs H Q E z => ?_) (fun cdv A outer s H vs Q E hr z => ?_)
  · obtain ⟨p, dx, rfl, _⟩ := z
    rfl
  · obtain ⟨p, dx, rfl, hp, q⟩ := z
    refine ⟨_, (pss_cons (ps_fld (pv 0) (pe_lst pa_nil) rfl)
      (pss_cons (ps_fld (pv 0) pe_int rfl)
      (pss_cons (ps_fld (pv 0) (pe_tup (pa_cons pe_int (pa_cons pe_int (pa_cons pe_int pa_nil)))) rfl)
      (pss_one (ps_fld (pv 0) pe_int rfl))))), ?_⟩
    -- self.bins = []
    refine ⟨le0, fun b nb => ?_⟩
    have hbp : p ≠ b := ne_of_none hp nb
    refine ⟨_, rfl, p, CS K, dx, [], rfl, (same_new nb) _ _ hp, cls_Store c, no_Store_bins c, (by decide), ?_⟩
    -- self.weight = 1
    refine ⟨_, rfl, p, CS K, dx, _, rfl, upd_same, cls_Store c, no_Store_weight c, (by show 1 < 1000; decide), ?_⟩
    rw [upd_upd, put1, put2]
    -- self.bounds = (0, 999, 999)
    refine ⟨le3, fun t nt => ?_⟩
    have htp : p ≠ t := ne_of_none upd_same nt
    have htb : b ≠ t := ne_of_none (show _ = some (HO.lst []) by rw [upd_ne hbp.symm]; exact upd_same) nt
    refine ⟨_, rfl, p, CS K, dx, _, rfl, (same_new nt) _ _ upd_same, cls_Store c, no_Store_bounds c, (by show 2 < 1000; decide), ?_⟩
    rw [put3]
    -- self.spent = 0
    refine ⟨_, rfl, p, CS K, dx, _, rfl, upd_same, cls_Store c, no_Store_spent c, (by show 3 < 1000; decide), ?_⟩
    · rw [upd_upd, put4]
      refine q _ (fun c o e hc => ?_) ⟨dx, b, t, upd_same, ⟨⟨[], ?_, .nil⟩, ⟨by decide, fun _ hb => nomatch hb⟩⟩, ?_, ⟨by decide, by decide, by decide, by decide⟩⟩
      · rw [upd_ne hc]
        refine (same_new nt) _ _ ?_
        rw [upd_ne hc]
        exact (same_new nb) _ _ e
      · rw [upd_ne hbp.symm, upd_ne htb, upd_ne hbp.symm]
        exact upd_same
      · rw [upd_ne htp.symm]
        exact upd_same
def spTakeBins (K : PySem.W.Frag) : Sp := fun vs H Q _ => ∃ a dx b n t m y, vs = [.ref a, y] ∧ H a = some (.ins (CS K) dx (sF b n t m)) ∧ Q .non (upd H a (.ins (CS K) dx (sF y n t m)))
theorem sc_Store_take_bins : FnScope ["self", "bins"] ["self", "bins"] (defScope s_Store_take_bins) := ⟨rfl, rfl, rfl, by decide +kernel, rfl, by decide +kernel, by decide +kernel⟩
theorem ok_Store_take_bins (c : Ctx w K mg h) : C8.Met PP w K mg base 1 (He.ga K "Store") "take_bins" (spTakeBins K) [] := by
  refine c.met (k := 0) (cls_Store c) (me_Store_take_bins c) (F_Store_take_bins c) sc_Store_take_bins (fun _ _ _ _ _ _ us hl => match us, hl with | [_, _], _ => rfl) (fun vs H Q E z => ?_) (fun cdv A outer s H vs Q E hr z => ?_)
  · obtain ⟨a, dx, b, n, t, m, y, rfl, _⟩ := z
    rfl
  · obtain ⟨a, dx, b, n, t, m, y, rfl, ha, q⟩ := z
    refine ⟨_, (pss_one (ps_fld (pv 0) (pv 1) rfl)), ?_⟩
    refine ⟨_, rfl, _, rfl, a, _, dx, _, rfl, ha, cls_Store c, no_Store_bins c, few, ?_⟩
    rw [put_bins]
    exact q
def spTakeRequest (K : PySem.W.Frag) : Sp := fun vs H Q _ => ∃ a dx b n t m y u, vs = [.ref a, y, u] ∧ H a = some (.ins (CS K) dx (sF b n t m)) ∧ Q .non (upd H a (.ins (CS K) dx (sF b y u m)))
theorem sc_Store_take_request : FnScope ["self", "weight", "bounds"] ["self", "weight", "bounds"] (defScope s_Store_take_request) := ⟨rfl, rfl, rfl, by decide +kernel, rfl, by decide +kernel, by decide +kernel⟩
theorem ok_Store_take_request (c : Ctx w K mg h) : C8.Met PP w K mg base 1 (He.ga K "Store") "take_request" (spTakeRequest K) [] := by
  refine c.met (k := 0) (cls_Store c) (me_Store_take_request c) (F_Store_take_request c) sc_Store_take_request (fun _ _ _ _ _ _ us hl => match us, hl with | [_, _, _], _ => rfl) (fun vs H Q E z => ?_) (fun cdv A outer s H vs Q E hr z => ?_)
  · obtain ⟨a, dx, b, n, t, m, y, u, rfl, _⟩ := z
    rfl
  · obtain ⟨a, dx, b, n, t, m, y, u, rfl, ha, q⟩ := z
    refine ⟨_, (pss_cons (ps_fld (pv 0) (pv 1) rfl)
      (pss_one (ps_fld (pv 0) (pv 2) rfl))), ?_⟩
    refine ⟨_, rfl, _, rfl, a, _, dx, _, rfl, ha, cls_Store c, no_Store_weight c, few, ?_⟩
    rw [put_weight]
    refine ⟨_, rfl, _, rfl, a, _, dx, _, rfl, upd_same, cls_Store c, no_Store_bounds c, few, ?_⟩
    rw [put_bounds, upd_upd]
    exact q
def spTakeOut (K : PySem.W.Frag) : Sp := fun vs H Q _ => ∃ a s e x, vs = [.ref a, .ref e] ∧ StoreAt K H a s ∧ Nats H e x ∧ availB s.bins x = true ∧
  ∀ H', SameBut a H H' → StoreAt K H' a (Sr96.takeBlend s x) → Q .non H'
theorem take_good {bs : List Sr96.Bin} (h : Goods bs) (x : List Nat) : Goods (takeBins bs x) := by
  refine ⟨?_, fun b hb => ?_⟩
  · unfold takeBins
    rw [List.length_map, List.length_zip]
    have := h.len
    omega
  · obtain ⟨y, hy, rfl⟩ := List.mem_map.mp hb
    have g := h.all y.1 (List.of_mem_zip (show (y.1, y.2) ∈ _ from hy)).1
    exact ⟨Nat.le_trans (Nat.sub_le _ _) g.k, g.s, g.a, g.p⟩
theorem sc_Store_take_out : FnScope ["self", "blend"] ["self", "blend"] (defScope s_Store_take_out) := ⟨rfl, rfl, rfl, by decide +kernel, rfl, by decide +kernel, by decide +kernel⟩
theorem ok_Store_take_out (c : Ctx w K mg h) : C8.Met PP w K mg base 2 (He.ga K "Store") "take_out" (spTakeOut K) [] := by
  refine c.met (k := 1) (cls_Store c) (me_Store_take_out c) (F_Store_take_out c) sc_Store_take_out (fun _ _ _ _ _ _ us hl => match us, hl with | [_, _], _ => rfl) (fun vs H Q E z => ?_) (fun cdv A outer s H vs Q E hr z => ?_)
  · obtain ⟨a, s, e, x, rfl, _⟩ := z
    rfl
  · obtain ⟨a, st, e, x, rfl, ⟨dx, b, t, ha, hb, ht⟩, hx, hav, q⟩ := z
    refine ⟨_, (pss_cons (ps_fld (pv 0) (pe_op op_add (pe_fld (pv 0) rfl) (C8.pe_c (ok_cost_of (K := K) c) hr (by decide) rfl (pa_cons (pe_fld (pv 0) rfl) (pa_cons (pv 1) pa_nil)))) rfl)
      (pss_one (ps_fld (pv 0) (C8.pe_c (ok_bins_after (K := K) c) hr (by decide) rfl (pa_cons (pe_fld (pv 0) rfl) (pa_cons (pv 1) pa_nil))) rfl))), ?_⟩
    -- self.spent = self.spent + cost_of(self.bins, blend)
    refine ⟨_, rfl, a, _, dx, _, _, rfl, ha, cls_Store c, no_Store_spent c, sF_spent, ?_⟩
    refine ⟨_, rfl, a, _, dx, _, _, rfl, ha, cls_Store c, no_Store_bins c, sF_bins, _, rfl, b, e, st.bins, x, rfl, hb, hx, fun H1 s1 => ?_⟩
    have ha1 := s1 _ _ ha
    refine ⟨_, _, rfl, rfl, _, rfl, a, _, dx, _, rfl, ha1, cls_Store c, no_Store_spent c, few, ?_⟩
    rw [put_spent]
    -- self.bins = bins_after(self.bins, blend)
    have sb : SameBut a H1 (upd H1 a (.ins (CS K) dx (sF (.ref b) (.int (st.request.kilograms : Nat)) (.ref t) (.int (((st.spent : Nat) : Int) + ((Sr96.total Sr96.Bin.price st.bins x : Nat) : Int)))))) := (SameBut.refl a H1).upd
    refine ⟨_, rfl, a, _, dx, _, _, rfl, upd_same, cls_Store c, no_Store_bins c, sF_bins, _, rfl, b, e, st.bins, x, rfl, (hb.same s1).but ha1 sb, (hx.same s1).but ha1 sb, hav, fun H3 p s3 hp => ?_⟩
    have ha3 := s3 _ _ upd_same
    refine ⟨_, rfl, a, _, dx, _, rfl, ha3, cls_Store c, no_Store_bins c, few, ?_⟩
    rw [put_bins]
    have s4 : SameBut a H3 (upd H3 a (.ins (CS K) dx (sF (.ref p) (.int (st.request.kilograms : Nat)) (.ref t) (.int (((st.spent : Nat) : Int) + ((Sr96.total Sr96.Bin.price st.bins x : Nat) : Int)))))) := (SameBut.refl a H3).upd
    have sAll : SameBut a H _ := (Same.but s1 a).trans (sb.trans ((Same.but s3 a).trans s4))
    refine q _ sAll ⟨dx, p, t, upd_same, ⟨hp.butB ha3 s4, take_good hb.2 x⟩, ht.but ha sAll⟩
/-! ### Desk -/
def spInitD (K : PySem.W.Frag) : Sp := fun vs H Q _ => ∃ p dx, vs = [.ref p] ∧ H p = some (.ins (CD K) dx []) ∧ Q .non (upd H p (.ins (CD K) dx (dF .non)))
theorem sc_Desk_init : FnScope ["self"] ["self"] (defScope s_Desk_init) := ⟨rfl, rfl, rfl, by decide +kernel, rfl, by decide +kernel, by decide +kernel⟩
theorem ok_Desk (c : Ctx w K mg h) : C8.Mak PP w K mg base 1 "Desk" (He.ga K "Desk") (spInitD K) [] := by
  refine c.mak (k := 0) (g_Desk c) (mk_Desk c) (F_Desk_init c) sc_Desk_init (fun _ _ _ _ _ _ us hl => match us, hl with | [_], _ => rfl) (fun vs H Q E z => ?_) (fun cdv A outer s H vs Q E hr z => ?_)
  · obtain ⟨p, dx, rfl, _⟩ := z
    rfl
  · obtain ⟨p, dx, rfl, hp, q⟩ := z
    refine ⟨_, (pss_one (ps_fld (pv 0) pe_non rfl)), ?_⟩
    exact ⟨_, rfl, p, _, dx, _, rfl, hp, cls_Desk c, no_Desk_store c, (by decide), q⟩
def spPlace (K : PySem.W.Frag) : Sp := fun vs H Q _ => ∃ d dx v y, vs = [.ref d, y] ∧ H d = some (.ins (CD K) dx (dF v)) ∧ Q .non (upd H d (.ins (CD K) dx (dF y)))
theorem sc_Desk_place_store : FnScope ["self", "store"] ["self", "store"] (defScope s_Desk_place_store) := ⟨rfl, rfl, rfl, by decide +kernel, rfl, by decide +kernel, by decide +kernel⟩
theorem ok_Desk_place_store (c : Ctx w K mg h) : C8.Met PP w K mg base 1 (He.ga K "Desk") "place_store" (spPlace K) [] := by
  refine c.met (k := 0) (cls_Desk c) (me_Desk_place_store c) (F_Desk_place_store c) sc_Desk_place_store (fun _ _ _ _ _ _ us hl => match us, hl with | [_, _], _ => rfl) (fun vs H Q E z => ?_) (fun cdv A outer s H vs Q E hr z => ?_)
  · obtain ⟨d, dx, v, y, rfl, _⟩ := z
    rfl
  · obtain ⟨d, dx, v, y, rfl, hd, q⟩ := z
    refine ⟨_, (pss_one (ps_fld (pv 0) (pv 1) rfl)), ?_⟩
    refine ⟨_, rfl, _, rfl, d, _, dx, _, rfl, hd, cls_Desk c, no_Desk_store c, (by show 1 < 1000; decide), ?_⟩
    rw [put_store]
    exact q
/-! ### with_item -/
def spItem : Sp := fun vs H Q _ => ∃ a xs i v, vs = [.ref a, .int (i : Nat), v] ∧ H a = some (.lst xs) ∧ i < xs.length ∧ xs.length ≤ 1000 ∧ ∀ H' p, Same H H' → H' p = some (.lst (xs.set i v)) → Q (.ref p) H'
theorem cut_to (xs : List V) (i : Nat) (h : i ≤ xs.length) : cutV xs none (some (i : Int)) = xs.take i := by
  unfold cutV
  rw [HT.sIx_none, HT.sIx_nat, Nat.min_eq_left h, List.drop_zero, Nat.sub_zero]
theorem cut_from (xs : List V) (i : Nat) (h : i ≤ xs.length) : cutV xs (some (i : Int)) none = xs.drop i := by
  unfold cutV
  rw [HT.sIx_none, HT.sIx_nat, Nat.min_eq_left h]
  exact List.take_of_length_le (by rw [List.length_drop]; exact Nat.le_refl _)
theorem sc_with_item : FnScope ["items", "place", "item"] ["items", "place", "item"] (defScope s_with_item) := ⟨rfl, rfl, rfl, by decide +kernel, rfl, by decide +kernel, by decide +kernel⟩
theorem ok_with_item (c : Ctx w K mg h) : C8.Cal PP w K mg base 1 "with_item" (spItem) [] := by
  refine c.cal (k := 0) (g_with_item c) (F_with_item c) sc_with_item (fun _ _ _ _ _ _ us hl => match us, hl with | [_, _, _], _ => rfl) (fun vs H Q E z => ?_) (fun cdv A outer s H vs Q E hr z => ?_)
  · obtain ⟨a, xs, i, v, rfl, _⟩ := z
    rfl
  · obtain ⟨a, xs, i, v, rfl, ha, hi, hl, q⟩ := z
    refine ⟨_, (pss_one (ps_ret (pe_op op_cat (pe_op op_cat (pe_slice sl_list (pv 0) po_none (po_some (pv 1))) (pe_lst (pa_cons (pv 2) pa_nil))) (pe_slice sl_list (pv 0) (po_some (pe_op op_add (pv 1) pe_int)) po_none)))), ?_⟩
    -- items[:place]
    refine ⟨_, rfl, _, rfl, _, rfl, a, xs, rfl, .inl (.inl ha), fun p1 n1 => ?_⟩
    rw [cut_to xs i (Nat.le_of_lt hi)]
    have s1 := same_new (o := .lst (xs.take i)) n1
    -- + [item]
    refine ⟨_, rfl, le1, fun p2 n2 => ?_⟩
    have s2 := same_new (o := .lst [v]) n2
    refine ⟨p1, p2, _, _, rfl, rfl, s2 _ _ upd_same, upd_same, ?_, fun p3 n3 => ?_⟩
    · rw [List.length_take, List.length_singleton]
      exact Nat.le_trans (show min i xs.length + 1 ≤ 1001 by omega) (by decide)
    have s3 := same_new (o := .lst (xs.take i ++ [v])) n3
    have s13 := s1.trans (s2.trans s3)
    -- + items[place + 1:]
    refine ⟨_, rfl, _, rfl, _, _, rfl, rfl, _, rfl, a, xs, rfl, .inl (.inl (s13 _ _ ha)), fun p4 n4 => ?_⟩
    have e1 : ((i : Int) + 1) = ((i + 1 : Nat) : Int) := by omega
    have s4 := same_new (o := .lst (cutV xs (some ((i : Int) + 1)) none)) n4
    refine ⟨p3, p4, _, _, rfl, rfl, s4 _ _ upd_same, upd_same, ?_, fun p5 n5 => ?_⟩
    · have h1 := cutV_length xs (some ((i : Int) + 1)) none
      rw [List.length_append, List.length_take, List.length_singleton]
      exact Nat.le_trans (show min i xs.length + 1 + _ ≤ 3000 by omega) (by decide)
    · refine q _ p5 (s13.trans (s4.trans (same_new n5))) ?_
      rw [upd_same, e1, cut_from xs (i + 1) hi, List.set_eq_take_append_cons_drop, if_pos hi, List.append_assoc]
      rfl
end
end Fb

/-! FbOps1: the small defs of the operations. Source: src/FbOps1.src, filled by gen_walk.py. -/
namespace Fb
open PySem PySem.Spec PyProof.Rows L2
/-! ### a chain of three comparisons as a test -/
def tChain3 (r r' r'' : R2) (ta tb tc td : TE) : TT := fun σ H Q => ta σ H fun x H1 => tb σ H1 fun y H2 => r x y H2 fun z H3 => ∃ k, z = .bl k ∧
  if k = true then (tc σ H3 fun u H4 => r' y u H4 fun z2 H5 => ∃ k2, z2 = .bl k2 ∧ if k2 = true then (td σ H5 fun v H6 => r'' u v H6 fun z3 H7 => ∃ k3, z3 = .bl k3 ∧ Q k3 H7) else Q false H5) else Q false H3
theorem pt_chain3 {X : Cx} {o1 o2 o3 : CmpOp} {r r' r'' : R2} {a b e d : Expr} {ta tb tc td : TE} {pos : Pos} (h1 : OpR X (compareOp o1) r) (h2 : OpR X (compareOp o2) r') (h3 : OpR X (compareOp o3) r'') (ha : PE X a ta) (hb : PE X b tb) (hc : PE X e tc) (hd : PE X d td)
    (hm : lastMarks [o1, o2, o3] [b, e, d] = false := by with_unfolding_all rfl) : PT X (.Compare a [o1, o2, o3] [b, e, d] pos) (tChain3 r r' r'' ta tb tc td) := by
  refine ⟨fun pins s σ H Q I z => ?_⟩
  refine isTrue_chain (thn (ha.run pins s σ H _ I z) fun v s1 ⟨x, H1, I1, r1, q1⟩ => test_link ?_) hm
  refine thn (hb.run pins s1 σ H1 _ I1 q1) fun u s2 ⟨y, H2, I2, r2, q2⟩ => ?_
  refine thn (h1 pins s2 σ H2 x y v u _ I2 r1 r2 q2) fun c s3 ⟨w0, H3, I3, r3, k, e3, q3⟩ => ?_
  subst e3
  cases r3
  refine wpAny_truthy_bool ?_
  cases k with
  | false => exact ite_ff ⟨H3, I3, q3⟩
  | true =>
    refine ite_tt (test_link ?_)
    refine thn (hc.run pins s3 σ H3 _ I3 q3) fun u4 s4 ⟨y4, H4, I4, r4, q4⟩ => ?_
    refine thn (h2 pins s4 σ H4 y y4 u u4 _ I4 r2 r4 q4) fun c5 s5 ⟨w5, H5, I5, r5, k5, e5, q5⟩ => ?_
    subst e5
    cases r5
    refine wpAny_truthy_bool ?_
    cases k5 with
    | false => exact ite_ff ⟨H5, I5, q5⟩
    | true =>
      refine ite_tt (test_last ?_)
      refine thn (hd.run pins s5 σ H5 _ I5 q5) fun u6 s6 ⟨y6, H6, I6, r6, q6⟩ => ?_
      refine thn (h3 pins s6 σ H6 y4 y6 u4 u6 _ I6 r4 r6 q6) fun c7 s7 ⟨w7, H7, I7, r7, k7, e7, q7⟩ => ?_
      subst e7
      cases r7
      exact wpAny_truthy_bool ⟨H7, I7, q7⟩
section
variable {w : World} {K : PySem.W.Frag} {mg : Str → Option Value} {base h : Heap}
open SrCommon (inRange intsToNats)
def spWithin : Sp := fun vs H Q _ => ∃ x lo hi, vs = [.int x, .int lo, .int hi] ∧ Q (.bl (inRange x lo hi)) H
theorem sc_is_within : FnScope ["number", "low", "high"] ["number", "low", "high"] (defScope s_is_within) := ⟨rfl, rfl, rfl, by decide +kernel, rfl, by decide +kernel, by decide +kernel⟩
theorem ok_is_within (c : Ctx w K mg h) : C8.Cal PP w K mg base 1 "is_within" (spWithin) [] := by
  refine c.cal (k := 0) (g_is_within c) (F_is_within c) sc_is_within (fun _ _ _ _ _ _ us hl => match us, hl with | [_, _, _], _ => rfl) (fun vs H Q E z => ?_) (fun cdv A outer s H vs Q E hr z => ?_)
  · obtain ⟨x, lo, hi, rfl, _⟩ := z
    rfl
  · obtain ⟨x, lo, hi, rfl, q⟩ := z
    refine ⟨_, (pss_one (ps_ret (pe_chain op_le op_le (pv 1) (pv 0) (pv 2)))), ?_⟩
    refine ⟨_, rfl, _, rfl, _, _, rfl, rfl, _, rfl, ?_⟩
    unfold inRange at q
    cases e : decide (lo ≤ x) with
    | false =>
      rw [e] at q
      exact iteF q
    | true =>
      rw [e] at q
      exact iteT ⟨_, rfl, _, _, rfl, rfl, q⟩
theorem isBin_range (s : Sr96.Store) (i : Int) : inRange i 0 ((s.bins.length : Int) - 1) = Sr96.isBin s i := by
  unfold inRange Sr96.isBin SrCommon.isIndex
  congr 1
  exact decide_eq_decide.mpr (by omega)
def spHas (K : PySem.W.Frag) : Sp := fun vs H Q _ => ∃ a s i, vs = [.ref a, .int i] ∧ StoreAt K H a s ∧ Q (.bl (Sr96.isBin s i)) H
theorem sc_has_bin : FnScope ["store", "place"] ["store", "place"] (defScope s_has_bin) := ⟨rfl, rfl, rfl, by decide +kernel, rfl, by decide +kernel, by decide +kernel⟩
theorem ok_has_bin (c : Ctx w K mg h) : C8.Cal PP w K mg base 2 "has_bin" (spHas K) [] := by
  refine c.cal (k := 1) (g_has_bin c) (F_has_bin c) sc_has_bin (fun _ _ _ _ _ _ us hl => match us, hl with | [_, _], _ => rfl) (fun vs H Q E z => ?_) (fun cdv A outer s H vs Q E hr z => ?_)
  · obtain ⟨a, s, i, rfl, _⟩ := z
    rfl
  · obtain ⟨a, st, i, rfl, ⟨dx, b, t, ha, hb, ht⟩, q⟩ := z
    refine ⟨_, (pss_one (ps_ret (C8.pe_c (ok_is_within (K := K) c) hr (by decide) rfl (pa_cons (pv 1) (pa_cons pe_int (pa_cons (pe_op op_sub (pe_callB call_len_seq (by rfl) (m_len c) PySem.boot_len (pa_cons (pe_fld (pv 0) rfl) pa_nil)) pe_int) pa_nil)))))), ?_⟩
    obtain ⟨us, eb, pb⟩ := hb.1
    refine ⟨_, rfl, _, rfl, a, _, dx, _, _, rfl, ha, cls_Store c, no_Store_bins c, sF_bins, b, us, rfl, .inl (.inl (.inl eb)), _, _, rfl, rfl, _, _, _, rfl, ?_⟩
    rw [pb.length, isBin_range]
    exact q
def spPrice : Sp := fun vs H Q _ => ∃ p, vs = [.int p] ∧ Q (.bl (inRange p 1 99)) H
theorem sc_is_price : FnScope ["number"] ["number"] (defScope s_is_price) := ⟨rfl, rfl, rfl, by decide +kernel, rfl, by decide +kernel, by decide +kernel⟩
theorem ok_is_price (c : Ctx w K mg h) : C8.Cal PP w K mg base 2 "is_price" (spPrice) [] := by
  refine c.cal (k := 1) (g_is_price c) (F_is_price c) sc_is_price (fun _ _ _ _ _ _ us hl => match us, hl with | [_], _ => rfl) (fun vs H Q E z => ?_) (fun cdv A outer s H vs Q E hr z => ?_)
  · obtain ⟨p, rfl, _⟩ := z
    rfl
  · obtain ⟨p, rfl, q⟩ := z
    refine ⟨_, (pss_one (ps_ret (C8.pe_c (ok_is_within (K := K) c) hr (by decide) rfl (pa_cons (pv 0) (pa_cons pe_int (pa_cons (pe_glob (v := .int (99)) rfl (i_MAX_PRICE c).choose_spec ⟨_, rfl⟩) pa_nil)))))), ?_⟩
    exact ⟨_, rfl, _, _, _, rfl, q⟩
def spFlour : Sp := fun vs H Q _ => ∃ b k st a p, vs = [.ref b] ∧ Ints H b [k, st, a, p] ∧ Q (.bl (flourB k st a p)) H
theorem sc_is_flour : FnScope ["numbers"] ["numbers"] (defScope s_is_flour) := ⟨rfl, rfl, rfl, by decide +kernel, rfl, by decide +kernel, by decide +kernel⟩
theorem ok_is_flour (c : Ctx w K mg h) : C8.Cal PP w K mg base 3 "is_flour" (spFlour) [] := by
  refine c.cal (k := 2) (g_is_flour c) (F_is_flour c) sc_is_flour (fun _ _ _ _ _ _ us hl => match us, hl with | [_], _ => rfl) (fun vs H Q E z => ?_) (fun cdv A outer s H vs Q E hr z => ?_)
  · obtain ⟨b, k, st, a, p, rfl, _⟩ := z
    rfl
  · obtain ⟨b, k, st, a, p, rfl, hb, q⟩ := z
    refine ⟨_, (pss_cons (ps_if (PW.pt (pw_or (pt_not (pt_val (C8.pe_c (ok_is_within (K := K) c) hr (by decide) rfl (pa_cons (pe_ix ix_list (pv 0) pe_int (fun _ _ => rfl)) (pa_cons pe_int (pa_cons (pe_glob (v := .int (30)) rfl (i_MAX_KILOGRAMS c).choose_spec ⟨_, rfl⟩) pa_nil)))))) (pw_or1 (pt_not (pt_val (C8.pe_c (ok_is_within (K := K) c) hr (by decide) rfl (pa_cons (pe_ix ix_list (pv 0) pe_int (fun _ _ => rfl)) (pa_cons pe_int (pa_cons (pe_glob (v := .int (999)) rfl (i_MAX_CONTENT c).choose_spec ⟨_, rfl⟩) pa_nil))))))))) (pss_one (ps_ret pe_bl)) pss_nil)
      (pss_one (ps_ret (pe_and (C8.pe_c (ok_is_within (K := K) c) hr (by decide) rfl (pa_cons (pe_ix ix_list (pv 0) pe_int (fun _ _ => rfl)) (pa_cons pe_int (pa_cons (pe_glob (v := .int (999)) rfl (i_MAX_CONTENT c).choose_spec ⟨_, rfl⟩) pa_nil)))) (pe_one (C8.pe_c (ok_is_price (K := K) c) hr (by decide) rfl (pa_cons (pe_ix ix_list (pv 0) pe_int (fun _ _ => rfl)) pa_nil))))))), ?_⟩
    have sq : SqL K H b ([k, st, a, p].map V.int) := .inl (.inl hb)
    unfold flourB at q
    refine ⟨_, rfl, b, _, 0, _, rfl, rfl, sq, atI_nat (j := 0) rfl, _, _, _, rfl, _, rfl, ?_⟩
    cases e1 : inRange k 0 30 with
    | false =>
      rw [e1] at q
      exact iteT (iteT q)
    | true =>
      rw [e1] at q
      refine iteF ?_
      refine ⟨_, rfl, b, _, 1, _, rfl, rfl, sq, atI_nat (j := 1) rfl, _, _, _, rfl, _, rfl, ?_⟩
      cases e2 : inRange st 1 999 with
      | false =>
        rw [e2] at q
        exact iteT q
      | true =>
        rw [e2] at q
        refine iteF ?_
        refine ⟨_, rfl, b, _, 2, _, rfl, rfl, sq, atI_nat (j := 2) rfl, _, _, _, rfl, _, rfl, ?_⟩
        cases e3 : inRange a 0 999 with
        | false =>
          rw [e3] at q
          exact iteF q
        | true =>
          rw [e3] at q
          exact iteT ⟨_, rfl, b, _, 3, _, rfl, rfl, sq, atI_nat (j := 3) rfl, _, rfl, q⟩
/-! ### the bins with one changed -/
theorem pair_set {α β : Type} {F : α → β → Prop} {x : α} {y : β} (r : F x y) : ∀ {xs : List α} {ys : List β} (i : Nat), Paired F xs ys → Paired F (xs.set i x) (ys.set i y)
  | _, _, _, .nil => .nil
  | _, _, 0, .cons _ t => .cons r t
  | _, _, i + 1, .cons q t => .cons q (pair_set r i t)
theorem set_good {bs : List Sr96.Bin} {i : Nat} {b : Sr96.Bin} (h : Goods bs) (hb : Good b) : Goods (bs.set i b) := by
  refine ⟨by rw [List.length_set]; exact h.len, fun c hc => ?_⟩
  rcases List.mem_or_eq_of_mem_set hc with hc | hc
  · exact h.all c hc
  · rw [hc]
    exact hb
def spKg (K : PySem.W.Frag) : Sp := fun vs H Q _ => ∃ a s i k y, vs = [.ref a, .int (i : Nat), .int (k : Nat)] ∧ StoreAt K H a s ∧ s.bins[i]? = some y ∧ k ≤ 30 ∧ ∀ H' p, Same H H' → Bins H' p (s.bins.set i { y with kilograms := k }) → Q (.ref p) H'
theorem sc_bins_with_kilograms : FnScope ["store", "place", "kilograms", "flour"] ["store", "place", "kilograms"] (defScope s_bins_with_kilograms) := ⟨rfl, rfl, rfl, by decide +kernel, rfl, by decide +kernel, by decide +kernel⟩
theorem ok_bins_with_kilograms (c : Ctx w K mg h) : C8.Cal PP w K mg base 2 "bins_with_kilograms" (spKg K) [] := by
  refine c.cal (k := 1) (g_bins_with_kilograms c) (F_bins_with_kilograms c) sc_bins_with_kilograms (fun _ _ _ _ _ _ us hl => match us, hl with | [_, _, _], _ => rfl) (fun vs H Q E z => ?_) (fun cdv A outer s H vs Q E hr z => ?_)
  · obtain ⟨a, s, i, k, y, rfl, _⟩ := z
    rfl
  · obtain ⟨a, st, i, k, y, rfl, ⟨dx, b, t, ha, hb, ht⟩, hy, hk, q⟩ := z
    refine ⟨_, (pss_cons (ps_set (i := 3) sc_bins_with_kilograms.nd rfl (Or.inl rfl) (pe_ix ix_list (pe_fld (pv 0) rfl) (pv 1) (fun _ _ => rfl)))
      (pss_one (ps_ret (C8.pe_c (ok_with_item (K := K) c) hr (by decide) rfl (pa_cons (pe_fld (pv 0) rfl) (pa_cons (pv 1) (pa_cons (pe_tup (pa_cons (pv 2) (pa_cons (pe_ix ix_tup (pv 3) pe_int (fun _ _ => rfl)) (pa_cons (pe_ix ix_tup (pv 3) pe_int (fun _ _ => rfl)) (pa_cons (pe_ix ix_tup (pv 3) pe_int (fun _ _ => rfl)) pa_nil))))) pa_nil))))))), ?_⟩
    obtain ⟨us, eb, pb⟩ := hb.1
    obtain ⟨u, hu, tb, rfl, htb⟩ := pair_get pb hy
    refine ⟨_, rfl, a, _, dx, _, _, rfl, ha, cls_Store c, no_Store_bins c, sF_bins, _, rfl, b, us, _, _, rfl, rfl, .inl (.inl eb), atI_nat hu, ?_⟩
    refine ⟨_, rfl, a, _, dx, _, _, rfl, ha, cls_Store c, no_Store_bins c, sF_bins, _, rfl, _, rfl, ?_⟩
    refine ⟨_, rfl, tb, _, 1, _, rfl, rfl, .inl (.inl htb), atI_nat (j := 1) rfl, _, rfl, tb, _, 2, _, rfl, rfl, .inl (.inl htb), atI_nat (j := 2) rfl, _, rfl, tb, _, 3, _, rfl, rfl, .inl (.inl htb), atI_nat (j := 3) rfl, le4, fun p1 n1 => ?_⟩
    have s1 := same_new (o := .tup [.int (k : Nat), .int (y.strength : Nat), .int (y.ash : Nat), .int (y.price : Nat)]) n1
    have hl := pb.length
    refine ⟨b, us, i, _, rfl, s1 _ _ eb, (List.getElem?_eq_some_iff.mp hu).1, Nat.le_trans (hl ▸ hb.2.len) (by decide), fun H2 p s2 hp => ?_⟩
    have hg := hb.2.all y (List.mem_of_getElem? hy)
    refine q _ _ (s1.trans s2) ⟨⟨_, hp, pair_set ⟨p1, rfl, s2 _ _ upd_same⟩ i (L2.Paired.mapP pb fun v x r => mBin _ _ v x (s1.trans s2) r)⟩, set_good hb.2 ⟨hk, hg.s, hg.a, hg.p⟩⟩
def spPr (K : PySem.W.Frag) : Sp := fun vs H Q _ => ∃ a s i k y, vs = [.ref a, .int (i : Nat), .int (k : Nat)] ∧ StoreAt K H a s ∧ s.bins[i]? = some y ∧ k ≤ 99 ∧ ∀ H' p, Same H H' → Bins H' p (s.bins.set i { y with price := k }) → Q (.ref p) H'
theorem sc_bins_with_price : FnScope ["store", "place", "price", "flour"] ["store", "place", "price"] (defScope s_bins_with_price) := ⟨rfl, rfl, rfl, by decide +kernel, rfl, by decide +kernel, by decide +kernel⟩
theorem ok_bins_with_price (c : Ctx w K mg h) : C8.Cal PP w K mg base 2 "bins_with_price" (spPr K) [] := by
  refine c.cal (k := 1) (g_bins_with_price c) (F_bins_with_price c) sc_bins_with_price (fun _ _ _ _ _ _ us hl => match us, hl with | [_, _, _], _ => rfl) (fun vs H Q E z => ?_) (fun cdv A outer s H vs Q E hr z => ?_)
  · obtain ⟨a, s, i, k, y, rfl, _⟩ := z
    rfl
  · obtain ⟨a, st, i, k, y, rfl, ⟨dx, b, t, ha, hb, ht⟩, hy, hk, q⟩ := z
    refine ⟨_, (pss_cons (ps_set (i := 3) sc_bins_with_price.nd rfl (Or.inl rfl) (pe_ix ix_list (pe_fld (pv 0) rfl) (pv 1) (fun _ _ => rfl)))
      (pss_one (ps_ret (C8.pe_c (ok_with_item (K := K) c) hr (by decide) rfl (pa_cons (pe_fld (pv 0) rfl) (pa_cons (pv 1) (pa_cons (pe_tup (pa_cons (pe_ix ix_tup (pv 3) pe_int (fun _ _ => rfl)) (pa_cons (pe_ix ix_tup (pv 3) pe_int (fun _ _ => rfl)) (pa_cons (pe_ix ix_tup (pv 3) pe_int (fun _ _ => rfl)) (pa_cons (pv 2) pa_nil))))) pa_nil))))))), ?_⟩
    obtain ⟨us, eb, pb⟩ := hb.1
    obtain ⟨u, hu, tb, rfl, htb⟩ := pair_get pb hy
    refine ⟨_, rfl, a, _, dx, _, _, rfl, ha, cls_Store c, no_Store_bins c, sF_bins, _, rfl, b, us, _, _, rfl, rfl, .inl (.inl eb), atI_nat hu, ?_⟩
    refine ⟨_, rfl, a, _, dx, _, _, rfl, ha, cls_Store c, no_Store_bins c, sF_bins, _, rfl, ?_⟩
    refine ⟨_, rfl, tb, _, 0, _, rfl, rfl, .inl (.inl htb), atI_nat (j := 0) rfl, _, rfl, tb, _, 1, _, rfl, rfl, .inl (.inl htb), atI_nat (j := 1) rfl, _, rfl, tb, _, 2, _, rfl, rfl, .inl (.inl htb), atI_nat (j := 2) rfl, _, rfl, le4, fun p1 n1 => ?_⟩
    have s1 := same_new (o := .tup [.int (y.kilograms : Nat), .int (y.strength : Nat), .int (y.ash : Nat), .int (k : Nat)]) n1
    have hl := pb.length
    refine ⟨b, us, i, _, rfl, s1 _ _ eb, (List.getElem?_eq_some_iff.mp hu).1, Nat.le_trans (hl ▸ hb.2.len) (by decide), fun H2 p s2 hp => ?_⟩
    have hg := hb.2.all y (List.mem_of_getElem? hy)
    refine q _ _ (s1.trans s2) ⟨⟨_, hp, pair_set ⟨p1, rfl, s2 _ _ upd_same⟩ i (L2.Paired.mapP pb fun v x r => mBin _ _ v x (s1.trans s2) r)⟩, set_good hb.2 ⟨hg.k, hg.s, hg.a, hk⟩⟩
/-! ### refusals -/
def refusalL (s : Sr96.Store) (i p : Int) : List Int := if Sr96.isBin s i = false then [-2] else if inRange p 1 99 = true then [] else [-22]
theorem ints1 {H : Hp} {p : Addr} {i : Int} : Ints (upd H p (.lst [.int i])) p [i] := upd_same
def spRefusal (K : PySem.W.Frag) : Sp := fun vs H Q _ => ∃ a s i p, vs = [.ref a, .int i, .int p] ∧ StoreAt K H a s ∧ ∀ H' r, Same H H' → Ints H' r (refusalL s i p) → Q (.ref r) H'
theorem sc_price_refusal : FnScope ["store", "place", "price"] ["store", "place", "price"] (defScope s_price_refusal) := ⟨rfl, rfl, rfl, by decide +kernel, rfl, by decide +kernel, by decide +kernel⟩
theorem ok_price_refusal (c : Ctx w K mg h) : C8.Cal PP w K mg base 3 "price_refusal" (spRefusal K) [] := by
  refine c.cal (k := 2) (g_price_refusal c) (F_price_refusal c) sc_price_refusal (fun _ _ _ _ _ _ us hl => match us, hl with | [_, _, _], _ => rfl) (fun vs H Q E z => ?_) (fun cdv A outer s H vs Q E hr z => ?_)
  · obtain ⟨a, s, i, p, rfl, _⟩ := z
    rfl
  · obtain ⟨a, st, i, p, rfl, hs, q⟩ := z
    refine ⟨_, (pss_cons (ps_if (pt_not (pt_val (C8.pe_c (ok_has_bin (K := K) c) hr (by decide) rfl (pa_cons (pv 0) (pa_cons (pv 1) pa_nil))))) (pss_one (ps_ret (pe_lst (pa_cons (pe_glob (v := .int (-2)) rfl (i_NO_BIN c).choose_spec ⟨_, rfl⟩) pa_nil)))) pss_nil)
      (pss_one (ps_ret (pe_ifExp (pt_val (C8.pe_c (ok_is_price (K := K) c) hr (by decide) rfl (pa_cons (pv 2) pa_nil))) (pe_lst pa_nil) (pe_lst (pa_cons (pe_glob (v := .int (-22)) rfl (i_OUT_OF_RANGE c).choose_spec ⟨_, rfl⟩) pa_nil)))))), ?_⟩
    unfold refusalL at q
    refine ⟨_, rfl, _, rfl, a, st, i, rfl, hs, _, rfl, ?_⟩
    cases e1 : Sr96.isBin st i with
    | false =>
      rw [if_pos e1] at q
      exact iteT ⟨le1, fun r nr => q _ r (same_new nr) ints1⟩
    | true =>
      rw [if_neg (by rw [e1]; decide)] at q
      refine iteF ⟨_, rfl, p, rfl, _, rfl, ?_⟩
      cases e2 : inRange p 1 99 with
      | true =>
        rw [if_pos e2] at q
        exact iteT ⟨le0, fun r nr => q _ r (same_new nr) upd_same⟩
      | false =>
        rw [if_neg (by rw [e2]; decide)] at q
        exact iteF ⟨le1, fun r nr => q _ r (same_new nr) ints1⟩
def spTold : Sp := fun vs H Q _ => ∃ a v bs o, vs = [.ref a, v] ∧ Bins H a bs ∧ ROpt H v o ∧ (∀ x, o = some x → x.length ≤ 1000) ∧ ∀ H' p, Same H H' → Ints H' p (toldL bs o) → Q (.ref p) H'
theorem sc_told_blend : FnScope ["bins", "blend"] ["bins", "blend"] (defScope s_told_blend) := ⟨rfl, rfl, rfl, by decide +kernel, rfl, by decide +kernel, by decide +kernel⟩
theorem ok_told_blend (c : Ctx w K mg h) : C8.Cal PP w K mg base 2 "told_blend" (spTold) [] := by
  refine c.cal (k := 1) (g_told_blend c) (F_told_blend c) sc_told_blend (fun _ _ _ _ _ _ us hl => match us, hl with | [_, _], _ => rfl) (fun vs H Q E z => ?_) (fun cdv A outer s H vs Q E hr z => ?_)
  · obtain ⟨a, v, bs, o, rfl, _⟩ := z
    rfl
  · obtain ⟨a, v, bs, o, rfl, hb, hv, hl, q⟩ := z
    refine ⟨_, (pss_cons (ps_if (pt_cmpR op_isN (pv 1) pe_non (nomark _)) (pss_one (ps_ret (pe_lst (pa_cons (pe_glob (v := .int (-33)) rfl (i_NO_BLEND_operations c).choose_spec ⟨_, rfl⟩) pa_nil)))) pss_nil)
      (pss_one (ps_ret (pe_op op_cat (pe_lst (pa_cons (C8.pe_c (ok_cost_of (K := K) c) hr (by decide) rfl (pa_cons (pv 0) (pa_cons (pv 1) pa_nil))) pa_nil)) (pv 1))))), ?_⟩
    cases o with
    | none =>
      have ev : v = .non := hv
      subst ev
      exact ⟨_, rfl, rfl, _, rfl, iteT ⟨le1, fun p np => q _ p (same_new np) ints1⟩⟩
    | some x =>
      obtain ⟨t, rfl, ht⟩ := hv
      have hx := hl x rfl
      refine ⟨_, rfl, rfl, _, rfl, iteF ⟨_, rfl, _, rfl, a, t, bs, x, rfl, hb, ht, fun H1 s1 => ⟨le1, fun p1 n1 => ?_⟩⟩⟩
      have s2 := same_new (o := .lst [V.int ((Sr96.total Sr96.Bin.price bs x : Nat) : Int)]) n1
      refine ⟨_, rfl, p1, t, _, _, rfl, rfl, upd_same, s2 _ _ (s1 _ _ ht), ?_, fun p2 n2 => ?_⟩
      · unfold nv
        rw [List.length_map]
        exact Nat.le_trans (show 1 + x.length ≤ 1001 by omega) (by decide)
      · refine q _ p2 (s1.trans (s2.trans (same_new n2))) ?_
        show upd _ p2 _ p2 = some (.lst ((costM bs x :: x.map fun n : Nat => (n : Int)).map V.int))
        rw [upd_same, List.map_cons, ← nv_int]
        rfl
/-! ### the form of a blend -/
def spIsBlend (K : PySem.W.Frag) : Sp := fun vs H Q _ => ∃ a s e is, vs = [.ref a, .ref e] ∧ StoreAt K H a s ∧ Ints H e is ∧ is.length ≤ 100000 ∧ ∀ H', Same H H' → Q (.bl (Sr96.isBlend s is)) H'
theorem sc_is_blend : FnScope ["store", "items", "item"] ["store", "items"] (defScope s_is_blend) := ⟨rfl, rfl, rfl, by decide +kernel, rfl, by decide +kernel, by decide +kernel⟩
theorem ok_is_blend (c : Ctx w K mg h) : C8.Cal PP w K mg base 2 "is_blend" (spIsBlend K) [] := by
  refine c.cal (k := 1) (g_is_blend c) (F_is_blend c) sc_is_blend (fun _ _ _ _ _ _ us hl => match us, hl with | [_, _], _ => rfl) (fun vs H Q E z => ?_) (fun cdv A outer s H vs Q E hr z => ?_)
  · obtain ⟨a, s, e, is, rfl, _⟩ := z
    rfl
  · obtain ⟨a, st, e, is, rfl, ⟨dx, b, t, ha, hb, ht⟩, he, hl, q⟩ := z
    refine ⟨_, (pss_one (ps_ret (pe_and (pe_cmpR op_eq (pe_callB call_len_seq (by rfl) (m_len c) PySem.boot_len (pa_cons (pv 1) pa_nil)) (pe_callB call_len_seq (by rfl) (m_len c) PySem.boot_len (pa_cons (pe_fld (pv 0) rfl) pa_nil)) (nomark _)) (pe_one (pe_callB (cr_all rfl) (by rfl) (m_all c) (by decide +kernel) (pa_cons (pe_lc (own := [("item", 2)]) (g := (gName 2)) (tt := tYes) (te := (tCall (spWithin) [] E0 (tCons (tVar 2) (tCons (tC (.int (0))) (tCons (tC (.int (30))) tNil))))) rfl sc_is_blend.nd (pi_list (pv 1)) (blkOk_by (own := [("item", 2)]) (N := ["store", "items", "item"]) (sc := defScope s_is_blend) (by decide +kernel)) (fun _ _ _ _ _ => (pg_name (i := 2) sc_is_blend.nd rfl (Or.inl rfl))) (fun _ _ _ _ _ => pts_nil) (fun _ _ _ _ _ => (C8.pe_c (ok_is_within (K := K) c) hr (by decide) rfl (pa_cons (pv 2) (pa_cons pe_int (pa_cons (pe_glob (v := .int (30)) rfl (i_MAX_KILOGRAMS c).choose_spec ⟨_, rfl⟩) pa_nil)))))) pa_nil)))))), ?_⟩
    obtain ⟨us, eb, pb⟩ := hb.1
    refine ⟨_, rfl, e, _, rfl, .inl (.inl (.inl he)), _, rfl, a, _, dx, _, _, rfl, ha, cls_Store c, no_Store_bins c, sF_bins, b, us, rfl, .inl (.inl (.inl eb)), rfl, _, rfl, ?_⟩
    have ed : decide (V.int (((is.map V.int).length : Nat) : Int) = V.int ((us.length : Nat) : Int)) = decide (is.length = st.bins.length) := decide_eq_decide.mpr (by
      rw [List.length_map, pb.length]
      exact ⟨fun e => Int.ofNat.inj (V.int.inj e), fun e => by rw [e]⟩)
    rw [ed]
    unfold Sr96.isBlend at q
    cases e1 : decide (is.length = st.bins.length) with
    | false =>
      rw [e1] at q
      exact iteF (q _ (Same.refl _))
    | true =>
      rw [e1] at q
      refine iteT ⟨_, rfl, e, rfl, ⟨_, .inl (.inl he)⟩, fun D nD => ?_⟩
      refine lc_ls (p := fun _ => true) (f := fun i => inRange i 0 30) mInt mBl he.ls nD (Nat.le_trans hl (by decide)) (fun x v H2 hx sm hD rv Z Zf kz kf => ?_) (fun H2 sm hl2 => ?_)
      · have ev : v = V.int x := rv
        subst ev
        exact ⟨rfl, _, rfl, _, _, _, rfl, kz rfl _ _ (Same.refl _) rfl⟩
      · rw [filter_all] at hl2
        refine ⟨D, _, rfl, .inl (.inl hl2.bls), ?_⟩
        rw [List.all_map]
        exact q _ sm
end
end Fb

/-! FbOps2: the deeds that change bins, prices, the request. Source: src/FbOps2.src, filled by gen_walk.py. -/
namespace Fb
open PySem PySem.Spec PyProof.Rows L2
/-! ### the promise of a deed -/
def spDeed (K : PySem.W.Frag) (j : Int) (n : Nat) : Sp := fun vs H Q _ => ∃ a b e s ns is, vs = [.ref a, .ref b, .ref e] ∧ StoreAt K H a s ∧ Ints H b ns ∧ ns.length = n ∧ Ints H e is ∧ is.length ≤ 100000 ∧
  ∀ H' p s' out, Sr96Neutral.step (some s) (mkc j ns is) = (some s', out) → SameBut a H H' → StoreAt K H' a s' → Ints H' p out → Q (.ref p) H'
theorem len1 {α : Type} {l : List α} (h : l.length = 1) : ∃ a, l = [a] := match l, h with
  | [a], _ => ⟨a, rfl⟩
theorem len2 {α : Type} {l : List α} (h : l.length = 2) : ∃ a b, l = [a, b] := match l, h with
  | [a, b], _ => ⟨a, b, rfl⟩
theorem len4 {α : Type} {l : List α} (h : l.length = 4) : ∃ a b c d, l = [a, b, c, d] := match l, h with
  | [a, b, c, d], _ => ⟨a, b, c, d, rfl⟩
theorem len0 {α : Type} {l : List α} (h : l.length = 0) : l = [] := List.length_eq_zero_iff.mp h
section
variable {K : PySem.W.Frag} {H H1 H' : Hp} {a : Addr} {s : Sr96.Store}
theorem StoreAt.same (h : StoreAt K H a s) (e : Same H H') : StoreAt K H' a s := by
  obtain ⟨dx, b, t, ha, hb, ht⟩ := h
  exact ⟨dx, b, t, e _ _ ha, hb.same e, ht.same e⟩
theorem StoreAt.goods (h : StoreAt K H a s) : Goods s.bins := by
  obtain ⟨dx, b, t, ha, hb, ht⟩ := h
  exact hb.2
theorem StoreAt.rok (h : StoreAt K H a s) : ROk s.request := by
  obtain ⟨dx, b, t, ha, hb, ht⟩ := h
  exact ht.2
/-- the bins are put in -/
theorem StoreAt.put {dx p t : Addr} {bs : List Sr96.Bin} {v n m : V} (ha : H a = some (.ins (CS K) dx (sF v n (.ref t) m))) (e : Same H H1) (hb : Bins H1 p bs) (ht : Bnd H t s.request) :
    StoreAt K (upd H1 a (.ins (CS K) dx (sF (.ref p) (.int (s.request.kilograms : Nat)) (.ref t) (.int (s.spent : Nat))))) a { s with bins := bs } := by
  have u : SameBut a H1 (upd H1 a (.ins (CS K) dx (sF (.ref p) (.int (s.request.kilograms : Nat)) (.ref t) (.int (s.spent : Nat))))) := (SameBut.refl a H1).upd
  exact ⟨dx, p, t, upd_same, hb.but (e _ _ ha) u, (ht.same e).but (e _ _ ha) u⟩
end
section
variable {w : World} {K : PySem.W.Frag} {mg : Str → Option Value} {base h : Heap}
open SrCommon (inRange intsToNats)
theorem sc_add_bin : FnScope ["store", "numbers", "items", "many"] ["store", "numbers", "items"] (defScope s_add_bin) := ⟨rfl, rfl, rfl, by decide +kernel, rfl, by decide +kernel, by decide +kernel⟩
theorem ok_add_bin (c : Ctx w K mg h) : C8.Cal PP w K mg base 4 "add_bin" (spDeed K 1 4) [] := by
  refine c.cal (k := 3) (g_add_bin c) (F_add_bin c) sc_add_bin (fun _ _ _ _ _ _ us hl => match us, hl with | [_, _, _], _ => rfl) (fun vs H Q E z => ?_) (fun cdv A outer s H vs Q E hr z => ?_)
  · obtain ⟨a, b, e, s, ns, is, rfl, _⟩ := z
    rfl
  · obtain ⟨a, b, e, st, ns, is, rfl, hs, hN, hl, hI, hil, q⟩ := z
    obtain ⟨k, sg, ap, p, rfl⟩ := len4 hl
    obtain ⟨dx, bb, t, ha, hb, ht⟩ := id hs
    obtain ⟨us, eb, pb⟩ := hb.1
    have hul := pb.length
    have sq : SqL K H b ([k, sg, ap, p].map V.int) := .inl (.inl hN)
    refine ⟨_, (pss_cons (ps_set (i := 3) sc_add_bin.nd rfl (Or.inl rfl) (pe_callB call_len_seq (by rfl) (m_len c) PySem.boot_len (pa_cons (pe_fld (pv 0) rfl) pa_nil)))
      (pss_cons (ps_if (pt_not (pt_val (C8.pe_c (ok_is_flour (K := K) c) hr (by decide) rfl (pa_cons (pv 1) pa_nil)))) (pss_one (ps_ret (pe_lst (pa_cons (pe_glob (v := .int (-22)) rfl (i_OUT_OF_RANGE c).choose_spec ⟨_, rfl⟩) pa_nil)))) pss_nil)
      (pss_cons (ps_if (pt_cmpR op_eq (pv 3) (pe_glob (v := .int (4)) rfl (i_MAX_BINS c).choose_spec ⟨_, rfl⟩) (nomark _)) (pss_one (ps_ret (pe_lst (pa_cons (pe_glob (v := .int (-28)) rfl (i_FULL c).choose_spec ⟨_, rfl⟩) pa_nil)))) pss_nil)
      (pss_cons (ps_expr (C8.pe_mt (ok_Store_take_bins (K := K) c) hr (by decide) (pv 0) (pa_cons (pe_op op_cat (pe_fld (pv 0) rfl) (pe_lst (pa_cons (pe_tup (pa_cons (pe_ix ix_list (pv 1) pe_int (fun _ _ => rfl)) (pa_cons (pe_ix ix_list (pv 1) pe_int (fun _ _ => rfl)) (pa_cons (pe_ix ix_list (pv 1) pe_int (fun _ _ => rfl)) (pa_cons (pe_ix ix_list (pv 1) pe_int (fun _ _ => rfl)) pa_nil))))) pa_nil))) pa_nil)))
      (pss_one (ps_ret (pe_lst (pa_cons (pv 3) pa_nil)))))))), ?_⟩
    refine ⟨_, rfl, a, _, dx, _, _, rfl, ha, cls_Store c, no_Store_bins c, sF_bins, bb, us, rfl, .inl (.inl (.inl eb)), ?_⟩
    refine ⟨_, rfl, b, k, sg, ap, p, rfl, hN, _, rfl, ?_⟩
    cases e1 : flourB k sg ap p with
    | false =>
      refine iteT ⟨le1, fun r nr => ?_⟩
      exact q _ r st [-22] (by rw [st1, o1, if_pos e1]) ((same_new nr).but a) (hs.same (same_new nr)) ints1
    | true =>
      refine iteF ⟨_, rfl, rfl, _, rfl, ite2 (fun e2 => ?_) (fun e2 => ?_)⟩
      · have h4 : st.bins.length = 4 := by
          have := V.int.inj (of_decide_eq_true e2)
          omega
        refine ⟨le1, fun r nr => ?_⟩
        exact q _ r st [-28] (by rw [st1, o1, if_neg (by rw [e1]; decide), if_pos (.inl h4)]) ((same_new nr).but a) (hs.same (same_new nr)) ints1
      · have h4 : ¬ st.bins.length = 4 := fun h4 => e2 (decide_eq_true (by rw [hul, h4]; rfl))
        have h5 := hb.2.len
        obtain ⟨f1, f2, f3, f4⟩ : (0 ≤ k ∧ k ≤ 30) ∧ (1 ≤ sg ∧ sg ≤ 999) ∧ (0 ≤ ap ∧ ap ≤ 999) ∧ (1 ≤ p ∧ p ≤ 99) := by
          unfold flourB SrCommon.inRange at e1
          simp only [Bool.and_eq_true, decide_eq_true_eq] at e1
          exact e1
        refine ⟨_, rfl, a, dx, _, rfl, ha, sF_take_bins, _, rfl, a, _, dx, _, _, rfl, ha, cls_Store c, no_Store_bins c, sF_bins, ?_⟩
        refine ⟨_, rfl, b, _, 0, _, rfl, rfl, sq, atI_nat (j := 0) rfl, _, rfl, b, _, 1, _, rfl, rfl, sq, atI_nat (j := 1) rfl, _, rfl, b, _, 2, _, rfl, rfl, sq, atI_nat (j := 2) rfl, _, rfl, b, _, 3, _, rfl, rfl, sq, atI_nat (j := 3) rfl, le4, fun p1 n1 => ⟨le1, fun p2 n2 => ?_⟩⟩
        have s1 := same_new (o := .tup [.int k, .int sg, .int ap, .int p]) n1
        have s2 := same_new (o := .lst [.ref p1]) n2
        have s12 := s1.trans s2
        refine ⟨bb, p2, us, _, rfl, rfl, s12 _ _ eb, upd_same, ?_, fun p3 n3 => ?_⟩
        · rw [hul]
          exact Nat.le_trans (show st.bins.length + 1 ≤ 5 by omega) (by decide)
        have s3 := same_new (o := .lst (us ++ [.ref p1])) n3
        have s13 := s12.trans s3
        have ha3 := s13 _ _ ha
        refine ⟨a, dx, _, _, _, _, _, rfl, ha3, ⟨_, rfl, le1, fun r nr => ?_⟩⟩
        have sr := same_new (o := .lst [V.int (us.length : Nat)]) nr
        have hbn : Bins (upd (upd (upd H p1 (.tup [.int k, .int sg, .int ap, .int p])) p2 (.lst [.ref p1])) p3 (.lst (us ++ [.ref p1]))) p3 (st.bins ++ [⟨k.toNat, sg.toNat, ap.toNat, p.toNat⟩]) := by
          refine ⟨⟨_, upd_same, pair_app (L2.Paired.mapP pb fun v x r => mBin _ _ v x s13 r) (.cons ⟨p1, rfl, ?_⟩ .nil)⟩, ⟨?_, fun y hy => ?_⟩⟩
          · rw [s3 _ _ (s2 _ _ upd_same)]
            show some (HO.tup [.int k, .int sg, .int ap, .int p]) = some (HO.tup [.int ((k.toNat : Nat) : Int), .int ((sg.toNat : Nat) : Int), .int ((ap.toNat : Nat) : Int), .int ((p.toNat : Nat) : Int)])
            rw [Int.toNat_of_nonneg f1.1, Int.toNat_of_nonneg (by omega : 0 ≤ sg), Int.toNat_of_nonneg f3.1, Int.toNat_of_nonneg (by omega : 0 ≤ p)]
          · rw [List.length_append, List.length_singleton]
            omega
          · rcases List.mem_append.mp hy with hy | hy
            · exact hb.2.all y hy
            · cases List.mem_singleton.mp hy
              exact ⟨by show k.toNat ≤ 30; omega, by show sg.toNat ≤ 999; omega, by show ap.toNat ≤ 999; omega, by show p.toNat ≤ 99; omega⟩
        refine q _ r { st with bins := st.bins ++ [⟨k.toNat, sg.toNat, ap.toNat, p.toNat⟩] } [(st.bins.length : Int)] (by rw [st1, o1, if_neg (by rw [e1]; decide), if_neg (by omega)]) (((s13.but a).upd).trans (sr.but a)) ((StoreAt.put ha s13 hbn ht).same sr) ?_
        rw [← hul]
        exact ints1
theorem isBin_nat {s : Sr96.Store} {i : Int} (h : Sr96.isBin s i = true) : ∃ (n : Nat) (y : Sr96.Bin), i = (n : Int) ∧ s.bins[n]? = some y ∧ Sr96.binAt s n = y := by
  unfold Sr96.isBin SrCommon.isIndex at h
  obtain ⟨h1, h2⟩ := Bool.and_eq_true_iff.mp h
  have h1 := of_decide_eq_true h1
  have h2 := of_decide_eq_true h2
  have h3 : i.toNat < s.bins.length := by omega
  refine ⟨i.toNat, s.bins[i.toNat], by omega, List.getElem?_eq_getElem h3, ?_⟩
  unfold Sr96.binAt
  rw [List.getD_eq_getElem?_getD, List.getElem?_eq_getElem h3]
  rfl
theorem sc_add_flour : FnScope ["store", "numbers", "items", "place", "kilograms", "total"] ["store", "numbers", "items"] (defScope s_add_flour) := ⟨rfl, rfl, rfl, by decide +kernel, rfl, by decide +kernel, by decide +kernel⟩
theorem ok_add_flour (c : Ctx w K mg h) : C8.Cal PP w K mg base 4 "add_flour" (spDeed K 2 2) [] := by
  refine c.cal (k := 3) (g_add_flour c) (F_add_flour c) sc_add_flour (fun _ _ _ _ _ _ us hl => match us, hl with | [_, _, _], _ => rfl) (fun vs H Q E z => ?_) (fun cdv A outer s H vs Q E hr z => ?_)
  · obtain ⟨a, b, e, s, ns, is, rfl, _⟩ := z
    rfl
  · obtain ⟨a, b, e, st, ns, is, rfl, hs, hN, hl, hI, hil, q⟩ := z
    obtain ⟨i, k, rfl⟩ := len2 hl
    obtain ⟨dx, bb, t, ha, hb, ht⟩ := id hs
    obtain ⟨us, eb, pb⟩ := hb.1
    have sq : SqL K H b ([i, k].map V.int) := .inl (.inl hN)
    refine ⟨_, (pss_cons (ps_par (i := 3) (j := 4) rfl sc_add_flour.nd rfl rfl (by decide) rfl rfl (pa_cons (pe_ix ix_list (pv 1) pe_int (fun _ _ => rfl)) (pa_cons (pe_ix ix_list (pv 1) pe_int (fun _ _ => rfl)) pa_nil)) (by rfl))
      (pss_cons (ps_if (pt_not (pt_val (C8.pe_c (ok_has_bin (K := K) c) hr (by decide) rfl (pa_cons (pv 0) (pa_cons (pv 3) pa_nil))))) (pss_one (ps_ret (pe_lst (pa_cons (pe_glob (v := .int (-2)) rfl (i_NO_BIN c).choose_spec ⟨_, rfl⟩) pa_nil)))) pss_nil)
      (pss_cons (ps_set (i := 5) sc_add_flour.nd rfl (Or.inl rfl) (pe_op op_add (pe_ix ix_tup (pe_ix ix_list (pe_fld (pv 0) rfl) (pv 3) (fun _ _ => rfl)) pe_int (fun _ _ => rfl)) (pv 4)))
      (pss_cons (ps_if (PW.pt (pw_or (pt_cmpR op_lt (pv 4) pe_int (nomark _)) (pw_or1 (pt_cmpR op_gt (pv 5) (pe_glob (v := .int (30)) rfl (i_MAX_KILOGRAMS c).choose_spec ⟨_, rfl⟩) (nomark _))))) (pss_one (ps_ret (pe_lst (pa_cons (pe_glob (v := .int (-22)) rfl (i_OUT_OF_RANGE c).choose_spec ⟨_, rfl⟩) pa_nil)))) pss_nil)
      (pss_cons (ps_expr (C8.pe_mt (ok_Store_take_bins (K := K) c) hr (by decide) (pv 0) (pa_cons (C8.pe_c (ok_bins_with_kilograms (K := K) c) hr (by decide) rfl (pa_cons (pv 0) (pa_cons (pv 3) (pa_cons (pv 5) pa_nil)))) pa_nil)))
      (pss_one (ps_ret (pe_lst (pa_cons (pv 5) pa_nil))))))))), ?_⟩
    refine ⟨_, rfl, b, _, 0, _, rfl, rfl, sq, atI_nat (j := 0) rfl, _, rfl, b, _, 1, _, rfl, rfl, sq, atI_nat (j := 1) rfl, _, _, rfl, ?_⟩
    refine ⟨_, rfl, _, rfl, a, st, i, rfl, hs, _, rfl, ?_⟩
    cases e1 : Sr96.isBin st i with
    | false => exact iteT ⟨le1, fun r nr => q _ r st [-2] (by rw [st2, o2, if_pos e1]) ((same_new nr).but a) (hs.same (same_new nr)) ints1⟩
    | true =>
      obtain ⟨n, y, rfl, hy, hat⟩ := isBin_nat e1
      obtain ⟨u, hu, tb, rfl, htb⟩ := pair_get pb hy
      have hg := hb.2.all y (List.mem_of_getElem? hy)
      refine iteF ?_
      refine ⟨_, rfl, a, _, dx, _, _, rfl, ha, cls_Store c, no_Store_bins c, sF_bins, _, rfl, bb, us, _, _, rfl, rfl, .inl (.inl eb), atI_nat hu, tb, _, 0, _, rfl, rfl, .inl (.inl htb), atI_nat (j := 0) rfl, _, rfl, _, _, rfl, rfl, ?_⟩
      have e0 : ∀ hc : (k < 1 ∨ 30 < (y.kilograms : Int) + k), out1 st (.addFlour (n : Int) k) = (some st, [-22]) := fun hc => by
        rw [o2, if_neg (by rw [e1]; decide), Int.toNat_natCast, hat, if_pos hc]
      refine ⟨_, rfl, _, _, rfl, rfl, _, rfl, ite2 (fun e2 => ?_) (fun e2 => ?_)⟩
      · have hc : k < 1 := of_decide_eq_true e2
        exact iteT ⟨le1, fun r nr => q _ r st [-22] (by rw [st2, e0 (.inl hc)]) ((same_new nr).but a) (hs.same (same_new nr)) ints1⟩
      · have hc : ¬ k < 1 := fun x => e2 (decide_eq_true x)
        refine ⟨_, rfl, _, _, rfl, rfl, _, rfl, ite2 (fun e3 => ?_) (fun e3 => ?_)⟩
        · have hd : 30 < (y.kilograms : Int) + k := of_decide_eq_true e3
          exact ⟨le1, fun r nr => q _ r st [-22] (by rw [st2, e0 (.inr hd)]) ((same_new nr).but a) (hs.same (same_new nr)) ints1⟩
        · have hd : ¬ 30 < (y.kilograms : Int) + k := fun x => e3 (decide_eq_true x)
          have ek : (y.kilograms : Int) + k = ((y.kilograms + k.toNat : Nat) : Int) := by omega
          refine ⟨_, rfl, a, dx, _, rfl, ha, sF_take_bins, _, rfl, _, rfl, _, rfl, a, st, n, y.kilograms + k.toNat, y, (show [V.ref a, V.int (n : Nat), V.int ((y.kilograms : Int) + k)] = _ by rw [ek]), hs, hy, by omega, fun H1 p s1 hp => ?_⟩
          have ha1 := s1 _ _ ha
          refine ⟨a, dx, _, _, _, _, _, rfl, ha1, ⟨_, rfl, le1, fun r nr => ?_⟩⟩
          have sr := same_new (o := .lst [V.int ((y.kilograms : Int) + k)]) nr
          refine q _ r { st with bins := st.bins.set n { y with kilograms := y.kilograms + k.toNat } } [((y.kilograms + k.toNat : Nat) : Int)] ?_ (((s1.but a).upd).trans (sr.but a)) ((StoreAt.put ha s1 hp ht).same sr) ?_
          · rw [st2, o2, if_neg (by rw [e1]; decide), Int.toNat_natCast, hat, if_neg (fun x => x.elim hc hd)]
            rfl
          · rw [← ek]
            exact ints1
theorem sc_set_price : FnScope ["store", "numbers", "items", "place", "price", "refusal", "previous"] ["store", "numbers", "items"] (defScope s_set_price) := ⟨rfl, rfl, rfl, by decide +kernel, rfl, by decide +kernel, by decide +kernel⟩
theorem ok_set_price (c : Ctx w K mg h) : C8.Cal PP w K mg base 4 "set_price" (spDeed K 3 2) [] := by
  refine c.cal (k := 3) (g_set_price c) (F_set_price c) sc_set_price (fun _ _ _ _ _ _ us hl => match us, hl with | [_, _, _], _ => rfl) (fun vs H Q E z => ?_) (fun cdv A outer s H vs Q E hr z => ?_)
  · obtain ⟨a, b, e, s, ns, is, rfl, _⟩ := z
    rfl
  · obtain ⟨a, b, e, st, ns, is, rfl, hs, hN, hl, hI, hil, q⟩ := z
    obtain ⟨i, k, rfl⟩ := len2 hl
    obtain ⟨dx, bb, t, ha, hb, ht⟩ := id hs
    obtain ⟨us, eb, pb⟩ := hb.1
    have sq : SqL K H b ([i, k].map V.int) := .inl (.inl hN)
    refine ⟨_, (pss_cons (ps_par (i := 3) (j := 4) rfl sc_set_price.nd rfl rfl (by decide) rfl rfl (pa_cons (pe_ix ix_list (pv 1) pe_int (fun _ _ => rfl)) (pa_cons (pe_ix ix_list (pv 1) pe_int (fun _ _ => rfl)) pa_nil)) (by rfl))
      (pss_cons (ps_set (i := 5) sc_set_price.nd rfl (Or.inl rfl) (C8.pe_c (ok_price_refusal (K := K) c) hr (by decide) rfl (pa_cons (pv 0) (pa_cons (pv 3) (pa_cons (pv 4) pa_nil)))))
      (pss_cons (ps_if (pt_cmpR (op_neD hr.units) (pv 5) (pe_lst pa_nil) (nomark _)) (pss_one (ps_ret (pv 5))) pss_nil)
      (pss_cons (ps_set (i := 6) sc_set_price.nd rfl (Or.inl rfl) (pe_ix ix_tup (pe_ix ix_list (pe_fld (pv 0) rfl) (pv 3) (fun _ _ => rfl)) pe_int (fun _ _ => rfl)))
      (pss_cons (ps_expr (C8.pe_mt (ok_Store_take_bins (K := K) c) hr (by decide) (pv 0) (pa_cons (C8.pe_c (ok_bins_with_price (K := K) c) hr (by decide) rfl (pa_cons (pv 0) (pa_cons (pv 3) (pa_cons (pv 4) pa_nil)))) pa_nil)))
      (pss_one (ps_ret (pe_lst (pa_cons (pv 6) pa_nil))))))))), ?_⟩
    refine ⟨_, rfl, b, _, 0, _, rfl, rfl, sq, atI_nat (j := 0) rfl, _, rfl, b, _, 1, _, rfl, rfl, sq, atI_nat (j := 1) rfl, _, _, rfl, ?_⟩
    refine ⟨_, rfl, _, rfl, _, rfl, a, st, i, k, rfl, hs, fun H1 r s1 hr1 => ?_⟩
    refine ⟨_, rfl, le0, fun e5 n5 => ?_⟩
    have s5 := same_new (o := .lst []) n5
    have s15 := s1.trans s5
    obtain ⟨ds, g1, g2, g3⟩ := ((hr1.same s5).ls).dp (K := K) cInt
    refine ⟨.list ds, .list [], g1, dp_nil upd_same, g2, rfl, _, rfl, ?_⟩
    rw [g3]
    cases e1 : Sr96.isBin st i with
    | false =>
      have er : refusalL st i k = [-2] := if_pos e1
      rw [er] at hr1 ⊢
      exact iteT ⟨_, rfl, q _ r st [-2] (by rw [st3, o3, if_pos e1]) (s15.but a) (hs.same s15) (hr1.same s5)⟩
    | true =>
      cases e2 : inRange k 1 99 with
      | false =>
        have er : refusalL st i k = [-22] := (if_neg (by rw [e1]; decide)).trans (if_neg (by rw [e2]; decide))
        rw [er] at hr1 ⊢
        exact iteT ⟨_, rfl, q _ r st [-22] (by rw [st3, o3, if_neg (by rw [e1]; decide), if_pos e2]) (s15.but a) (hs.same s15) (hr1.same s5)⟩
      | true =>
        have er : refusalL st i k = [] := (if_neg (by rw [e1]; decide)).trans (if_pos e2)
        rw [er]
        obtain ⟨n, y, rfl, hy, hat⟩ := isBin_nat e1
        obtain ⟨u, hu, tb, rfl, htb⟩ := pair_get pb hy
        obtain ⟨k1, k2⟩ : 1 ≤ k ∧ k ≤ 99 := by
          unfold SrCommon.inRange at e2
          simp only [Bool.and_eq_true, decide_eq_true_eq] at e2
          exact e2
        obtain ⟨kn, rfl⟩ : ∃ kn : Nat, k = (kn : Int) := ⟨k.toNat, by omega⟩
        refine iteF ?_
        refine ⟨_, rfl, a, _, dx, _, _, rfl, s15 _ _ ha, cls_Store c, no_Store_bins c, sF_bins, _, rfl, bb, us, _, _, rfl, rfl, .inl (.inl (s15 _ _ eb)), atI_nat hu, tb, _, 3, _, rfl, rfl, .inl (.inl (s15 _ _ htb)), atI_nat (j := 3) rfl, ?_⟩
        refine ⟨_, rfl, a, dx, _, rfl, s15 _ _ ha, sF_take_bins, _, rfl, _, rfl, _, rfl, a, st, n, kn, y, rfl, hs.same s15, hy, by omega, fun H2 p s2 hp => ?_⟩
        have sA := s15.trans s2
        have ha2 := sA _ _ ha
        refine ⟨a, dx, _, _, _, _, _, rfl, ha2, ⟨_, rfl, le1, fun r2 nr => ?_⟩⟩
        have sr := same_new (o := .lst [V.int (y.price : Nat)]) nr
        refine q _ r2 { st with bins := st.bins.set n { y with price := kn } } [(y.price : Int)] ?_ (((sA.but a).upd).trans (sr.but a)) ((StoreAt.put ha sA hp ht).same sr) ints1
        rw [st3, o3, if_neg (by rw [e1]; decide), if_neg (by rw [e2]; decide), Int.toNat_natCast, Int.toNat_natCast, hat]
        rfl
theorem sc_empty_bin : FnScope ["store", "numbers", "items", "place", "removed"] ["store", "numbers", "items"] (defScope s_empty_bin) := ⟨rfl, rfl, rfl, by decide +kernel, rfl, by decide +kernel, by decide +kernel⟩
theorem ok_empty_bin (c : Ctx w K mg h) : C8.Cal PP w K mg base 4 "empty_bin" (spDeed K 4 1) [] := by
  refine c.cal (k := 3) (g_empty_bin c) (F_empty_bin c) sc_empty_bin (fun _ _ _ _ _ _ us hl => match us, hl with | [_, _, _], _ => rfl) (fun vs H Q E z => ?_) (fun cdv A outer s H vs Q E hr z => ?_)
  · obtain ⟨a, b, e, s, ns, is, rfl, _⟩ := z
    rfl
  · obtain ⟨a, b, e, st, ns, is, rfl, hs, hN, hl, hI, hil, q⟩ := z
    obtain ⟨i, rfl⟩ := len1 hl
    obtain ⟨dx, bb, t, ha, hb, ht⟩ := id hs
    obtain ⟨us, eb, pb⟩ := hb.1
    have sq : SqL K H b ([i].map V.int) := .inl (.inl hN)
    refine ⟨_, (pss_cons (ps_set (i := 3) sc_empty_bin.nd rfl (Or.inl rfl) (pe_ix ix_list (pv 1) pe_int (fun _ _ => rfl)))
      (pss_cons (ps_if (pt_not (pt_val (C8.pe_c (ok_has_bin (K := K) c) hr (by decide) rfl (pa_cons (pv 0) (pa_cons (pv 3) pa_nil))))) (pss_one (ps_ret (pe_lst (pa_cons (pe_glob (v := .int (-2)) rfl (i_NO_BIN c).choose_spec ⟨_, rfl⟩) pa_nil)))) pss_nil)
      (pss_cons (ps_set (i := 4) sc_empty_bin.nd rfl (Or.inl rfl) (pe_ix ix_tup (pe_ix ix_list (pe_fld (pv 0) rfl) (pv 3) (fun _ _ => rfl)) pe_int (fun _ _ => rfl)))
      (pss_cons (ps_expr (C8.pe_mt (ok_Store_take_bins (K := K) c) hr (by decide) (pv 0) (pa_cons (C8.pe_c (ok_bins_with_kilograms (K := K) c) hr (by decide) rfl (pa_cons (pv 0) (pa_cons (pv 3) (pa_cons pe_int pa_nil)))) pa_nil)))
      (pss_one (ps_ret (pe_lst (pa_cons (pv 4) pa_nil)))))))), ?_⟩
    refine ⟨_, rfl, b, _, 0, _, rfl, rfl, sq, atI_nat (j := 0) rfl, ?_⟩
    refine ⟨_, rfl, _, rfl, a, st, i, rfl, hs, _, rfl, ?_⟩
    cases e1 : Sr96.isBin st i with
    | false => exact iteT ⟨le1, fun r nr => q _ r st [-2] (by rw [st4, o4, if_pos e1]) ((same_new nr).but a) (hs.same (same_new nr)) ints1⟩
    | true =>
      obtain ⟨n, y, rfl, hy, hat⟩ := isBin_nat e1
      obtain ⟨u, hu, tb, rfl, htb⟩ := pair_get pb hy
      refine iteF ?_
      refine ⟨_, rfl, a, _, dx, _, _, rfl, ha, cls_Store c, no_Store_bins c, sF_bins, _, rfl, bb, us, _, _, rfl, rfl, .inl (.inl eb), atI_nat hu, tb, _, 0, _, rfl, rfl, .inl (.inl htb), atI_nat (j := 0) rfl, ?_⟩
      refine ⟨_, rfl, a, dx, _, rfl, ha, sF_take_bins, _, rfl, _, rfl, a, st, n, 0, y, rfl, hs, hy, by omega, fun H1 p s1 hp => ?_⟩
      have ha1 := s1 _ _ ha
      refine ⟨a, dx, _, _, _, _, _, rfl, ha1, ⟨_, rfl, le1, fun r nr => ?_⟩⟩
      have sr := same_new (o := .lst [V.int (y.kilograms : Nat)]) nr
      refine q _ r { st with bins := st.bins.set n { y with kilograms := 0 } } [(y.kilograms : Int)] ?_ (((s1.but a).upd).trans (sr.but a)) ((StoreAt.put ha s1 hp ht).same sr) ints1
      rw [st4, o4, if_neg (by rw [e1]; decide), Int.toNat_natCast, hat]
      rfl
theorem sc_set_request : FnScope ["store", "numbers", "items", "weight", "least", "greatest", "ash"] ["store", "numbers", "items"] (defScope s_set_request) := ⟨rfl, rfl, rfl, by decide +kernel, rfl, by decide +kernel, by decide +kernel⟩
theorem ok_set_request (c : Ctx w K mg h) : C8.Cal PP w K mg base 2 "set_request" (spDeed K 5 4) [] := by
  refine c.cal (k := 1) (g_set_request c) (F_set_request c) sc_set_request (fun _ _ _ _ _ _ us hl => match us, hl with | [_, _, _], _ => rfl) (fun vs H Q E z => ?_) (fun cdv A outer s H vs Q E hr z => ?_)
  · obtain ⟨a, b, e, s, ns, is, rfl, _⟩ := z
    rfl
  · obtain ⟨a, b, e, st, ns, is, rfl, hs, hN, hl, hI, hil, q⟩ := z
    obtain ⟨n, lo, hi, ap, rfl⟩ := len4 hl
    have sq : SqL K H b ([n, lo, hi, ap].map V.int) := .inl (.inl hN)
    refine ⟨_, (pss_cons (ps_asg (pe_tup (pa_cons (pe_ix ix_list (pv 1) pe_int (fun _ _ => rfl)) (pa_cons (pe_ix ix_list (pv 1) pe_int (fun _ _ => rfl)) (pa_cons (pe_ix ix_list (pv 1) pe_int (fun _ _ => rfl)) (pa_cons (pe_ix ix_list (pv 1) pe_int (fun _ _ => rfl)) pa_nil))))) (pg_tup rfl (pgs_cons (pg_name (i := 3) sc_set_request.nd rfl (Or.inl rfl)) (pgs_cons (pg_name (i := 4) sc_set_request.nd rfl (Or.inl rfl)) (pgs_cons (pg_name (i := 5) sc_set_request.nd rfl (Or.inl rfl)) (pgs_cons (pg_name (i := 6) sc_set_request.nd rfl (Or.inl rfl)) pgs_nil))))))
      (pss_cons (ps_if (PW.pt (pw_or (pt_not (pt_val (C8.pe_c (ok_is_within (K := K) c) hr (by decide) rfl (pa_cons (pv 3) (pa_cons pe_int (pa_cons (pe_glob (v := .int (30)) rfl (i_MAX_WEIGHT c).choose_spec ⟨_, rfl⟩) pa_nil)))))) (pw_or1 (pt_not (pt_chain3 op_le op_le op_le pe_int (pv 4) (pv 5) (pe_glob (v := .int (999)) rfl (i_MAX_CONTENT c).choose_spec ⟨_, rfl⟩)))))) (pss_one (ps_ret (pe_lst (pa_cons (pe_glob (v := .int (-22)) rfl (i_OUT_OF_RANGE c).choose_spec ⟨_, rfl⟩) pa_nil)))) pss_nil)
      (pss_cons (ps_if (pt_not (pt_val (C8.pe_c (ok_is_within (K := K) c) hr (by decide) rfl (pa_cons (pv 6) (pa_cons pe_int (pa_cons (pe_glob (v := .int (999)) rfl (i_MAX_CONTENT c).choose_spec ⟨_, rfl⟩) pa_nil)))))) (pss_one (ps_ret (pe_lst (pa_cons (pe_glob (v := .int (-22)) rfl (i_OUT_OF_RANGE c).choose_spec ⟨_, rfl⟩) pa_nil)))) pss_nil)
      (pss_cons (ps_expr (C8.pe_mt (ok_Store_take_request (K := K) c) hr (by decide) (pv 0) (pa_cons (pv 3) (pa_cons (pe_tup (pa_cons (pv 4) (pa_cons (pv 5) (pa_cons (pv 6) pa_nil)))) pa_nil))))
      (pss_one (ps_ret (pe_lst (pa_cons pe_int pa_nil)))))))), ?_⟩
    refine ⟨_, rfl, b, _, 0, _, rfl, rfl, sq, atI_nat (j := 0) rfl, _, rfl, b, _, 1, _, rfl, rfl, sq, atI_nat (j := 1) rfl, _, rfl, b, _, 2, _, rfl, rfl, sq, atI_nat (j := 2) rfl, _, rfl, b, _, 3, _, rfl, rfl, sq, atI_nat (j := 3) rfl, le4, fun p0 n0 => ?_⟩
    refine ⟨p0, _, rfl, .inl (.inl upd_same), rfl, _, _, rfl, _, _, rfl, _, _, rfl, _, _, rfl, rfl, ?_⟩
    have s0 := same_new (o := .tup [.int n, .int lo, .int hi, .int ap]) n0
    have bad : reqB n lo hi ap = false → ∀ (r : Addr) (nr : upd H p0 (.tup [.int n, .int lo, .int hi, .int ap]) r = none), Q (.ref r) (upd (upd H p0 (.tup [.int n, .int lo, .int hi, .int ap])) r (.lst [.int (-22)])) := fun eb r nr =>
      q _ r st [-22] (by rw [st5, o5, if_pos eb]) ((s0.trans (same_new nr)).but a) (hs.same (s0.trans (same_new nr))) ints1
    refine ⟨_, rfl, _, _, _, rfl, _, rfl, ?_⟩
    cases e1 : inRange n 1 30 with
    | false => exact iteT (iteT ⟨le1, fun r nr => bad (by unfold reqB; rw [e1]; rfl) r nr⟩)
    | true =>
      refine iteF ⟨_, rfl, _, _, rfl, rfl, _, rfl, ?_⟩
      cases e2 : decide (0 ≤ lo) with
      | false => exact iteF (iteT ⟨le1, fun r nr => bad (by unfold reqB; rw [e2]; simp) r nr⟩)
      | true =>
        refine iteT ⟨_, rfl, _, _, rfl, rfl, _, rfl, ?_⟩
        cases e3 : decide (lo ≤ hi) with
        | false => exact iteF (iteT ⟨le1, fun r nr => bad (by unfold reqB; rw [e3]; simp) r nr⟩)
        | true =>
          refine iteT ⟨_, _, rfl, rfl, _, rfl, ?_⟩
          cases e4 : decide (hi ≤ 999) with
          | false => exact iteT ⟨le1, fun r nr => bad (by unfold reqB; rw [e4]; simp) r nr⟩
          | true =>
            refine iteF ⟨_, rfl, _, _, _, rfl, _, rfl, ?_⟩
            cases e5 : inRange ap 0 999 with
            | false => exact iteT ⟨le1, fun r nr => bad (by unfold reqB; rw [e5]; simp) r nr⟩
            | true =>
              have h1 := of_decide_eq_true e2
              have h2 := of_decide_eq_true e3
              have h3 := of_decide_eq_true e4
              obtain ⟨f1, f2⟩ : (1 ≤ n ∧ n ≤ 30) ∧ (0 ≤ ap ∧ ap ≤ 999) := by
                unfold SrCommon.inRange at e1 e5
                simp only [Bool.and_eq_true, decide_eq_true_eq] at e1 e5
                exact ⟨e1, e5⟩
              have hs0 := hs.same s0
              obtain ⟨dx, bb, t, ha, hb, ht⟩ := id hs0
              refine iteF ?_
              refine ⟨_, rfl, a, dx, _, rfl, ha, sF_take_request, _, rfl, _, rfl, _, rfl, _, rfl, le3, fun p1 n1 => ?_⟩
              have s1 := same_new (o := .tup [.int lo, .int hi, .int ap]) n1
              have ha1 := s1 _ _ ha
              refine ⟨a, dx, _, _, _, _, _, _, rfl, ha1, ⟨le1, fun r nr => ?_⟩⟩
              have sr := same_new (o := .lst [V.int 0]) nr
              have u : SameBut a (upd (upd H p0 (.tup [.int n, .int lo, .int hi, .int ap])) p1 (.tup [.int lo, .int hi, .int ap])) (upd (upd (upd H p0 (.tup [.int n, .int lo, .int hi, .int ap])) p1 (.tup [.int lo, .int hi, .int ap])) a (.ins (CS K) dx (sF (.ref bb) (.int n) (.ref p1) (.int (st.spent : Nat))))) := (SameBut.refl a _).upd
              refine q _ r { st with request := ⟨n.toNat, lo.toNat, hi.toNat, ap.toNat⟩ } [0] ?_ (((s0.trans s1).but a).trans (u.trans (sr.but a))) (StoreAt.same ?_ sr) ints1
              · rw [st5, o5, if_neg]
                unfold reqB
                rw [e1, e2, e3, e4, e5]
                decide
              · refine ⟨dx, bb, p1, ?_, (hb.same s1).but ha1 u, ?_, ⟨by show n.toNat ≤ 30; omega, by show lo.toNat ≤ 999; omega, by show hi.toNat ≤ 999; omega, by show ap.toNat ≤ 999; omega⟩⟩
                · rw [upd_same]
                  show some (HO.ins (CS K) dx (sF (.ref bb) (.int n) (.ref p1) (.int (st.spent : Nat)))) = some (HO.ins (CS K) dx (sF (.ref bb) (.int ((n.toNat : Nat) : Int)) (.ref p1) (.int (st.spent : Nat))))
                  rw [Int.toNat_of_nonneg (by omega : 0 ≤ n)]
                · refine (u _ _ upd_same (ne_tup upd_same ha1)).trans ?_
                  show some (HO.tup [.int lo, .int hi, .int ap]) = some (HO.tup [.int ((lo.toNat : Nat) : Int), .int ((hi.toNat : Nat) : Int), .int ((ap.toNat : Nat) : Int)])
                  rw [Int.toNat_of_nonneg h1, Int.toNat_of_nonneg (by omega : 0 ≤ hi), Int.toNat_of_nonneg f2.1]
end
end Fb

/-! FbOps3: the deeds that ask, and those that take a blend out. Source: src/FbOps3.src, filled by gen_walk.py. -/
namespace Fb
open PySem PySem.Spec PyProof.Rows L2
open SrCommon (inRange intsToNats)
theorem min_mem {m : List Nat → Int} {l : List (List Nat)} {x : List Nat} (h : Sr96.minimumBy m l = some x) : x ∈ l := by
  by_cases h0 : l = []
  · rw [h0] at h
    cases h
  · obtain ⟨z, e, hz, _⟩ := min_some m h0
    rw [e] at h
    cases h
    exact hz
theorem valid_mem {bs : List Sr96.Bin} {r : Sr96.Request} {n : Nat} {x : List Nat} (h : x ∈ validL bs r n) : IsBlend bs n x := mem_blends (List.mem_filter.mp h).1
theorem cheap_len {bs : List Sr96.Bin} (hg : Goods bs) {r : Sr96.Request} {n : Nat} {m : List Nat → Int} : ∀ x, Sr96.minimumBy m (validL bs r n) = some x → x.length ≤ 1000 := fun x h => by
  rw [(valid_mem (min_mem h)).len]
  exact Nat.le_trans hg.len (by decide)
theorem sum_le : ∀ {x : List Nat}, (∀ i ∈ x, i ≤ 30) → SrCommon.sum x ≤ 30 * x.length
  | [], _ => Nat.zero_le _
  | a :: x, h => by
    have h1 := h a (List.mem_cons_self ..)
    have h2 := sum_le (x := x) fun i hi => h i (List.mem_cons_of_mem _ hi)
    rw [sum_cons, List.length_cons]
    omega
theorem nats_of {H : Hp} {e : Addr} {is : List Int} (h : Ints H e is) (p : ∀ i ∈ is, 0 ≤ i) : Nats H e (intsToNats is) := by
  show H e = some (.lst (nv (intsToNats is)))
  rw [nv_int, ← toNats p]
  exact h
section
variable {w : World} {K : PySem.W.Frag} {mg : Str → Option Value} {base h : Heap}
theorem sc_answer_cheapest_blend : FnScope ["store", "numbers", "items"] ["store", "numbers", "items"] (defScope s_answer_cheapest_blend) := ⟨rfl, rfl, rfl, by decide +kernel, rfl, by decide +kernel, by decide +kernel⟩
theorem ok_answer_cheapest_blend (c : Ctx w K mg h) : C8.Cal PP w K mg base 6 "answer_cheapest_blend" (spDeed K 6 0) [] := by
  refine c.cal (k := 5) (g_answer_cheapest_blend c) (F_answer_cheapest_blend c) sc_answer_cheapest_blend (fun _ _ _ _ _ _ us hl => match us, hl with | [_, _, _], _ => rfl) (fun vs H Q E z => ?_) (fun cdv A outer s H vs Q E hr z => ?_)
  · obtain ⟨a, b, e, s, ns, is, rfl, _⟩ := z
    rfl
  · obtain ⟨a, b, e, st, ns, is, rfl, hs, hN, hl, hI, hil, q⟩ := z
    cases len0 hl
    obtain ⟨dx, bb, t, ha, hb, ht⟩ := id hs
    refine ⟨_, (pss_one (ps_ret (C8.pe_c (ok_told_blend (K := K) c) hr (by decide) rfl (pa_cons (pe_fld (pv 0) rfl) (pa_cons (C8.pe_c (ok_cheapest_blend (K := K) c) hr (by decide) rfl (pa_cons (pe_fld (pv 0) rfl) (pa_cons (pe_fld (pv 0) rfl) (pa_cons (pe_fld (pv 0) rfl) pa_nil)))) pa_nil))))), ?_⟩
    refine ⟨_, rfl, a, _, dx, _, _, rfl, ha, cls_Store c, no_Store_bins c, sF_bins, _, rfl, a, _, dx, _, _, rfl, ha, cls_Store c, no_Store_bins c, sF_bins, _, rfl, a, _, dx, _, _, rfl, ha, cls_Store c, no_Store_weight c, sF_weight, _, rfl, a, _, dx, _, _, rfl, ha, cls_Store c, no_Store_bounds c, sF_bounds, ?_⟩
    refine ⟨bb, _, t, st.bins, st.request, rfl, hb, ht.2.n, ht, fun H1 v s1 hv => ?_⟩
    refine ⟨bb, v, st.bins, _, rfl, hb.same s1, hv, cheap_len hb.2, fun H2 p s2 hp => ?_⟩
    exact q _ p st _ (by rw [st6, o6]) ((s1.trans s2).but a) (hs.same (s1.trans s2)) hp
theorem sc_make_cheapest_blend : FnScope ["store", "numbers", "items", "blend", "told"] ["store", "numbers", "items"] (defScope s_make_cheapest_blend) := ⟨rfl, rfl, rfl, by decide +kernel, rfl, by decide +kernel, by decide +kernel⟩
theorem ok_make_cheapest_blend (c : Ctx w K mg h) : C8.Cal PP w K mg base 6 "make_cheapest_blend" (spDeed K 7 0) [] := by
  refine c.cal (k := 5) (g_make_cheapest_blend c) (F_make_cheapest_blend c) sc_make_cheapest_blend (fun _ _ _ _ _ _ us hl => match us, hl with | [_, _, _], _ => rfl) (fun vs H Q E z => ?_) (fun cdv A outer s H vs Q E hr z => ?_)
  · obtain ⟨a, b, e, s, ns, is, rfl, _⟩ := z
    rfl
  · obtain ⟨a, b, e, st, ns, is, rfl, hs, hN, hl, hI, hil, q⟩ := z
    cases len0 hl
    obtain ⟨dx, bb, t, ha, hb, ht⟩ := id hs
    refine ⟨_, (pss_cons (ps_set (i := 3) sc_make_cheapest_blend.nd rfl (Or.inl rfl) (C8.pe_c (ok_cheapest_blend (K := K) c) hr (by decide) rfl (pa_cons (pe_fld (pv 0) rfl) (pa_cons (pe_fld (pv 0) rfl) (pa_cons (pe_fld (pv 0) rfl) pa_nil)))))
      (pss_cons (ps_set (i := 4) sc_make_cheapest_blend.nd rfl (Or.inl rfl) (C8.pe_c (ok_told_blend (K := K) c) hr (by decide) rfl (pa_cons (pe_fld (pv 0) rfl) (pa_cons (pv 3) pa_nil))))
      (pss_cons (ps_if (pt_cmpR op_notN (pv 3) pe_non (nomark _)) (pss_one (ps_expr (C8.pe_mt (ok_Store_take_out (K := K) c) hr (by decide) (pv 0) (pa_cons (pv 3) pa_nil)))) pss_nil)
      (pss_one (ps_ret (pv 4)))))), ?_⟩
    refine ⟨_, rfl, a, _, dx, _, _, rfl, ha, cls_Store c, no_Store_bins c, sF_bins, _, rfl, a, _, dx, _, _, rfl, ha, cls_Store c, no_Store_weight c, sF_weight, _, rfl, a, _, dx, _, _, rfl, ha, cls_Store c, no_Store_bounds c, sF_bounds, ?_⟩
    refine ⟨bb, _, t, st.bins, st.request, rfl, hb, ht.2.n, ht, fun H1 v s1 hv => ?_⟩
    refine ⟨_, rfl, a, _, dx, _, _, rfl, s1 _ _ ha, cls_Store c, no_Store_bins c, sF_bins, _, rfl, ?_⟩
    refine ⟨bb, v, st.bins, _, rfl, hb.same s1, hv, cheap_len hb.2, fun H2 p s2 hp => ?_⟩
    have s12 := s1.trans s2
    refine ⟨_, rfl, rfl, _, rfl, ?_⟩
    cases o : Sr96.minimumBy (costM st.bins) (validL st.bins st.request st.request.kilograms) with
    | none =>
      rw [o] at hv hp
      have ev : v = .non := hv
      subst ev
      refine iteF ⟨_, rfl, ?_⟩
      exact q _ p st [-33] (by rw [st7, o7, o]) (s12.but a) (hs.same s12) hp
    | some x =>
      rw [o] at hv hp
      obtain ⟨tx, rfl, hx⟩ := hv
      have hm := valid_mem (min_mem o)
      refine iteT ?_
      refine ⟨_, rfl, a, dx, _, rfl, s12 _ _ ha, sF_take_out, _, rfl, a, st, tx, x, rfl, hs.same s12, hx.same s2, hm.av, fun H3 sb hs3 => ?_⟩
      refine ⟨_, rfl, ?_⟩
      exact q _ p (Sr96.takeBlend st x) _ (by rw [st7, o7, o]) ((s12.but a).trans sb) hs3 (hp.but (s12 _ _ ha) sb)
theorem sc_make_blend : FnScope ["store", "numbers", "items", "cost"] ["store", "numbers", "items"] (defScope s_make_blend) := ⟨rfl, rfl, rfl, by decide +kernel, rfl, by decide +kernel, by decide +kernel⟩
theorem ok_make_blend (c : Ctx w K mg h) : C8.Cal PP w K mg base 5 "make_blend" (spDeed K 8 0) [] := by
  refine c.cal (k := 4) (g_make_blend c) (F_make_blend c) sc_make_blend (fun _ _ _ _ _ _ us hl => match us, hl with | [_, _, _], _ => rfl) (fun vs H Q E z => ?_) (fun cdv A outer s H vs Q E hr z => ?_)
  · obtain ⟨a, b, e, s, ns, is, rfl, _⟩ := z
    rfl
  · obtain ⟨a, b, e, st, ns, is, rfl, hs, hN, hl, hI, hil, q⟩ := z
    cases len0 hl
    obtain ⟨dx, bb, t, ha, hb, ht⟩ := id hs
    refine ⟨_, (pss_cons (ps_if (pt_not (pt_val (C8.pe_c (ok_is_blend (K := K) c) hr (by decide) rfl (pa_cons (pv 0) (pa_cons (pv 2) pa_nil))))) (pss_one (ps_ret (pe_lst (pa_cons (pe_glob (v := .int (-22)) rfl (i_OUT_OF_RANGE c).choose_spec ⟨_, rfl⟩) pa_nil)))) pss_nil)
      (pss_cons (ps_if (pt_not (pt_val (C8.pe_c (ok_is_available (K := K) c) hr (by decide) rfl (pa_cons (pe_fld (pv 0) rfl) (pa_cons (pv 2) pa_nil))))) (pss_one (ps_ret (pe_lst (pa_cons (pe_glob (v := .int (-6)) rfl (i_TOO_LITTLE c).choose_spec ⟨_, rfl⟩) pa_nil)))) pss_nil)
      (pss_cons (ps_if (pt_not (pt_val (C8.pe_c (ok_is_valid (K := K) c) hr (by decide) rfl (pa_cons (pe_fld (pv 0) rfl) (pa_cons (pe_fld (pv 0) rfl) (pa_cons (pe_fld (pv 0) rfl) (pa_cons (pv 2) pa_nil))))))) (pss_one (ps_ret (pe_lst (pa_cons (pe_glob (v := .int (-33)) rfl (i_NO_BLEND_operations c).choose_spec ⟨_, rfl⟩) pa_nil)))) pss_nil)
      (pss_cons (ps_set (i := 3) sc_make_blend.nd rfl (Or.inl rfl) (C8.pe_c (ok_cost_of (K := K) c) hr (by decide) rfl (pa_cons (pe_fld (pv 0) rfl) (pa_cons (pv 2) pa_nil))))
      (pss_cons (ps_expr (C8.pe_mt (ok_Store_take_out (K := K) c) hr (by decide) (pv 0) (pa_cons (pv 2) pa_nil)))
      (pss_one (ps_ret (pe_lst (pa_cons (pv 3) pa_nil))))))))), ?_⟩
    refine ⟨_, rfl, _, rfl, a, st, e, is, rfl, hs, hI, hil, fun H1 s1 => ⟨_, rfl, ?_⟩⟩
    cases e1 : Sr96.isBlend st is with
    | false => exact iteT ⟨le1, fun r nr => q _ r st [-22] (by rw [st8, o8, if_pos e1]) ((s1.trans (same_new nr)).but a) (hs.same (s1.trans (same_new nr))) ints1⟩
    | true =>
      obtain ⟨p1, p2, p3⟩ := blend_pos st e1
      have hx : Nats H e (intsToNats is) := nats_of hI p1
      have b1 : ¬ Sr96.isBlend st is = false := by
        rw [e1]
        decide
      refine iteF ?_
      refine ⟨_, rfl, a, _, dx, _, _, rfl, s1 _ _ ha, cls_Store c, no_Store_bins c, sF_bins, _, rfl, bb, e, st.bins, _, rfl, hb.same s1, hx.same s1, fun H2 s2 => ⟨_, rfl, ?_⟩⟩
      have s12 := s1.trans s2
      cases e2 : availB st.bins (intsToNats is) with
      | false => exact iteT ⟨le1, fun r nr => q _ r st [-6] (by rw [st8, o8, if_neg b1, if_pos e2]) ((s12.trans (same_new nr)).but a) (hs.same (s12.trans (same_new nr))) ints1⟩
      | true =>
        have b2 : ¬ availB st.bins (intsToNats is) = false := by
          rw [e2]
          decide
        refine iteF ?_
        refine ⟨_, rfl, a, _, dx, _, _, rfl, s12 _ _ ha, cls_Store c, no_Store_bins c, sF_bins, _, rfl, a, _, dx, _, _, rfl, s12 _ _ ha, cls_Store c, no_Store_weight c, sF_weight, _, rfl, a, _, dx, _, _, rfl, s12 _ _ ha, cls_Store c, no_Store_bounds c, sF_bounds, _, rfl, ?_⟩
        refine ⟨bb, _, t, e, st.bins, st.request, _, rfl, hb.same s12, ht.same s12, hx.same s12, fun H3 s3 => ⟨_, rfl, ?_⟩⟩
        have s13 := s12.trans s3
        cases e3 : validB st.bins st.request st.request.kilograms (intsToNats is) with
        | false => exact iteT ⟨le1, fun r nr => q _ r st [-33] (by rw [st8, o8, if_neg b1, if_neg b2, if_pos e3]) ((s13.trans (same_new nr)).but a) (hs.same (s13.trans (same_new nr))) ints1⟩
        | true =>
          refine iteF ?_
          refine ⟨_, rfl, a, _, dx, _, _, rfl, s13 _ _ ha, cls_Store c, no_Store_bins c, sF_bins, _, rfl, bb, e, st.bins, _, rfl, hb.same s13, hx.same s13, fun H4 s4 => ?_⟩
          have s14 := s13.trans s4
          refine ⟨_, rfl, a, dx, _, rfl, s14 _ _ ha, sF_take_out, _, rfl, a, st, e, _, rfl, hs.same s14, hx.same s14, e2, fun H5 sb hs5 => ?_⟩
          refine ⟨_, rfl, le1, fun r nr => ?_⟩
          exact q _ r (Sr96.takeBlend st (intsToNats is)) [costM st.bins (intsToNats is)] (by rw [st8, o8, if_neg b1, if_neg b2, if_neg (by rw [e3]; decide)]) (((s14.but a).trans sb).trans ((same_new nr).but a)) (hs5.same (same_new nr)) ints1
theorem b2i {b : Bool} : (if b = true then (1 : Int) else 0) = SrCommon.boolToInt b := rfl
theorem avg_len (t n : Nat) : (averageL t n).length = 2 := by
  unfold averageL
  split <;> rfl
theorem sc_check_blend : FnScope ["store", "numbers", "items", "bins", "weight", "found"] ["store", "numbers", "items"] (defScope s_check_blend) := ⟨rfl, rfl, rfl, by decide +kernel, rfl, by decide +kernel, by decide +kernel⟩
theorem ok_check_blend (c : Ctx w K mg h) : C8.Cal PP w K mg base 5 "check_blend" (spDeed K 9 0) [] := by
  refine c.cal (k := 4) (g_check_blend c) (F_check_blend c) sc_check_blend (fun _ _ _ _ _ _ us hl => match us, hl with | [_, _, _], _ => rfl) (fun vs H Q E z => ?_) (fun cdv A outer s H vs Q E hr z => ?_)
  · obtain ⟨a, b, e, s, ns, is, rfl, _⟩ := z
    rfl
  · obtain ⟨a, b, e, st, ns, is, rfl, hs, hN, hl, hI, hil, q⟩ := z
    cases len0 hl
    obtain ⟨dx, bb, t, ha, hb, ht⟩ := id hs
    refine ⟨_, (pss_cons (ps_if (pt_not (pt_val (C8.pe_c (ok_is_blend (K := K) c) hr (by decide) rfl (pa_cons (pv 0) (pa_cons (pv 2) pa_nil))))) (pss_one (ps_ret (pe_lst (pa_cons (pe_glob (v := .int (-22)) rfl (i_OUT_OF_RANGE c).choose_spec ⟨_, rfl⟩) pa_nil)))) pss_nil)
      (pss_cons (ps_par (i := 3) (j := 4) rfl sc_check_blend.nd rfl rfl (by decide) rfl rfl (pa_cons (pe_fld (pv 0) rfl) (pa_cons (C8.pe_c (ok_weight_of (K := K) c) hr (by decide) rfl (pa_cons (pv 2) pa_nil)) pa_nil)) (by rfl))
      (pss_cons (ps_set (i := 5) sc_check_blend.nd rfl (Or.inl rfl) (pe_lst (pa_cons (pe_callTy call_int1 (by rfl) (m_int c) (by decide +kernel) (pa_cons (C8.pe_c (ok_is_valid (K := K) c) hr (by decide) rfl (pa_cons (pv 3) (pa_cons (pe_fld (pv 0) rfl) (pa_cons (pe_fld (pv 0) rfl) (pa_cons (pv 2) pa_nil))))) pa_nil)) (pa_cons (pv 4) pa_nil))))
      (pss_cons (ps_expr (pe_bm PySem.F.plainAttrs_list PySem.F.slot_list_extend PySem.F.type_list_extend mt_extend (pv 5) (pa_cons (pe_op op_cat (C8.pe_c (ok_average (K := K) c) hr (by decide) rfl (pa_cons (C8.pe_c (ok_strength_sum (K := K) c) hr (by decide) rfl (pa_cons (pv 3) (pa_cons (pv 2) pa_nil))) (pa_cons (pv 4) pa_nil))) (C8.pe_c (ok_average (K := K) c) hr (by decide) rfl (pa_cons (C8.pe_c (ok_ash_sum (K := K) c) hr (by decide) rfl (pa_cons (pv 3) (pa_cons (pv 2) pa_nil))) (pa_cons (pv 4) pa_nil)))) pa_nil)))
      (pss_one (ps_ret (pe_op op_cat (pv 5) (pe_lst (pa_cons (C8.pe_c (ok_cost_of (K := K) c) hr (by decide) rfl (pa_cons (pv 3) (pa_cons (pv 2) pa_nil))) pa_nil))))))))), ?_⟩
    refine ⟨_, rfl, _, rfl, a, st, e, is, rfl, hs, hI, hil, fun H1 s1 => ⟨_, rfl, ?_⟩⟩
    cases e1 : Sr96.isBlend st is with
    | false => exact iteT ⟨le1, fun r nr => q _ r st [-22] (by rw [st9, o9, if_pos e1]) ((s1.trans (same_new nr)).but a) (hs.same (s1.trans (same_new nr))) ints1⟩
    | true =>
      obtain ⟨p1, p2, p3⟩ := blend_pos st e1
      have hx : Nats H e (intsToNats is) := nats_of hI p1
      have b1 : ¬ Sr96.isBlend st is = false := by
        rw [e1]
        decide
      have hx1 := hx.same s1
      have hb1 := hb.same s1
      have hsum : SrCommon.sum (intsToNats is) ≤ 1000 := by
        have h1 := sum_le (x := intsToNats is) fun i hi => by
          obtain ⟨j, hj, rfl⟩ := List.mem_map.mp hi
          have := p2 j hj
          omega
        have h2 : (intsToNats is).length = st.bins.length := by
          unfold intsToNats
          rw [List.length_map]
          exact p3
        have h3 := hb.2.len
        omega
      refine iteF ?_
      -- bins, weight = store.bins, weight_of(items)
      refine ⟨_, rfl, a, _, dx, _, _, rfl, s1 _ _ ha, cls_Store c, no_Store_bins c, sF_bins, _, rfl, e, _, rfl, hx1, _, _, rfl, ?_⟩
      -- found = [int(is_valid(..)), weight]
      refine ⟨_, rfl, _, rfl, a, _, dx, _, _, rfl, s1 _ _ ha, cls_Store c, no_Store_weight c, sF_weight, _, rfl, a, _, dx, _, _, rfl, s1 _ _ ha, cls_Store c, no_Store_bounds c, sF_bounds, _, rfl, ?_⟩
      refine ⟨bb, _, t, e, st.bins, st.request, _, rfl, hb1, ht.same s1, hx1, fun H2 s2 => .inr ⟨_, rfl, _, rfl, le2, fun o no => ?_⟩⟩
      rw [b2i]
      have so := same_new (o := .lst [V.int (SrCommon.boolToInt (validB st.bins st.request st.request.kilograms (intsToNats is))), V.int ((SrCommon.sum (intsToNats is) : Nat) : Int)]) no
      have s20 := s2.trans so
      -- found.extend(average(..) + average(..))
      refine ⟨_, rfl, .inl ⟨rfl, _, .inl (.inl upd_same)⟩, ?_⟩
      refine ⟨_, rfl, _, rfl, bb, e, st.bins, _, rfl, hb1.same s20, hx1.same s20, fun H3 s3 => ⟨_, rfl, _, _, rfl, hsum, fun H4 q1 s4 hq1 => ?_⟩⟩
      have s34 := s3.trans s4
      have s24 := s20.trans s34
      refine ⟨_, rfl, _, rfl, bb, e, st.bins, _, rfl, hb1.same s24, hx1.same s24, fun H5 s5 => ⟨_, rfl, _, _, rfl, hsum, fun H6 q2 s6 hq2 => ?_⟩⟩
      have s56 := s5.trans s6
      have s26 := s24.trans s56
      refine ⟨q1, q2, _, _, rfl, rfl, s56 _ _ hq1, hq2, ?_, fun q3 n3 => ?_⟩
      · rw [List.length_map, List.length_map, avg_len, avg_len]
        decide
      have s7 := same_new (o := .lst ((averageL (Sr96.total Sr96.Bin.strength st.bins (intsToNats is)) (SrCommon.sum (intsToNats is))).map V.int ++ (averageL (Sr96.total Sr96.Bin.ash st.bins (intsToNats is)) (SrCommon.sum (intsToNats is))).map V.int)) n3
      have s17 := s34.trans (s56.trans s7)
      refine ⟨o, q3, _, _, rfl, rfl, s17 _ _ upd_same, upd_same, ?_, ?_⟩
      · rw [List.length_append, List.length_map, List.length_map, avg_len, avg_len]
        exact Nat.le_trans (show 2 + (2 + 2) ≤ 6 by decide) (by decide)
      -- return found + [cost_of(bins, items)]
      have s8 : Same H2 (upd (upd H6 q3 (.lst ((averageL (Sr96.total Sr96.Bin.strength st.bins (intsToNats is)) (SrCommon.sum (intsToNats is))).map V.int ++ (averageL (Sr96.total Sr96.Bin.ash st.bins (intsToNats is)) (SrCommon.sum (intsToNats is))).map V.int))) o
          (.lst ([V.int (SrCommon.boolToInt (validB st.bins st.request st.request.kilograms (intsToNats is))), V.int ((SrCommon.sum (intsToNats is) : Nat) : Int)] ++ ((averageL (Sr96.total Sr96.Bin.strength st.bins (intsToNats is)) (SrCommon.sum (intsToNats is))).map V.int ++ (averageL (Sr96.total Sr96.Bin.ash st.bins (intsToNats is)) (SrCommon.sum (intsToNats is))).map V.int)))) := same_upd_new (so.trans s17) no
      have s18 := s2.trans s8
      refine ⟨_, rfl, _, rfl, _, rfl, bb, e, st.bins, _, rfl, hb1.same s18, hx1.same s18, fun H9 s9 => ⟨le1, fun r1 m1 => ?_⟩⟩
      have t1 := same_new (o := .lst [V.int ((Sr96.total Sr96.Bin.price st.bins (intsToNats is) : Nat) : Int)]) m1
      refine ⟨o, r1, _, _, rfl, rfl, t1 _ _ (s9 _ _ upd_same), upd_same, ?_, fun r2 m2 => ?_⟩
      · rw [List.length_append, List.length_append, List.length_map, List.length_map, avg_len, avg_len]
        exact Nat.le_trans (show 2 + (2 + 2) + 1 ≤ 7 by decide) (by decide)
      · refine q _ r2 st _ (by rw [st9, o9, if_neg b1]) ((s1.trans (s18.trans (s9.trans (t1.trans (same_new m2))))).but a) (hs.same (s1.trans (s18.trans (s9.trans (t1.trans (same_new m2)))))) ?_
        show upd _ r2 _ r2 = _
        rw [upd_same]
        simp only [List.map_cons, List.map_append, List.map_nil, List.cons_append, List.nil_append, List.append_assoc]
        rfl
theorem sc_count_blends : FnScope ["store", "numbers", "items", "many"] ["store", "numbers", "items"] (defScope s_count_blends) := ⟨rfl, rfl, rfl, by decide +kernel, rfl, by decide +kernel, by decide +kernel⟩
theorem ok_count_blends (c : Ctx w K mg h) : C8.Cal PP w K mg base 5 "count_blends" (spDeed K 10 0) [] := by
  refine c.cal (k := 4) (g_count_blends c) (F_count_blends c) sc_count_blends (fun _ _ _ _ _ _ us hl => match us, hl with | [_, _, _], _ => rfl) (fun vs H Q E z => ?_) (fun cdv A outer s H vs Q E hr z => ?_)
  · obtain ⟨a, b, e, s, ns, is, rfl, _⟩ := z
    rfl
  · obtain ⟨a, b, e, st, ns, is, rfl, hs, hN, hl, hI, hil, q⟩ := z
    cases len0 hl
    obtain ⟨dx, bb, t, ha, hb, ht⟩ := id hs
    refine ⟨_, (pss_cons (ps_set (i := 3) sc_count_blends.nd rfl (Or.inl rfl) (pe_callB call_len_seq (by rfl) (m_len c) PySem.boot_len (pa_cons (C8.pe_c (ok_available_blends (K := K) c) hr (by decide) rfl (pa_cons (pe_fld (pv 0) rfl) (pa_cons (pe_fld (pv 0) rfl) pa_nil))) pa_nil)))
      (pss_one (ps_ret (pe_lst (pa_cons (pv 3) (pa_cons (pe_callB call_len_seq (by rfl) (m_len c) PySem.boot_len (pa_cons (C8.pe_c (ok_valid_blends (K := K) c) hr (by decide) rfl (pa_cons (pe_fld (pv 0) rfl) (pa_cons (pe_fld (pv 0) rfl) (pa_cons (pe_fld (pv 0) rfl) pa_nil)))) pa_nil)) pa_nil)))))), ?_⟩
    refine ⟨_, rfl, a, _, dx, _, _, rfl, ha, cls_Store c, no_Store_bins c, sF_bins, _, rfl, a, _, dx, _, _, rfl, ha, cls_Store c, no_Store_weight c, sF_weight, bb, st.bins, _, rfl, hb, ht.2.n, fun H1 p1 s1 hl1 => ?_⟩
    obtain ⟨v1, e1, pp1⟩ := hl1
    refine ⟨p1, v1, rfl, .inl (.inl (.inl e1)), ?_⟩
    refine ⟨_, rfl, _, rfl, a, _, dx, _, _, rfl, s1 _ _ ha, cls_Store c, no_Store_bins c, sF_bins, _, rfl, a, _, dx, _, _, rfl, s1 _ _ ha, cls_Store c, no_Store_weight c, sF_weight, _, rfl, a, _, dx, _, _, rfl, s1 _ _ ha, cls_Store c, no_Store_bounds c, sF_bounds, bb, _, t, st.bins, st.request, rfl, hb.same s1, ht.2.n, ht.same s1, fun H2 p2 s2 hl2 => ?_⟩
    obtain ⟨v2, e2, pp2⟩ := hl2
    refine ⟨p2, v2, rfl, .inl (.inl (.inl e2)), le2, fun r nr => ?_⟩
    have sAll := (s1.trans s2).trans (same_new (o := .lst [V.int (v1.length : Nat), V.int (v2.length : Nat)]) nr)
    refine q _ r st _ (by rw [st10, o10]) (sAll.but a) (hs.same sAll) ?_
    rw [← pp1.length, ← pp2.length]
    exact upd_same
theorem sc_greatest_amount : FnScope ["store", "numbers", "items"] ["store", "numbers", "items"] (defScope s_greatest_amount) := ⟨rfl, rfl, rfl, by decide +kernel, rfl, by decide +kernel, by decide +kernel⟩
theorem ok_greatest_amount (c : Ctx w K mg h) : C8.Cal PP w K mg base 6 "greatest_amount" (spDeed K 11 0) [] := by
  refine c.cal (k := 5) (g_greatest_amount c) (F_greatest_amount c) sc_greatest_amount (fun _ _ _ _ _ _ us hl => match us, hl with | [_, _, _], _ => rfl) (fun vs H Q E z => ?_) (fun cdv A outer s H vs Q E hr z => ?_)
  · obtain ⟨a, b, e, s, ns, is, rfl, _⟩ := z
    rfl
  · obtain ⟨a, b, e, st, ns, is, rfl, hs, hN, hl, hI, hil, q⟩ := z
    cases len0 hl
    obtain ⟨dx, bb, t, ha, hb, ht⟩ := id hs
    refine ⟨_, (pss_one (ps_ret (pe_lst (pa_cons (C8.pe_c (ok_greatest_weight (K := K) c) hr (by decide) rfl (pa_cons (pe_fld (pv 0) rfl) (pa_cons (pe_fld (pv 0) rfl) (pa_cons (pe_glob (v := .int (30)) rfl (i_MAX_WEIGHT c).choose_spec ⟨_, rfl⟩) pa_nil)))) pa_nil)))), ?_⟩
    refine ⟨_, rfl, a, _, dx, _, _, rfl, ha, cls_Store c, no_Store_bins c, sF_bins, _, rfl, a, _, dx, _, _, rfl, ha, cls_Store c, no_Store_bounds c, sF_bounds, bb, t, st.bins, st.request, rfl, hb, ht, fun H1 k s1 hk => ⟨le1, fun r nr => ?_⟩⟩
    have sAll := s1.trans (same_new (o := .lst [V.int (k : Nat)]) nr)
    exact q _ r st _ (by rw [st11, o11 st hk]) (sAll.but a) (hs.same sAll) ints1
theorem sc_obstacle : FnScope ["store", "numbers", "items"] ["store", "numbers", "items"] (defScope s_obstacle) := ⟨rfl, rfl, rfl, by decide +kernel, rfl, by decide +kernel, by decide +kernel⟩
theorem ok_obstacle (c : Ctx w K mg h) : C8.Cal PP w K mg base 5 "obstacle" (spDeed K 13 0) [] := by
  refine c.cal (k := 4) (g_obstacle c) (F_obstacle c) sc_obstacle (fun _ _ _ _ _ _ us hl => match us, hl with | [_, _, _], _ => rfl) (fun vs H Q E z => ?_) (fun cdv A outer s H vs Q E hr z => ?_)
  · obtain ⟨a, b, e, s, ns, is, rfl, _⟩ := z
    rfl
  · obtain ⟨a, b, e, st, ns, is, rfl, hs, hN, hl, hI, hil, q⟩ := z
    cases len0 hl
    obtain ⟨dx, bb, t, ha, hb, ht⟩ := id hs
    refine ⟨_, (pss_one (ps_ret (pe_lst (pa_cons (C8.pe_c (ok_obstacle_of (K := K) c) hr (by decide) rfl (pa_cons (pe_fld (pv 0) rfl) (pa_cons (pe_fld (pv 0) rfl) (pa_cons (pe_fld (pv 0) rfl) pa_nil)))) pa_nil)))), ?_⟩
    refine ⟨_, rfl, a, _, dx, _, _, rfl, ha, cls_Store c, no_Store_bins c, sF_bins, _, rfl, a, _, dx, _, _, rfl, ha, cls_Store c, no_Store_weight c, sF_weight, _, rfl, a, _, dx, _, _, rfl, ha, cls_Store c, no_Store_bounds c, sF_bounds, bb, _, t, st.bins, st.request, rfl, hb, ht.2.n, ht, fun H1 s1 => ⟨le1, fun r nr => ?_⟩⟩
    have sAll := s1.trans (same_new (o := .lst [V.int (obstacleN st.bins st.request st.request.kilograms : Nat)]) nr)
    exact q _ r st _ (by rw [st13, o13]) (sAll.but a) (hs.same sAll) ints1
/-- [f(store.bins, blend) for blend in blends] -/
theorem totals_lc (c : Ctx w K mg h) {p : Sr96.Bin → Nat} {a dx bb pl : Addr} {n t m : V} {bs : List Sr96.Bin} {l : List (List Nat)} {H : Hp} {y1 y2 y3 y5 y6 : Option V} {Q : VK} (ha : H a = some (.ins (CS K) dx (sF (.ref bb) n t m))) (hb : Bins H bb bs) (hl : LsAt RBlend H pl l) (lid : l.length ≤ 1000000)
    (q : ∀ H' D, Same H H' → Nats H' D (l.map (Sr96.total p bs)) → Q (.ref D) H') :
    tLc (iList K (tVar 4)) (gName 7) tYes (tCall (spTotal p) [] E0 (tCons (tFld K (tVar 0) "bins") (tCons (tVar 7) tNil))) [7] [some (.ref a), y1, y2, y3, some (.ref pl), y5, y6, none] H Q := by
  refine ⟨.ref pl, rfl, pl, rfl, ⟨_, .inl (.inl hl.choose_spec.1)⟩, fun D nD => ?_⟩
  refine lc_ls (p := fun _ => true) (f := Sr96.total p bs) mBlend mNat hl nD lid (fun x v H2 hx sm hD rv Z Zf kz kf => ?_) (fun H2 sm hl2 => ?_)
  · obtain ⟨b, rfl, hb2⟩ := rv
    exact ⟨rfl, _, rfl, a, _, dx, _, _, rfl, sm _ _ ha, cls_Store c, no_Store_bins c, sF_bins, _, rfl, bb, b, bs, x, rfl, hb.same sm, del_same _ _ _ _ hb2, fun H3 s3 => kz rfl _ _ s3 rfl⟩
  · rw [filter_all] at hl2
    exact q _ D sm hl2.nats
theorem nats_pos {H : Hp} {p : Addr} {x : List Nat} (h : Nats H p x) : H p = some (.lst ((x.map fun n : Nat => (n : Int)).map V.int)) := by
  rw [← nv_int]
  exact h
theorem nat_mem {l : List Nat} {m : Int} (h : m ∈ l.map fun n : Nat => (n : Int)) : ∃ k : Nat, m = (k : Int) ∧ k ∈ l := by
  obtain ⟨k, hk, e⟩ := List.mem_map.mp h
  exact ⟨k, e.symm, hk⟩
theorem sc_extreme_averages : FnScope ["store", "numbers", "items", "weight", "blends", "strengths", "ashes", "blend"] ["store", "numbers", "items"] (defScope s_extreme_averages) := ⟨rfl, rfl, rfl, by decide +kernel, rfl, by decide +kernel, by decide +kernel⟩
theorem ok_extreme_averages (c : Ctx w K mg h) : C8.Cal PP w K mg base 4 "extreme_averages" (spDeed K 12 1) [] := by
  refine c.cal (k := 3) (g_extreme_averages c) (F_extreme_averages c) sc_extreme_averages (fun _ _ _ _ _ _ us hl => match us, hl with | [_, _, _], _ => rfl) (fun vs H Q E z => ?_) (fun cdv A outer s H vs Q E hr z => ?_)
  · obtain ⟨a, b, e, s, ns, is, rfl, _⟩ := z
    rfl
  · obtain ⟨a, b, e, st, ns, is, rfl, hs, hN, hl, hI, hil, q⟩ := z
    obtain ⟨i, rfl⟩ := len1 hl
    obtain ⟨dx, bb, t, ha, hb, ht⟩ := id hs
    have sq : SqL K H b ([i].map V.int) := .inl (.inl hN)
    refine ⟨_, (pss_cons (ps_set (i := 3) sc_extreme_averages.nd rfl (Or.inl rfl) (pe_ix ix_list (pv 1) pe_int (fun _ _ => rfl)))
      (pss_cons (ps_if (pt_not (pt_val (C8.pe_c (ok_is_within (K := K) c) hr (by decide) rfl (pa_cons (pv 3) (pa_cons pe_int (pa_cons (pe_glob (v := .int (30)) rfl (i_MAX_WEIGHT c).choose_spec ⟨_, rfl⟩) pa_nil)))))) (pss_one (ps_ret (pe_lst (pa_cons (pe_glob (v := .int (-22)) rfl (i_OUT_OF_RANGE c).choose_spec ⟨_, rfl⟩) pa_nil)))) pss_nil)
      (pss_cons (ps_set (i := 4) sc_extreme_averages.nd rfl (Or.inl rfl) (C8.pe_c (ok_available_blends (K := K) c) hr (by decide) rfl (pa_cons (pe_fld (pv 0) rfl) (pa_cons (pv 3) pa_nil))))
      (pss_cons (ps_if (pt_cmpR (op_eqD hr.units) (pv 4) (pe_lst pa_nil) (nomark _)) (pss_one (ps_ret (pe_lst (pa_cons (pe_glob (v := .int (-33)) rfl (i_NO_BLEND_operations c).choose_spec ⟨_, rfl⟩) pa_nil)))) pss_nil)
      (pss_cons (ps_setLc (i := 5) (own := [("blend", 7)]) (g := (gName 7)) (tt := tYes) (te := (tCall (spTotal Sr96.Bin.strength) [] E0 (tCons (tFld K (tVar 0) "bins") (tCons (tVar 7) tNil)))) rfl sc_extreme_averages.nd rfl rfl (sw_true rfl rfl rfl (by decide +kernel)) (pi_list (pv 4)) (blkOk_by (own := [("blend", 7)]) (N := ["store", "numbers", "items", "weight", "blends", "strengths", "ashes", "blend"]) (sc := defScope s_extreme_averages) (by decide +kernel)) (fun _ _ _ _ _ => (pg_name (i := 7) sc_extreme_averages.nd rfl (Or.inl rfl))) (fun _ _ _ _ _ => pts_nil) (fun _ _ _ _ _ => (C8.pe_c (ok_strength_sum (K := K) c) hr (by decide) rfl (pa_cons (pe_fld (pv 0) rfl) (pa_cons (pv 7) pa_nil)))))
      (pss_cons (ps_setLc (i := 6) (own := [("blend", 7)]) (g := (gName 7)) (tt := tYes) (te := (tCall (spTotal Sr96.Bin.ash) [] E0 (tCons (tFld K (tVar 0) "bins") (tCons (tVar 7) tNil)))) rfl sc_extreme_averages.nd rfl rfl (sw_true rfl rfl rfl (by decide +kernel)) (pi_list (pv 4)) (blkOk_by (own := [("blend", 7)]) (N := ["store", "numbers", "items", "weight", "blends", "strengths", "ashes", "blend"]) (sc := defScope s_extreme_averages) (by decide +kernel)) (fun _ _ _ _ _ => (pg_name (i := 7) sc_extreme_averages.nd rfl (Or.inl rfl))) (fun _ _ _ _ _ => pts_nil) (fun _ _ _ _ _ => (C8.pe_c (ok_ash_sum (K := K) c) hr (by decide) rfl (pa_cons (pe_fld (pv 0) rfl) (pa_cons (pv 7) pa_nil)))))
      (pss_one (ps_ret (pe_op op_cat (pe_op op_cat (pe_op op_cat (pe_lst (pa_cons pe_int pa_nil)) (C8.pe_c (ok_average (K := K) c) hr (by decide) rfl (pa_cons (pe_callB (cr_min rfl) (by rfl) (m_min c) (by decide +kernel) (pa_cons (pv 5) pa_nil)) (pa_cons (pv 3) pa_nil)))) (C8.pe_c (ok_average (K := K) c) hr (by decide) rfl (pa_cons (pe_callB (cr_max rfl) (by rfl) (m_max c) (by decide +kernel) (pa_cons (pv 5) pa_nil)) (pa_cons (pv 3) pa_nil)))) (C8.pe_c (ok_average (K := K) c) hr (by decide) rfl (pa_cons (pe_callB (cr_min rfl) (by rfl) (m_min c) (by decide +kernel) (pa_cons (pv 6) pa_nil)) (pa_cons (pv 3) pa_nil)))))))))))), ?_⟩
    refine ⟨_, rfl, b, _, 0, _, rfl, rfl, sq, atI_nat (j := 0) rfl, ?_⟩
    refine ⟨_, rfl, _, _, _, rfl, _, rfl, ?_⟩
    cases e1 : inRange i 1 30 with
    | false => exact iteT ⟨le1, fun r nr => q _ r st [-22] (by rw [st12, o12_bad st e1]) ((same_new nr).but a) (hs.same (same_new nr)) ints1⟩
    | true =>
      obtain ⟨k1, k2⟩ : 1 ≤ i ∧ i ≤ 30 := by
        unfold SrCommon.inRange at e1
        simp only [Bool.and_eq_true, decide_eq_true_eq] at e1
        exact e1
      obtain ⟨n, rfl⟩ : ∃ n : Nat, i = (n : Int) := ⟨i.toNat, by omega⟩
      refine iteF ?_
      refine ⟨_, rfl, a, _, dx, _, _, rfl, ha, cls_Store c, no_Store_bins c, sF_bins, _, rfl, bb, st.bins, n, rfl, hb, by omega, fun H1 pl s1 hl1 => ?_⟩
      refine ⟨_, rfl, le0, fun e5 n5 => ?_⟩
      have s5 := same_new (o := .lst []) n5
      have s15 := s1.trans s5
      have hl5 := hl1.same mBlend s5
      obtain ⟨ds, g1, g2, g3⟩ := hl5.dp (K := K) cBlend
      refine ⟨.list ds, .list [], g1, dp_nil upd_same, g2, rfl, _, rfl, ?_⟩
      rw [g3]
      cases e0 : (Sr96.blendsFrom st.bins n).isEmpty with
      | true => exact iteT ⟨le1, fun r nr => q _ r st [-33] (by rw [st12, o12_none st e1 (List.isEmpty_iff.mp e0)]) ((s15.trans (same_new nr)).but a) (hs.same (s15.trans (same_new nr))) ints1⟩
      | false =>
        have hne : Sr96.blendsFrom st.bins n ≠ [] := fun z => by
          rw [z] at e0
          cases e0
        have lid := Nat.le_trans (blends_lid hb.2 n) (show 923521 ≤ 1000000 by decide)
        have hpos : 0 < (Sr96.blendsFrom st.bins n).length := List.length_pos_iff.mpr hne
        refine iteF ?_
        dsimp only [tNext, tSeq, tAsg]
        refine totals_lc (p := Sr96.Bin.strength) c (s15 _ _ ha) (hb.same s15) hl5 lid fun H6 D s6 hD => ?_
        have s16 := s15.trans s6
        dsimp only [gName, tSeq, tAsg]
        refine totals_lc (p := Sr96.Bin.ash) c (s16 _ _ ha) (hb.same s16) (hl5.same mBlend s6) lid fun H7 G s7 hG => ?_
        have s17 := s16.trans s7
        have hD7 := hD.same s7
        -- return [0] + average(..) + average(..) + average(..)
        refine ⟨le1, fun z1 w1 => ?_⟩
        have u1 := same_new (o := .lst [V.int 0]) w1
        refine ⟨_, rfl, D, _, rfl, .inl (.inl (nats_pos (hD7.same u1))), by rw [List.length_map, List.length_map]; exact hpos, fun m1 gm1 hl1 => ?_⟩
        obtain ⟨m1, rfl, hm1⟩ := nat_mem gm1
        refine ⟨_, rfl, m1, n, rfl, by omega, fun H8 z2 s8 hz2 => ?_⟩
        refine ⟨z1, z2, _, _, rfl, rfl, s8 _ _ upd_same, hz2, ?_, fun z3 w3 => ?_⟩
        · rw [List.length_map, avg_len]
          exact Nat.le_trans (show 1 + 2 ≤ 3 by decide) (by decide)
        have u3 := same_new (o := .lst ([V.int 0] ++ (averageL m1 n).map V.int)) w3
        have s19 := u1.trans (s8.trans u3)
        refine ⟨_, rfl, D, _, rfl, .inl (.inl (nats_pos (hD7.same s19))), by rw [List.length_map, List.length_map]; exact hpos, fun m2 gm2 hl2 => ?_⟩
        obtain ⟨m2, rfl, hm2⟩ := nat_mem gm2
        refine ⟨_, rfl, m2, n, rfl, by omega, fun H9 z4 s9 hz4 => ?_⟩
        refine ⟨z3, z4, _, _, rfl, rfl, s9 _ _ upd_same, hz4, ?_, fun z5 w5 => ?_⟩
        · rw [List.length_append, List.length_map, List.length_map, avg_len, avg_len]
          exact Nat.le_trans (show 1 + 2 + 2 ≤ 5 by decide) (by decide)
        have u5 := same_new (o := .lst (([V.int 0] ++ (averageL m1 n).map V.int) ++ (averageL m2 n).map V.int)) w5
        have s20 := s19.trans (s9.trans u5)
        refine ⟨_, rfl, G, _, rfl, .inl (.inl (nats_pos (hG.same s20))), by rw [List.length_map, List.length_map]; exact hpos, fun m3 gm3 hl3 => ?_⟩
        obtain ⟨m3, rfl, hm3⟩ := nat_mem gm3
        refine ⟨_, rfl, m3, n, rfl, by omega, fun H10 z6 s10 hz6 => ?_⟩
        refine ⟨z5, z6, _, _, rfl, rfl, s10 _ _ upd_same, hz6, ?_, fun z7 w7 => ?_⟩
        · rw [List.length_append, List.length_append, List.length_map, List.length_map, List.length_map, avg_len, avg_len, avg_len]
          exact Nat.le_trans (show 1 + 2 + 2 + 2 ≤ 7 by decide) (by decide)
        have sAll := s17.trans (s20.trans (s10.trans (same_new (o := .lst ((([V.int 0] ++ (averageL m1 n).map V.int) ++ (averageL m2 n).map V.int) ++ (averageL m3 n).map V.int)) w7)))
        have up : ∀ {l : List Nat} {k : Nat}, k ∈ l → (k : Int) ∈ l.map fun n : Nat => (n : Int) := fun h => List.mem_map_of_mem h
        refine q _ z7 st _ (by rw [st12, o12_some st e1 hne hm1 (fun y hy => Int.ofNat_le.mp (hl1 _ (up hy))) hm2 (fun y hy => Int.ofNat_le.mp (hl2 _ (up hy))) hm3 (fun y hy => Int.ofNat_le.mp (hl3 _ (up hy)))]) (sAll.but a) (hs.same sAll) ?_
        show upd _ z7 _ z7 = _
        rw [upd_same, List.map_append, List.map_append, List.map_append]
        rfl
theorem sc_cheapest_if_price : FnScope ["store", "numbers", "items", "place", "price", "refusal", "bins"] ["store", "numbers", "items"] (defScope s_cheapest_if_price) := ⟨rfl, rfl, rfl, by decide +kernel, rfl, by decide +kernel, by decide +kernel⟩
theorem ok_cheapest_if_price (c : Ctx w K mg h) : C8.Cal PP w K mg base 6 "cheapest_if_price" (spDeed K 14 2) [] := by
  refine c.cal (k := 5) (g_cheapest_if_price c) (F_cheapest_if_price c) sc_cheapest_if_price (fun _ _ _ _ _ _ us hl => match us, hl with | [_, _, _], _ => rfl) (fun vs H Q E z => ?_) (fun cdv A outer s H vs Q E hr z => ?_)
  · obtain ⟨a, b, e, s, ns, is, rfl, _⟩ := z
    rfl
  · obtain ⟨a, b, e, st, ns, is, rfl, hs, hN, hl, hI, hil, q⟩ := z
    obtain ⟨i, k, rfl⟩ := len2 hl
    obtain ⟨dx, bb, t, ha, hb, ht⟩ := id hs
    have sq : SqL K H b ([i, k].map V.int) := .inl (.inl hN)
    refine ⟨_, (pss_cons (ps_par (i := 3) (j := 4) rfl sc_cheapest_if_price.nd rfl rfl (by decide) rfl rfl (pa_cons (pe_ix ix_list (pv 1) pe_int (fun _ _ => rfl)) (pa_cons (pe_ix ix_list (pv 1) pe_int (fun _ _ => rfl)) pa_nil)) (by rfl))
      (pss_cons (ps_set (i := 5) sc_cheapest_if_price.nd rfl (Or.inl rfl) (C8.pe_c (ok_price_refusal (K := K) c) hr (by decide) rfl (pa_cons (pv 0) (pa_cons (pv 3) (pa_cons (pv 4) pa_nil)))))
      (pss_cons (ps_if (pt_cmpR (op_neD hr.units) (pv 5) (pe_lst pa_nil) (nomark _)) (pss_one (ps_ret (pv 5))) pss_nil)
      (pss_cons (ps_set (i := 6) sc_cheapest_if_price.nd rfl (Or.inl rfl) (C8.pe_c (ok_bins_with_price (K := K) c) hr (by decide) rfl (pa_cons (pv 0) (pa_cons (pv 3) (pa_cons (pv 4) pa_nil)))))
      (pss_one (ps_ret (C8.pe_c (ok_told_blend (K := K) c) hr (by decide) rfl (pa_cons (pv 6) (pa_cons (C8.pe_c (ok_cheapest_blend (K := K) c) hr (by decide) rfl (pa_cons (pv 6) (pa_cons (pe_fld (pv 0) rfl) (pa_cons (pe_fld (pv 0) rfl) pa_nil)))) pa_nil))))))))), ?_⟩
    refine ⟨_, rfl, b, _, 0, _, rfl, rfl, sq, atI_nat (j := 0) rfl, _, rfl, b, _, 1, _, rfl, rfl, sq, atI_nat (j := 1) rfl, _, _, rfl, ?_⟩
    refine ⟨_, rfl, _, rfl, _, rfl, a, st, i, k, rfl, hs, fun H1 r s1 hr1 => ?_⟩
    refine ⟨_, rfl, le0, fun e5 n5 => ?_⟩
    have s5 := same_new (o := .lst []) n5
    have s15 := s1.trans s5
    obtain ⟨ds, g1, g2, g3⟩ := ((hr1.same s5).ls).dp (K := K) cInt
    refine ⟨.list ds, .list [], g1, dp_nil upd_same, g2, rfl, _, rfl, ?_⟩
    rw [g3]
    cases e1 : Sr96.isBin st i with
    | false =>
      have er : refusalL st i k = [-2] := if_pos e1
      rw [er] at hr1 ⊢
      exact iteT ⟨_, rfl, q _ r st [-2] (by rw [st14, o14, if_pos e1]) (s15.but a) (hs.same s15) (hr1.same s5)⟩
    | true =>
      cases e2 : inRange k 1 99 with
      | false =>
        have er : refusalL st i k = [-22] := (if_neg (by rw [e1]; decide)).trans (if_neg (by rw [e2]; decide))
        rw [er] at hr1 ⊢
        exact iteT ⟨_, rfl, q _ r st [-22] (by rw [st14, o14, if_neg (by rw [e1]; decide), if_pos e2]) (s15.but a) (hs.same s15) (hr1.same s5)⟩
      | true =>
        have er : refusalL st i k = [] := (if_neg (by rw [e1]; decide)).trans (if_pos e2)
        rw [er]
        obtain ⟨n, y, rfl, hy, hat⟩ := isBin_nat e1
        obtain ⟨k1, k2⟩ : 1 ≤ k ∧ k ≤ 99 := by
          unfold SrCommon.inRange at e2
          simp only [Bool.and_eq_true, decide_eq_true_eq] at e2
          exact e2
        obtain ⟨kn, rfl⟩ : ∃ kn : Nat, k = (kn : Int) := ⟨k.toNat, by omega⟩
        refine iteF ?_
        refine ⟨_, rfl, _, rfl, _, rfl, a, st, n, kn, y, rfl, hs.same s15, hy, by omega, fun H2 p s2 hp => ?_⟩
        have sA := s15.trans s2
        refine ⟨_, rfl, _, rfl, _, rfl, a, _, dx, _, _, rfl, sA _ _ ha, cls_Store c, no_Store_weight c, sF_weight, _, rfl, a, _, dx, _, _, rfl, sA _ _ ha, cls_Store c, no_Store_bounds c, sF_bounds, ?_⟩
        refine ⟨p, _, t, _, st.request, rfl, hp, ht.2.n, ht.same sA, fun H3 v s3 hv => ?_⟩
        refine ⟨p, v, _, _, rfl, hp.same s3, hv, cheap_len hp.2, fun H4 p4 s4 hp4 => ?_⟩
        have sB := sA.trans (s3.trans s4)
        refine q _ p4 st _ ?_ (sB.but a) (hs.same sB) hp4
        rw [st14, o14, if_neg (by rw [e1]; decide), if_neg (by rw [e2]; decide), Int.toNat_natCast, Int.toNat_natCast, hat]
        rfl
theorem sc_cheapest_without : FnScope ["store", "numbers", "items", "place", "bins"] ["store", "numbers", "items"] (defScope s_cheapest_without) := ⟨rfl, rfl, rfl, by decide +kernel, rfl, by decide +kernel, by decide +kernel⟩
theorem ok_cheapest_without (c : Ctx w K mg h) : C8.Cal PP w K mg base 6 "cheapest_without" (spDeed K 15 1) [] := by
  refine c.cal (k := 5) (g_cheapest_without c) (F_cheapest_without c) sc_cheapest_without (fun _ _ _ _ _ _ us hl => match us, hl with | [_, _, _], _ => rfl) (fun vs H Q E z => ?_) (fun cdv A outer s H vs Q E hr z => ?_)
  · obtain ⟨a, b, e, s, ns, is, rfl, _⟩ := z
    rfl
  · obtain ⟨a, b, e, st, ns, is, rfl, hs, hN, hl, hI, hil, q⟩ := z
    obtain ⟨i, rfl⟩ := len1 hl
    obtain ⟨dx, bb, t, ha, hb, ht⟩ := id hs
    have sq : SqL K H b ([i].map V.int) := .inl (.inl hN)
    refine ⟨_, (pss_cons (ps_set (i := 3) sc_cheapest_without.nd rfl (Or.inl rfl) (pe_ix ix_list (pv 1) pe_int (fun _ _ => rfl)))
      (pss_cons (ps_if (pt_not (pt_val (C8.pe_c (ok_has_bin (K := K) c) hr (by decide) rfl (pa_cons (pv 0) (pa_cons (pv 3) pa_nil))))) (pss_one (ps_ret (pe_lst (pa_cons (pe_glob (v := .int (-2)) rfl (i_NO_BIN c).choose_spec ⟨_, rfl⟩) pa_nil)))) pss_nil)
      (pss_cons (ps_set (i := 4) sc_cheapest_without.nd rfl (Or.inl rfl) (C8.pe_c (ok_bins_with_kilograms (K := K) c) hr (by decide) rfl (pa_cons (pv 0) (pa_cons (pv 3) (pa_cons pe_int pa_nil)))))
      (pss_one (ps_ret (C8.pe_c (ok_told_blend (K := K) c) hr (by decide) rfl (pa_cons (pv 4) (pa_cons (C8.pe_c (ok_cheapest_blend (K := K) c) hr (by decide) rfl (pa_cons (pv 4) (pa_cons (pe_fld (pv 0) rfl) (pa_cons (pe_fld (pv 0) rfl) pa_nil)))) pa_nil)))))))), ?_⟩
    refine ⟨_, rfl, b, _, 0, _, rfl, rfl, sq, atI_nat (j := 0) rfl, ?_⟩
    refine ⟨_, rfl, _, rfl, a, st, i, rfl, hs, _, rfl, ?_⟩
    cases e1 : Sr96.isBin st i with
    | false => exact iteT ⟨le1, fun r nr => q _ r st [-2] (by rw [st15, o15, if_pos e1]) ((same_new nr).but a) (hs.same (same_new nr)) ints1⟩
    | true =>
      obtain ⟨n, y, rfl, hy, hat⟩ := isBin_nat e1
      refine iteF ?_
      refine ⟨_, rfl, _, rfl, a, st, n, 0, y, rfl, hs, hy, by omega, fun H2 p sA hp => ?_⟩
      refine ⟨_, rfl, _, rfl, _, rfl, a, _, dx, _, _, rfl, sA _ _ ha, cls_Store c, no_Store_weight c, sF_weight, _, rfl, a, _, dx, _, _, rfl, sA _ _ ha, cls_Store c, no_Store_bounds c, sF_bounds, ?_⟩
      refine ⟨p, _, t, _, st.request, rfl, hp, ht.2.n, ht.same sA, fun H3 v s3 hv => ?_⟩
      refine ⟨p, v, _, _, rfl, hp.same s3, hv, cheap_len hp.2, fun H4 p4 s4 hp4 => ?_⟩
      have sB := sA.trans (s3.trans s4)
      refine q _ p4 st _ ?_ (sB.but a) (hs.same sB) hp4
      rw [st15, o15, if_neg (by rw [e1]; decide), Int.toNat_natCast, hat]
      rfl
theorem flat_bin {bs : List Sr96.Bin} : (bs.flatMap binL).length = 4 * bs.length := by
  induction bs with
  | nil => rfl
  | cons b bs ih =>
    rw [List.flatMap_cons, List.length_append, ih, List.length_cons]
    show 4 + 4 * bs.length = _
    omega
theorem sc_describe : FnScope ["store", "numbers", "items", "found", "flour"] ["store", "numbers", "items"] (defScope s_describe) := ⟨rfl, rfl, rfl, by decide +kernel, rfl, by decide +kernel, by decide +kernel⟩
theorem ok_describe (c : Ctx w K mg h) : C8.Cal PP w K mg base 1 "describe" (spDeed K 16 0) [] := by
  refine c.cal (k := 0) (g_describe c) (F_describe c) sc_describe (fun _ _ _ _ _ _ us hl => match us, hl with | [_, _, _], _ => rfl) (fun vs H Q E z => ?_) (fun cdv A outer s H vs Q E hr z => ?_)
  · obtain ⟨a, b, e, s, ns, is, rfl, _⟩ := z
    rfl
  · obtain ⟨a, b, e, st, ns, is, rfl, hs, hN, hl, hI, hil, q⟩ := z
    cases len0 hl
    obtain ⟨dx, bb, t, ha, hb, ht⟩ := id hs
    obtain ⟨us, eb, pb⟩ := hb.1
    have h4 := hb.2.len
    refine ⟨_, (pss_cons (ps_set (i := 3) sc_describe.nd rfl (Or.inl rfl) (pe_lst (pa_cons (pe_callB call_len_seq (by rfl) (m_len c) PySem.boot_len (pa_cons (pe_fld (pv 0) rfl) pa_nil)) pa_nil)))
      (pss_cons (ps_for PassesOwn.never rfl (pi_list (pe_fld (pv 0) rfl)) (pg_name (i := 4) sc_describe.nd rfl (Or.inl rfl)) (pss_one (ps_expr (pe_bm PySem.F.plainAttrs_list PySem.F.slot_list_extend PySem.F.type_list_extend mt_extend (pv 3) (pa_cons (pe_callTy call_list_of (by rfl) (m_list c) (by decide +kernel) (pa_cons (pv 4) pa_nil)) pa_nil)))))
      (pss_one (ps_ret (pe_op op_cat (pe_op op_cat (pe_op op_cat (pv 3) (pe_lst (pa_cons (pe_fld (pv 0) rfl) pa_nil))) (pe_callTy call_list_of (by rfl) (m_list c) (by decide +kernel) (pa_cons (pe_fld (pv 0) rfl) pa_nil))) (pe_lst (pa_cons (pe_fld (pv 0) rfl) pa_nil))))))), ?_⟩
    refine ⟨_, rfl, a, _, dx, _, _, rfl, ha, cls_Store c, no_Store_bins c, sF_bins, bb, us, rfl, .inl (.inl (.inl eb)), le1, fun o no => ?_⟩
    rw [pb.length]
    have so := same_new (o := .lst [V.int (st.bins.length : Nat)]) no
    refine ⟨_, rfl, a, _, dx, _, _, rfl, so _ _ ha, cls_Store c, no_Store_bins c, sF_bins, bb, rfl, ⟨us, .inl (.inl (so _ _ eb))⟩, for_it (walk_list (K := K) (a := bb) (xs := us)) (fun i σ H' => ∃ y, σ = [some (.ref a), some (.ref b), some (.ref e), some (.ref o), y] ∧ Same H H' ∧ Ints H' o ([(st.bins.length : Int)] ++ (st.bins.take i).flatMap binL))
      ⟨none, rfl, so, upd_same⟩ (fun i σ H' _ ⟨_, _, s, _⟩ => .inl (.inl (s _ _ eb))) (fun i v σ H1 H2 hi hP hy => ?_) (fun σ H1 hP => ?_)⟩
    · obtain ⟨e2, ev⟩ := hy
      subst e2
      obtain ⟨y, rfl, s, hO⟩ := hP
      obtain ⟨d, ed, tb, rfl, htb⟩ := pair_got pb ev
      refine ⟨_, rfl, .inl ⟨rfl, _, .inl (.inl hO)⟩, _, rfl, tb, _, rfl, .inr (.inl (.inl (s _ _ htb))), fun p np => ?_⟩
      have sp := same_new (o := .lst (bv d)) np
      have hO2 := sp _ _ hO
      refine ⟨o, p, _, _, rfl, rfl, hO2, upd_same, ?_, ⟨_, rfl, same_upd_new (s.trans sp) no, ?_⟩⟩
      · rw [List.length_map, List.length_append, flat_bin, List.length_take]
        exact Nat.le_trans (show 1 + 4 * min i st.bins.length + 4 ≤ 30 by omega) (by decide)
      · show upd _ o _ o = _
        rw [upd_same, take_snoc ed, List.flatMap_append, List.flatMap_cons, List.flatMap_nil, List.append_nil, ← List.append_assoc]
        exact congrArg (fun l => some (HO.lst l)) (List.map_append (f := V.int) (l₁ := [(st.bins.length : Int)] ++ (st.bins.take i).flatMap binL) (l₂ := binL d)).symm
    · obtain ⟨y, rfl, s, hO⟩ := hP
      rw [pb.length, List.take_length] at hO
      have ha1 := s _ _ ha
      -- found + [store.weight] + list(store.bounds) + [store.spent]
      refine ⟨_, rfl, _, rfl, a, _, dx, _, _, rfl, ha1, cls_Store c, no_Store_weight c, sF_weight, le1, fun p1 n1 => ?_⟩
      have s1 := same_new (o := .lst [V.int (st.request.kilograms : Nat)]) n1
      have lf : (([(st.bins.length : Int)] ++ st.bins.flatMap binL).map V.int).length ≤ 17 := by
        rw [List.length_map, List.length_append, flat_bin, List.length_singleton]
        omega
      refine ⟨o, p1, _, _, rfl, rfl, s1 _ _ hO, upd_same, Nat.le_trans (Nat.add_le_add_right lf 1) (by decide), fun p2 n2 => ?_⟩
      have s2 := same_new (o := .lst (([(st.bins.length : Int)] ++ st.bins.flatMap binL).map V.int ++ [V.int (st.request.kilograms : Nat)])) n2
      have s12 := s1.trans s2
      refine ⟨_, rfl, a, _, dx, _, _, rfl, s12 _ _ ha1, cls_Store c, no_Store_bounds c, sF_bounds, t, _, rfl, .inr (.inl (.inl (s12 _ _ (s _ _ ht.1)))), fun p3 n3 => ?_⟩
      have s3 := same_new (o := .lst [V.int (st.request.minStrength : Nat), V.int (st.request.maxStrength : Nat), V.int (st.request.maxAsh : Nat)]) n3
      refine ⟨p2, p3, _, _, rfl, rfl, s3 _ _ upd_same, upd_same, ?_, fun p4 n4 => ?_⟩
      · rw [List.length_append]
        exact Nat.le_trans (Nat.add_le_add_right (Nat.add_le_add_right lf 1) 3) (by decide)
      have s4 := same_new (o := .lst ((([(st.bins.length : Int)] ++ st.bins.flatMap binL).map V.int ++ [V.int (st.request.kilograms : Nat)]) ++ [V.int (st.request.minStrength : Nat), V.int (st.request.maxStrength : Nat), V.int (st.request.maxAsh : Nat)])) n4
      have s14 := s12.trans (s3.trans s4)
      refine ⟨_, rfl, a, _, dx, _, _, rfl, s14 _ _ ha1, cls_Store c, no_Store_spent c, sF_spent, le1, fun p5 n5 => ?_⟩
      have s5 := same_new (o := .lst [V.int (st.spent : Nat)]) n5
      refine ⟨p4, p5, _, _, rfl, rfl, s5 _ _ upd_same, upd_same, ?_, fun p6 n6 => ?_⟩
      · rw [List.length_append, List.length_append]
        exact Nat.le_trans (Nat.add_le_add_right (Nat.add_le_add_right (Nat.add_le_add_right lf 1) 3) 1) (by decide)
      · have sAll := s.trans (s14.trans (s5.trans (same_new (o := .lst (((([(st.bins.length : Int)] ++ st.bins.flatMap binL).map V.int ++ [V.int (st.request.kilograms : Nat)]) ++ [V.int (st.request.minStrength : Nat), V.int (st.request.maxStrength : Nat), V.int (st.request.maxAsh : Nat)]) ++ [V.int (st.spent : Nat)])) n6)))
        refine q _ p6 st _ (by rw [st16, o16]) (sAll.but a) (hs.same sAll) ?_
        show upd _ p6 _ p6 = _
        rw [upd_same]
        simp only [List.map_append]
        rfl
end
end Fb

/-! FbAnswers: create, answer_to, list_end, answers. Source: src/FbAnswers.src, filled by gen_walk.py. -/
namespace Fb
open PySem PySem.Spec PyProof.Rows L2
/-! ### what no call touches: all but instances -/
def Keep (H H' : Hp) : Prop := ∀ b o, H b = some o → (∀ C dx fs, o ≠ .ins C dx fs) → H' b = some o
theorem Keep.of_same {H H' : Hp} (s : Same H H') : Keep H H' := fun b o e _ => s b o e
theorem Keep.trans {H H1 H2 : Hp} (s : Keep H H1) (t : Keep H1 H2) : Keep H H2 := fun b o e n => t b o (s b o e n) n
theorem Keep.of_but {H H' : Hp} {a C dx : Addr} {fs : List (Str × V)} (s : SameBut a H H') (ha : H a = some (.ins C dx fs)) : Keep H H' := fun b o e n => s b o e fun z => by
  subst z
  rw [ha] at e
  cases e
  exact n _ _ _ rfl
theorem Keep.lst {H H' : Hp} (k : Keep H H') {b : Addr} {xs : List V} (e : H b = some (.lst xs)) : H' b = some (.lst xs) := k b _ e fun _ _ _ z => by cases z
theorem Keep.seq {K : PySem.W.Frag} {H H' : Hp} (k : Keep H H') {b : Addr} {xs : List V} (h : SqL K H b xs) : SqL K H' b xs := by
  rcases h with (h | ⟨o, h⟩) | h
  · exact .inl (.inl (k.lst h))
  · exact .inl (.inr ⟨o, k b _ h fun _ _ _ z => by cases z⟩)
  · exact .inr h
section
variable {K : PySem.W.Frag} {H H' : Hp} {a d f : Addr} {st : Sr96.State} {s : Sr96.Store}
theorem DeskAt.same (h : DeskAt K H d st) (e : Same H H') : DeskAt K H' d st := by
  cases st with
  | none =>
    obtain ⟨dx, hd⟩ := h
    exact ⟨dx, e _ _ hd⟩
  | some s =>
    obtain ⟨dx, a, hd, hs⟩ := h
    exact ⟨dx, a, e _ _ hd, hs.same e⟩
theorem StoreAt.butI {C dx : Addr} {fs : List (Str × V)} (h : StoreAt K H a s) (hd : H d = some (.ins C dx fs)) (ne : a ≠ d) (e : SameBut d H H') : StoreAt K H' a s := by
  obtain ⟨dx, b, t, ha, hb, ht⟩ := h
  exact ⟨dx, b, t, e _ _ ha ne, hb.but hd e, ht.but hd e⟩
end
section
variable {w : World} {K : PySem.W.Frag} {mg : Str → Option Value} {base h : Heap}
/-! ### create -/
def spCreate (K : PySem.W.Frag) : Sp := fun vs H Q _ => ∃ d st, vs = [.ref d] ∧ DeskAt K H d st ∧ ∀ H' p, Keep H H' → DeskAt K H' d (some fresh) → Ints H' p [0] → Q (.ref p) H'
theorem sc_create : FnScope ["desk"] ["desk"] (defScope s_create) := ⟨rfl, rfl, rfl, by decide +kernel, rfl, by decide +kernel, by decide +kernel⟩
theorem ok_create (c : Ctx w K mg h) : C8.Cal PP w K mg base 3 "create" (spCreate K) [] := by
  refine c.cal (k := 2) (g_create c) (F_create c) sc_create (fun _ _ _ _ _ _ us hl => match us, hl with | [_], _ => rfl) (fun vs H Q E z => ?_) (fun cdv A outer s H vs Q E hr z => ?_)
  · obtain ⟨d, st, rfl, _⟩ := z
    rfl
  · obtain ⟨d, st, rfl, hd, q⟩ := z
    refine ⟨_, (pss_cons (ps_expr (C8.pe_mt (ok_Desk_place_store (K := K) c) hr (by decide) (pv 0) (pa_cons (pe_mk0 (ok_Store (K := K) c) hr (by decide) rfl) pa_nil)))
      (pss_one (ps_ret (pe_lst (pa_cons pe_int pa_nil))))), ?_⟩
    obtain ⟨dxd, v, hd⟩ : ∃ dxd v, H d = some (.ins (CD K) dxd (dF v)) := by
      cases st with
      | none =>
        obtain ⟨dx, e⟩ := hd
        exact ⟨dx, _, e⟩
      | some s =>
        obtain ⟨dx, a, e, _⟩ := hd
        exact ⟨dx, _, e⟩
    refine ⟨_, rfl, d, dxd, _, rfl, hd, dF_place, ?_⟩
    intro x dx nx ndx ne
    refine ⟨x, dx, rfl, upd_same, fun H1 sb hs => ⟨rfl, ?_⟩⟩
    have nx2 : (upd H dx (.own x)) x = none := by
      rw [upd_ne ne.symm]
      exact nx
    have s0 := (same_new (o := .own x) ndx).trans (same_new (o := .ins (CS K) dx []) nx2)
    have s1 : Same H H1 := SameBut.same s0 nx sb
    have hd1 := s1 _ _ hd
    have hxd : x ≠ d := (ne_of_none hd nx).symm
    refine ⟨d, dxd, v, .ref x, rfl, hd1, ⟨le1, fun p np => ?_⟩⟩
    have sd : SameBut d H1 (upd H1 d (.ins (CD K) dxd (dF (.ref x)))) := (SameBut.refl d H1).upd
    have sp := same_new (o := .lst [V.int 0]) np
    have hk : Keep H (upd H1 d (.ins (CD K) dxd (dF (.ref x)))) := (Keep.of_same s1).trans (Keep.of_but sd hd1)
    exact q _ p (hk.trans (Keep.of_same sp)) (DeskAt.same (st := some fresh) ⟨dxd, x, upd_same, hs.butI hd1 hxd sd⟩ sp) ints1
/-! ### one of the deeds, called by a local name -/
def tCallJ (i : Nat) (J : List (Addr × Sp)) (t : TA) : TE := fun σ H Q => ∃ f sp, (f, sp) ∈ J ∧ σ[i]? = some (some (.ref f)) ∧ t σ H fun vs H1 => sp vs H1 Q E0
theorem pe_callJ {X : Cx} {i k : Nat} {x : Str} {p pos : Pos} {e : Expr} {es : List Expr} {t : TA} {J : List (Addr × Sp)} (A : ∀ q ∈ J, Held X.prog X.w X.K X.mg X.base k q.1 q.2) (hr : Room k X.A) (hN : X.N[i]? = some x) (hv : Vis X.env.scope x) (ha : PA X (e :: es) t)
    (hdb : (x == ("__debug__" : Str)) = false := by decide) (hcd : (x == ("__classdict__" : Str)) = false := by decide)
    (he : starEach (e :: es) X.env = (false, eval e X.env) :: starEach es X.env := by rfl) (hpl : (backTo pos (starEach es X.env)).any (·.1) = false := by rfl) : PE X (.Call (.Name x p) (e :: es) [] pos) (tCallJ i J t) := by
  refine ⟨fun pins s σ H Q I z => ?_⟩
  obtain ⟨f, sp, hm, hs, ht⟩ := z
  obtain ⟨fd, ps, F, hk, hb⟩ := (A _ hm).ex
  have one := pe_callL (p := p) (pos := pos) (i := i) (f := f) (sp := sp) (dvs := []) (E := E0) F hr hN hv hk hb .nil pass0 ha hdb hcd he hpl
  refine one.run pins s σ H Q I ⟨hs, ?_⟩
  have e0 : (fun (vs : List V) (H1 : Hp) => sp (vs ++ []) H1 Q E0) = fun vs H1 => sp vs H1 Q E0 := by
    funext vs H1
    rw [List.append_nil]
  rw [e0]
  exact ht
def deeds (K : PySem.W.Frag) : List (Addr × Sp) := [(He.ga K "add_bin", spDeed K 1 4), (He.ga K "add_flour", spDeed K 2 2), (He.ga K "set_price", spDeed K 3 2), (He.ga K "empty_bin", spDeed K 4 1), (He.ga K "set_request", spDeed K 5 4),
  (He.ga K "answer_cheapest_blend", spDeed K 6 0), (He.ga K "make_cheapest_blend", spDeed K 7 0), (He.ga K "make_blend", spDeed K 8 0), (He.ga K "check_blend", spDeed K 9 0), (He.ga K "count_blends", spDeed K 10 0), (He.ga K "greatest_amount", spDeed K 11 0),
  (He.ga K "extreme_averages", spDeed K 12 1), (He.ga K "obstacle", spDeed K 13 0), (He.ga K "cheapest_if_price", spDeed K 14 2), (He.ga K "cheapest_without", spDeed K 15 1), (He.ga K "describe", spDeed K 16 0)]
theorem held_of {x : Str} {sp : Sp} {f : Addr} {k : Nat} (c8 : C8.Cal PP w K mg base k x sp []) (g : mg x = some (.ref f)) (hk : k ≤ 6) : Held PP w K mg base 6 f sp := by
  obtain ⟨f', fd, ps, ds, F, hm, kp, hb, hd⟩ := c8.ex
  rw [g] at hm
  cases hm
  cases hd
  exact ⟨fd, ps, F.mono hk, kp, hb⟩
theorem deeds_held (c : Ctx w K mg h) : ∀ q ∈ deeds K, Held PP w K mg base 6 q.1 q.2 := by
  intro q hq
  simp only [deeds, List.mem_cons, List.not_mem_nil, or_false] at hq
  rcases hq with rfl | rfl | rfl | rfl | rfl | rfl | rfl | rfl | rfl | rfl | rfl | rfl | rfl | rfl | rfl | rfl
  · exact held_of (ok_add_bin c) (g_add_bin c) (by decide)
  · exact held_of (ok_add_flour c) (g_add_flour c) (by decide)
  · exact held_of (ok_set_price c) (g_set_price c) (by decide)
  · exact held_of (ok_empty_bin c) (g_empty_bin c) (by decide)
  · exact held_of (ok_set_request c) (g_set_request c) (by decide)
  · exact held_of (ok_answer_cheapest_blend c) (g_answer_cheapest_blend c) (by decide)
  · exact held_of (ok_make_cheapest_blend c) (g_make_cheapest_blend c) (by decide)
  · exact held_of (ok_make_blend c) (g_make_blend c) (by decide)
  · exact held_of (ok_check_blend c) (g_check_blend c) (by decide)
  · exact held_of (ok_count_blends c) (g_count_blends c) (by decide)
  · exact held_of (ok_greatest_amount c) (g_greatest_amount c) (by decide)
  · exact held_of (ok_extreme_averages c) (g_extreme_averages c) (by decide)
  · exact held_of (ok_obstacle c) (g_obstacle c) (by decide)
  · exact held_of (ok_cheapest_if_price c) (g_cheapest_if_price c) (by decide)
  · exact held_of (ok_cheapest_without c) (g_cheapest_without c) (by decide)
  · exact held_of (ok_describe c) (g_describe c) (by decide)
theorem mem_at {α : Type} {l : List α} {i : Nat} {x : α} (h : l[i]? = some x) : x ∈ l := List.mem_of_getElem? h
theorem deed_at (K : PySem.W.Frag) : ∀ {j : Nat}, 1 ≤ j → j ≤ 16 → ∃ f, (tab_DEEDS.map (He.Dv.v K))[j - 1]? = some (.ref f) ∧ (f, spDeed K (j : Int) (wid j)) ∈ deeds K
  | 1, _, _ => ⟨_, rfl, mem_at (i := 0) rfl⟩
  | 2, _, _ => ⟨_, rfl, mem_at (i := 1) rfl⟩
  | 3, _, _ => ⟨_, rfl, mem_at (i := 2) rfl⟩
  | 4, _, _ => ⟨_, rfl, mem_at (i := 3) rfl⟩
  | 5, _, _ => ⟨_, rfl, mem_at (i := 4) rfl⟩
  | 6, _, _ => ⟨_, rfl, mem_at (i := 5) rfl⟩
  | 7, _, _ => ⟨_, rfl, mem_at (i := 6) rfl⟩
  | 8, _, _ => ⟨_, rfl, mem_at (i := 7) rfl⟩
  | 9, _, _ => ⟨_, rfl, mem_at (i := 8) rfl⟩
  | 10, _, _ => ⟨_, rfl, mem_at (i := 9) rfl⟩
  | 11, _, _ => ⟨_, rfl, mem_at (i := 10) rfl⟩
  | 12, _, _ => ⟨_, rfl, mem_at (i := 11) rfl⟩
  | 13, _, _ => ⟨_, rfl, mem_at (i := 12) rfl⟩
  | 14, _, _ => ⟨_, rfl, mem_at (i := 13) rfl⟩
  | 15, _, _ => ⟨_, rfl, mem_at (i := 14) rfl⟩
  | 16, _, _ => ⟨_, rfl, mem_at (i := 15) rfl⟩
  | 0, h, _ => by omega
  | _ + 17, _, h => by omega
/-! ### one call -/
def spAnswer (K : PySem.W.Frag) : Sp := fun vs H Q _ => ∃ d b e st ns is, ∃ j : Nat, vs = [.ref d, .int (j : Int), .ref b, .ref e] ∧ DeskAt K H d st ∧ j ≤ 16 ∧ Ints H b ns ∧ ns.length = wid j ∧ Ints H e is ∧ is.length ≤ 100000 ∧
  ∀ H' p, Keep H H' → DeskAt K H' d (stp st (mkc (j : Int) ns is)).1 → Ints H' p (stp st (mkc (j : Int) ns is)).2 → Q (.ref p) H'
theorem sc_answer_to : FnScope ["desk", "number", "numbers", "items", "deed"] ["desk", "number", "numbers", "items"] (defScope s_answer_to) := ⟨rfl, rfl, rfl, by decide +kernel, rfl, by decide +kernel, by decide +kernel⟩
theorem ok_answer_to (c : Ctx w K mg h) : C8.Cal PP w K mg base 7 "answer_to" (spAnswer K) [] := by
  refine c.cal (k := 6) (g_answer_to c) (F_answer_to c) sc_answer_to (fun _ _ _ _ _ _ us hl => match us, hl with | [_, _, _, _], _ => rfl) (fun vs H Q E z => ?_) (fun cdv A outer s H vs Q E hr z => ?_)
  · obtain ⟨d, b, e, st, ns, is, j, rfl, _⟩ := z
    rfl
  · obtain ⟨d, b, e, st, ns, is, j, rfl, hd, hj, hN, hl, hI, hil, q⟩ := z
    refine ⟨_, (pss_cons (ps_if (pt_cmpR op_eq (pv 1) (pe_glob (v := .int (0)) rfl (i_CREATE c).choose_spec ⟨_, rfl⟩) (nomark _)) (pss_one (ps_ret (C8.pe_c (ok_create (K := K) c) hr (by decide) rfl (pa_cons (pv 0) pa_nil)))) pss_nil)
      (pss_cons (ps_if (pt_cmpR op_isN (pe_fld (pv 0) rfl) pe_non (nomark _)) (pss_one (ps_ret (pe_lst (pa_cons (pe_glob (v := .int (-11)) rfl (i_NO_INSTANCE c).choose_spec ⟨_, rfl⟩) pa_nil)))) pss_nil)
      (pss_cons (ps_set (i := 4) sc_answer_to.nd rfl (Or.inl rfl) (pe_ix ix_tup (pe_glob (v := .ref (He.ga K "DEEDS")) rfl (g_DEEDS c) rfl) (pe_op op_sub (pv 1) pe_int) (fun _ _ => rfl)))
      (pss_one (ps_ret (pe_callJ (i := 4) (deeds_held (K := K) c) hr rfl (Or.inl rfl) (pa_cons (pe_fld (pv 0) rfl) (pa_cons (pv 2) (pa_cons (pv 3) pa_nil))))))))), ?_⟩
    refine ⟨_, rfl, rfl, _, rfl, ite2 (fun e0 => ?_) (fun e0 => ?_)⟩
    · have j0 : j = 0 := by
        have := V.int.inj (of_decide_eq_true e0)
        omega
      subst j0
      cases len0 hl
      exact ⟨_, rfl, d, st, rfl, hd, fun H1 p k1 hd1 hp => q _ p k1 hd1 hp⟩
    · have j1 : 1 ≤ j := by
        have : ¬ j = 0 := fun z => e0 (decide_eq_true (by rw [z]; rfl))
        omega
      cases st with
      | none =>
        obtain ⟨dx, hd⟩ := hd
        refine ⟨_, rfl, d, _, dx, _, _, rfl, hd, cls_Desk c, no_Desk_store c, dF_store, rfl, _, rfl, iteT ⟨le1, fun p np => ?_⟩⟩
        have sp := same_new (o := .lst [V.int (-11)]) np
        have es : stp none (mkc (j : Int) ns is) = (none, [-11]) := step_none is j1 hj hl
        rw [es] at q
        exact q _ p (Keep.of_same sp) ⟨dx, sp _ _ hd⟩ ints1
      | some s =>
        obtain ⟨dx, a, hd, hs⟩ := hd
        obtain ⟨f, hf1, hf2⟩ := deed_at K j1 hj
        refine ⟨_, rfl, d, _, dx, _, _, rfl, hd, cls_Desk c, no_Desk_store c, dF_store, rfl, _, rfl, iteF ?_⟩
        refine ⟨_, rfl, _, _, rfl, rfl, He.ga K "DEEDS", _, (j : Int) - 1, .ref f, rfl, rfl, tb_DEEDS c H, ?_, ?_⟩
        · have ej : (j : Int) - 1 = ((j - 1 : Nat) : Int) := by omega
          rw [ej]
          exact atI_nat hf1
        refine ⟨f, _, hf2, rfl, _, rfl, d, _, dx, _, _, rfl, hd, cls_Desk c, no_Desk_store c, dF_store, _, rfl, _, rfl, ?_⟩
        refine ⟨a, b, e, s, ns, is, rfl, hs, hN, hl, hI, hil, fun H1 p s' out es sb hs1 hp => ?_⟩
        obtain ⟨dxs, bb, t, ha, hb, ht⟩ := id hs
        have es2 : stp (some s) (mkc (j : Int) ns is) = (some s', out) := es
        rw [es2] at q
        refine q _ p (Keep.of_but sb ha) ⟨dx, a, sb _ _ hd fun z => ?_, hs1⟩ hp
        subst z
        obtain ⟨_, _, e3⟩ := HO.ins.inj (Option.some.inj (ha.symm.trans hd))
        exact absurd (congrArg List.length e3) (by show ¬ 4 = 1; decide)
/-! ### a call's end -/
def spEnd (K : PySem.W.Frag) : Sp := fun vs H Q _ => ∃ a, ∃ l : List Int, ∃ r, ∃ j m : Nat, vs = [.ref a, .int (j : Int), .int (m : Int)] ∧ SqL K H a (l.map V.int) ∧ ((listed j ∧ ∃ z, l[m]? = some z ∧ r = (m : Int) + 1 + z) ∨ (¬ listed j ∧ r = (m : Int))) ∧ Q (.int r) H
theorem in_listed (j : Nat) : inV (V.int (j : Int)) (tab_WITH_LIST.map (He.Dv.v K)) = decide (listed j) := by
  show ((8 : Int) == (j : Int) || ((9 : Int) == (j : Int) || false)) = decide (listed j)
  by_cases h : listed j
  · rw [decide_eq_true h]
    rcases h with h | h <;> rw [h] <;> rfl
  · rw [decide_eq_false h]
    have h1 : ¬ (8 : Int) = (j : Int) := fun e => h (.inl (by omega))
    have h2 : ¬ (9 : Int) = (j : Int) := fun e => h (.inr (by omega))
    rw [beq_false_of_ne h1, beq_false_of_ne h2]
    rfl
theorem sc_list_end : FnScope ["calls", "number", "place"] ["calls", "number", "place"] (defScope s_list_end) := ⟨rfl, rfl, rfl, by decide +kernel, rfl, by decide +kernel, by decide +kernel⟩
theorem ok_list_end (c : Ctx w K mg h) : C8.Cal PP w K mg base 1 "list_end" (spEnd K) [] := by
  refine c.cal (k := 0) (g_list_end c) (F_list_end c) sc_list_end (fun _ _ _ _ _ _ us hl => match us, hl with | [_, _, _], _ => rfl) (fun vs H Q E z => ?_) (fun cdv A outer s H vs Q E hr z => ?_)
  · obtain ⟨a, l, r, j, m, rfl, _⟩ := z
    rfl
  · obtain ⟨a, l, r, j, m, rfl, hS, hr0, q⟩ := z
    refine ⟨_, (pss_cons (ps_if (pt_cmpR op_in_seq (pv 1) (pe_glob (v := .ref (He.ga K "WITH_LIST")) rfl (g_WITH_LIST c) rfl) (by with_unfolding_all rfl)) (pss_one (ps_ret (pe_op op_add (pe_op op_add (pv 2) pe_int) (pe_ix ix_list (pv 0) (pv 2) (fun _ _ => rfl))))) pss_nil)
      (pss_one (ps_ret (pv 2)))), ?_⟩
    refine ⟨_, rfl, He.ga K "WITH_LIST", _, rfl, .inr (tb_WITH_LIST c H), rfl, rfl, _, rfl, ?_⟩
    rw [if_neg Bool.false_ne_true, in_listed]
    rcases hr0 with ⟨h1, z, hz, rfl⟩ | ⟨h1, rfl⟩
    · rw [decide_eq_true h1]
      refine iteT ⟨_, rfl, _, _, rfl, rfl, _, rfl, _, rfl, a, _, (m : Int), .int z, rfl, rfl, hS, atI_nat ?_, _, _, rfl, rfl, q⟩
      rw [List.getElem?_map, hz]
      rfl
    · rw [decide_eq_false h1]
      exact iteF ⟨_, rfl, q⟩
/-! ### all calls -/
theorem wid_at (K : PySem.W.Frag) : ∀ {j : Nat}, j ≤ 16 → (tab_WIDTHS.map (He.Dv.v K))[j]? = some (.int ((wid j : Nat) : Int))
  | 0, _ => rfl
  | 1, _ => rfl
  | 2, _ => rfl
  | 3, _ => rfl
  | 4, _ => rfl
  | 5, _ => rfl
  | 6, _ => rfl
  | 7, _ => rfl
  | 8, _ => rfl
  | 9, _ => rfl
  | 10, _ => rfl
  | 11, _ => rfl
  | 12, _ => rfl
  | 13, _ => rfl
  | 14, _ => rfl
  | 15, _ => rfl
  | 16, _ => rfl
  | _ + 17, h => by omega
theorem cut_mid {xs A B C : List V} (e : xs = A ++ (B ++ C)) {lo hi : Int} (h1 : lo = (A.length : Int)) (h2 : hi = ((A.length + B.length : Nat) : Int)) : cutV xs (some lo) (some hi) = B := by
  subst e h1 h2
  unfold cutV
  rw [HT.sIx_nat, HT.sIx_nat]
  have l1 : (A ++ (B ++ C)).length = A.length + (B.length + C.length) := by rw [List.length_append, List.length_append]
  rw [l1, Nat.min_eq_left (by omega), Nat.min_eq_left (by omega), List.drop_left' rfl, Nat.add_sub_cancel_left, List.take_left' rfl]
theorem cut_none {xs : List V} {m : Nat} {lo hi : Int} (h1 : lo = ((m + 1 : Nat) : Int)) (h2 : hi = (m : Int)) : cutV xs (some lo) (some hi) = [] := by
  subst h1 h2
  unfold cutV
  rw [HT.sIx_nat, HT.sIx_nat, show min m xs.length - min (m + 1) xs.length = 0 by omega, List.take_zero]
theorem del_frz {K : PySem.W.Frag} {H : Hp} {d f : Addr} {o : Obj} {u : HO} {st : Sr96.State} (h : DeskAt K H d st) (hf : H f = some (.frz o u)) : DeskAt K (del H f) d st := by
  have ni : ∀ {b : Addr} {C dx : Addr} {fs : List (Str × V)}, H b = some (.ins C dx fs) → del H f b = some (.ins C dx fs) := fun {b C dx fs} e => by
    rw [del_ne fun z => by subst z; rw [hf] at e; cases e]
    exact e
  have nl : ∀ {b : Addr} {xs : List V}, H b = some (.lst xs) → del H f b = some (.lst xs) := fun {b xs} e => by
    rw [del_ne fun z => by subst z; rw [hf] at e; cases e]
    exact e
  have nt : ∀ {b : Addr} {xs : List V}, H b = some (.tup xs) → del H f b = some (.tup xs) := fun {b xs} e => by
    rw [del_ne fun z => by subst z; rw [hf] at e; cases e]
    exact e
  cases st with
  | none =>
    obtain ⟨dx, hd⟩ := h
    exact ⟨dx, ni hd⟩
  | some s =>
    obtain ⟨dx, a, hd, dxs, b, t, ha, hb, ht⟩ := h
    obtain ⟨us, eb, pb⟩ := hb.1
    exact ⟨dx, a, ni hd, dxs, b, t, ni ha, ⟨⟨us, nl eb, L2.Paired.mapP pb fun v x r => by
      obtain ⟨tb, e, h1⟩ := r
      exact ⟨tb, e, nt h1⟩⟩, hb.2⟩, nt ht.1, ht.2⟩
/-- a list of whole numbers is handed in of which the row asks; the specification's list comes out -/
def spAns (K : PySem.W.Frag) : Sp := fun vs H Q _ => ∃ a, ∃ l : List Int, vs = [.ref a] ∧ SqL K H a (l.map V.int) ∧ l.length ≤ 100000 ∧ PySr96.answers_asked l = true ∧ ∀ H' p, H' p = some (.lst ((PySr96.answers l).map V.int)) → Q (.ref p) H'
/-- the row's def: its function object is named, so that every heap has the same -/
theorem row_fn {x : Str} {st : Stmt} {f : Addr} {fd : FuncData} {N ps : List Str} {k : Nat} {sp : Sp} (F : FunD K x x (defArgs st) (defBody st) (defScope st) [] [] f fd) (S : FnScope N ps (defScope st)) (len : ∀ vs H Q E, sp vs H Q E → vs.length = ps.length)
    (deed : ∀ (cdv : Value) (A : Around) (outer : List Env) (s : Shared) (H : Hp) (vs : List V) (Q : VK) (E : XK), Room k (A.deeper (envOfC x (defScope st) s.heap.objs.size f cdv)) → sp vs H Q E →
      ∃ t, PSs (cxOf CX0 PP w K mg base N x (defScope st) f cdv A outer s H E).nox (defBody st) t ∧ t { nx := fun _ J => Q .non J, rt := Q } (start N vs) H) : FnOk PP w K mg base CX0 (k + 1) f fd ps sp :=
  F.ok S len fun cdv A outer s H vs Q E hr hs => by
    obtain ⟨t, by_text, reads⟩ := deed cdv A outer s H vs Q E hr hs
    exact ⟨t, by_text.nox, reads⟩
theorem sc_answers : FnScope ["calls", "desk", "found", "at", "number", "middle", "behind", "told"] ["calls"] (defScope s_answers) := ⟨rfl, rfl, rfl, by decide +kernel, rfl, by decide +kernel, by decide +kernel⟩
theorem ok_answers {fd : FuncData} (c : Ctx w K mg h) (F : FunD K "answers" "answers" (defArgs s_answers) (defBody s_answers) (defScope s_answers) [] [] (He.ga K "answers") fd) : FnOk PP w K mg base CX0 8 (He.ga K "answers") fd ["calls"] (spAns K) := by
  refine row_fn F sc_answers (fun vs H Q E z => ?_) (fun cdv A outer s H vs Q E hr z => ?_)
  · obtain ⟨a, l, rfl, _⟩ := z
    rfl
  · obtain ⟨a, l, rfl, hS, hll, hask, q⟩ := z
    obtain ⟨cs, el, hok, ean, hlid⟩ := decoded hask
    refine ⟨_, (pss_cons (ps_par3 (i := 1) (j := 2) (l := 3) rfl sc_answers.nd rfl rfl rfl (by decide) (by decide) (by decide) rfl rfl rfl (pa_cons (pe_mk0 (ok_Desk (K := K) c) hr (by decide) rfl) (pa_cons (pe_lst pa_nil) (pa_cons pe_int pa_nil))) (by rfl))
      (pss_cons (ps_while PassesOwn.never (pt_cmpR op_lt (pv 3) (pe_callB call_len_seq (by rfl) (m_len c) PySem.boot_len (pa_cons (pv 0) pa_nil)) (nomark _)) (pss_cons (ps_par (i := 4) (j := 5) rfl sc_answers.nd rfl rfl (by decide) rfl rfl (pa_cons (pe_ix ix_list (pv 0) (pv 3) (fun _ _ => rfl)) (pa_cons (pe_op op_add (pe_op op_add (pv 3) pe_int) (pe_ix ix_tup (pe_glob (v := .ref (He.ga K "WIDTHS")) rfl (g_WIDTHS c) rfl) (pe_ix ix_list (pv 0) (pv 3) (fun _ _ => rfl)) (fun _ _ => rfl))) pa_nil)) (by rfl))
      (pss_cons (ps_set (i := 6) sc_answers.nd rfl (Or.inl rfl) (C8.pe_c (ok_list_end (K := K) c) hr (by decide) rfl (pa_cons (pv 0) (pa_cons (pv 4) (pa_cons (pv 5) pa_nil)))))
      (pss_cons (ps_set (i := 7) sc_answers.nd rfl (Or.inl rfl) (pe_lock (C8.pe_c (ok_answer_to (K := K) c) hr (by decide) rfl (pa_cons (pv 1) (pa_cons (pv 4) (pa_cons (pe_slice sl_list (pv 0) (po_some (pe_op op_add (pv 3) pe_int)) (po_some (pv 5))) (pa_cons (pe_slice sl_list (pv 0) (po_some (pe_op op_add (pv 5) pe_int)) (po_some (pv 6))) pa_nil)))))))
      (pss_cons (ps_expr (pe_bm PySem.F.plainAttrs_list PySem.F.slot_list_append PySem.F.type_list_append mt_append (pv 2) (pa_cons (pe_callB call_len_seq (by rfl) (m_len c) PySem.boot_len (pa_cons (pv 7) pa_nil)) pa_nil)))
      (pss_cons (ps_expr (pe_bm PySem.F.plainAttrs_list PySem.F.slot_list_extend PySem.F.type_list_extend mt_extend (pv 2) (pa_cons (pv 7) pa_nil)))
      (pss_one (ps_set (i := 3) sc_answers.nd rfl (Or.inl rfl) (pv 6)))))))))
      (pss_one (ps_ret (pv 2))))), ?_⟩
    -- desk, found, at = Desk(), [], 0
    intro d dx nd ndx ne
    have nd2 : (upd H dx (.own d)) d = none := by
      rw [upd_ne ne.symm]
      exact nd
    have s0 := (same_new (o := .own d) ndx).trans (same_new (o := .ins (CD K) dx []) nd2)
    have sd : SameBut d (upd (upd H dx (.own d)) d (.ins (CD K) dx [])) (upd (upd (upd H dx (.own d)) d (.ins (CD K) dx [])) d (.ins (CD K) dx (dF .non))) := (SameBut.refl d _).upd
    have s1 : Same H (upd (upd (upd H dx (.own d)) d (.ins (CD K) dx [])) d (.ins (CD K) dx (dF .non))) := SameBut.same s0 nd sd
    refine ⟨d, dx, rfl, upd_same, ⟨rfl, le0, fun f nf => ?_⟩⟩
    have s2 := same_new (o := .lst []) nf
    have hdf : d ≠ f := ne_of_none upd_same nf
    refine ⟨_, _, _, rfl, ?_⟩
    refine ⟨fun m σ H' => ∃ done rest y4 y5 y6 y7, cs = done ++ rest ∧ m = rest.length ∧ σ = [some (.ref a), some (.ref d), some (.ref f), some (.int ((PyFlat.put done).length : Nat)), y4, y5, y6, y7] ∧
        SqL K (del H' f) a (l.map V.int) ∧ DeskAt K (del H' f) d (fin stp st0 done) ∧ Ints H' f (PyFlat.told (PyFlat.played stp st0 done)),
      ⟨cs.length, [], cs, none, none, none, none, rfl, rfl, rfl, Same.seq (to_del (s1.trans s2) (s1.free nf)) hS, ⟨dx, ?_⟩, upd_same⟩, fun m σ H1 hW => ?_⟩
    · rw [del_ne hdf]
      exact s2 _ _ upd_same
    obtain ⟨done, rest, y4, y5, y6, y7, ecs, rfl, rfl, hSd, hD1, hF1⟩ := hW
    have hS1 : SqL K H1 a (l.map V.int) := Same.seq (del_same _ _) hSd
    have elen : l.length = (PyFlat.put done).length + (PyFlat.put rest).length := by rw [el, ecs, put_app, List.length_append]
    refine ⟨_, rfl, _, rfl, a, _, rfl, .inl hS1, _, _, rfl, rfl, _, rfl, ?_⟩
    cases rest with
    | nil =>
      have e1 : decide ((((PyFlat.put done).length : Nat) : Int) < (((l.map V.int).length : Nat) : Int)) = false := decide_eq_false (by
        rw [List.length_map, elen]
        show ¬ _ < (((PyFlat.put done).length + 0 : Nat) : Int)
        omega)
      rw [e1]
      refine iteF ⟨_, rfl, q _ f ?_⟩
      rw [List.append_nil] at ecs
      rw [ean, ecs]
      exact hF1
    | cons c0 rest =>
      have hc0 : PyFlat.okCall PySr96.shape c0 := hok c0 (by rw [ecs]; exact List.mem_append_right _ (List.mem_cons_self ..))
      obtain ⟨j, ns, is, rfl, hj, hn, hp1, hp2⟩ := call_form hc0
      have efl : l = PyFlat.put done ++ (PyFlat.put1 (mkc (j : Int) ns is) ++ PyFlat.put rest) := by rw [el, ecs, put_app]; rfl
      -- the call as it lies in the list
      have hform : ∃ tl, PyFlat.put1 (mkc (j : Int) ns is) = (j : Int) :: (ns ++ tl) ∧ (listed j → tl = (is.length : Int) :: is) ∧ (¬ listed j → tl = [] ∧ is = []) := by
        by_cases h : listed j
        · have hn0 : ns = [] := List.length_eq_zero_iff.mp (hn.trans (wid_listed h))
          subst hn0
          exact ⟨_, hp1 h, fun _ => rfl, fun z => absurd h z⟩
        · obtain ⟨h1, h2⟩ := hp2 h
          exact ⟨[], by rw [h2, List.append_nil], fun z => absurd z h, fun _ => ⟨rfl, h1⟩⟩
      obtain ⟨tl, hput, htl1, htl2⟩ := hform
      rw [hput] at efl
      have e1 : decide ((((PyFlat.put done).length : Nat) : Int) < (((l.map V.int).length : Nat) : Int)) = true := decide_eq_true (by
        rw [List.length_map, efl, List.length_append]
        show _ < (((PyFlat.put done).length + ((ns ++ tl ++ PyFlat.put rest).length + 1) : Nat) : Int)
        omega)
      rw [e1]
      refine iteT ?_
      -- what a turn is to reach
      refine ⟨fun σ' H' => ∃ y4 y5 y6 y7, σ' = [some (.ref a), some (.ref d), some (.ref f), some (.int ((PyFlat.put (done ++ [mkc (j : Int) ns is])).length : Nat)), y4, y5, y6, y7] ∧
          SqL K (del H' f) a (l.map V.int) ∧ DeskAt K (del H' f) d (fin stp st0 (done ++ [mkc (j : Int) ns is])) ∧ Ints H' f (PyFlat.told (PyFlat.played stp st0 (done ++ [mkc (j : Int) ns is]))), fun σ' H' hN => ?_, ?_⟩
      · obtain ⟨z4, z5, z6, z7, h1, h2, h3, h4⟩ := hN
        exact ⟨rest.length, by rw [List.length_cons]; omega, done ++ [mkc (j : Int) ns is], rest, z4, z5, z6, z7, by rw [ecs, List.append_assoc]; rfl, rfl, h1, h2, h3, h4⟩
      -- number, middle = calls[at], at + 1 + WIDTHS[calls[at]]
      have hat : (l.map V.int)[(PyFlat.put done).length]? = some (.int (j : Int)) := by
        rw [List.getElem?_map, efl, List.getElem?_append_right (Nat.le_refl _), Nat.sub_self]
        rfl
      refine ⟨_, rfl, _, rfl, a, _, _, _, rfl, rfl, hS1, atI_nat hat, ?_⟩
      refine ⟨_, rfl, _, _, rfl, rfl, _, rfl, _, rfl, a, _, _, _, rfl, rfl, hS1, atI_nat hat, He.ga K "WIDTHS", _, _, _, rfl, rfl, tb_WIDTHS c H1, atI_nat (wid_at K hj), _, _, rfl, rfl, _, _, rfl, ?_⟩
      -- behind = list_end(calls, number, middle)
      have em : (((PyFlat.put done).length : Nat) : Int) + 1 + ((wid j : Nat) : Int) = (((PyFlat.put done).length + 1 + wid j : Nat) : Int) := by omega
      have hlen1 : (PyFlat.put (done ++ [mkc (j : Int) ns is])).length = (PyFlat.put done).length + 1 + wid j + tl.length := by
        rw [put_app, List.length_append]
        show _ + (PyFlat.put1 (mkc (j : Int) ns is) ++ []).length = _
        rw [List.append_nil, hput, List.length_cons, List.length_append, hn]
        omega
      refine ⟨_, rfl, _, rfl, _, rfl, a, l, (((PyFlat.put (done ++ [mkc (j : Int) ns is])).length : Nat) : Int), j, (PyFlat.put done).length + 1 + wid j, by rw [← em]; rfl, hS1, ?_, ?_⟩
      · by_cases h : listed j
        · refine .inl ⟨h, (is.length : Int), ?_, ?_⟩
          · have hn0 : ns = [] := List.length_eq_zero_iff.mp (hn.trans (wid_listed h))
            rw [efl, List.getElem?_append_right (by omega), show (PyFlat.put done).length + 1 + wid j - (PyFlat.put done).length = 1 by rw [wid_listed h]; omega, hn0, htl1 h]
            rfl
          · rw [hlen1, htl1 h, List.length_cons]
            omega
        · refine .inr ⟨h, ?_⟩
          rw [hlen1, (htl2 h).1]
          rfl
      -- told = answer_to(desk, number, calls[at + 1:middle], calls[middle + 1:behind]), found locked meanwhile
      have ne_fa : ∀ {b : Addr} {o : HO}, del H1 f b = some o → b ≠ f := fun {b o} e z => by
        subst z
        unfold del at e
        rw [if_pos rfl] at e
        cases e
      refine ⟨f, _, hF1, trivial, fun od => ?_⟩
      have sl : Same (del H1 f) (upd H1 f (.frz od (.lst ((PyFlat.told (PyFlat.played stp st0 done)).map V.int)))) := fun b o e => by
        rw [upd_ne (ne_fa e)]
        rw [del_ne (ne_fa e)] at e
        exact e
      have hSl := Same.seq sl hSd
      -- calls[at + 1:middle]
      refine ⟨_, rfl, _, rfl, _, rfl, _, rfl, _, _, rfl, rfl, _, rfl, _, rfl, _, rfl, a, _, rfl, hSl, fun p1 n1 => ?_⟩
      have elm : l.map V.int = (PyFlat.put done ++ [(j : Int)]).map V.int ++ (ns.map V.int ++ (tl ++ PyFlat.put rest).map V.int) := by
        rw [efl, ← List.map_append, ← List.map_append]
        congr 1
        simp
      have ec1 : cutV (l.map V.int) (some ((((PyFlat.put done).length : Nat) : Int) + 1)) (some ((((PyFlat.put done).length : Nat) : Int) + 1 + ((wid j : Nat) : Int))) = ns.map V.int := cut_mid elm
        (by rw [List.length_map, List.length_append, List.length_singleton]; omega) (by rw [List.length_map, List.length_map, List.length_append, List.length_singleton, hn]; omega)
      have t1 := same_new (o := .lst (cutV (l.map V.int) (some ((((PyFlat.put done).length : Nat) : Int) + 1)) (some ((((PyFlat.put done).length : Nat) : Int) + 1 + ((wid j : Nat) : Int))))) n1
      -- calls[middle + 1:behind]
      refine ⟨_, rfl, _, rfl, _, _, rfl, rfl, _, rfl, _, rfl, _, rfl, a, _, rfl, Same.seq t1 hSl, fun p2 n2 => ?_⟩
      have ec2 : cutV (l.map V.int) (some ((((PyFlat.put done).length : Nat) : Int) + 1 + ((wid j : Nat) : Int) + 1)) (some (((PyFlat.put (done ++ [mkc (j : Int) ns is])).length : Nat) : Int)) = is.map V.int := by
        by_cases h : listed j
        · have hn0 : ns = [] := List.length_eq_zero_iff.mp (hn.trans (wid_listed h))
          have elm2 : l.map V.int = (PyFlat.put done ++ [(j : Int), (is.length : Int)]).map V.int ++ (is.map V.int ++ (PyFlat.put rest).map V.int) := by
            rw [efl, hn0, htl1 h, ← List.map_append, ← List.map_append]
            congr 1
            simp
          refine cut_mid elm2 ?_ ?_
          · rw [List.length_map, List.length_append, wid_listed h]
            show _ = (((PyFlat.put done).length + 2 : Nat) : Int)
            omega
          · rw [List.length_map, List.length_map, List.length_append, hlen1, wid_listed h, htl1 h, List.length_cons]
            show _ = (((PyFlat.put done).length + 2 + is.length : Nat) : Int)
            omega
        · have hm : is.map V.int = [] := by
            rw [(htl2 h).2]
            rfl
          rw [hm]
          refine cut_none (m := (PyFlat.put done).length + 1 + wid j) (by omega) ?_
          rw [hlen1, (htl2 h).1]
          rfl
      have t2 := same_new (o := .lst (cutV (l.map V.int) (some ((((PyFlat.put done).length : Nat) : Int) + 1 + ((wid j : Nat) : Int) + 1)) (some (((PyFlat.put (done ++ [mkc (j : Int) ns is])).length : Nat) : Int)))) n2
      have t12 := t1.trans t2
      have b1 := t2 _ _ (upd_same (H := upd H1 f (.frz od (.lst ((PyFlat.told (PyFlat.played stp st0 done)).map V.int)))) (a := p1) (o := .lst (cutV (l.map V.int) (some ((((PyFlat.put done).length : Nat) : Int) + 1)) (some ((((PyFlat.put done).length : Nat) : Int) + 1 + ((wid j : Nat) : Int))))))
      have hil : is.length ≤ 100000 := by
        by_cases h : listed j
        · have : (PyFlat.put done).length + (tl.length + (PyFlat.put rest).length) ≤ l.length := by
            rw [efl]
            simp
            omega
          rw [htl1 h, List.length_cons] at this
          omega
        · rw [(htl2 h).2]
          exact Nat.zero_le _
      refine ⟨d, p1, p2, fin stp st0 done, ns, is, j, rfl, (hD1.same sl).same t12, hj, ?_, hn, ?_, hil, fun H2 p kp hD2 hp => ?_⟩
      · show upd _ p2 _ p1 = _
        exact b1.trans (congrArg (fun v => some (HO.lst v)) ec1)
      · show upd _ p2 _ p2 = _
        rw [upd_same, ec2]
      -- found is unlocked
      have hf2 : H2 f = some (.frz od (.lst ((PyFlat.told (PyFlat.played stp st0 done)).map V.int))) := kp _ _ (t12 _ _ upd_same) fun _ _ _ z => by cases z
      have hpf : p ≠ f := fun z => by
        subst z
        have hp' : H2 p = some (.lst _) := hp
        rw [hf2] at hp'
        cases hp'
      have hD3 := del_frz hD2 hf2
      have hS3 : SqL K (del H2 f) a (l.map V.int) := by
        rcases hSd with (h | ⟨o, h⟩) | h
        · have hne := ne_fa h
          rw [del_ne hne] at h
          refine .inl (.inl ?_)
          rw [del_ne hne]
          exact kp _ _ (t12 _ _ (by rw [upd_ne hne]; exact h)) fun _ _ _ z => by cases z
        · have hne := ne_fa h
          rw [del_ne hne] at h
          refine .inl (.inr ⟨o, ?_⟩)
          rw [del_ne hne]
          exact kp _ _ (t12 _ _ (by rw [upd_ne hne]; exact h)) fun _ _ _ z => by cases z
        · exact .inr h
      refine ⟨hf2, ?_⟩
      have snoc := told_snoc done (mkc (j : Int) ns is)
      have lidn : (PyFlat.told (PyFlat.played stp st0 done)).length + ((stp (fin stp st0 done) (mkc (j : Int) ns is)).2.length + 1) ≤ 10000000 := by
        have h1 : (PyFlat.told (PyFlat.played stp st0 cs)).length = (PyFlat.told (PyFlat.played stp st0 (done ++ [mkc (j : Int) ns is]))).length + (PyFlat.told (PyFlat.played stp (fin stp st0 (done ++ [mkc (j : Int) ns is])) rest)).length := by
          rw [ecs, show done ++ mkc (j : Int) ns is :: rest = (done ++ [mkc (j : Int) ns is]) ++ rest by simp, played_app, told_app, List.length_append]
        rw [snoc, List.length_append, List.length_cons] at h1
        omega
      -- found.append(len(told))
      have p2' : (upd H2 f (.lst ((PyFlat.told (PyFlat.played stp st0 done)).map V.int))) p = some (.lst ((stp (fin stp st0 done) (mkc (j : Int) ns is)).2.map V.int)) := by
        rw [upd_ne hpf]
        exact hp
      refine ⟨_, rfl, .inl ⟨rfl, _, .inl (.inl upd_same)⟩, _, rfl, p, _, rfl, .inl (.inl (.inl p2')), f, _, _, rfl, rfl, upd_same, ?_, ?_⟩
      · rw [List.length_map]
        exact Nat.lt_of_le_of_lt (show _ ≤ 10000000 by omega) (by decide)
      rw [upd_upd, List.length_map]
      -- found.extend(told)
      have p3 : (upd H2 f (.lst ((PyFlat.told (PyFlat.played stp st0 done)).map V.int ++ [V.int ((stp (fin stp st0 done) (mkc (j : Int) ns is)).2.length : Nat)]))) p = some (.lst ((stp (fin stp st0 done) (mkc (j : Int) ns is)).2.map V.int)) := by
        rw [upd_ne hpf]
        exact hp
      refine ⟨_, rfl, .inl ⟨rfl, _, .inl (.inl upd_same)⟩, _, rfl, f, p, _, _, rfl, rfl, upd_same, p3, ?_, ?_⟩
      · rw [List.length_append, List.length_map, List.length_map, List.length_singleton]
        exact Nat.le_trans (show _ ≤ 10000000 by omega) (by decide)
      rw [upd_upd]
      -- at = behind
      refine ⟨_, rfl, _, _, _, _, rfl, ?_, ?_, ?_⟩
      · rw [del_upd]
        exact hS3
      · rw [del_upd, fin_snoc]
        exact hD3
      · show upd _ f _ f = _
        rw [upd_same, snoc, List.map_append, List.map_cons, List.append_assoc]
        rfl
end
end Fb

/-! FbEnd: the row, from the head's run and the promise of answers. -/
namespace Fb
open PySem PySem.Spec PyProof.Rows L2
/-- what the codec lets in is what answers' promise asks for -/
theorem asked_in {K : PySem.W.Frag} {H : Hp} {xs : List V} {a : PySem.W.Codec.denoteAll RR.args} (win : PySem.W.Codec.withinAll RR.args a = true) (ask : PySem.W.Codec.app RR.args RR.asked a = true)
    (data : DwAll K H xs (PySem.W.Codec.encAll RR.args a)) : spAns K xs H (fun v J => Dw K J v (RR.ret.enc (PySem.W.Codec.app RR.args RR.f a))) (fun _ _ _ => False) := by
  cases data with
  | cons one none_left =>
    cases none_left
    cases one with
    | lst held inner =>
      have whole := ints_dw a.1 _ inner
      subst whole
      have both : ((PySem.W.Codec.inLen 0 4320 a.1 && a.1.all (PySem.W.Codec.inInt (-2147483648) 2147483647)) && true) = true := win
      obtain ⟨front, _⟩ := He.ba both
      obtain ⟨size, _⟩ := He.ba front
      exact ⟨_, a.1, rfl, held, Nat.le_trans (PySem.W.Codec.inNat_iff.mp size).2 (by decide), ask, fun J p hp => .lst (.of hp) (dw_ints _)⟩
/-- the walk of the row's def, the fragment told by the Hook -/
theorem walk_end : PySem.W.WalkOS qv names (PySem.W.XL qv []) hk.says RR (HandSHeadRun.topDef RR.prog 79) [] (fun g us => PySem.call g us) := by
  intro w start now mg builtin ground told f obj q1 q2 q3 q4 q5 has1 has2 has3 has4 named noGens data vals olds pre small reads well free
  obtain ⟨K, KX, c⟩ := told
  have cx : Ctx w K mg now.heap := ⟨KX, ground.T.g, c⟩
  obtain ⟨a, dec, ask⟩ := PySem.W.os_pre_some pre
  obtain ⟨isEnc, win⟩ := PySem.W.Codec.encAll_of_decAll RR.args data a dec
  subst isEnc
  obtain ⟨fd, F⟩ := F_answers cx
  have byName : mg ("answers" : PySem.Str) = some (.ref f) := by
    have e : (HandSHeadRun.topDef RR.prog 79).name = ("answers" : PySem.Str) := by kernel_rfl
    rw [← e]
    exact named
  have same := byName.symm.trans (g_answers cx)
  cases same
  have run := spec_call (P := PP) (w := w) (R := []) (cl := classAt start.heap) (d0 := RR.ret.enc (PySem.W.Codec.app RR.args RR.f a)) (k := 8) (ps := ["calls"]) (sp := spAns K) (CX := CX0)
    KX ground.T.g ground.T.b ground.T.builtins ground.T.nolimit noGens well (pl_encAll _ _) (layable_weight small) ⟨rfl, by decide, by decide⟩
    (fun base _ _ => ok_answers (base := base) cx F) (fun s us hl => F.bindsA (fun _ _ _ _ _ _ us hl => match us, hl with | [_], _ => rfl) s us hl) (encAll_len _ _) (fun H xs _ hS => asked_in win ask hS) (fun _ _ _ z => z)
  refine PySem.W.enter_call (codeAny_mono run fun res s' back => ?_)
  obtain ⟨u, bs, isRet, gives, kept, sys, gens⟩ := back
  exact ⟨.inl ⟨u, _, bs, isRet, fun _ => rfl, gives, (PySem.W.OpenSpec.post_iff (by decide +kernel) win _ _).mpr rfl, fun z => Bool.noConfusion (show false = true from z)⟩, kept, sys, gens⟩
end Fb
open PySem PySem.W PySem.Calls PyProof.Rows
theorem PySem.Challenge.cw_flourblend_s01_answers_holds : PySem.Challenge.rw_flourblend_s01_answers.Holds := by
  w_on
  refine HandSHeadRun.head_spec (r := Fb.RR) (q := Fb.qv) (H := Fb.hk) (ob := Fb.ob) (M := 6000) (loose := Fb.names) (d := HandSHeadRun.topDef Fb.RR.prog 79) (kwd := []) Fb.ob_eq
    (by kernel_rfl) (fun s => by kernel_rfl) Fb.run (by kernel_rfl) (by kernel_rfl) (by kernel_rfl) os_shapes (by decide +kernel) (by decide +kernel) ⟨rfl, rfl, rfl, rfl, rfl, by decide +kernel⟩ ?hw Fb.walk_end
  exact ⟨[.list [.int 0]], by decide +kernel, by decide +kernel⟩
