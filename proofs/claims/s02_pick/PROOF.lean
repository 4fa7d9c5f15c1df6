import PyProof.Rows.All
import Wide.All
import OpenK.AllK
import Wide.FinOn
import Open.SpecLaws
import KE.OsGo
import HandS.ForSpec
import HandS.Comp
import HandS.Iter
import HandS.Walk
import HandS.Text
import HandS.WideBits
import PySem.Challenge.RW_balelayer_s02_pick
set_option Elab.async false
set_option maxRecDepth 100000
set_option maxHeartbeats 2000000
/-! Bales: what stands in the machine, in plain Lean, and the specification's own words for it (mean, looking). -/
namespace Bm
open Kzd1 (Bale)

/-- all kilograms of some bales; of each its kilograms times how long -/
def wOf : List Bale → Nat
  | [] => 0
  | b :: r => b.kg + wOf r
def mOf : List Bale → Nat
  | [] => 0
  | b :: r => b.kg * b.long + mOf r

theorem foldl_add : ∀ (l : List Nat) (a : Nat), l.foldl (· + ·) a = a + l.foldl (· + ·) 0
  | [], a => rfl
  | x :: r, a => by
    rw [List.foldl_cons, List.foldl_cons, foldl_add r (a + x), foldl_add r (0 + x)]
    omega
theorem sum_nil : Kzd1.sum [] = 0 := rfl
theorem sum_cons (x : Nat) (r : List Nat) : Kzd1.sum (x :: r) = x + Kzd1.sum r := by
  unfold Kzd1.sum
  rw [List.foldl_cons, foldl_add r (0 + x)]
  omega
theorem wOf_is (bs : List Bale) : ∀ s : List Nat, wOf (s.map (Kzd1.at_ bs)) = Kzd1.kgOf bs s
  | [] => rfl
  | i :: r => by
    have ih := wOf_is bs r
    unfold Kzd1.kgOf at ih ⊢
    rw [List.map_cons, List.map_cons, sum_cons, ← ih]
    rfl
theorem mOf_is (bs : List Bale) : ∀ s : List Nat, mOf (s.map (Kzd1.at_ bs)) = Kzd1.longOf bs s
  | [] => rfl
  | i :: r => by
    have ih := mOf_is bs r
    unfold Kzd1.longOf at ih ⊢
    rw [List.map_cons, List.map_cons, sum_cons, ← ih]
    rfl
theorem at_all (bs : List Bale) : (Kzd1.all bs).map (Kzd1.at_ bs) = bs := by
  apply List.ext_getElem?
  intro i
  unfold Kzd1.all Kzd1.at_
  rw [List.getElem?_map]
  by_cases h : i < bs.length
  · simp [h]
  · simp [h]
theorem wOf_all (bs : List Bale) : Kzd1.kgOf bs (Kzd1.all bs) = wOf bs := by rw [← wOf_is, at_all]
theorem mOf_all (bs : List Bale) : Kzd1.longOf bs (Kzd1.all bs) = mOf bs := by rw [← mOf_is, at_all]

/-! ### sizes -/
def Ok1 (b : Bale) : Prop := 1 ≤ b.kg ∧ b.kg ≤ 300 ∧ b.long ≤ 500
def OkBs (bs : List Bale) : Prop := ∀ b ∈ bs, Ok1 b
theorem okBale_iff (b : Bale) : Kzd1.okBale b = true ↔ Ok1 b := by
  unfold Kzd1.okBale Ok1
  simp [and_assoc]
theorem wOf_le : ∀ bs : List Bale, OkBs bs → wOf bs ≤ 300 * bs.length
  | [], _ => Nat.le_refl _
  | b :: r, h => by
    have h1 := (h b (List.mem_cons_self ..)).2.1
    have h2 := wOf_le r fun c hc => h c (List.mem_cons_of_mem _ hc)
    show b.kg + wOf r ≤ 300 * (r.length + 1)
    omega
theorem wOf_ge : ∀ bs : List Bale, OkBs bs → bs.length ≤ wOf bs
  | [], _ => Nat.le_refl _
  | b :: r, h => by
    have h1 := (h b (List.mem_cons_self ..)).1
    have h2 := wOf_ge r fun c hc => h c (List.mem_cons_of_mem _ hc)
    show r.length + 1 ≤ b.kg + wOf r
    omega
theorem mOf_le : ∀ bs : List Bale, OkBs bs → mOf bs ≤ 150000 * bs.length
  | [], _ => Nat.le_refl _
  | b :: r, h => by
    have h1 := (h b (List.mem_cons_self ..)).2
    have h2 := mOf_le r fun c hc => h c (List.mem_cons_of_mem _ hc)
    have h3 : b.kg * b.long ≤ 300 * 500 := Nat.mul_le_mul h1.1 h1.2
    show b.kg * b.long + mOf r ≤ 150000 * (r.length + 1)
    omega
theorem wOf_pos {bs : List Bale} (h : OkBs bs) (hb : bs ≠ []) : 0 < wOf bs := by
  have := wOf_ge bs h
  have : 0 < bs.length := List.length_pos_iff.mpr hb
  omega

/-! ### the list that is handed in -/
/-- whether the first pairs of a list are bales' -/
def okPairs : Nat → List Nat → Bool
  | n + 1, a :: b :: l => decide (1 ≤ a ∧ a ≤ 300 ∧ b ≤ 500) && okPairs n l
  | _, _ => true
theorem bales_len : ∀ l : List Nat, (Kzd1.bales l).length = l.length / 2
  | [] => rfl
  | [x] => by
    show ([] : List Bale).length = ([x] : List Nat).length / 2
    simp
  | a :: b :: l => by
    have ih := bales_len l
    unfold Kzd1.bales
    rw [List.length_cons, List.length_cons, List.length_cons, ih]
    omega
theorem bales_get : ∀ (l : List Nat) (i : Nat), i < l.length / 2 → (Kzd1.bales l)[i]? = some ⟨l.getD (2 * i) 0, l.getD (2 * i + 1) 0⟩
  | [], i, h => absurd h (by simp)
  | [_], i, h => absurd h (by simp)
  | a :: b :: l, 0, _ => by unfold Kzd1.bales; rfl
  | a :: b :: l, i + 1, h => by
    have ih := bales_get l i (by simp at h; omega)
    unfold Kzd1.bales
    rw [List.getElem?_cons_succ, ih]
    have e1 : 2 * (i + 1) = 2 * i + 1 + 1 := by omega
    have e2 : 2 * (i + 1) + 1 = 2 * i + 1 + 1 + 1 := by omega
    rw [e2, e1]
    rfl
theorem all_okBale (l : List Nat) : (Kzd1.bales l).all Kzd1.okBale = true ↔ ∀ i, i < l.length / 2 → 1 ≤ l.getD (2 * i) 0 ∧ l.getD (2 * i) 0 ≤ 300 ∧ l.getD (2 * i + 1) 0 ≤ 500 := by
  rw [List.all_eq_true]
  constructor
  · intro h i hi
    have e := bales_get l i hi
    have m := List.mem_of_getElem? e
    exact (okBale_iff _).mp (h _ m)
  · intro h x hx
    obtain ⟨i, hi⟩ := List.mem_iff_getElem?.mp hx
    have hl : i < l.length / 2 := by
      rw [← bales_len]
      exact (List.getElem?_eq_some_iff.mp hi).1
    have e := bales_get l i hl
    rw [hi] at e
    have e' := Option.some.inj e
    rw [e']
    exact (okBale_iff _).mpr (h i hl)
theorem good_of {l : List Nat} (h : Kzd1.good l = true) : l.length % 2 = 0 ∧ l.length ≤ 18 ∧ OkBs (Kzd1.bales l) ∧ (Kzd1.bales l).length ≤ 9 := by
  unfold Kzd1.good Kzd1.ok at h
  simp only [Bool.and_eq_true, decide_eq_true_eq] at h
  obtain ⟨h1, h2, h3⟩ := h
  refine ⟨h1, ?_, fun b hb => (okBale_iff b).mp (List.all_eq_true.mp h3 b hb), h2⟩
  rw [bales_len] at h2
  omega
theorem good_iff (l : List Nat) : Kzd1.good l = true ↔ l.length % 2 = 0 ∧ l.length ≤ 18 ∧ ∀ i, i < l.length / 2 → 1 ≤ l.getD (2 * i) 0 ∧ l.getD (2 * i) 0 ≤ 300 ∧ l.getD (2 * i + 1) 0 ≤ 500 := by
  unfold Kzd1.good Kzd1.ok
  simp only [Bool.and_eq_true, decide_eq_true_eq, all_okBale, bales_len]
  constructor
  · rintro ⟨h1, h2, h3⟩; exact ⟨h1, by omega, h3⟩
  · rintro ⟨h1, h2, h3⟩; exact ⟨h1, by omega, h3⟩

/-! ### mean -/
theorem top_foldl (l : List Nat) : Kzd1.top l = l.foldl max 0 := rfl
/-- the greatest of a list with 0 ahead, by what max says of it -/
theorem foldl_max_mem : ∀ (l : List Nat) (a : Nat), l.foldl max a ∈ a :: l
  | [], a => List.mem_cons_self ..
  | x :: r, a => by
    have h := foldl_max_mem r (max a x)
    rw [List.foldl_cons]
    rcases List.mem_cons.mp h with h | h
    · rw [h]
      rcases Nat.le_total a x with q | q
      · rw [Nat.max_eq_right q]
        exact List.mem_cons_of_mem _ (List.mem_cons_self ..)
      · rw [Nat.max_eq_left q]
        exact List.mem_cons_self ..
    · exact List.mem_cons_of_mem _ (List.mem_cons_of_mem _ h)
theorem foldl_max_le : ∀ (l : List Nat) (a x : Nat), x ∈ a :: l → x ≤ l.foldl max a
  | [], a, x, h => by
    rcases List.mem_cons.mp h with h | h
    · rw [h]; exact Nat.le_refl _
    · cases h
  | y :: r, a, x, h => by
    rw [List.foldl_cons]
    have hm := foldl_max_le r (max a y) (max a y) (List.mem_cons_self ..)
    rcases List.mem_cons.mp h with h | h
    · rw [h]; exact Nat.le_trans (Nat.le_max_left ..) hm
    · rcases List.mem_cons.mp h with h | h
      · rw [h]; exact Nat.le_trans (Nat.le_max_right ..) hm
      · exact foldl_max_le r (max a y) x (List.mem_cons_of_mem _ h)
def topOf (bs : List Bale) : Nat := (bs.map Bale.long).foldl max 0
theorem topOf_of {bs : List Bale} {m : Nat} (h1 : m ∈ 0 :: bs.map Bale.long) (h2 : ∀ x ∈ 0 :: bs.map Bale.long, x ≤ m) : topOf bs = m :=
  Nat.le_antisymm (h2 _ (foldl_max_mem _ _)) (foldl_max_le _ _ _ h1)
def meanOf (bs : List Bale) : Nat := if bs = [] then 0 else mOf bs / wOf bs
theorem meanOf_is {bs : List Bale} (h : OkBs bs) : Kzd1.mean bs (Kzd1.all bs) = meanOf bs := by
  unfold Kzd1.mean meanOf
  rw [wOf_all, mOf_all]
  by_cases e : bs = []
  · rw [if_pos e, if_pos (by rw [e]; rfl)]
  · rw [if_neg e, if_neg (Nat.ne_of_gt (wOf_pos h e))]

def iz (l : List Nat) : List Int := l.map fun (x : Nat) => (x : Int)
theorem natsOf_iz (l : List Nat) : Kzd1Neutral.natsOf (iz l) = l := by
  unfold Kzd1Neutral.natsOf iz
  rw [List.map_map]
  conv => rhs; rw [← List.map_id l]
  exact List.map_congr_left fun x _ => rfl
theorem iz_natsOf {l : List Int} (h : ∀ x ∈ l, 0 ≤ x) : iz (Kzd1Neutral.natsOf l) = l := by
  unfold Kzd1Neutral.natsOf iz
  rw [List.map_map]
  conv => rhs; rw [← List.map_id l]
  exact List.map_congr_left fun x hx => by
    show ((x.toNat : Nat) : Int) = x
    have := h x hx
    omega
theorem f_mean (l : List Nat) : PyKzd1.mean (iz l) = (Kzd1.answer (.mean l)).value :: Kzd1Neutral.ints (Kzd1.answer (.mean l)).nums := by
  have e : PyKzd1.mean (iz l) = (Kzd1.answer (.mean (Kzd1Neutral.natsOf (iz l)))).value :: Kzd1Neutral.ints (Kzd1.answer (.mean (Kzd1Neutral.natsOf (iz l)))).nums := rfl
  rw [e, natsOf_iz]
theorem mean_bad {l : List Nat} (h : Kzd1.good l = false) : PyKzd1.mean (iz l) = [-22] := by
  have e : Kzd1.answer (.mean l) = Kzd1.say (-22) := if_pos h
  rw [f_mean, e]
  rfl
theorem mean_good {l : List Nat} (h : Kzd1.good l = true) : PyKzd1.mean (iz l) = iz [meanOf (Kzd1.bales l), wOf (Kzd1.bales l), topOf (Kzd1.bales l)] := by
  have e : Kzd1.answer (.mean l) = ⟨(Kzd1.mean (Kzd1.bales l) (Kzd1.all (Kzd1.bales l)) : Nat), [Kzd1.kgOf (Kzd1.bales l) (Kzd1.all (Kzd1.bales l)), Kzd1.top ((Kzd1.bales l).map Bale.long)]⟩ := if_neg (by rw [h]; decide)
  rw [f_mean, e, wOf_all, meanOf_is (good_of h).2.2.1]
  rfl
end Bm
/-! Rows of bales, in the order of their places: the program's, by growing, are the specification's; the nearest. -/
namespace Bm
open Kzd1 (Bale)

/-- where a row goes on -/
def nextOf (row : List Nat) : Nat := match row.getLast? with
  | none => 0
  | some x => x + 1
theorem nextOf_nil : nextOf [] = 0 := rfl
theorem nextOf_snoc (row : List Nat) (x : Nat) : nextOf (row ++ [x]) = x + 1 := by
  unfold nextOf
  rw [List.getLast?_concat]
/-- longer_rows -/
def longer (many : Nat) (row : List Nat) : List (List Nat) := (List.range' (nextOf row) (many - nextOf row)).map fun x => row ++ [x]
/-- one turn of all_rows -/
def grow (many : Nat) (rows : List (List Nat)) : List (List Nat) := rows.flatMap (longer many)
def rowsI (many : Nat) : Nat → List (List Nat)
  | 0 => [[]]
  | k + 1 => grow many (rowsI many k)
/-- all rows that go on from some -/
def ends (many k : Nat) (rows : List (List Nat)) : List (List Nat) := rows.flatMap fun row => (Kzd1.picks k (List.range' (nextOf row) (many - nextOf row))).map (row ++ ·)

theorem picks_zero (l : List Nat) : Kzd1.picks 0 l = [[]] := by unfold Kzd1.picks; rfl
theorem picks_nil (k : Nat) : Kzd1.picks (k + 1) [] = [] := by unfold Kzd1.picks; rfl
theorem picks_cons (k a : Nat) (r : List Nat) : Kzd1.picks (k + 1) (a :: r) = (Kzd1.picks k r).map (a :: ·) ++ Kzd1.picks (k + 1) r := by
  conv => lhs; unfold Kzd1.picks
theorem picks_one_step (k : Nat) : ∀ (n f : Nat) (row : List Nat),
    (Kzd1.picks (k + 1) (List.range' f n)).map (row ++ ·) = (List.range' f n).flatMap fun x => (Kzd1.picks k (List.range' (x + 1) (f + n - (x + 1)))).map (row ++ [x] ++ ·)
  | 0, f, row => by
    rw [List.range'_zero, picks_nil]
    rfl
  | n + 1, f, row => by
    rw [List.range'_succ, picks_cons, List.map_append, picks_one_step k n (f + 1) row, List.flatMap_cons, List.map_map]
    have e1 : f + (n + 1) - (f + 1) = n := by omega
    rw [e1]
    congr 1
    · apply List.map_congr_left
      intro s _
      simp
    · apply congrArg (fun g => List.flatMap g (List.range' (f + 1) n))
      funext x
      rw [show f + 1 + n - (x + 1) = f + (n + 1) - (x + 1) by omega]
theorem ends_grow (many k : Nat) (rows : List (List Nat)) : ends many k (grow many rows) = ends many (k + 1) rows := by
  unfold ends grow
  rw [List.flatMap_assoc]
  apply congrArg (fun g => List.flatMap g rows)
  funext row
  by_cases h : nextOf row ≤ many
  · rw [picks_one_step k (many - nextOf row) (nextOf row) row]
    unfold longer
    rw [List.flatMap_map]
    apply congrArg (fun g => List.flatMap g _)
    funext x
    rw [nextOf_snoc, show nextOf row + (many - nextOf row) = many by omega]
  · have e : many - nextOf row = 0 := by omega
    unfold longer
    rw [e, List.range'_zero, picks_nil]
    rfl
theorem ends_zero (many : Nat) (rows : List (List Nat)) : ends many 0 rows = rows := by
  unfold ends
  simp [picks_zero]
theorem rowsI_ends (many : Nat) : ∀ (k j : Nat), ends many j (rowsI many k) = ends many (j + k) [[]]
  | 0, j => rfl
  | k + 1, j => by
    show ends many j (grow many (rowsI many k)) = _
    rw [ends_grow, rowsI_ends many k (j + 1)]
    congr 1
    omega
/-- the rows that the program makes are the specification's -/
theorem rowsI_is (many k : Nat) : rowsI many k = Kzd1.picks k (List.range many) := by
  have h := rowsI_ends many k 0
  rw [ends_zero, Nat.zero_add] at h
  rw [h]
  unfold ends
  rw [List.flatMap_cons, List.flatMap_nil, List.append_nil, nextOf_nil, Nat.sub_zero, ← List.range_eq_range']
  simp

/-! ### what holds of a row -/
theorem picks_sub : ∀ (l : List Nat) (k : Nat) (s : List Nat), s ∈ Kzd1.picks k l → s.Sublist l ∧ s.length = k
  | l, 0, s, h => by
    rw [picks_zero] at h
    have e : s = [] := by simpa using h
    subst e
    exact ⟨List.nil_sublist _, rfl⟩
  | [], k + 1, s, h => by
    rw [picks_nil] at h
    cases h
  | a :: r, k + 1, s, h => by
    rw [picks_cons, List.mem_append, List.mem_map] at h
    rcases h with ⟨t, ht, rfl⟩ | h
    · have ih := picks_sub r k t ht
      exact ⟨ih.1.cons₂ a, by rw [List.length_cons, ih.2]⟩
    · have ih := picks_sub r (k + 1) s h
      exact ⟨ih.1.cons a, ih.2⟩
theorem picks_count : ∀ (l : List Nat) (k : Nat), (Kzd1.picks k l).length ≤ 2 ^ l.length
  | l, 0 => by
    rw [picks_zero]
    exact Nat.one_le_two_pow
  | [], k + 1 => by
    rw [picks_nil]
    exact Nat.zero_le _
  | a :: r, k + 1 => by
    have h1 := picks_count r k
    have h2 := picks_count r (k + 1)
    rw [picks_cons, List.length_append, List.length_map, List.length_cons, Nat.pow_succ]
    omega
theorem row_of {many k : Nat} {s : List Nat} (h : s ∈ rowsI many k) : s.Sublist (List.range many) ∧ s.length = k := by
  rw [rowsI_is] at h
  exact picks_sub _ _ _ h
theorem row_lt {many k : Nat} {s : List Nat} (h : s ∈ rowsI many k) : ∀ x ∈ s, x < many := fun x hx => List.mem_range.mp ((row_of h).1.subset hx)
theorem rowsI_count (many k : Nat) : (rowsI many k).length ≤ 2 ^ many := by
  rw [rowsI_is]
  have h := picks_count (List.range many) k
  rwa [List.length_range] at h
theorem longer_count (many : Nat) (row : List Nat) : (longer many row).length ≤ many := by
  unfold longer
  rw [List.length_map, List.length_range']
  omega
theorem grow_count (many : Nat) (rows : List (List Nat)) : (grow many rows).length ≤ rows.length * many := by
  induction rows with
  | nil => exact Nat.zero_le _
  | cons row r ih =>
    unfold grow at ih ⊢
    rw [List.flatMap_cons, List.length_append, List.length_cons, Nat.succ_mul]
    have := longer_count many row
    omega
theorem grow_append (many : Nat) (a b : List (List Nat)) : grow many (a ++ b) = grow many a ++ grow many b := by
  unfold grow
  rw [List.flatMap_append]
theorem grow_one (many : Nat) (row : List Nat) : grow many [row] = longer many row := by
  unfold grow
  simp

/-! ### the nearest -/
/-- a gap: above, below -/
def gapOf (bs : List Bale) (t : Nat) (s : List Nat) : Nat × Nat := (Kzd1.off bs t s, Kzd1.kgOf bs s)
def isLess (x y : Nat × Nat) : Bool := decide (x.1 * y.2 < y.1 * x.2)
theorem isLess_is (bs : List Bale) (t : Nat) (x y : List Nat) : isLess (gapOf bs t x) (gapOf bs t y) = Kzd1.nearer bs t x y := rfl
theorem off_is (bs : List Bale) (t : Nat) (s : List Nat) : ((Kzd1.off bs t s : Nat) : Int) = if (Kzd1.longOf bs s : Int) - (t : Int) * (Kzd1.kgOf bs s : Int) < 0 then -((Kzd1.longOf bs s : Int) - (t : Int) * (Kzd1.kgOf bs s : Int)) else (Kzd1.longOf bs s : Int) - (t : Int) * (Kzd1.kgOf bs s : Int) := by
  unfold Kzd1.off Kzd1.gap
  have e : ((t * Kzd1.kgOf bs s : Nat) : Int) = (t : Int) * (Kzd1.kgOf bs s : Int) := Int.natCast_mul _ _
  rw [← e]
  generalize t * Kzd1.kgOf bs s = a
  generalize Kzd1.longOf bs s = b
  split <;> omega
/-- one turn of nearest: what is best so far -/
def near1 (bs : List Bale) (t : Nat) (best : Option (List Nat)) (row : List Nat) : Option (List Nat) := match best with
  | none => some row
  | some b => if Kzd1.nearer bs t row b then some row else some b
def near (bs : List Bale) (t : Nat) (rows : List (List Nat)) : Option (List Nat) := rows.foldl (near1 bs t) none
theorem near_some (bs : List Bale) (t : Nat) : ∀ (rows : List (List Nat)) (x : List Nat), rows.foldl (near1 bs t) (some x) = some (rows.foldl (fun a b => if Kzd1.nearer bs t b a then b else a) x)
  | [], x => rfl
  | y :: r, x => by
    rw [List.foldl_cons, List.foldl_cons]
    have e : near1 bs t (some x) y = some (if Kzd1.nearer bs t y x then y else x) := by
      show (if Kzd1.nearer bs t y x then some y else some x) = _
      split <;> rfl
    rw [e, near_some bs t r]
theorem near_is (bs : List Bale) (k t : Nat) : near bs t (rowsI bs.length k) = Kzd1.pick bs k t := by
  rw [rowsI_is]
  unfold near Kzd1.pick Kzd1.all
  cases Kzd1.picks k (List.range bs.length) with
  | nil => rfl
  | cons x r => exact near_some bs t r x
theorem near1_mem {bs : List Bale} {t : Nat} {rows : List (List Nat)} {x : List Nat} (h : near bs t rows = some x) : x ∈ rows := by
  have aux : ∀ (rows : List (List Nat)) (b : Option (List Nat)) (x : List Nat), rows.foldl (near1 bs t) b = some x → x ∈ rows ∨ b = some x := by
    intro rows
    induction rows with
    | nil => intro b x h; exact .inr h
    | cons y r ih =>
      intro b x h
      rw [List.foldl_cons] at h
      rcases ih _ _ h with h | h
      · exact .inl (List.mem_cons_of_mem _ h)
      · cases b with
        | none =>
          have e : y = x := Option.some.inj h
          rw [e]
          exact .inl (List.mem_cons_self ..)
        | some b =>
          have h' : (if Kzd1.nearer bs t y b then some y else some b) = some x := h
          split at h'
          · have e : y = x := Option.some.inj h'
            rw [e]
            exact .inl (List.mem_cons_self ..)
          · exact .inr h'
  rcases aux rows none x h with h | h
  · exact h
  · cases h
theorem picks_some : ∀ (l : List Nat) (k : Nat), k ≤ l.length → Kzd1.picks k l ≠ []
  | l, 0, _ => by
    rw [picks_zero]
    exact List.cons_ne_nil _ _
  | [], k + 1, h => absurd h (by simp)
  | a :: r, k + 1, h => by
    rw [picks_cons]
    intro e
    have e1 := (List.append_eq_nil_iff.mp e).1
    exact picks_some r k (by simpa using h) (List.map_eq_nil_iff.mp e1)
theorem picks_short : ∀ (l : List Nat) (k : Nat), l.length < k → Kzd1.picks k l = []
  | l, 0, h => absurd h (by simp)
  | [], k + 1, _ => picks_nil k
  | a :: r, k + 1, h => by
    rw [picks_cons, picks_short r k (by simpa using h), picks_short r (k + 1) (by simp at h; omega)]
    rfl

/-! ### pick's answer -/
theorem f_pick (k t : Nat) (l : List Nat) : PyKzd1.pick k t (iz l) = (Kzd1.answer (.pick k t l)).value :: Kzd1Neutral.ints (Kzd1.answer (.pick k t l)).nums := by
  have e : PyKzd1.pick k t (iz l) = (Kzd1.answer (.pick k t (Kzd1Neutral.natsOf (iz l)))).value :: Kzd1Neutral.ints (Kzd1.answer (.pick k t (Kzd1Neutral.natsOf (iz l)))).nums := rfl
  rw [e, natsOf_iz]
def pickOk (k t : Nat) (l : List Nat) : Prop := Kzd1.good l = true ∧ (1 ≤ k ∧ k ≤ 9) ∧ t ≤ 500
theorem pick_bad {k t : Nat} {l : List Nat} (h : ¬ pickOk k t l) : PyKzd1.pick k t (iz l) = [-22] := by
  have c : Kzd1.good l = false ∨ k < 1 ∨ 9 < k ∨ 500 < t := by
    unfold pickOk at h
    cases g : Kzd1.good l with
    | false => exact .inl rfl
    | true =>
      rw [g] at h
      right
      by_cases h1 : k < 1
      · exact .inl h1
      · by_cases h2 : 9 < k
        · exact .inr (.inl h2)
        · by_cases h3 : 500 < t
          · exact .inr (.inr h3)
          · exact absurd ⟨rfl, ⟨by omega, by omega⟩, by omega⟩ h
  have e : Kzd1.answer (.pick k t l) = Kzd1.say (-22) := if_pos c
  rw [f_pick, e]
  rfl
theorem pick_ok {k t : Nat} {l : List Nat} (h : pickOk k t l) : Kzd1.answer (.pick k t l) = match Kzd1.pick (Kzd1.bales l) k t with
    | none => Kzd1.say (-33)
    | some s => ⟨(Kzd1.off (Kzd1.bales l) t s / Kzd1.kgOf (Kzd1.bales l) s : Nat), s⟩ := by
  obtain ⟨h1, h2, h3⟩ := h
  exact if_neg (by
    rintro (c | c | c | c)
    · rw [h1] at c; cases c
    · omega
    · omega
    · omega)
theorem pick_few {k t : Nat} {l : List Nat} (h : pickOk k t l) (hk : (Kzd1.bales l).length < k) : PyKzd1.pick k t (iz l) = [-33] := by
  have e : Kzd1.pick (Kzd1.bales l) k t = none := by
    unfold Kzd1.pick Kzd1.all
    rw [picks_short _ _ (by rw [List.length_range]; exact hk)]
  rw [f_pick, pick_ok h, e]
  rfl
theorem pick_some {k t : Nat} {l : List Nat} (h : pickOk k t l) {s : List Nat} (e : near (Kzd1.bales l) t (rowsI (Kzd1.bales l).length k) = some s) :
    PyKzd1.pick k t (iz l) = iz ((Kzd1.off (Kzd1.bales l) t s / Kzd1.kgOf (Kzd1.bales l) s) :: s) := by
  rw [near_is] at e
  rw [f_pick, pick_ok h, e]
  rfl
theorem near_ne {bs : List Bale} {k t : Nat} (hk : k ≤ bs.length) : ∃ s, near bs t (rowsI bs.length k) = some s := by
  rw [near_is]
  unfold Kzd1.pick Kzd1.all
  cases e : Kzd1.picks k (List.range bs.length) with
  | nil => exact absurd e (picks_some _ _ (by rw [List.length_range]; exact hk))
  | cons x r => exact ⟨_, rfl⟩
end Bm
namespace Bm
open PySem PySem.Spec PyProof.Rows L2
open Kzd1 (Bale)

/-! ### values, heaps -/
def iv (n : Nat) : V := .int (n : Int)
theorem iv_get {l : List Nat} {i : Nat} {n : Nat} (h : l[i]? = some n) : (l.map iv)[i]? = some (iv n) := by
  rw [List.getElem?_map, h]
  rfl
theorem iv_of {l : List Nat} {i : Nat} {x : V} (h : (l.map iv)[i]? = some x) : ∃ n, l[i]? = some n ∧ x = iv n := by
  rw [List.getElem?_map] at h
  cases e : l[i]? with
  | none =>
    rw [e] at h
    cases h
  | some n =>
    rw [e] at h
    exact ⟨n, rfl, (Option.some.inj h).symm⟩
theorem iv_map (l : List Nat) : l.map iv = (iz l).map V.int := by
  unfold iz
  rw [List.map_map]
  rfl
theorem same_upd {H : Hp} {p : Addr} {o : HO} (h : H p = none) : Same H (upd H p o) := fun b x e => by
  rw [upd_ne (ne_of_none e h)]
  exact e
theorem small_size {n : Nat} (h : n ≤ 16000000) : n < sizeLine := Nat.lt_of_le_of_lt h (by decide)
theorem small_size' {n : Nat} (h : n ≤ 16000000) : n ≤ sizeLine := Nat.le_of_lt (small_size h)
theorem take_more {α : Type} : ∀ {l : List α} {i : Nat} {x : α}, l[i]? = some x → l.take (i + 1) = l.take i ++ [x]
  | [], i, x, h => by simp at h
  | a :: l, 0, x, h => by
    have e : a = x := Option.some.inj h
    subst e
    rfl
  | a :: l, i + 1, x, h => by
    have ih := take_more (l := l) (i := i) (x := x) h
    show a :: l.take (i + 1) = a :: l.take i ++ [x]
    rw [ih]
    rfl
theorem pair_get {α β : Type} {F : α → β → Prop} : ∀ {l : List α} {m : List β} {i : Nat} {a : α}, Paired F l m → l[i]? = some a → ∃ b, m[i]? = some b ∧ F a b
  | _, _, _, _, .nil, h => by simp at h
  | _, _, 0, a, .cons r _, h => by
    have e := Option.some.inj h
    exact ⟨_, rfl, e ▸ r⟩
  | _, _, i + 1, a, .cons _ t, h => pair_get (i := i) t h
theorem pair_get' {α β : Type} {F : α → β → Prop} : ∀ {l : List α} {m : List β} {i : Nat} {b : β}, Paired F l m → m[i]? = some b → ∃ a, l[i]? = some a ∧ F a b
  | _, _, _, _, .nil, h => by simp at h
  | _, _, 0, b, .cons r _, h => by
    have e := Option.some.inj h
    exact ⟨_, rfl, e ▸ r⟩
  | _, _, i + 1, b, .cons _ t, h => pair_get' (i := i) t h
theorem pair_len {α β : Type} {F : α → β → Prop} {l : List α} {m : List β} (h : Paired F l m) : l.length = m.length := Paired.length h
theorem ref_of {ps : List Addr} {i : Nat} {x : V} (h : (ps.map V.ref)[i]? = some x) : ∃ p, ps[i]? = some p ∧ x = .ref p := by
  rw [List.getElem?_map] at h
  cases e : ps[i]? with
  | none =>
    rw [e] at h
    cases h
  | some p =>
    rw [e] at h
    exact ⟨p, rfl, (Option.some.inj h).symm⟩
theorem ref_get {ps : List Addr} {i : Nat} {p : Addr} (h : ps[i]? = some p) : (ps.map V.ref)[i]? = some (V.ref p) := by
  rw [List.getElem?_map, h]
  rfl

/-! ### attributes -/
theorem lk_here {k : Str} {v : V} {r : List (Str × V)} : List.lookup k ((k, v) :: r) = some v := by
  have e : (k == k) = true := beq_self_eq_true k
  simp only [List.lookup, e]
theorem lk_past {k g : Str} {v : V} {r : List (Str × V)} (h : (k == g) = false) : List.lookup k ((g, v) :: r) = List.lookup k r := by
  simp only [List.lookup, h]
theorem put_here {f : Str} {v x : V} {r : List (Str × V)} : putF f v ((f, x) :: r) = (f, v) :: r := if_pos rfl
theorem put_past {f g : Str} {v x : V} {r : List (Str × V)} (h : ¬ g = f) : putF f v ((g, x) :: r) = (g, x) :: putF f v r := if_neg h

/-! ### bales -/
def bF (b : Bale) : List (Str × V) := [("weight", iv b.kg), ("far", iv b.long)]
def BaleAt (C : Addr) (H : Hp) (p : Addr) (b : Bale) : Prop := ∃ dx, H p = some (.ins C dx (bF b))
def BalesAt (K : PySem.W.Frag) (C : Addr) (H : Hp) (a : Addr) (bs : List Bale) : Prop := ∃ ps : List Addr, SqL K H a (ps.map V.ref) ∧ Paired (BaleAt C H) ps bs
theorem bF_weight (b : Bale) : (bF b).lookup ("weight" : Str) = some (iv b.kg) := lk_here
theorem bF_far (b : Bale) : (bF b).lookup ("far" : Str) = some (iv b.long) := (lk_past (by decide +kernel)).trans lk_here
theorem bF_new (b : Bale) : putF "far" (iv b.long) (putF "weight" (iv b.kg) []) = bF b := (put_past (by decide +kernel)).trans rfl
theorem BaleAt.same {C : Addr} {H H' : Hp} {p : Addr} {b : Bale} (s : Same H H') (h : BaleAt C H p b) : BaleAt C H' p b := let ⟨dx, e⟩ := h; ⟨dx, s _ _ e⟩
theorem pair_bales {C : Addr} {H H' : Hp} {ps : List Addr} {bs : List Bale} (s : Same H H') (h : Paired (BaleAt C H) ps bs) : Paired (BaleAt C H') ps bs := Paired.mapP h fun _ _ q => q.same s
theorem BalesAt.same {K : PySem.W.Frag} {C : Addr} {H H' : Hp} {a : Addr} {bs : List Bale} (s : Same H H') (h : BalesAt K C H a bs) : BalesAt K C H' a bs :=
  let ⟨ps, h1, h2⟩ := h
  ⟨ps, s.seq h1, pair_bales s h2⟩

/-! ### range(0, n, 2) -/
theorem rg2 : ∀ n : Nat, n ≤ 20 → RgC 0 (n : Int) 2 ((n + 1) / 2) := by
  have h : ∀ n : Fin 21, RgC 0 ((n.val : Nat) : Int) 2 ((n.val + 1) / 2) := by
    unfold RgC
    decide +kernel
  exact fun n hn => h ⟨n, by omega⟩
end Bm
namespace Bm
open PySem PySem.Spec PyProof.Rows L2
open Kzd1 (Bale)
def top (i : Nat) : Stmt := PySem.Challenge.pw_balelayer_s02_pick.main.body.getD i (.Pass ⟨0, 0, 0, 0⟩)
abbrev sBale : Stmt := inClass (top 2) 0
abbrev sBalesOf : Stmt := top 4
abbrev sWeight : Stmt := top 5
abbrev sMoment : Stmt := top 6

/-- what the top has written of Bale -/
structure TBale (K : PySem.W.Frag) (mg : Str → Option Value) (C : Addr) : Prop where
  cl : Cls K C
  nW : NoAttr K C "weight"
  nF : NoAttr K C "far"
  gC : mg "Bale" = some (.ref C)
/-- the built-ins' names are free -/
structure TBlt (mg : Str → Option Value) : Prop where
  len : mg "len" = none
  range : mg "range" = none
  sum : mg "sum" = none

section
variable {P : Program} {w : World} {K : PySem.W.Frag} {mg : Str → Option Value} {base : Heap} {C : Addr}
/-! ### Bale(weight, far) -/
def spBale (C : Addr) : Sp := fun vs H Q _ => ∃ (p dx : Addr) (b : Bale), vs = [.ref p, iv b.kg, iv b.long] ∧ H p = some (.ins C dx []) ∧
  ∀ H' : Hp, BaleAt C H' p b → (∀ a o, H a = some o → a ≠ p → H' a = some o) → Q .non H'
theorem scBale : FnScope ["self", "weight", "far"] ["self", "weight", "far"] (defScope sBale) := ⟨rfl, rfl, rfl, by decide +kernel, rfl, by decide +kernel, by decide +kernel⟩
theorem ok_bale {f : Addr} {fd : FuncData} (F : Fun K "__init__" "Bale.__init__" sBale f fd) (T : TBale K mg C) : FnOk P w K mg base CX0 1 f fd ["self", "weight", "far"] (spBale C) := by
  refine F.ok scBale (fun vs H Q E h => ?_) (fun cdv A outer s H vs Q E hr h => ?_)
  · obtain ⟨p, dx, b, rfl, _⟩ := h
    rfl
  · obtain ⟨p, dx, b, rfl, hp, k⟩ := h
    refine ⟨_, pss_cons (ps_fld (pv 0) (pv 1) rfl) (pss_one (ps_fld (pv 0) (pv 2) rfl)), ?_⟩
    refine ⟨_, rfl, _, rfl, p, C, dx, [], rfl, hp, T.cl, T.nW, (by show 0 < 1000; decide), ?_⟩
    refine ⟨_, rfl, _, rfl, p, C, dx, _, rfl, upd_same, T.cl, T.nF, (by show 1 < 1000; decide), ?_⟩
    exact k _ ⟨dx, Eq.trans upd_same (congrArg (fun q => some (HO.ins C dx q)) (bF_new b))⟩ fun a o e ha => by
      rw [upd_ne ha, upd_ne ha]
      exact e

/-! ### bales_of(numbers) -/
def spBalesOf (K : PySem.W.Frag) (C : Addr) : Sp := fun vs H Q _ => ∃ (a : Addr) (l : List Nat), vs = [.ref a] ∧ SqL K H a (l.map iv) ∧ l.length % 2 = 0 ∧ l.length ≤ 20 ∧
  ∀ (H' : Hp) (p : Addr), Same H H' → BalesAt K C H' p (Kzd1.bales l) → Q (.ref p) H'
theorem scBalesOf : FnScope ["numbers", "at"] ["numbers"] (defScope sBalesOf) := ⟨rfl, rfl, rfl, by decide +kernel, rfl, by decide +kernel, by decide +kernel⟩
theorem ok_bales_of {f fI : Addr} {fd fdI : FuncData} (F : Fun K "bales_of" "bales_of" sBalesOf f fd) (T : TBale K mg C) (B : TBlt mg) (M : Mk K C fI) (FI : Fun K "__init__" "Bale.__init__" sBale fI fdI) (bI : Binds K fdI ["self", "weight", "far"] []) :
    FnOk P w K mg base CX0 3 f fd ["numbers"] (spBalesOf K C) := by
  have GI : FnOk P w K mg base CX0 1 fI fdI ["self", "weight", "far"] (spBale C) := ok_bale FI T
  refine F.ok scBalesOf (fun vs H Q E h => ?_) (fun cdv A outer s H vs Q E hr h => ?_)
  · obtain ⟨a, l, rfl, _⟩ := h
    rfl
  · obtain ⟨a, l, rfl, hS, hev, hlen, k⟩ := h
    refine ⟨_, pss_one (ps_ret (pe_lc (own := [("at", 1)]) (g := gName 1) (tt := tYes) rfl scBalesOf.nd
      (pi_range3 rfl B.range (pa_cons pe_int (pa_cons (pe_callB call_len_seq (by rfl) B.len PySem.boot_len (pa_cons (pv 0) pa_nil)) (pa_cons pe_int pa_nil))))
      (blkOk_by (N := ["numbers", "at"]) (sc := defScope sBalesOf) (by decide +kernel))
      (fun _ _ _ _ _ => pg_name (i := 1) scBalesOf.nd rfl (Or.inl rfl)) (fun _ _ _ _ _ => pts_nil)
      (fun _ _ _ _ _ => pe_make M GI hr rfl T.gC bI .nil pass0 (pa_cons (pe_ix (r := rIxL K) ix_list (pv 0) (pv 1) (fun _ _ => rfl)) (pa_cons (pe_ix (r := rIxL K) ix_list (pv 0) (pe_op op_add (pv 1) pe_int) (fun _ _ => rfl)) pa_nil))))), ?_⟩
    refine ⟨_, rfl, a, _, rfl, .inl hS, 0, _, 2, (l.length + 1) / 2, rfl, ?_, fun D hD => ?_⟩
    · rw [List.length_map]
      exact rg2 _ hlen
    · refine lc_it walk_rangeC (fun i H1 => Same H H1 ∧ ∃ ps, H1 D = some (.lst (ps.map V.ref)) ∧ Paired (BaleAt C H1) ps ((Kzd1.bales l).take i))
        ⟨same_upd hD, [], upd_same, .nil⟩ (fun _ _ _ _ => trivial) ?_ ?_
      · rintro i x H1 H2 hi ⟨sm, ps, e1, e2⟩ ⟨rfl, rfl⟩
        have hi2 : i < l.length / 2 := by omega
        have g0 : 2 * i < l.length := by omega
        have g1 : 2 * i + 1 < l.length := by omega
        have i0 : l[2 * i]? = some (l.getD (2 * i) 0) := by simp [g0]
        have i1 : l[2 * i + 1]? = some (l.getD (2 * i + 1) 0) := by simp [g1]
        have hb := bales_get l i hi2
        refine ⟨rfl, ?_⟩
        refine ⟨_, rfl, _, rfl, a, _, _, _, rfl, rfl, sm.seq hS, at_of (j := 2 * i) (by omega) (iv_get i0), ?_⟩
        refine ⟨_, rfl, _, rfl, _, _, rfl, rfl, a, _, _, _, rfl, rfl, sm.seq hS, at_of (j := 2 * i + 1) (by omega) (iv_get i1), ?_⟩
        intro x dx nx nd ne
        refine ⟨x, dx, ⟨l.getD (2 * i) 0, l.getD (2 * i + 1) 0⟩, rfl, upd_same, fun H3 J kp => ⟨rfl, ?_⟩⟩
        have s3 : Same H2 H3 := Same.made nx nd kp
        refine ⟨ps.map V.ref, s3 _ _ e1, ?_, ?_, ?_⟩
        · rw [List.length_map, pair_len e2, List.length_take, bales_len]
          exact small_size (by omega)
        · intro b o hb
          have hbD : b ≠ D := ne_of_none hb hD
          rw [upd_ne hbD]
          exact s3 _ _ (sm _ _ hb)
        · have hpD : ∀ q b, BaleAt C H3 q b → BaleAt C (upd H3 D (.lst (ps.map V.ref ++ [.ref x]))) q b := fun q b ⟨dq, hq⟩ => ⟨dq, by
            rw [upd_ne (ne_of hq (s3 _ _ e1) (by intro z; cases z))]
            exact hq⟩
          refine ⟨ps ++ [x], ?_, ?_⟩
          · rw [upd_same, List.map_append]
            rfl
          · rw [take_more hb]
            exact Paired.snoc (Paired.mapP (pair_bales s3 e2) hpD) (hpD _ _ J)
      · rintro H1 ⟨sm, ps, e1, e2⟩
        rw [List.take_of_length_le (by rw [bales_len]; omega)] at e2
        exact k H1 D sm ⟨ps, SqL.of e1, e2⟩
end
section
variable {P : Program} {w : World} {K : PySem.W.Frag} {mg : Str → Option Value} {base : Heap} {C : Addr}
theorem wOf_sum (bs : List Bale) : (iz (bs.map Bale.kg)).sum = (wOf bs : Int) := by
  induction bs with
  | nil => rfl
  | cons b r ih =>
    show ((b.kg : Nat) : Int) + (iz (r.map Bale.kg)).sum = ((b.kg + wOf r : Nat) : Int)
    rw [ih]
    omega
theorem mOf_sum (bs : List Bale) : (iz (bs.map fun b => b.kg * b.long)).sum = (mOf bs : Int) := by
  induction bs with
  | nil => rfl
  | cons b r ih =>
    show ((b.kg * b.long : Nat) : Int) + (iz (r.map fun b => b.kg * b.long)).sum = ((b.kg * b.long + mOf r : Nat) : Int)
    rw [ih]
    omega
/-- a list of the bales' numbers: what a comprehension [g(bale) for bale in bales] has made, turn by turn -/
theorem map_more {α β : Type} {g : α → β} {l : List α} {i : Nat} {x : α} (h : l[i]? = some x) : (l.take (i + 1)).map g = (l.take i).map g ++ [g x] := by
  rw [take_more h, List.map_append]
  rfl

/-! ### weight_of(bales), moment_of(bales) -/
def spWeight (K : PySem.W.Frag) (C : Addr) : Sp := fun vs H Q _ => ∃ (a : Addr) (bs : List Bale), vs = [.ref a] ∧ BalesAt K C H a bs ∧ bs.length ≤ 100 ∧
  ∀ H' : Hp, Same H H' → Q (iv (wOf bs)) H'
theorem scWeight : FnScope ["bales", "bale"] ["bales"] (defScope sWeight) := ⟨rfl, rfl, rfl, by decide +kernel, rfl, by decide +kernel, by decide +kernel⟩
theorem ok_weight {f : Addr} {fd : FuncData} (F : Fun K "weight_of" "weight_of" sWeight f fd) (T : TBale K mg C) (B : TBlt mg) : FnOk P w K mg base CX0 1 f fd ["bales"] (spWeight K C) := by
  refine F.ok scWeight (fun vs H Q E h => ?_) (fun cdv A outer s H vs Q E hr h => ?_)
  · obtain ⟨a, l, rfl, _⟩ := h
    rfl
  · obtain ⟨a, bs, rfl, ⟨ps, hS, hP⟩, hlen, k⟩ := h
    refine ⟨_, pss_one (ps_ret (pe_callB (cr_sum rfl) (by rfl) B.sum (by decide +kernel) (pa_cons (pe_lc (own := [("bale", 1)]) (g := gName 1) (tt := tYes) (te := tFld K (tVar 1) "weight") rfl scWeight.nd
      (pi_list (pv 0))
      (blkOk_by (N := ["bales", "bale"]) (sc := defScope sWeight) (by decide +kernel))
      (fun _ _ _ _ _ => pg_name (i := 1) scWeight.nd rfl (Or.inl rfl)) (fun _ _ _ _ _ => pts_nil)
      (fun _ _ _ _ _ => pe_fld (pv 1) rfl)) pa_nil))), ?_⟩
    refine ⟨_, rfl, a, rfl, ⟨_, hS⟩, fun D hD => ?_⟩
    refine lc_list (K := K) (a := a) (xs := ps.map V.ref) (fun i H1 => Same H H1 ∧ H1 D = some (.lst (((bs.take i).map Bale.kg).map iv)))
        ⟨same_upd hD, upd_same⟩ (fun i H1 _ q => q.1.seq hS) ?_ ?_
    · rintro i x H1 hx ⟨sm, e1⟩
      obtain ⟨p, hp, rfl⟩ := ref_of hx
      obtain ⟨b, hb, dx, hd⟩ := pair_get hP hp
      refine ⟨rfl, ?_⟩
      refine ⟨_, rfl, p, C, dx, _, _, rfl, sm _ _ hd, T.cl, T.nW, bF_weight b, ?_⟩
      refine ⟨_, e1, ?_, fun b o hb => ?_, ?_⟩
      · rw [List.length_map, List.length_map, List.length_take]
        exact small_size (by omega)
      · rw [upd_ne (ne_of_none hb hD)]
        exact sm _ _ hb
      · rw [upd_same, map_more hb, List.map_append]
        rfl
    · rintro H1 ⟨sm, e1⟩
      rw [List.length_map, pair_len hP, List.take_length] at e1
      refine ⟨D, iz (bs.map Bale.kg), rfl, SqL.of (by rw [e1, iv_map]), ?_⟩
      rw [wOf_sum]
      exact k H1 sm
def spMoment (K : PySem.W.Frag) (C : Addr) : Sp := fun vs H Q _ => ∃ (a : Addr) (bs : List Bale), vs = [.ref a] ∧ BalesAt K C H a bs ∧ bs.length ≤ 100 ∧ OkBs bs ∧
  ∀ H' : Hp, Same H H' → Q (iv (mOf bs)) H'
theorem scMoment : FnScope ["bales", "bale"] ["bales"] (defScope sMoment) := ⟨rfl, rfl, rfl, by decide +kernel, rfl, by decide +kernel, by decide +kernel⟩
theorem ok_moment {f : Addr} {fd : FuncData} (F : Fun K "moment_of" "moment_of" sMoment f fd) (T : TBale K mg C) (B : TBlt mg) : FnOk P w K mg base CX0 1 f fd ["bales"] (spMoment K C) := by
  refine F.ok scMoment (fun vs H Q E h => ?_) (fun cdv A outer s H vs Q E hr h => ?_)
  · obtain ⟨a, l, rfl, _⟩ := h
    rfl
  · obtain ⟨a, bs, rfl, ⟨ps, hS, hP⟩, hlen, hok, k⟩ := h
    refine ⟨_, pss_one (ps_ret (pe_callB (cr_sum rfl) (by rfl) B.sum (by decide +kernel) (pa_cons (pe_lc (own := [("bale", 1)]) (g := gName 1) (tt := tYes) (te := tOp _ (tFld K (tVar 1) "weight") (tFld K (tVar 1) "far")) rfl scMoment.nd
      (pi_list (pv 0))
      (blkOk_by (N := ["bales", "bale"]) (sc := defScope sMoment) (by decide +kernel))
      (fun _ _ _ _ _ => pg_name (i := 1) scMoment.nd rfl (Or.inl rfl)) (fun _ _ _ _ _ => pts_nil)
      (fun _ _ _ _ _ => pe_op op_mulN (pe_fld (pv 1) rfl) (pe_fld (pv 1) rfl))) pa_nil))), ?_⟩
    refine ⟨_, rfl, a, rfl, ⟨_, hS⟩, fun D hD => ?_⟩
    refine lc_list (K := K) (a := a) (xs := ps.map V.ref) (fun i H1 => Same H H1 ∧ H1 D = some (.lst (((bs.take i).map fun b => b.kg * b.long).map iv)))
        ⟨same_upd hD, upd_same⟩ (fun i H1 _ q => q.1.seq hS) ?_ ?_
    · rintro i x H1 hx ⟨sm, e1⟩
      obtain ⟨p, hp, rfl⟩ := ref_of hx
      obtain ⟨b, hb, dx, hd⟩ := pair_get hP hp
      have ob := hok b (List.mem_of_getElem? hb)
      refine ⟨rfl, ?_⟩
      refine ⟨_, rfl, p, C, dx, _, _, rfl, sm _ _ hd, T.cl, T.nW, bF_weight b, ?_⟩
      refine ⟨_, rfl, p, C, dx, _, _, rfl, sm _ _ hd, T.cl, T.nF, bF_far b, ?_⟩
      refine ⟨b.kg, b.long, rfl, rfl, by have := ob.2.1; omega, ?_⟩
      refine ⟨_, e1, ?_, fun b o hb => ?_, ?_⟩
      · rw [List.length_map, List.length_map, List.length_take]
        exact small_size (by omega)
      · rw [upd_ne (ne_of_none hb hD)]
        exact sm _ _ hb
      · rw [upd_same, map_more hb, List.map_append]
        rfl
    · rintro H1 ⟨sm, e1⟩
      rw [List.length_map, pair_len hP, List.take_length] at e1
      refine ⟨D, iz (bs.map fun b => b.kg * b.long), rfl, SqL.of (by rw [e1, iv_map]), ?_⟩
      rw [mOf_sum]
      exact k H1 sm

end
theorem way_yes {c : Bool} {A B : Prop} (hc : c = true) (h : A) : if c = true then A else B := by
  rw [if_pos hc]
  exact h
theorem way_no {c : Bool} {A B : Prop} (hc : c = false) (h : B) : if c = true then A else B := by
  rw [hc, if_neg Bool.false_ne_true]
  exact h
abbrev sIsBale : Stmt := top 18
abbrev sAre : Stmt := top 19
/-- the constants of looking -/
structure TLook (mg : Str → Option Value) : Prop where
  mB : ∃ t, mg "MOST_BALES" = some (.int 9 t)
  mW : ∃ t, mg "MOST_WEIGHT" = some (.int 300 t)
  mL : ∃ t, mg "MOST_LENGTH" = some (.int 500 t)
section
variable {P : Program} {w : World} {K : PySem.W.Frag} {mg : Str → Option Value} {base : Heap} {C : Addr}
def okPair (a b : Nat) : Bool := decide (1 ≤ a ∧ a ≤ 300 ∧ b ≤ 500)
def spIsBale : Sp := fun vs H Q _ => ∃ (a b : Nat), vs = [iv a, iv b] ∧ Q (.bl (okPair a b)) H
theorem scIsBale : FnScope ["weight", "far"] ["weight", "far"] (defScope sIsBale) := ⟨rfl, rfl, rfl, by decide +kernel, rfl, by decide +kernel, by decide +kernel⟩
theorem ok_is_bale {f : Addr} {fd : FuncData} (F : Fun K "is_bale" "is_bale" sIsBale f fd) (L : TLook mg) : FnOk P w K mg base CX0 1 f fd ["weight", "far"] spIsBale := by
  refine F.ok scIsBale (fun vs H Q E h => ?_) (fun cdv A outer s H vs Q E hr h => ?_)
  · obtain ⟨a, b, rfl, _⟩ := h
    rfl
  · obtain ⟨a, b, rfl, k⟩ := h
    obtain ⟨tW, gW⟩ := L.mW
    obtain ⟨tL, gL⟩ := L.mL
    refine ⟨_, pss_one (ps_ret (pe_and (pe_chain op_le op_le pe_int (pv 0) (pe_glob (v := .int 300) rfl gW ⟨_, rfl⟩)) (pe_one (pe_cmpR op_le (pv 1) (pe_glob (v := .int 500) rfl gL ⟨_, rfl⟩) (nomark _))))), ?_⟩
    refine ⟨_, rfl, _, _, rfl, rfl, _, rfl, ite2 (fun e => ?_) (fun e => ?_)⟩
    · have e1 := of_decide_eq_true e
      refine ⟨_, _, rfl, rfl, _, rfl, ite2 (fun e => ?_) (fun e => ?_)⟩
      · have e2 := of_decide_eq_true e
        refine ⟨_, rfl, _, _, rfl, rfl, ?_⟩
        have q : decide ((b : Int) ≤ 500) = okPair a b := by
          unfold okPair
          apply decide_eq_decide.mpr
          constructor
          · intro h; omega
          · intro h; omega
        show Q (.bl (decide ((b : Int) ≤ 500))) H
        rw [q]
        exact k
      · have e2 : ¬ (a : Int) ≤ 300 := fun z => e (decide_eq_true z)
        have q : false = okPair a b := by
          unfold okPair
          exact (decide_eq_false (by omega)).symm
        rw [q]
        exact k
    · have e1 : ¬ (1 : Int) ≤ (a : Int) := fun z => e (decide_eq_true z)
      refine ⟨_, rfl, way_no rfl ?_⟩
      have q : false = okPair a b := by
        unfold okPair
        exact (decide_eq_false (by omega)).symm
      rw [q]
      exact k

theorem good_false_size {l : List Nat} (h : ¬ (l.length % 2 = 0 ∧ l.length ≤ 18)) : Kzd1.good l = false := by
  cases e : Kzd1.good l with
  | false => rfl
  | true => exact absurd ⟨((good_iff l).mp e).1, ((good_iff l).mp e).2.1⟩ h
theorem good_false_at {l : List Nat} {i : Nat} (hi : i < l.length / 2) (h : okPair (l.getD (2 * i) 0) (l.getD (2 * i + 1) 0) = false) : Kzd1.good l = false := by
  cases e : Kzd1.good l with
  | false => rfl
  | true =>
    have q := ((good_iff l).mp e).2.2 i hi
    unfold okPair at h
    exact absurd q (of_decide_eq_false h)
def spAre (K : PySem.W.Frag) : Sp := fun vs H Q _ => ∃ (a : Addr) (l : List Nat), vs = [.ref a] ∧ SqL K H a (l.map iv) ∧ l.length ≤ 20 ∧ Q (.bl (Kzd1.good l)) H
theorem scAre : FnScope ["numbers", "at"] ["numbers"] (defScope sAre) := ⟨rfl, rfl, rfl, by decide +kernel, rfl, by decide +kernel, by decide +kernel⟩
theorem ok_are {f fI : Addr} {fd fdI : FuncData} (F : Fun K "are_bales" "are_bales" sAre f fd) (B : TBlt mg) (L : TLook mg) (FI : Fun K "is_bale" "is_bale" sIsBale fI fdI) (bI : Binds K fdI ["weight", "far"] []) (gI : mg "is_bale" = some (.ref fI)) :
    FnOk P w K mg base CX0 2 f fd ["numbers"] (spAre K) := by
  have GI : FnOk P w K mg base CX0 1 fI fdI ["weight", "far"] spIsBale := ok_is_bale FI L
  refine F.ok scAre (fun vs H Q E h => ?_) (fun cdv A outer s H vs Q E hr h => ?_)
  · obtain ⟨a, l, rfl, _⟩ := h
    rfl
  · obtain ⟨a, l, rfl, hS, hlen, k⟩ := h
    obtain ⟨tB, gB⟩ := L.mB
    refine ⟨_, pss_cons (ps_if (PW.pt (pw_or (pt_cmpR op_ne (pe_op op_mod (pe_callB call_len_seq (by rfl) B.len PySem.boot_len (pa_cons (pv 0) pa_nil)) pe_int) pe_int (nomark _))
          (pw_or1 (pt_cmpR op_gt (pe_callB call_len_seq (by rfl) B.len PySem.boot_len (pa_cons (pv 0) pa_nil)) (pe_op op_mul pe_int (pe_glob (v := .int 9) rfl gB ⟨_, rfl⟩)) (nomark _)))))
          (pss_one (ps_ret pe_bl)) pss_nil)
      (pss_cons (ps_for PassesOwn.never rfl (pi_range3 rfl B.range (pa_cons pe_int (pa_cons (pe_callB call_len_seq (by rfl) B.len PySem.boot_len (pa_cons (pv 0) pa_nil)) (pa_cons pe_int pa_nil)))) (pg_name (i := 1) scAre.nd rfl (Or.inl rfl))
        (pss_one (ps_if (pt_not (pt_val (pe_call GI hr (by rfl) gI FI.kp bI .nil pass0 (pa_cons (pe_ix ix_list (pv 0) (pv 1) (fun _ _ => rfl)) (pa_cons (pe_ix ix_list (pv 0) (pe_op op_add (pv 1) pe_int) (fun _ _ => rfl)) pa_nil))))) (pss_one (ps_ret pe_bl)) pss_nil)))
      (pss_one (ps_ret pe_bl))), ?_⟩
    have hl : ((l.map iv).length : Int) = (l.length : Int) := by rw [List.length_map]
    refine ⟨_, rfl, a, _, rfl, .inl hS, _, _, rfl, rfl, (by show (0 : Int) < 2; decide), rfl, _, rfl, ?_⟩
    by_cases c1 : l.length % 2 = 0
    · refine way_no ?_ ?_
      · rw [hl]
        have e : (l.length : Int) % 2 = 0 := by omega
        show (!decide (V.int ((l.length : Int) % 2) = V.int 0)) = false
        rw [e]
        rfl
      · refine ⟨_, rfl, a, _, rfl, .inl hS, _, _, rfl, rfl, .inl ⟨by decide, by decide⟩, _, _, rfl, rfl, _, rfl, ?_⟩
        by_cases c2 : l.length ≤ 18
        · refine way_no ?_ ?_
          · rw [hl]
            exact decide_eq_false (by omega)
          · refine ⟨_, rfl, a, _, rfl, .inl hS, 0, _, 2, (l.length + 1) / 2, rfl, ?_, ?_⟩
            · rw [hl]
              exact rg2 _ hlen
            · refine for_rangeC (fun i σ H' => H' = H ∧ (∃ v, σ = [some (.ref a), v]) ∧ ∀ j, j < i → okPair (l.getD (2 * j) 0) (l.getD (2 * j + 1) 0) = true) ⟨rfl, ⟨none, rfl⟩, fun j hj => absurd hj (Nat.not_lt_zero j)⟩ ?_ ?_
              · rintro i σ H' hi ⟨rfl, ⟨v, rfl⟩, ih⟩
                have hi2 : i < l.length / 2 := by omega
                have g0 : 2 * i < l.length := by omega
                have g1 : 2 * i + 1 < l.length := by omega
                have i0 : l[2 * i]? = some (l.getD (2 * i) 0) := by simp [g0]
                have i1 : l[2 * i + 1]? = some (l.getD (2 * i + 1) 0) := by simp [g1]
                refine ⟨_, rfl, _, rfl, a, _, _, _, rfl, rfl, hS, at_of (j := 2 * i) (by omega) (iv_get i0), ?_⟩
                refine ⟨_, rfl, _, rfl, _, _, rfl, rfl, a, _, _, _, rfl, rfl, hS, at_of (j := 2 * i + 1) (by omega) (iv_get i1), ?_⟩
                refine ⟨_, _, rfl, _, rfl, ?_⟩
                cases e : okPair (l.getD (2 * i) 0) (l.getD (2 * i + 1) 0) with
                | true =>
                  refine way_no rfl ⟨rfl, ⟨_, rfl⟩, fun j hj => ?_⟩
                  rcases Nat.lt_succ_iff_lt_or_eq.mp hj with q | q
                  · exact ih j q
                  · rw [q]
                    exact e
                | false =>
                  refine way_yes rfl ?_
                  rw [good_false_at hi2 e] at k
                  exact k
              · rintro σ H' ⟨rfl, ⟨v, rfl⟩, ih⟩
                have g : Kzd1.good l = true := (good_iff l).mpr ⟨c1, c2, fun i hi => of_decide_eq_true (ih i (by omega))⟩
                rw [g] at k
                exact k
        · refine way_yes ?_ ?_
          · rw [hl]
            exact decide_eq_true (by omega)
          · rw [good_false_size (fun z => c2 z.2)] at k
            exact k
    · refine way_yes ?_ (way_yes rfl ?_)
      · rw [hl]
        have e : (l.length : Int) % 2 = 1 := by omega
        show (!decide (V.int ((l.length : Int) % 2) = V.int 0)) = true
        rw [e]
        rfl
      · rw [good_false_size (fun z => c1 z.1)] at k
        exact k

end
end Bm
namespace Bm
open PySem PySem.Spec PyProof.Rows L2
open Kzd1 (Bale)
/-! ### gaps -/
abbrev sGap : Stmt := inClass (top 3) 0
abbrev sLess : Stmt := inClass (top 3) 1
abbrev sWithin : Stmt := inClass (top 3) 2
abbrev sRounded : Stmt := inClass (top 3) 3
abbrev sGapOf : Stmt := top 7
def gF (x : Nat × Nat) : List (Str × V) := [("above", iv x.1), ("below", iv x.2)]
def GapAt (G : Addr) (H : Hp) (p : Addr) (x : Nat × Nat) : Prop := ∃ dx, H p = some (.ins G dx (gF x))
theorem gF_above (x : Nat × Nat) : (gF x).lookup ("above" : Str) = some (iv x.1) := lk_here
theorem gF_below (x : Nat × Nat) : (gF x).lookup ("below" : Str) = some (iv x.2) := (lk_past (by decide +kernel)).trans lk_here
theorem gF_no (x : Nat × Nat) {m : Str} (h1 : (m == ("above" : Str)) = false) (h2 : (m == ("below" : Str)) = false) : (gF x).lookup m = none := (lk_past h1).trans ((lk_past h2).trans rfl)
theorem gF_new (x : Nat × Nat) : putF "below" (iv x.2) (putF "above" (iv x.1) []) = gF x := (put_past (by decide +kernel)).trans rfl
theorem GapAt.same {G : Addr} {H H' : Hp} {p : Addr} {x : Nat × Nat} (s : Same H H') (h : GapAt G H p x) : GapAt G H' p x := let ⟨dx, e⟩ := h; ⟨dx, s _ _ e⟩
structure TGap (K : PySem.W.Frag) (mg : Str → Option Value) (G : Addr) : Prop where
  cl : Cls K G
  nA : NoAttr K G "above"
  nB : NoAttr K G "below"
  gG : mg "Gap" = some (.ref G)
section
variable {P : Program} {w : World} {K : PySem.W.Frag} {mg : Str → Option Value} {base : Heap} {C G : Addr}
def spGap (G : Addr) : Sp := fun vs H Q _ => ∃ (p dx : Addr) (x : Nat × Nat), vs = [.ref p, iv x.1, iv x.2] ∧ H p = some (.ins G dx []) ∧
  ∀ H' : Hp, GapAt G H' p x → (∀ a o, H a = some o → a ≠ p → H' a = some o) → Q .non H'
theorem scGap : FnScope ["self", "above", "below"] ["self", "above", "below"] (defScope sGap) := ⟨rfl, rfl, rfl, by decide +kernel, rfl, by decide +kernel, by decide +kernel⟩
theorem ok_gap {f : Addr} {fd : FuncData} (F : Fun K "__init__" "Gap.__init__" sGap f fd) (T : TGap K mg G) : FnOk P w K mg base CX0 1 f fd ["self", "above", "below"] (spGap G) := by
  refine F.ok scGap (fun vs H Q E h => ?_) (fun cdv A outer s H vs Q E hr h => ?_)
  · obtain ⟨p, dx, b, rfl, _⟩ := h
    rfl
  · obtain ⟨p, dx, b, rfl, hp, k⟩ := h
    refine ⟨_, pss_cons (ps_fld (pv 0) (pv 1) rfl) (pss_one (ps_fld (pv 0) (pv 2) rfl)), ?_⟩
    refine ⟨_, rfl, _, rfl, p, G, dx, [], rfl, hp, T.cl, T.nA, (by show 0 < 1000; decide), ?_⟩
    refine ⟨_, rfl, _, rfl, p, G, dx, _, rfl, upd_same, T.cl, T.nB, (by show 1 < 1000; decide), ?_⟩
    exact k _ ⟨dx, Eq.trans upd_same (congrArg (fun q => some (HO.ins G dx q)) (gF_new b))⟩ fun a o e ha => by
      rw [upd_ne ha, upd_ne ha]
      exact e
/-- how far some bales are from a length, above and below -/
def gapB (bs : List Bale) (t : Nat) : Nat × Nat := (Kzd1.gap (mOf bs) (t * wOf bs), wOf bs)
theorem gapB_is (bs : List Bale) (t : Nat) (row : List Nat) : gapB (row.map (Kzd1.at_ bs)) t = gapOf bs t row := by
  unfold gapB gapOf Kzd1.off
  rw [wOf_is, mOf_is]
theorem gap_abs (m a : Nat) : (if (m : Int) - (a : Int) < 0 then -((m : Int) - (a : Int)) else (m : Int) - (a : Int)) = ((Kzd1.gap m a : Nat) : Int) := by
  unfold Kzd1.gap
  split <;> omega
theorem gapB_le {bs : List Bale} {t : Nat} (h : OkBs bs) (hl : bs.length ≤ 100) (ht : t ≤ 500) : (gapB bs t).1 ≤ 15000000 ∧ (gapB bs t).2 ≤ 30000 := by
  have h1 := wOf_le bs h
  have h2 := mOf_le bs h
  have h3 : t * wOf bs ≤ 500 * 30000 := Nat.mul_le_mul ht (by omega)
  unfold gapB Kzd1.gap
  refine ⟨?_, by show wOf bs ≤ 30000; omega⟩
  show max (mOf bs) (t * wOf bs) - min (mOf bs) (t * wOf bs) ≤ 15000000
  omega
def spGapOf (K : PySem.W.Frag) (C G : Addr) : Sp := fun vs H Q _ => ∃ (a : Addr) (bs : List Bale) (t : Nat), vs = [.ref a, iv t] ∧ BalesAt K C H a bs ∧ bs.length ≤ 100 ∧ OkBs bs ∧ t ≤ 500 ∧
  ∀ (H' : Hp) (p : Addr), Same H H' → GapAt G H' p (gapB bs t) → Q (.ref p) H'
theorem scGapOf : FnScope ["bales", "t"] ["bales", "t"] (defScope sGapOf) := ⟨rfl, rfl, rfl, by decide +kernel, rfl, by decide +kernel, by decide +kernel⟩
theorem ok_gap_of {f fI fW fM : Addr} {fd fdI fdW fdM : FuncData} (F : Fun K "gap_of" "gap_of" sGapOf f fd) (T : TGap K mg G) (habs : mg "abs" = none) (MG : Mk K G fI) (FI : Fun K "__init__" "Gap.__init__" sGap fI fdI) (bI : Binds K fdI ["self", "above", "below"] [])
    (kW : PySem.W.keepIn K (.ref fW) = true) (GW : FnOk P w K mg base CX0 1 fW fdW ["bales"] (spWeight K C)) (bW : Binds K fdW ["bales"] []) (gW : mg "weight_of" = some (.ref fW))
    (kM : PySem.W.keepIn K (.ref fM) = true) (GM : FnOk P w K mg base CX0 1 fM fdM ["bales"] (spMoment K C)) (bM : Binds K fdM ["bales"] []) (gM : mg "moment_of" = some (.ref fM)) :
    FnOk P w K mg base CX0 3 f fd ["bales", "t"] (spGapOf K C G) := by
  have GI : FnOk P w K mg base CX0 1 fI fdI ["self", "above", "below"] (spGap G) := ok_gap FI T
  refine F.ok scGapOf (fun vs H Q E h => ?_) (fun cdv A outer s H vs Q E hr h => ?_)
  · obtain ⟨a, bs, t, rfl, _⟩ := h
    rfl
  · obtain ⟨a, bs, t, rfl, hB, hlen, hok, ht, k⟩ := h
    have hr1 : Room 1 _ := hr.mono (by decide)
    refine ⟨_, pss_one (ps_ret (pe_make MG GI hr rfl T.gG bI .nil pass0
      (pa_cons (pe_callB call_abs (by rfl) habs (by decide +kernel) (pa_cons (pe_op op_sub (pe_call GM hr1 (by rfl) gM kM bM .nil pass0 (pa_cons (pv 0) pa_nil)) (pe_op op_mulN (pv 1) (pe_call GW hr1 (by rfl) gW kW bW .nil pass0 (pa_cons (pv 0) pa_nil)))) pa_nil))
        (pa_cons (pe_call GW hr1 (by rfl) gW kW bW .nil pass0 (pa_cons (pv 0) pa_nil)) pa_nil)))), ?_⟩
    refine ⟨_, rfl, a, bs, rfl, hB, hlen, hok, fun H1 s1 => ?_⟩
    refine ⟨_, rfl, _, rfl, a, bs, rfl, hB.same s1, hlen, fun H2 s2 => ?_⟩
    refine ⟨t, wOf bs, rfl, rfl, by omega, _, _, rfl, rfl, _, rfl, ?_⟩
    refine ⟨_, rfl, a, bs, rfl, hB.same (s1.trans s2), hlen, fun H3 s3 => ?_⟩
    intro x dx nx nd ne
    have s4 : Same H H3 := (s1.trans s2).trans s3
    refine ⟨x, dx, gapB bs t, ?_, upd_same, fun H4 J kp => ⟨rfl, k H4 x (s4.trans (Same.made nx nd kp)) J⟩⟩
    rw [gap_abs]
    rfl
end
/-! ### rows -/
abbrev sChosen : Stmt := top 8
abbrev sLonger : Stmt := top 9
abbrev sAll : Stmt := top 10
/-- a row's list, a list of rows' lists -/
def RowAt (H : Hp) (p : Addr) (row : List Nat) : Prop := H p = some (.lst (row.map iv))
def RowsAt (H : Hp) (a : Addr) (rows : List (List Nat)) : Prop := ∃ ps : List Addr, H a = some (.lst (ps.map V.ref)) ∧ Paired (RowAt H) ps rows
theorem RowAt.same {H H' : Hp} {p : Addr} {row : List Nat} (s : Same H H') (h : RowAt H p row) : RowAt H' p row := s _ _ h
theorem pair_rows {H H' : Hp} {ps : List Addr} {rows : List (List Nat)} (s : Same H H') (h : Paired (RowAt H) ps rows) : Paired (RowAt H') ps rows := Paired.mapP h fun _ _ q => q.same s
theorem RowsAt.same {H H' : Hp} {a : Addr} {rows : List (List Nat)} (s : Same H H') (h : RowsAt H a rows) : RowsAt H' a rows :=
  let ⟨ps, h1, h2⟩ := h
  ⟨ps, s _ _ h1, pair_rows s h2⟩
/-- a row that isn't empty is no list of objects -/
theorem row_ne_refs {row : List Nat} {ps : List Addr} (h : row ≠ []) : (HO.lst (row.map iv)) ≠ .lst (ps.map V.ref) := fun z => by
  have e := HO.lst.inj z
  cases row with
  | nil => exact h rfl
  | cons x r =>
    cases ps with
    | nil => cases e
    | cons p q =>
      have e1 := (List.cons.inj e).1
      cases e1
/-- a list of rows stands when a list of objects is changed: no row is empty -/
theorem rows_upd {H : Hp} {D : Addr} {qs : List Addr} {o : HO} (hD : H D = some (.lst (qs.map V.ref))) : ∀ {ps : List Addr} {rows : List (List Nat)}, Paired (RowAt H) ps rows → (∀ r ∈ rows, r ≠ []) → Paired (RowAt (upd H D o)) ps rows
  | _, _, .nil, _ => .nil
  | _, _, .cons q t, hn => .cons (by
      have hq := q
      unfold RowAt at q ⊢
      rw [upd_ne (ne_of q hD (row_ne_refs (hn _ (List.mem_cons_self ..))))]
      exact q) (rows_upd hD t fun r hr => hn r (List.mem_cons_of_mem _ hr))
theorem pair_append {α β : Type} {F : α → β → Prop} : ∀ {l1 l2 : List α} {m1 m2 : List β}, Paired F l1 m1 → Paired F l2 m2 → Paired F (l1 ++ l2) (m1 ++ m2)
  | _, _, _, _, .nil, h => h
  | _, _, _, _, .cons r t, h => .cons r (pair_append t h)
theorem longer_ne {many : Nat} {row r : List Nat} (h : r ∈ longer many row) : r ≠ [] := by
  unfold longer at h
  obtain ⟨x, _, rfl⟩ := List.mem_map.mp h
  simp
theorem grow_ne {many : Nat} {rows : List (List Nat)} : ∀ r ∈ grow many rows, r ≠ [] := fun r h => by
  unfold grow at h
  obtain ⟨row, _, h2⟩ := List.mem_flatMap.mp h
  exact longer_ne h2
section
variable {P : Program} {w : World} {K : PySem.W.Frag} {mg : Str → Option Value} {base : Heap} {C G : Addr}
def spChosen (K : PySem.W.Frag) (C : Addr) : Sp := fun vs H Q _ => ∃ (a r : Addr) (bs : List Bale) (row : List Nat), vs = [.ref a, .ref r] ∧ BalesAt K C H a bs ∧ RowAt H r row ∧ (∀ x ∈ row, x < bs.length) ∧ row.length ≤ 100 ∧
  ∀ (H' : Hp) (p : Addr), Same H H' → BalesAt K C H' p (row.map (Kzd1.at_ bs)) → Q (.ref p) H'
theorem scChosen : FnScope ["bales", "numbers", "number"] ["bales", "numbers"] (defScope sChosen) := ⟨rfl, rfl, rfl, by decide +kernel, rfl, by decide +kernel, by decide +kernel⟩
theorem ok_chosen {f : Addr} {fd : FuncData} (F : Fun K "chosen_bales" "chosen_bales" sChosen f fd) : FnOk P w K mg base CX0 1 f fd ["bales", "numbers"] (spChosen K C) := by
  refine F.ok scChosen (fun vs H Q E h => ?_) (fun cdv A outer s H vs Q E hr h => ?_)
  · obtain ⟨a, r, bs, row, rfl, _⟩ := h
    rfl
  · obtain ⟨a, r, bs, row, rfl, ⟨ps, hS, hP⟩, hR, hlt, hlen, k⟩ := h
    refine ⟨_, pss_one (ps_ret (pe_lc (own := [("number", 2)]) (g := gName 2) (tt := tYes) (te := tOp (rIxL K) (tVar 0) (tVar 2)) rfl scChosen.nd
      (pi_list (pv 1))
      (blkOk_by (N := ["bales", "numbers", "number"]) (sc := defScope sChosen) (by decide +kernel))
      (fun _ _ _ _ _ => pg_name (i := 2) scChosen.nd rfl (Or.inl rfl)) (fun _ _ _ _ _ => pts_nil)
      (fun _ _ _ _ _ => pe_ix (r := rIxL K) ix_list (pv 0) (pv 2) (fun _ _ => rfl)))), ?_⟩
    refine ⟨_, rfl, r, rfl, ⟨_, SqL.of hR⟩, fun D hD => ?_⟩
    refine lc_list (K := K) (a := r) (xs := row.map iv) (fun i H1 => Same H H1 ∧ ∃ qs, H1 D = some (.lst (qs.map V.ref)) ∧ Paired (BaleAt C H) qs ((row.take i).map (Kzd1.at_ bs)))
        ⟨same_upd hD, [], upd_same, .nil⟩ (fun i H1 _ q => SqL.of (hR.same q.1)) ?_ ?_
    · rintro i x H1 hx ⟨sm, qs, e1, e2⟩
      obtain ⟨n, hn, rfl⟩ := iv_of hx
      have hnl : n < bs.length := hlt n (List.mem_of_getElem? hn)
      have hb : bs[n]? = some (Kzd1.at_ bs n) := by
        unfold Kzd1.at_
        simp [hnl]
      obtain ⟨p, hp, hq⟩ := pair_get' hP hb
      refine ⟨rfl, ?_⟩
      refine ⟨_, rfl, _, rfl, a, _, _, _, rfl, rfl, sm.seq hS, at_of (j := n) rfl (ref_get hp), ?_⟩
      refine ⟨_, e1, ?_, fun b o hb => ?_, qs ++ [p], ?_, ?_⟩
      · rw [List.length_map, pair_len e2, List.length_map, List.length_take]
        exact small_size (by omega)
      · rw [upd_ne (ne_of_none hb hD)]
        exact sm _ _ hb
      · rw [upd_same, List.map_append]
        rfl
      · rw [take_more hn, List.map_append]
        exact Paired.snoc e2 hq
    · rintro H1 ⟨sm, qs, e1, e2⟩
      rw [List.length_map, List.take_length] at e2
      exact k H1 D sm ⟨qs, SqL.of e1, pair_bales sm e2⟩

def spLonger : Sp := fun vs H Q _ => ∃ (r : Addr) (row : List Nat) (many : Nat), vs = [.ref r, iv many] ∧ RowAt H r row ∧ (∀ x ∈ row, x < many) ∧ row.length ≤ 100 ∧ many ≤ 100 ∧
  ∀ (H' : Hp) (p : Addr), Same H H' → H p = none → RowsAt H' p (longer many row) → Q (.ref p) H'
theorem scLonger : FnScope ["row", "many", "first", "number"] ["row", "many"] (defScope sLonger) := ⟨rfl, rfl, rfl, by decide +kernel, rfl, by decide +kernel, by decide +kernel⟩
theorem ok_longer {f : Addr} {fd : FuncData} (F : Fun K "longer_rows" "longer_rows" sLonger f fd) (B : TBlt mg) : FnOk P w K mg base CX0 1 f fd ["row", "many"] spLonger := by
  refine F.ok scLonger (fun vs H Q E h => ?_) (fun cdv A outer s H vs Q E hr h => ?_)
  · obtain ⟨r, row, many, rfl, _⟩ := h
    rfl
  · obtain ⟨r, row, many, rfl, hR, hlt, hlen, hm, k⟩ := h
    refine ⟨_, pss_cons (ps_set (i := 2) scLonger.nd rfl (.inl rfl) pe_int)
      (pss_cons (ps_if (pt_cmpR op_gt (pe_callB call_len_seq (by rfl) B.len PySem.boot_len (pa_cons (pv 0) pa_nil)) pe_int (nomark _))
        (pss_one (ps_set (i := 2) scLonger.nd rfl (.inl rfl) (pe_op op_add (pe_ix ix_list (pv 0) (pe_un un_neg pe_int) (fun _ _ => rfl)) pe_int))) pss_nil)
      (pss_one (ps_ret (pe_lc (own := [("number", 3)]) (g := gName 3) (tt := tYes) rfl scLonger.nd
        (pi_range2 (by rfl) B.range (pa_cons (pv 2) (pa_cons (pv 1) pa_nil)))
        (blkOk_by (N := ["row", "many", "first", "number"]) (sc := defScope sLonger) (by decide +kernel))
        (fun _ _ _ _ _ => pg_name (i := 3) scLonger.nd rfl (Or.inl rfl)) (fun _ _ _ _ _ => pts_nil)
        (fun _ _ _ _ _ => pe_op op_cat (pv 0) (pe_lst (pa_cons (pv 3) pa_nil))))))), ?_⟩
    have main : ∀ σ, σ = [some (.ref r), some (iv many), some (iv (nextOf row)), none] →
        tLc (iRng2 (tCons (tVar 2) (tCons (tVar 1) tNil))) (gName 3) tYes (tOp rCat (tVar 0) (tLst (tCons (tVar 3) tNil))) [3] σ H Q := by
      rintro σ rfl
      have hnx : nextOf row ≤ many := by
        unfold nextOf
        cases e : row.getLast? with
        | none => exact Nat.zero_le _
        | some x => exact hlt x (List.mem_of_getLast? e)
      refine ⟨_, rfl, _, rfl, (nextOf row : Int), (many : Int), rfl, ⟨by omega, by omega, by omega, by omega⟩, fun D hD => ?_⟩
      have en : ((many : Int) - (nextOf row : Int)).toNat = many - nextOf row := by omega
      rw [en]
      refine lc_range (lo := (nextOf row : Int)) (n := many - nextOf row) (fun i H1 => Same H H1 ∧ ∃ ps, H1 D = some (.lst (ps.map V.ref)) ∧ Paired (RowAt H1) ps ((longer many row).take i))
        ⟨same_upd hD, [], upd_same, .nil⟩ ?_ ?_
      · rintro i H1 hi ⟨sm, ps, e1, e2⟩
        have hi2 : (longer many row)[i]? = some (row ++ [nextOf row + i]) := by
          unfold longer
          rw [List.getElem?_map, List.getElem?_range' hi]
          simp
        refine ⟨rfl, ?_⟩
        refine ⟨_, rfl, _, rfl, by show 1 ≤ sizeLine; decide, fun z hz => ?_⟩
        have s1 : Same H1 (upd H1 z (.lst [.int ((nextOf row : Int) + i)])) := same_upd hz
        refine ⟨r, z, _, _, rfl, rfl, s1 _ _ (hR.same sm), upd_same, ?_, fun p hp => ?_⟩
        · rw [List.length_map]
          exact small_size' (by show row.length + 1 ≤ _; omega)
        · have s2 := s1.trans (same_upd (o := HO.lst (row.map iv ++ [.int ((nextOf row : Int) + i)])) hp)
          have e3 := s2 _ _ e1
          refine ⟨_, e3, ?_, fun b o hb => ?_, ps ++ [p], ?_, ?_⟩
          · have : (longer many row).length = many - nextOf row := by unfold longer; simp
            rw [List.length_map, pair_len e2, List.length_take]
            exact small_size (by omega)
          · rw [upd_ne (ne_of_none hb hD)]
            exact s2 _ _ (sm _ _ hb)
          · rw [upd_same, List.map_append]
            rfl
          · rw [take_more hi2]
            refine Paired.snoc (rows_upd e3 (pair_rows s2 e2) fun r hr => longer_ne (List.mem_of_mem_take hr)) ?_
            unfold RowAt
            have hpD : p ≠ D := fun z => by
              have hn := s1.free hp
              rw [z, e1] at hn
              cases hn
            rw [upd_ne hpD, upd_same, List.map_append]
            have ei : (nextOf row : Int) + (i : Int) = ((nextOf row + i : Nat) : Int) := by omega
            rw [ei]
            rfl
      · rintro H1 ⟨sm, ps, e1, e2⟩
        rw [List.take_of_length_le (by unfold longer; simp)] at e2
        exact k H1 D sm hD ⟨ps, e1, e2⟩
    refine ⟨_, rfl, r, _, rfl, .inl (SqL.of hR), _, _, rfl, rfl, _, rfl, ite2 (fun e => ?_) (fun e => ?_)⟩
    · have e0 := of_decide_eq_true e
      rw [List.length_map] at e0
      have hne : row ≠ [] := fun z => by
        subst z
        exact absurd e0 (by decide)
      have hz : row.map iv = row.dropLast.map iv ++ [iv (row.getLast hne)] := by
        rw [← List.map_singleton, ← List.map_append, List.dropLast_concat_getLast]
      have gl : atI (row.map iv) (-1) = some (iv (row.getLast hne)) := by
        rw [hz]
        exact atI_last _ _
      refine ⟨_, rfl, 1, rfl, r, _, -1, _, rfl, rfl, SqL.of hR, gl, _, _, rfl, rfl, ?_⟩
      refine main _ ?_
      have hn : nextOf row = row.getLast hne + 1 := by
        unfold nextOf
        rw [List.getLast?_eq_getLast hne]
      rw [hn]
      have ei : ((row.getLast hne : Nat) : Int) + 1 = ((row.getLast hne + 1 : Nat) : Int) := by omega
      show [some (V.ref r), some (iv many), some (V.int (((row.getLast hne : Nat) : Int) + 1)), none] = _
      rw [ei]
      rfl
    · have e0 : ¬ (0 : Int) < ((row.map iv).length : Int) := fun z => e (decide_eq_true z)
      rw [List.length_map] at e0
      have hn : row = [] := List.length_eq_zero_iff.mp (by omega)
      refine main _ ?_
      rw [hn]
      rfl

def spAll : Sp := fun vs H Q _ => ∃ (many size : Nat), vs = [iv many, iv size] ∧ many ≤ 9 ∧ size ≤ 9 ∧
  ∀ (H' : Hp) (p : Addr), Same H H' → RowsAt H' p (rowsI many size) → Q (.ref p) H'
theorem scAll : FnScope ["many", "size", "found", "turn", "longer", "row"] ["many", "size"] (defScope sAll) := ⟨rfl, rfl, rfl, by decide +kernel, rfl, by decide +kernel, by decide +kernel⟩
theorem ok_all {f fL : Addr} {fd fdL : FuncData} (F : Fun K "all_rows" "all_rows" sAll f fd) (B : TBlt mg) (FL : Fun K "longer_rows" "longer_rows" sLonger fL fdL) (bL : Binds K fdL ["row", "many"] []) (gL : mg "longer_rows" = some (.ref fL)) :
    FnOk P w K mg base CX0 2 f fd ["many", "size"] spAll := by
  have GL : FnOk P w K mg base CX0 1 fL fdL ["row", "many"] spLonger := ok_longer FL B
  refine F.ok scAll (fun vs H Q E h => ?_) (fun cdv A outer s H vs Q E hr h => ?_)
  · obtain ⟨many, size, rfl, _⟩ := h
    rfl
  · obtain ⟨many, size, rfl, hm, hs, k⟩ := h
    refine ⟨_, pss_cons (ps_set (i := 2) scAll.nd rfl (.inl rfl) (pe_lst (pa_cons (pe_lst pa_nil) pa_nil)))
      (pss_cons (ps_for PassesOwn.never rfl (pi_range1 rfl B.range (pa_cons (pv 1) pa_nil)) (pg_name (i := 3) scAll.nd rfl (Or.inl rfl))
        (pss_cons (ps_set (i := 4) scAll.nd rfl (.inl rfl) (pe_lst pa_nil))
        (pss_cons (ps_for PassesOwn.never rfl (pi_list (pv 2)) (pg_name (i := 5) scAll.nd rfl (Or.inl rfl))
          (pss_one (ps_expr (pe_bm PySem.F.plainAttrs_list PySem.F.slot_list_extend PySem.F.type_list_extend mt_extend (pv 4) (pa_cons (pe_call GL hr (by rfl) gL FL.kp bL .nil pass0 (pa_cons (pv 5) (pa_cons (pv 0) pa_nil))) pa_nil)))))
        (pss_one (ps_set (i := 2) scAll.nd rfl (.inl rfl) (pv 4))))))
      (pss_one (ps_ret (pv 2)))), ?_⟩
    refine ⟨Nat.zero_le _, fun e he => ⟨by show 1 ≤ sizeLine; decide, fun f0 hf0 => ?_⟩⟩
    have hef : e ≠ f0 := ne_of_none upd_same hf0
    have s0 : Same H (upd (upd H e (.lst [])) f0 (.lst [.ref e])) := (same_upd he).trans (same_upd hf0)
    refine ⟨_, rfl, (size : Int), rfl, by omega, by omega, ?_⟩
    rw [Int.toNat_natCast]
    refine for_range (lo := 0) (n := size) (fun i σ H1 => ∃ f v3 v4 v5, σ = [some (iv many), some (iv size), some (.ref f), v3, v4, v5] ∧ Same H H1 ∧ RowsAt H1 f (rowsI many i))
      ⟨f0, none, none, none, rfl, s0, [e], upd_same, .cons (by unfold RowAt; rw [upd_ne hef, upd_same]; rfl) .nil⟩ ?_ ?_
    · rintro i σ H1 hi ⟨f, v3, v4, v5, rfl, sm, ps, e1, e2⟩
      refine ⟨Nat.zero_le _, fun g hg => ?_⟩
      have s1 : Same H1 (upd H1 g (.lst [])) := same_upd hg
      refine ⟨_, rfl, f, rfl, ⟨_, SqL.of (s1 _ _ e1)⟩, ?_⟩
      have lenR : (rowsI many i).length ≤ 512 := Nat.le_trans (rowsI_count many i) (Nat.le_trans (Nat.pow_le_pow_right (by decide) hm) (by decide))
      refine for_list (K := K) (a := f) (xs := ps.map V.ref) (fun j σ H2 => ∃ w3 w5, σ = [some (iv many), some (iv size), some (.ref f), w3, some (.ref g), w5] ∧ Same H1 H2 ∧ RowsAt H2 g (grow many ((rowsI many i).take j)))
        ⟨_, _, rfl, s1, [], upd_same, .nil⟩ (fun j σ H2 _ ⟨_, _, _, q, _⟩ => SqL.of (q _ _ e1)) ?_ ?_
      · rintro j x σ H2 hx ⟨w3, w5, rfl, sm2, qs, d1, d2⟩
        obtain ⟨p, hp, rfl⟩ := ref_of hx
        obtain ⟨row, hrow, hq⟩ := pair_get e2 hp
        have hmem := List.mem_of_getElem? hrow
        refine ⟨_, rfl, .inl ⟨rfl, _, SqL.of d1⟩, _, rfl, _, rfl, p, row, many, rfl, hq.same sm2, row_lt hmem, by rw [(row_of hmem).2]; omega, by omega, fun H3 z s3 hz R3 => ?_⟩
        obtain ⟨zs, z1, z2⟩ := R3
        have d3 := s3 _ _ d1
        have lg : (grow many ((rowsI many i).take j)).length ≤ 512 * 9 := by
          refine Nat.le_trans (grow_count many _) (Nat.mul_le_mul ?_ hm)
          rw [List.length_take]
          omega
        refine ⟨g, z, _, _, rfl, rfl, d3, z1, ?_, ?_⟩
        · have := longer_count many row
          rw [List.length_map, List.length_map, pair_len d2, pair_len z2]
          exact small_size' (by omega)
        · refine ⟨_, _, rfl, fun b o hb => ?_, qs ++ zs, ?_, ?_⟩
          · rw [upd_ne (ne_of_none hb hg)]
            exact s3 _ _ (sm2 _ _ hb)
          · rw [upd_same, List.map_append]
          · rw [take_more hrow, grow_append, grow_one]
            exact pair_append (rows_upd d3 (pair_rows s3 d2) fun r hr => grow_ne r hr) (rows_upd d3 z2 fun r hr => longer_ne hr)
      · rintro σ H2 ⟨w3, w5, rfl, sm2, R2⟩
        rw [List.length_map, pair_len e2, List.take_length] at R2
        exact ⟨_, rfl, g, w3, _, w5, rfl, sm.trans sm2, R2⟩
    · rintro σ H1 ⟨f, v3, v4, v5, rfl, sm, R⟩
      exact ⟨_, rfl, k H1 f sm R⟩
end
end Bm
namespace Bm
open PySem PySem.Spec PyProof.Rows L2
open Kzd1 (Bale)
/-! ### the nearest, pick -/
abbrev sNearest : Stmt := top 12
abbrev sIsLength : Stmt := top 20
abbrev sIsPicked : Stmt := top 21
abbrev sPick : Stmt := top 25
section
variable {P : Program} {w : World} {K : PySem.W.Frag} {mg : Str → Option Value} {base : Heap} {C G : Addr}
def spLess (G : Addr) : Sp := fun vs H Q _ => ∃ (p q : Addr) (x y : Nat × Nat), vs = [.ref p, .ref q] ∧ GapAt G H p x ∧ GapAt G H q y ∧ x.1 ≤ 4294967296 ∧ y.1 ≤ 4294967296 ∧ Q (.bl (isLess x y)) H
theorem scLess : FnScope ["self", "other"] ["self", "other"] (defScope sLess) := ⟨rfl, rfl, rfl, by decide +kernel, rfl, by decide +kernel, by decide +kernel⟩
theorem ok_less {f : Addr} {fd : FuncData} (F : Fun K "is_less" "Gap.is_less" sLess f fd) (T : TGap K mg G) : FnOk P w K mg base CX0 1 f fd ["self", "other"] (spLess G) := by
  refine F.ok scLess (fun vs H Q E h => ?_) (fun cdv A outer s H vs Q E hr h => ?_)
  · obtain ⟨p, q, x, y, rfl, _⟩ := h
    rfl
  · obtain ⟨p, q, x, y, rfl, ⟨dp, hp⟩, ⟨dq, hq⟩, hx, hy, k⟩ := h
    refine ⟨_, pss_one (ps_ret (pe_cmpR op_lt (pe_op op_mulN (pe_fld (pv 0) rfl) (pe_fld (pv 1) rfl)) (pe_op op_mulN (pe_fld (pv 1) rfl) (pe_fld (pv 0) rfl)) (nomark _))), ?_⟩
    refine ⟨_, rfl, p, G, dp, _, _, rfl, hp, T.cl, T.nA, gF_above x, _, rfl, q, G, dq, _, _, rfl, hq, T.cl, T.nB, gF_below y, x.1, y.2, rfl, rfl, hx, ?_⟩
    refine ⟨_, rfl, q, G, dq, _, _, rfl, hq, T.cl, T.nA, gF_above y, _, rfl, p, G, dp, _, _, rfl, hp, T.cl, T.nB, gF_below x, y.1, x.2, rfl, rfl, hy, ?_⟩
    refine ⟨_, _, rfl, rfl, ?_⟩
    have e : decide (((x.1 * y.2 : Nat) : Int) < ((y.1 * x.2 : Nat) : Int)) = isLess x y := by
      unfold isLess
      apply decide_eq_decide.mpr
      omega
    rw [← e] at k
    exact k
def spRounded (G : Addr) : Sp := fun vs H Q _ => ∃ (p : Addr) (x : Nat × Nat), vs = [.ref p] ∧ GapAt G H p x ∧ (1 ≤ x.2 ∧ x.2 < 1073741824) ∧ Q (iv (x.1 / x.2)) H
theorem scRounded : FnScope ["self"] ["self"] (defScope sRounded) := ⟨rfl, rfl, rfl, by decide +kernel, rfl, by decide +kernel, by decide +kernel⟩
theorem ok_rounded {f : Addr} {fd : FuncData} (F : Fun K "rounded_down" "Gap.rounded_down" sRounded f fd) (T : TGap K mg G) : FnOk P w K mg base CX0 1 f fd ["self"] (spRounded G) := by
  refine F.ok scRounded (fun vs H Q E h => ?_) (fun cdv A outer s H vs Q E hr h => ?_)
  · obtain ⟨p, x, rfl, _⟩ := h
    rfl
  · obtain ⟨p, x, rfl, ⟨dp, hp⟩, hx, k⟩ := h
    refine ⟨_, pss_one (ps_ret (pe_op op_fdivNN (pe_fld (pv 0) rfl) (pe_fld (pv 0) rfl))), ?_⟩
    exact ⟨_, rfl, p, G, dp, _, _, rfl, hp, T.cl, T.nA, gF_above x, _, rfl, p, G, dp, _, _, rfl, hp, T.cl, T.nB, gF_below x, x.1, x.2, rfl, rfl, hx, k⟩

/-! ### nearest(bales, size, t) -/
def spNearest (K : PySem.W.Frag) (C : Addr) : Sp := fun vs H Q _ => ∃ (a : Addr) (bs : List Bale) (size t : Nat), vs = [.ref a, iv size, iv t] ∧ BalesAt K C H a bs ∧ bs.length ≤ 9 ∧ OkBs bs ∧ 1 ≤ size ∧ size ≤ bs.length ∧ t ≤ 500 ∧
  ∀ (H' : Hp) (p : Addr) (s : List Nat), near bs t (rowsI bs.length size) = some s → H' p = some (.lst (((Kzd1.off bs t s / Kzd1.kgOf bs s) :: s).map iv)) → Q (.ref p) H'
theorem ok_bs_sub {bs : List Bale} (h : OkBs bs) {row : List Nat} (hl : ∀ x ∈ row, x < bs.length) : OkBs (row.map (Kzd1.at_ bs)) := fun b hb => by
  obtain ⟨x, hx, rfl⟩ := List.mem_map.mp hb
  have hxl := hl x hx
  refine h _ ?_
  unfold Kzd1.at_
  rw [List.getD_eq_getElem?_getD, List.getElem?_eq_getElem hxl]
  exact List.getElem_mem hxl
/-- what nearest holds behind some turns -/
def Best (G : Addr) (bs : List Bale) (t : Nat) (H : Hp) (c : Addr) : Option (List Nat) → V → Prop
  | none, v => v = .non ∧ RowAt H c []
  | some s, v => ∃ g, v = .ref g ∧ GapAt G H g (gapOf bs t s) ∧ RowAt H c s
theorem Best.same {G : Addr} {bs : List Bale} {t : Nat} {H H' : Hp} {c : Addr} {o : Option (List Nat)} {v : V} (s : Same H H') (h : Best G bs t H c o v) : Best G bs t H' c o v := by
  cases o with
  | none => exact ⟨h.1, h.2.same s⟩
  | some r =>
    obtain ⟨g, h1, h2, h3⟩ := h
    exact ⟨g, h1, h2.same s, h3.same s⟩
theorem near_more {bs : List Bale} {t : Nat} {rows : List (List Nat)} {i : Nat} {row : List Nat} (h : rows[i]? = some row) : near bs t (rows.take (i + 1)) = near1 bs t (near bs t (rows.take i)) row := by
  unfold near
  rw [take_more h, List.foldl_append]
  rfl
theorem scNearest : FnScope ["bales", "size", "t", "best", "chosen", "row", "gap"] ["bales", "size", "t"] (defScope sNearest) := ⟨rfl, rfl, rfl, by decide +kernel, rfl, by decide +kernel, by decide +kernel⟩
theorem ok_nearest {f fA fG fC fL fR : Addr} {fd fdA fdG fdC fdL fdR : FuncData} (F : Fun K "nearest" "nearest" sNearest f fd) (T : TGap K mg G) (B : TBlt mg)
    (kA : PySem.W.keepIn K (.ref fA) = true) (GA : FnOk P w K mg base CX0 2 fA fdA ["many", "size"] spAll) (bA : Binds K fdA ["many", "size"] []) (gA : mg "all_rows" = some (.ref fA))
    (kG : PySem.W.keepIn K (.ref fG) = true) (GG : FnOk P w K mg base CX0 3 fG fdG ["bales", "t"] (spGapOf K C G)) (bG : Binds K fdG ["bales", "t"] []) (gG : mg "gap_of" = some (.ref fG))
    (kC : PySem.W.keepIn K (.ref fC) = true) (GC : FnOk P w K mg base CX0 1 fC fdC ["bales", "numbers"] (spChosen K C)) (bC : Binds K fdC ["bales", "numbers"] []) (gC : mg "chosen_bales" = some (.ref fC))
    (mL : Meth K G "is_less" fL) (GL : FnOk P w K mg base CX0 1 fL fdL ["self", "other"] (spLess G)) (bL : Binds K fdL ["self", "other"] [])
    (mR : Meth K G "rounded_down" fR) (GR : FnOk P w K mg base CX0 1 fR fdR ["self"] (spRounded G)) (bR : Binds K fdR ["self"] []) :
    FnOk P w K mg base CX0 4 f fd ["bales", "size", "t"] (spNearest K C) := by
  refine F.ok scNearest (fun vs H Q E h => ?_) (fun cdv A outer s H vs Q E hr h => ?_)
  · obtain ⟨a, bs, size, t, rfl, _⟩ := h
    rfl
  · obtain ⟨a, bs, size, t, rfl, hB, hlen, hok, h1, h2, ht, k⟩ := h
    have hr1 : Room 1 _ := hr.mono (by decide)
    have hr2 : Room 2 _ := hr.mono (by decide)
    have hB0 := hB
    obtain ⟨pb, hS, hP⟩ := hB0
    refine ⟨_, pss_cons (ps_set (i := 3) scNearest.nd rfl (.inl rfl) pe_non)
      (pss_cons (ps_set (i := 4) scNearest.nd rfl (.inl rfl) (pe_lst pa_nil))
      (pss_cons (ps_for PassesOwn.never rfl (pi_list (pe_call GA hr2 (by rfl) gA kA bA .nil pass0 (pa_cons (pe_callB call_len_seq (by rfl) B.len PySem.boot_len (pa_cons (pv 0) pa_nil)) (pa_cons (pv 1) pa_nil)))) (pg_name (i := 5) scNearest.nd rfl (Or.inl rfl))
        (pss_cons (ps_set (i := 6) scNearest.nd rfl (.inl rfl) (pe_call GG hr (by rfl) gG kG bG .nil pass0 (pa_cons (pe_call GC hr1 (by rfl) gC kC bC .nil pass0 (pa_cons (pv 0) (pa_cons (pv 5) pa_nil))) (pa_cons (pv 2) pa_nil))))
        (pss_one (ps_if (PW.pt (pw_or (pt_cmpR op_isN (pv 3) pe_non (nomark _)) (pw_or1 (pt_val (pe_meth (pv 6) T.cl mL GL hr1 bL .nil pass0 (by exact (pa_cons (pv 3) pa_nil)))))))
          (pss_cons (ps_set (i := 3) scNearest.nd rfl (.inl rfl) (pv 6)) (pss_one (ps_set (i := 4) scNearest.nd rfl (.inl rfl) (pv 5)))) pss_nil))))
      (pss_one (ps_ret (pe_op op_cat (pe_lst (pa_cons (pe_meth0 (pv 3) T.cl mR GR hr1 bR .nil pass0) pa_nil)) (pv 4)))))), ?_⟩
    refine ⟨Nat.zero_le _, fun c0 hc0 => ?_⟩
    have s0 : Same H (upd H c0 (.lst [])) := same_upd hc0
    have el : ((pb.map V.ref).length : Int) = (bs.length : Int) := by rw [List.length_map, pair_len hP]
    refine ⟨_, rfl, a, _, rfl, .inl (s0.seq hS), _, rfl, bs.length, size, by rw [el]; rfl, hlen, by omega, fun H1 rw1 s1 R1 => ?_⟩
    obtain ⟨ps, e1, e2⟩ := R1
    refine ⟨rw1, rfl, ⟨_, SqL.of e1⟩, ?_⟩
    refine for_list (K := K) (a := rw1) (xs := ps.map V.ref) (fun i σ H2 => ∃ vb c v5 v6, σ = [some (.ref a), some (iv size), some (iv t), some vb, some (.ref c), v5, v6] ∧ Same H1 H2 ∧ Best G bs t H2 c (near bs t ((rowsI bs.length size).take i)) vb)
      ⟨.non, c0, none, none, rfl, Same.refl _, rfl, s1 _ _ upd_same⟩ (fun i σ H2 _ ⟨_, _, _, _, _, q, _⟩ => SqL.of (q _ _ e1)) ?_ ?_
    · rintro i x σ H2 hx ⟨vb, c, v5, v6, rfl, sm, hb⟩
      obtain ⟨p, hp, rfl⟩ := ref_of hx
      obtain ⟨row, hrow, hq⟩ := pair_get e2 hp
      have hmem := List.mem_of_getElem? hrow
      have hlt := row_lt hmem
      have hrl : row.length = size := (row_of hmem).2
      have hBa := hB.same ((s0.trans s1).trans sm)
      refine ⟨_, rfl, _, rfl, a, p, bs, row, rfl, hBa, hq.same sm, hlt, by omega, fun H3 z s3 B3 => ?_⟩
      refine ⟨_, rfl, z, _, t, rfl, B3, by rw [List.length_map]; omega, ok_bs_sub hok hlt, ht, fun H4 g s4 J => ?_⟩
      have le := gapB_le (ok_bs_sub hok hlt) (by rw [List.length_map]; omega) ht
      rw [gapB_is] at J le
      have s24 := s3.trans s4
      have hb4 := hb.same s24
      have step := near_more (bs := bs) (t := t) hrow
      have take : ∀ {v5 v6}, near bs t ((rowsI bs.length size).take (i + 1)) = some row → ∃ vb' c' v5' v6', [some (.ref a), some (iv size), some (iv t), some (.ref g), some (.ref p), v5, v6] = [some (.ref a), some (iv size), some (iv t), some vb', some (.ref c'), v5', v6'] ∧ Same H1 H4 ∧ Best G bs t H4 c' (near bs t ((rowsI bs.length size).take (i + 1))) vb' := fun {v5 v6} e => by
        refine ⟨.ref g, p, v5, v6, rfl, sm.trans s24, ?_⟩
        rw [e]
        exact ⟨g, rfl, J, (hq.same sm).same s24⟩
      refine ⟨_, rfl, rfl, _, rfl, ?_⟩
      cases en : near bs t ((rowsI bs.length size).take i) with
      | none =>
        rw [en] at hb4 step
        obtain ⟨rfl, hc⟩ := hb4
        refine way_yes rfl ?_
        refine way_yes rfl ?_
        exact ⟨_, rfl, _, rfl, take step⟩
      | some b =>
        rw [en] at hb4 step
        obtain ⟨gb, rfl, Jb, hc⟩ := hb4
        refine way_no rfl ?_
        obtain ⟨dg, hg⟩ := id J
        have hbm := row_lt (List.mem_of_mem_take (near1_mem en))
        have hbl := (row_of (List.mem_of_mem_take (near1_mem en))).2
        have leb := gapB_le (ok_bs_sub hok hbm) (by rw [List.length_map]; omega) ht
        rw [gapB_is] at leb
        refine ⟨_, rfl, g, dg, _, rfl, hg, gF_no _ (by decide +kernel) (by decide +kernel), _, rfl, g, gb, _, _, rfl, J, Jb, by omega, by omega, _, rfl, ?_⟩
        rw [isLess_is]
        have step2 : near bs t ((rowsI bs.length size).take (i + 1)) = if Kzd1.nearer bs t row b then some row else some b := step
        cases ec : Kzd1.nearer bs t row b with
        | true =>
          rw [ec] at step2
          refine way_yes rfl ?_
          exact ⟨_, rfl, _, rfl, take step2⟩
        | false =>
          rw [ec] at step2
          refine way_no rfl ?_
          have step3 : near bs t ((rowsI bs.length size).take (i + 1)) = some b := step2
          refine ⟨.ref gb, c, _, _, rfl, sm.trans s24, ?_⟩
          rw [step3]
          exact ⟨gb, rfl, Jb, hc⟩
    · rintro σ H2 ⟨vb, c, v5, v6, rfl, sm, hb⟩
      rw [List.length_map, pair_len e2, List.take_length] at hb
      obtain ⟨s, es⟩ := near_ne (bs := bs) (t := t) h2
      rw [es] at hb
      obtain ⟨g, rfl, J, hc⟩ := hb
      obtain ⟨dg, hg⟩ := id J
      have hbm := row_lt (near1_mem es)
      have hbl := (row_of (near1_mem es)).2
      have leb := gapB_le (ok_bs_sub hok hbm) (by rw [List.length_map]; omega) ht
      have hpos : 0 < wOf (s.map (Kzd1.at_ bs)) := wOf_pos (ok_bs_sub hok hbm) (fun z => by
        have := congrArg List.length z
        rw [List.length_map, hbl] at this
        simp at this
        omega)
      rw [gapB_is] at leb
      rw [wOf_is] at hpos
      refine ⟨_, rfl, g, dg, _, rfl, hg, gF_no _ (by decide +kernel) (by decide +kernel), g, _, rfl, J, ⟨hpos, by omega⟩, ?_⟩
      refine ⟨by show 1 ≤ sizeLine; decide, fun z hz => ?_⟩
      refine ⟨_, rfl, z, c, _, _, rfl, rfl, upd_same, hc.same (same_upd hz), ?_, fun q hq => ?_⟩
      · rw [List.length_map]
        exact small_size' (by show 1 + s.length ≤ _; omega)
      · refine k _ q s es ?_
        rw [upd_same]
        rfl

/-! ### is_length, is_picked, pick -/
def spIsLength : Sp := fun vs H Q _ => ∃ n : Nat, vs = [iv n] ∧ Q (.bl (decide (n ≤ 500))) H
theorem scIsLength : FnScope ["number"] ["number"] (defScope sIsLength) := ⟨rfl, rfl, rfl, by decide +kernel, rfl, by decide +kernel, by decide +kernel⟩
theorem ok_is_length {f : Addr} {fd : FuncData} (F : Fun K "is_length" "is_length" sIsLength f fd) (L : TLook mg) : FnOk P w K mg base CX0 1 f fd ["number"] spIsLength := by
  refine F.ok scIsLength (fun vs H Q E h => ?_) (fun cdv A outer s H vs Q E hr h => ?_)
  · obtain ⟨n, rfl, _⟩ := h
    rfl
  · obtain ⟨n, rfl, k⟩ := h
    obtain ⟨tL, gL⟩ := L.mL
    refine ⟨_, pss_one (ps_ret (pe_cmpR op_le (pv 0) (pe_glob (v := .int 500) rfl gL ⟨_, rfl⟩) (nomark _))), ?_⟩
    refine ⟨_, rfl, _, _, rfl, rfl, ?_⟩
    have e : decide ((n : Int) ≤ 500) = decide (n ≤ 500) := decide_eq_decide.mpr (by omega)
    rw [← e] at k
    exact k
def spRange (m : Nat) : Sp := fun vs H Q _ => ∃ n : Nat, vs = [iv n] ∧ Q (.bl (decide (1 ≤ n ∧ n ≤ m))) H
theorem scIsPicked : FnScope ["number"] ["number"] (defScope sIsPicked) := ⟨rfl, rfl, rfl, by decide +kernel, rfl, by decide +kernel, by decide +kernel⟩
theorem ok_is_picked {f : Addr} {fd : FuncData} (F : Fun K "is_picked" "is_picked" sIsPicked f fd) (hM : ∃ t, mg "MOST_PICKED" = some (.int 9 t)) : FnOk P w K mg base CX0 1 f fd ["number"] (spRange 9) := by
  refine F.ok scIsPicked (fun vs H Q E h => ?_) (fun cdv A outer s H vs Q E hr h => ?_)
  · obtain ⟨n, rfl, _⟩ := h
    rfl
  · obtain ⟨n, rfl, k⟩ := h
    obtain ⟨tM, gM⟩ := hM
    refine ⟨_, pss_one (ps_ret (pe_chain op_le op_le pe_int (pv 0) (pe_glob (v := .int 9) rfl gM ⟨_, rfl⟩))), ?_⟩
    refine ⟨_, rfl, _, _, rfl, rfl, _, rfl, ite2 (fun e => ?_) (fun e => ?_)⟩
    · have e1 := of_decide_eq_true e
      refine ⟨_, _, rfl, rfl, ?_⟩
      have e2 : decide ((n : Int) ≤ 9) = decide (1 ≤ n ∧ n ≤ 9) := decide_eq_decide.mpr (by omega)
      rw [← e2] at k
      exact k
    · have e1 : ¬ (1 : Int) ≤ (n : Int) := fun z => e (decide_eq_true z)
      have e2 : false = decide (1 ≤ n ∧ n ≤ 9) := (decide_eq_false (by omega)).symm
      rw [e2]
      exact k
def spPick (K : PySem.W.Frag) : Sp := fun vs H Q _ => ∃ (a : Addr) (kk t : Nat) (l : List Nat), vs = [iv kk, iv t, .ref a] ∧ SqL K H a (l.map iv) ∧ l.length ≤ 20 ∧
  ∀ (H' : Hp) (p : Addr), H' p = some (.lst ((PyKzd1.pick kk t (iz l)).map V.int)) → Q (.ref p) H'
theorem scPick : FnScope ["k", "t", "bales", "some"] ["k", "t", "bales"] (defScope sPick) := ⟨rfl, rfl, rfl, by decide +kernel, rfl, by decide +kernel, by decide +kernel⟩
theorem ok_pick {f fA fB fK fL fN : Addr} {fd fdA fdB fdK fdL fdN : FuncData} (F : Fun K "pick" "pick" sPick f fd) (B : TBlt mg) (gR : ∃ t, mg "WRONG" = some (.int (-22) t)) (gF : ∃ t, mg "TOO_FEW" = some (.int (-33) t))
    (kA : PySem.W.keepIn K (.ref fA) = true) (GA : FnOk P w K mg base CX0 2 fA fdA ["numbers"] (spAre K)) (bA : Binds K fdA ["numbers"] []) (gA : mg "are_bales" = some (.ref fA))
    (kB : PySem.W.keepIn K (.ref fB) = true) (GB : FnOk P w K mg base CX0 3 fB fdB ["numbers"] (spBalesOf K C)) (bB : Binds K fdB ["numbers"] []) (gB : mg "bales_of" = some (.ref fB))
    (kK : PySem.W.keepIn K (.ref fK) = true) (GK : FnOk P w K mg base CX0 1 fK fdK ["number"] (spRange 9)) (bK : Binds K fdK ["number"] []) (gK : mg "is_picked" = some (.ref fK))
    (kL : PySem.W.keepIn K (.ref fL) = true) (GL : FnOk P w K mg base CX0 1 fL fdL ["number"] spIsLength) (bL : Binds K fdL ["number"] []) (gL : mg "is_length" = some (.ref fL))
    (kN : PySem.W.keepIn K (.ref fN) = true) (GN : FnOk P w K mg base CX0 4 fN fdN ["bales", "size", "t"] (spNearest K C)) (bN : Binds K fdN ["bales", "size", "t"] []) (gN : mg "nearest" = some (.ref fN)) :
    FnOk P w K mg base CX0 5 f fd ["k", "t", "bales"] (spPick K) := by
  refine F.ok scPick (fun vs H Q E h => ?_) (fun cdv A outer s H vs Q E hr h => ?_)
  · obtain ⟨a, kk, t, l, rfl, _⟩ := h
    rfl
  · obtain ⟨a, kk, t, l, rfl, hS, hlen, k⟩ := h
    obtain ⟨tR, gR⟩ := gR
    obtain ⟨tF, gF⟩ := gF
    have hr1 : Room 1 _ := hr.mono (by decide)
    have hr2 : Room 2 _ := hr.mono (by decide)
    have hr3 : Room 3 _ := hr.mono (by decide)
    refine ⟨_, pss_cons (ps_if (PW.pt (pw_or (pt_not (pt_val (pe_call GA hr2 (by rfl) gA kA bA .nil pass0 (pa_cons (pv 2) pa_nil))))
          (pw_or (pt_not (pt_val (pe_call GK hr1 (by rfl) gK kK bK .nil pass0 (pa_cons (pv 0) pa_nil))))
          (pw_or1 (pt_not (pt_val (pe_call GL hr1 (by rfl) gL kL bL .nil pass0 (pa_cons (pv 1) pa_nil))))))))
        (pss_one (ps_ret (pe_lst (pa_cons (pe_glob (v := .int (-22)) rfl gR ⟨_, rfl⟩) pa_nil)))) pss_nil)
      (pss_cons (ps_set (i := 3) scPick.nd rfl (.inl rfl) (pe_call GB hr3 (by rfl) gB kB bB .nil pass0 (pa_cons (pv 2) pa_nil)))
      (pss_cons (ps_if (pt_cmpR op_lt (pe_callB call_len_seq (by rfl) B.len PySem.boot_len (pa_cons (pv 3) pa_nil)) (pv 0) (nomark _))
        (pss_one (ps_ret (pe_lst (pa_cons (pe_glob (v := .int (-33)) rfl gF ⟨_, rfl⟩) pa_nil)))) pss_nil)
      (pss_one (ps_ret (pe_call GN hr (by rfl) gN kN bN .nil pass0 (pa_cons (pv 3) (pa_cons (pv 0) (pa_cons (pv 1) pa_nil)))))))), ?_⟩
    have wrong : ¬ pickOk kk t l → ∀ p : Addr, H p = none → Q (.ref p) (upd H p (.lst [.int (-22)])) := fun hn p hp => by
      refine k _ p ?_
      rw [upd_same, pick_bad hn]
      rfl
    refine ⟨_, rfl, a, l, rfl, hS, hlen, _, rfl, ?_⟩
    cases e1 : Kzd1.good l with
    | false =>
      refine way_yes rfl (way_yes rfl ⟨by show 1 ≤ sizeLine; decide, fun p hp => wrong (fun z => ?_) p hp⟩)
      have q := z.1
      rw [e1] at q
      cases q
    | true =>
      refine way_no rfl ⟨_, rfl, kk, rfl, _, rfl, ?_⟩
      by_cases e2 : 1 ≤ kk ∧ kk ≤ 9
      · refine way_no (by rw [decide_eq_true e2]; rfl) ⟨_, rfl, t, rfl, _, rfl, ?_⟩
        by_cases e3 : t ≤ 500
        · refine way_no (by rw [decide_eq_true e3]; rfl) ?_
          have ok : pickOk kk t l := ⟨e1, e2, e3⟩
          obtain ⟨g1, g2, g3, g4⟩ := good_of e1
          refine ⟨_, rfl, a, l, rfl, hS, g1, hlen, fun H1 p s1 hB => ?_⟩
          obtain ⟨pb, hSb, hP⟩ := id hB
          refine ⟨_, rfl, p, _, rfl, .inl hSb, _, rfl, _, _, rfl, rfl, _, rfl, ?_⟩
          have el : (pb.map V.ref).length = (Kzd1.bales l).length := by rw [List.length_map, pair_len hP]
          rw [el]
          by_cases e4 : (Kzd1.bales l).length < kk
          · refine way_yes (decide_eq_true (by omega)) ⟨by show 1 ≤ sizeLine; decide, fun q hq => ?_⟩
            refine k _ q ?_
            rw [upd_same, pick_few ok e4]
            rfl
          · refine way_no (decide_eq_false (by omega)) ?_
            refine ⟨_, rfl, _, rfl, _, rfl, p, _, kk, t, rfl, hB, g4, g3, e2.1, by omega, e3, fun H2 q s es hq => ?_⟩
            refine k _ q ?_
            rw [hq, pick_some ok es, ← iv_map]
        · refine way_yes (by rw [decide_eq_false e3]; rfl) ⟨by show 1 ≤ sizeLine; decide, fun p hp => wrong (fun z => e3 z.2.2) p hp⟩
      · refine way_yes (by rw [decide_eq_false e2]; rfl) (way_yes rfl ⟨by show 1 ≤ sizeLine; decide, fun p hp => wrong (fun z => e2 z.2.1) p hp⟩)
end
end Bm
namespace Bm
open PySem PySem.Spec PyProof.Rows L2
open PySem.W (Codec)
theorem all_nonneg {l : List Int} (h : l.all (Codec.inInt 0 4294967295) = true) : ∀ x ∈ l, 0 ≤ x := fun x hx => by
  have q := List.all_eq_true.mp h x hx
  unfold Codec.inInt at q
  simp only [Bool.and_eq_true, decide_eq_true_eq] at q
  exact q.1
theorem nat_of {x : Int} (h : Codec.inInt 0 4294967295 x = true) : ((x.toNat : Nat) : Int) = x := by
  unfold Codec.inInt at h
  simp only [Bool.and_eq_true, decide_eq_true_eq] at h
  omega
/-! ### the end: what the top has written -/
theorem all_mk {P : Program} {w : World} {K : PySem.W.Frag} {h : Heap} {mg : Str → Option Value} {fa C CG fBi fGi fGl fGr fBo fWe fMo fGo fCh fLr fAl fNe fIb fAr fIl fIp fPk : Addr} (X : K.In h) (G : h.Ns mainGlobals mg) (hfa : mg "pick" = some (.ref fa))
    {odBi anBi odGi anGi odGl anGl odGr anGr odBo anBo odWe anWe odMo anMo odGo anGo odCh anCh odLr anLr odAl anAl odNe anNe odIb anIb odAr anAr odIl anIl odIp anIp odPk anPk : Option Addr} {slBi slGi slGl slGr slBo slWe slMo slGo slCh slLr slAl slNe slIb slAr slIl slIp slPk : Array (Option Value)} {ocBi kVBi dcBi pmBi cdBi ctBi ocGi kVGi dcGi pmGi cdGi ctGi ocGl kVGl dcGl pmGl cdGl ctGl ocGr kVGr dcGr pmGr cdGr ctGr ocBo kVBo dcBo pmBo cdBo ctBo ocWe kVWe dcWe pmWe cdWe ctWe ocMo kVMo dcMo pmMo cdMo ctMo ocGo kVGo dcGo pmGo cdGo ctGo ocCh kVCh dcCh pmCh cdCh ctCh ocLr kVLr dcLr pmLr cdLr ctLr ocAl kVAl dcAl pmAl cdAl ctAl ocNe kVNe dcNe pmNe cdNe ctNe ocIb kVIb dcIb pmIb cdIb ctIb ocAr kVAr dcAr pmAr cdAr ctAr ocIl kVIl dcIl pmIl cdIl ctIl ocIp kVIp dcIp pmIp cdIp ctIp ocPk kVPk dcPk pmPk cdPk ctPk : Value} {tMOST_BALES tMOST_WEIGHT tMOST_LENGTH tMOST_PICKED tWRONG tTOO_FEW : Tok}
    (aC : PySem.W.nsIn K mainGlobals "Bale" = some (some (.ref C)))
    (aCG : PySem.W.nsIn K mainGlobals "Gap" = some (some (.ref CG)))
    (aBi : PySem.W.findIn K (.ref C) "__init__" = some (some (.ref fBi)))
    (iBi : PySem.W.isFn K (.ref fBi) = true)
    (lBi : K.lookup fBi = some ⟨ocBi, odBi, .func (PySem.W.fnOf "__init__" "Bale.__init__" (defArgs sBale) (defBody sBale) (defScope sBale) .none kVBi dcBi pmBi anBi cdBi ctBi), slBi⟩)
    (cBi : PySem.W.codeIn K cdBi "Bale.__init__" = true)
    (kBi : PySem.W.keepIn K (.ref fBi) = true)
    (aGi : PySem.W.findIn K (.ref CG) "__init__" = some (some (.ref fGi)))
    (iGi : PySem.W.isFn K (.ref fGi) = true)
    (lGi : K.lookup fGi = some ⟨ocGi, odGi, .func (PySem.W.fnOf "__init__" "Gap.__init__" (defArgs sGap) (defBody sGap) (defScope sGap) .none kVGi dcGi pmGi anGi cdGi ctGi), slGi⟩)
    (cGi : PySem.W.codeIn K cdGi "Gap.__init__" = true)
    (kGi : PySem.W.keepIn K (.ref fGi) = true)
    (aGl : PySem.W.findIn K (.ref CG) "is_less" = some (some (.ref fGl)))
    (iGl : PySem.W.isFn K (.ref fGl) = true)
    (lGl : K.lookup fGl = some ⟨ocGl, odGl, .func (PySem.W.fnOf "is_less" "Gap.is_less" (defArgs sLess) (defBody sLess) (defScope sLess) .none kVGl dcGl pmGl anGl cdGl ctGl), slGl⟩)
    (cGl : PySem.W.codeIn K cdGl "Gap.is_less" = true)
    (kGl : PySem.W.keepIn K (.ref fGl) = true)
    (aGr : PySem.W.findIn K (.ref CG) "rounded_down" = some (some (.ref fGr)))
    (iGr : PySem.W.isFn K (.ref fGr) = true)
    (lGr : K.lookup fGr = some ⟨ocGr, odGr, .func (PySem.W.fnOf "rounded_down" "Gap.rounded_down" (defArgs sRounded) (defBody sRounded) (defScope sRounded) .none kVGr dcGr pmGr anGr cdGr ctGr), slGr⟩)
    (cGr : PySem.W.codeIn K cdGr "Gap.rounded_down" = true)
    (kGr : PySem.W.keepIn K (.ref fGr) = true)
    (aBo : PySem.W.nsIn K mainGlobals "bales_of" = some (some (.ref fBo)))
    (lBo : K.lookup fBo = some ⟨ocBo, odBo, .func (PySem.W.fnOf "bales_of" "bales_of" (defArgs sBalesOf) (defBody sBalesOf) (defScope sBalesOf) .none kVBo dcBo pmBo anBo cdBo ctBo), slBo⟩)
    (cBo : PySem.W.codeIn K cdBo "bales_of" = true)
    (kBo : PySem.W.keepIn K (.ref fBo) = true)
    (aWe : PySem.W.nsIn K mainGlobals "weight_of" = some (some (.ref fWe)))
    (lWe : K.lookup fWe = some ⟨ocWe, odWe, .func (PySem.W.fnOf "weight_of" "weight_of" (defArgs sWeight) (defBody sWeight) (defScope sWeight) .none kVWe dcWe pmWe anWe cdWe ctWe), slWe⟩)
    (cWe : PySem.W.codeIn K cdWe "weight_of" = true)
    (kWe : PySem.W.keepIn K (.ref fWe) = true)
    (aMo : PySem.W.nsIn K mainGlobals "moment_of" = some (some (.ref fMo)))
    (lMo : K.lookup fMo = some ⟨ocMo, odMo, .func (PySem.W.fnOf "moment_of" "moment_of" (defArgs sMoment) (defBody sMoment) (defScope sMoment) .none kVMo dcMo pmMo anMo cdMo ctMo), slMo⟩)
    (cMo : PySem.W.codeIn K cdMo "moment_of" = true)
    (kMo : PySem.W.keepIn K (.ref fMo) = true)
    (aGo : PySem.W.nsIn K mainGlobals "gap_of" = some (some (.ref fGo)))
    (lGo : K.lookup fGo = some ⟨ocGo, odGo, .func (PySem.W.fnOf "gap_of" "gap_of" (defArgs sGapOf) (defBody sGapOf) (defScope sGapOf) .none kVGo dcGo pmGo anGo cdGo ctGo), slGo⟩)
    (cGo : PySem.W.codeIn K cdGo "gap_of" = true)
    (kGo : PySem.W.keepIn K (.ref fGo) = true)
    (aCh : PySem.W.nsIn K mainGlobals "chosen_bales" = some (some (.ref fCh)))
    (lCh : K.lookup fCh = some ⟨ocCh, odCh, .func (PySem.W.fnOf "chosen_bales" "chosen_bales" (defArgs sChosen) (defBody sChosen) (defScope sChosen) .none kVCh dcCh pmCh anCh cdCh ctCh), slCh⟩)
    (cCh : PySem.W.codeIn K cdCh "chosen_bales" = true)
    (kCh : PySem.W.keepIn K (.ref fCh) = true)
    (aLr : PySem.W.nsIn K mainGlobals "longer_rows" = some (some (.ref fLr)))
    (lLr : K.lookup fLr = some ⟨ocLr, odLr, .func (PySem.W.fnOf "longer_rows" "longer_rows" (defArgs sLonger) (defBody sLonger) (defScope sLonger) .none kVLr dcLr pmLr anLr cdLr ctLr), slLr⟩)
    (cLr : PySem.W.codeIn K cdLr "longer_rows" = true)
    (kLr : PySem.W.keepIn K (.ref fLr) = true)
    (aAl : PySem.W.nsIn K mainGlobals "all_rows" = some (some (.ref fAl)))
    (lAl : K.lookup fAl = some ⟨ocAl, odAl, .func (PySem.W.fnOf "all_rows" "all_rows" (defArgs sAll) (defBody sAll) (defScope sAll) .none kVAl dcAl pmAl anAl cdAl ctAl), slAl⟩)
    (cAl : PySem.W.codeIn K cdAl "all_rows" = true)
    (kAl : PySem.W.keepIn K (.ref fAl) = true)
    (aNe : PySem.W.nsIn K mainGlobals "nearest" = some (some (.ref fNe)))
    (lNe : K.lookup fNe = some ⟨ocNe, odNe, .func (PySem.W.fnOf "nearest" "nearest" (defArgs sNearest) (defBody sNearest) (defScope sNearest) .none kVNe dcNe pmNe anNe cdNe ctNe), slNe⟩)
    (cNe : PySem.W.codeIn K cdNe "nearest" = true)
    (kNe : PySem.W.keepIn K (.ref fNe) = true)
    (aIb : PySem.W.nsIn K mainGlobals "is_bale" = some (some (.ref fIb)))
    (lIb : K.lookup fIb = some ⟨ocIb, odIb, .func (PySem.W.fnOf "is_bale" "is_bale" (defArgs sIsBale) (defBody sIsBale) (defScope sIsBale) .none kVIb dcIb pmIb anIb cdIb ctIb), slIb⟩)
    (cIb : PySem.W.codeIn K cdIb "is_bale" = true)
    (kIb : PySem.W.keepIn K (.ref fIb) = true)
    (aAr : PySem.W.nsIn K mainGlobals "are_bales" = some (some (.ref fAr)))
    (lAr : K.lookup fAr = some ⟨ocAr, odAr, .func (PySem.W.fnOf "are_bales" "are_bales" (defArgs sAre) (defBody sAre) (defScope sAre) .none kVAr dcAr pmAr anAr cdAr ctAr), slAr⟩)
    (cAr : PySem.W.codeIn K cdAr "are_bales" = true)
    (kAr : PySem.W.keepIn K (.ref fAr) = true)
    (aIl : PySem.W.nsIn K mainGlobals "is_length" = some (some (.ref fIl)))
    (lIl : K.lookup fIl = some ⟨ocIl, odIl, .func (PySem.W.fnOf "is_length" "is_length" (defArgs sIsLength) (defBody sIsLength) (defScope sIsLength) .none kVIl dcIl pmIl anIl cdIl ctIl), slIl⟩)
    (cIl : PySem.W.codeIn K cdIl "is_length" = true)
    (kIl : PySem.W.keepIn K (.ref fIl) = true)
    (aIp : PySem.W.nsIn K mainGlobals "is_picked" = some (some (.ref fIp)))
    (lIp : K.lookup fIp = some ⟨ocIp, odIp, .func (PySem.W.fnOf "is_picked" "is_picked" (defArgs sIsPicked) (defBody sIsPicked) (defScope sIsPicked) .none kVIp dcIp pmIp anIp cdIp ctIp), slIp⟩)
    (cIp : PySem.W.codeIn K cdIp "is_picked" = true)
    (kIp : PySem.W.keepIn K (.ref fIp) = true)
    (aPk : PySem.W.nsIn K mainGlobals "pick" = some (some (.ref fPk)))
    (lPk : K.lookup fPk = some ⟨ocPk, odPk, .func (PySem.W.fnOf "pick" "pick" (defArgs sPick) (defBody sPick) (defScope sPick) .none kVPk dcPk pmPk anPk cdPk ctPk), slPk⟩)
    (cPk : PySem.W.codeIn K cdPk "pick" = true)
    (kPk : PySem.W.keepIn K (.ref fPk) = true)
    (pgC : PySem.W.plainGet K C Str.empty = true)
    (hdC : PySem.W.hasDictIn K C = true)
    (poC : PySem.W.plainOver K C = true)
    (saC : PySem.W.findIn K (.ref C) "__setattr__" = some (some (.builtin "object.__setattr__")))
    (mkC : PySem.W.makesIn K C = true)
    (kcC : PySem.W.keepIn K (.ref C) = true)
    (nCweight : PySem.W.findIn K (.ref C) "weight" = some none)
    (nCfar : PySem.W.findIn K (.ref C) "far" = some none)
    (pgCG : PySem.W.plainGet K CG Str.empty = true)
    (hdCG : PySem.W.hasDictIn K CG = true)
    (poCG : PySem.W.plainOver K CG = true)
    (saCG : PySem.W.findIn K (.ref CG) "__setattr__" = some (some (.builtin "object.__setattr__")))
    (mkCG : PySem.W.makesIn K CG = true)
    (kcCG : PySem.W.keepIn K (.ref CG) = true)
    (nCGabove : PySem.W.findIn K (.ref CG) "above" = some none)
    (nCGbelow : PySem.W.findIn K (.ref CG) "below" = some none)
    (cMOST_BALES : PySem.W.nsIn K mainGlobals "MOST_BALES" = some (some (.int (9) tMOST_BALES)))
    (cMOST_WEIGHT : PySem.W.nsIn K mainGlobals "MOST_WEIGHT" = some (some (.int (300) tMOST_WEIGHT)))
    (cMOST_LENGTH : PySem.W.nsIn K mainGlobals "MOST_LENGTH" = some (some (.int (500) tMOST_LENGTH)))
    (cMOST_PICKED : PySem.W.nsIn K mainGlobals "MOST_PICKED" = some (some (.int (9) tMOST_PICKED)))
    (cWRONG : PySem.W.nsIn K mainGlobals "WRONG" = some (some (.int (-22) tWRONG)))
    (cTOO_FEW : PySem.W.nsIn K mainGlobals "TOO_FEW" = some (some (.int (-33) tTOO_FEW)))
    (zlen : PySem.W.nsIn K mainGlobals "len" = some none)
    (zrange : PySem.W.nsIn K mainGlobals "range" = some none)
    (zsum : PySem.W.nsIn K mainGlobals "sum" = some none)
    (zabs : PySem.W.nsIn K mainGlobals "abs" = some none)
    : ∃ fd : FuncData, (∀ (s : Shared) (us : List Value), us.length = (["k", "t", "bales"] : List Str).length → BindsTo s fd ⟨us, []⟩ ((["k", "t", "bales"] : List Str).zip us)) ∧ ∀ base : Heap, K.In base → base.Ns mainGlobals mg → FnOk P w K mg base CX0 5 fa fd ["k", "t", "bales"] (spPick K) := by
  have e := hfa.symm.trans (PySem.W.mg_of X G aPk)
  cases e
  have FBi := fun_mk (st := sBale) lBi cBi kBi
  have FGi := fun_mk (st := sGap) lGi cGi kGi
  have FGl := fun_mk (st := sLess) lGl cGl kGl
  have FGr := fun_mk (st := sRounded) lGr cGr kGr
  have FBo := fun_mk (st := sBalesOf) lBo cBo kBo
  have FWe := fun_mk (st := sWeight) lWe cWe kWe
  have FMo := fun_mk (st := sMoment) lMo cMo kMo
  have FGo := fun_mk (st := sGapOf) lGo cGo kGo
  have FCh := fun_mk (st := sChosen) lCh cCh kCh
  have FLr := fun_mk (st := sLonger) lLr cLr kLr
  have FAl := fun_mk (st := sAll) lAl cAl kAl
  have FNe := fun_mk (st := sNearest) lNe cNe kNe
  have FIb := fun_mk (st := sIsBale) lIb cIb kIb
  have FAr := fun_mk (st := sAre) lAr cAr kAr
  have FIl := fun_mk (st := sIsLength) lIl cIl kIl
  have FIp := fun_mk (st := sIsPicked) lIp cIp kIp
  have FPk := fun_mk (st := sPick) lPk cPk kPk
  have bBi := FBi.binds (ps := ["self", "weight", "far"]) fun _ _ _ _ _ _ us hl => match us, hl with | [_, _, _], _ => rfl
  have bGi := FGi.binds (ps := ["self", "above", "below"]) fun _ _ _ _ _ _ us hl => match us, hl with | [_, _, _], _ => rfl
  have bGl := FGl.binds (ps := ["self", "other"]) fun _ _ _ _ _ _ us hl => match us, hl with | [_, _], _ => rfl
  have bGr := FGr.binds (ps := ["self"]) fun _ _ _ _ _ _ us hl => match us, hl with | [_], _ => rfl
  have bBo := FBo.binds (ps := ["numbers"]) fun _ _ _ _ _ _ us hl => match us, hl with | [_], _ => rfl
  have gBo := PySem.W.mg_of X G aBo
  have bWe := FWe.binds (ps := ["bales"]) fun _ _ _ _ _ _ us hl => match us, hl with | [_], _ => rfl
  have gWe := PySem.W.mg_of X G aWe
  have bMo := FMo.binds (ps := ["bales"]) fun _ _ _ _ _ _ us hl => match us, hl with | [_], _ => rfl
  have gMo := PySem.W.mg_of X G aMo
  have bGo := FGo.binds (ps := ["bales", "t"]) fun _ _ _ _ _ _ us hl => match us, hl with | [_, _], _ => rfl
  have gGo := PySem.W.mg_of X G aGo
  have bCh := FCh.binds (ps := ["bales", "numbers"]) fun _ _ _ _ _ _ us hl => match us, hl with | [_, _], _ => rfl
  have gCh := PySem.W.mg_of X G aCh
  have bLr := FLr.binds (ps := ["row", "many"]) fun _ _ _ _ _ _ us hl => match us, hl with | [_, _], _ => rfl
  have gLr := PySem.W.mg_of X G aLr
  have bAl := FAl.binds (ps := ["many", "size"]) fun _ _ _ _ _ _ us hl => match us, hl with | [_, _], _ => rfl
  have gAl := PySem.W.mg_of X G aAl
  have bNe := FNe.binds (ps := ["bales", "size", "t"]) fun _ _ _ _ _ _ us hl => match us, hl with | [_, _, _], _ => rfl
  have gNe := PySem.W.mg_of X G aNe
  have bIb := FIb.binds (ps := ["weight", "far"]) fun _ _ _ _ _ _ us hl => match us, hl with | [_, _], _ => rfl
  have gIb := PySem.W.mg_of X G aIb
  have bAr := FAr.binds (ps := ["numbers"]) fun _ _ _ _ _ _ us hl => match us, hl with | [_], _ => rfl
  have gAr := PySem.W.mg_of X G aAr
  have bIl := FIl.binds (ps := ["number"]) fun _ _ _ _ _ _ us hl => match us, hl with | [_], _ => rfl
  have gIl := PySem.W.mg_of X G aIl
  have bIp := FIp.binds (ps := ["number"]) fun _ _ _ _ _ _ us hl => match us, hl with | [_], _ => rfl
  have gIp := PySem.W.mg_of X G aIp
  have gC := PySem.W.mg_of X G aC
  have gCG := PySem.W.mg_of X G aCG
  have gMOST_BALES := PySem.W.mg_of X G cMOST_BALES
  have gMOST_WEIGHT := PySem.W.mg_of X G cMOST_WEIGHT
  have gMOST_LENGTH := PySem.W.mg_of X G cMOST_LENGTH
  have gMOST_PICKED := PySem.W.mg_of X G cMOST_PICKED
  have gWRONG := PySem.W.mg_of X G cWRONG
  have gTOO_FEW := PySem.W.mg_of X G cTOO_FEW
  have mlen := PySem.W.mg_none_of X G zlen
  have mrange := PySem.W.mg_none_of X G zrange
  have msum := PySem.W.mg_none_of X G zsum
  have mabs := PySem.W.mg_none_of X G zabs
  have T : TBale K mg C := ⟨⟨pgC, hdC, poC, saC⟩, nCweight, nCfar, gC⟩
  have TG : TGap K mg CG := ⟨⟨pgCG, hdCG, poCG, saCG⟩, nCGabove, nCGbelow, gCG⟩
  have B : TBlt mg := ⟨mlen, mrange, msum⟩
  have L : TLook mg := ⟨⟨_, gMOST_BALES⟩, ⟨_, gMOST_WEIGHT⟩, ⟨_, gMOST_LENGTH⟩⟩
  exact ⟨PySem.W.fnOf "pick" "pick" (defArgs sPick) (defBody sPick) (defScope sPick) .none kVPk dcPk pmPk anPk cdPk ctPk, fun s us hu => match us, hu with | [_, _, _], _ => .of_eq rfl, fun base _ _ => ok_pick FPk B ⟨_, gWRONG⟩ ⟨_, gTOO_FEW⟩
    kAr (ok_are FAr B L FIb bIb gIb) bAr gAr
    kBo (ok_bales_of FBo T B ⟨mkC, aBi, iBi, kcC⟩ FBi bBi) bBo gBo
    kIp (ok_is_picked FIp ⟨_, gMOST_PICKED⟩) bIp gIp
    kIl (ok_is_length FIl L) bIl gIl
    kNe (ok_nearest FNe TG B
      kAl (ok_all FAl B FLr bLr gLr) bAl gAl
      kGo (ok_gap_of FGo TG mabs ⟨mkCG, aGi, iGi, kcCG⟩ FGi bGi kWe (ok_weight FWe T B) bWe gWe kMo (ok_moment FMo T B) bMo gMo) bGo gGo
      kCh (ok_chosen FCh) bCh gCh
      ⟨aGl, iGl, kGl⟩ (ok_less FGl TG) bGl ⟨aGr, iGr, kGr⟩ (ok_rounded FGr TG) bGr) bNe gNe⟩
end Bm
open PySem PySem.W PyProof.Rows
set_option maxRecDepth 100000 in
set_option maxHeartbeats 8000000 in
theorem PySem.Challenge.cw_balelayer_s02_pick_holds : PySem.Challenge.rw_balelayer_s02_pick.Holds := by
  w_on; k_headS; (case hw => exact ⟨[.int 0, .int 0, .list []], by decide +kernel, by decide +kernel⟩)
  k_fillS
  refine L2.walk_specK (r := PySem.Challenge.rw_balelayer_s02_pick) (k := 5) (CX := L2.CX0) (ps := ["k", "t", "bales"]) (sp := Bm.spPick) (by decide +kernel) rfl rfl ⟨rfl, by decide, by decide⟩ (fun w h Y => PySem.W.kIn_of Y) ?F ?S (fun _ _ _ _ z => z)
  case F =>
    intro w mg fa h Y KX G hmg
    refine' Bm.all_mk KX G hmg ?aC ?aCG ?aBi ?iBi ?lBi ?cBi ?kBi ?aGi ?iGi ?lGi ?cGi ?kGi ?aGl ?iGl ?lGl ?cGl ?kGl ?aGr ?iGr ?lGr ?cGr ?kGr ?aBo ?lBo ?cBo ?kBo ?aWe ?lWe ?cWe ?kWe ?aMo ?lMo ?cMo ?kMo ?aGo ?lGo ?cGo ?kGo ?aCh ?lCh ?cCh ?kCh ?aLr ?lLr ?cLr ?kLr ?aAl ?lAl ?cAl ?kAl ?aNe ?lNe ?cNe ?kNe ?aIb ?lIb ?cIb ?kIb ?aAr ?lAr ?cAr ?kAr ?aIl ?lIl ?cIl ?kIl ?aIp ?lIp ?cIp ?kIp ?aPk ?lPk ?cPk ?kPk ?pgC ?hdC ?poC ?saC ?mkC ?kcC ?nCweight ?nCfar ?pgCG ?hdCG ?poCG ?saCG ?mkCG ?kcCG ?nCGabove ?nCGbelow ?cMOST_BALES ?cMOST_WEIGHT ?cMOST_LENGTH ?cMOST_PICKED ?cWRONG ?cTOO_FEW ?zlen ?zrange ?zsum ?zabs
    (case aC => k_is)
    (case aCG => k_is)
    (case aBi => k_is)
    (case iBi => k_is)
    (case lBi => k_is)
    (case cBi => k_is)
    (case kBi => k_is)
    (case aGi => k_is)
    (case iGi => k_is)
    (case lGi => k_is)
    (case cGi => k_is)
    (case kGi => k_is)
    (case aGl => k_is)
    (case iGl => k_is)
    (case lGl => k_is)
    (case cGl => k_is)
    (case kGl => k_is)
    (case aGr => k_is)
    (case iGr => k_is)
    (case lGr => k_is)
    (case cGr => k_is)
    (case kGr => k_is)
    (case aBo => k_is)
    (case lBo => k_is)
    (case cBo => k_is)
    (case kBo => k_is)
    (case aWe => k_is)
    (case lWe => k_is)
    (case cWe => k_is)
    (case kWe => k_is)
    (case aMo => k_is)
    (case lMo => k_is)
    (case cMo => k_is)
    (case kMo => k_is)
    (case aGo => k_is)
    (case lGo => k_is)
    (case cGo => k_is)
    (case kGo => k_is)
    (case aCh => k_is)
    (case lCh => k_is)
    (case cCh => k_is)
    (case kCh => k_is)
    (case aLr => k_is)
    (case lLr => k_is)
    (case cLr => k_is)
    (case kLr => k_is)
    (case aAl => k_is)
    (case lAl => k_is)
    (case cAl => k_is)
    (case kAl => k_is)
    (case aNe => k_is)
    (case lNe => k_is)
    (case cNe => k_is)
    (case kNe => k_is)
    (case aIb => k_is)
    (case lIb => k_is)
    (case cIb => k_is)
    (case kIb => k_is)
    (case aAr => k_is)
    (case lAr => k_is)
    (case cAr => k_is)
    (case kAr => k_is)
    (case aIl => k_is)
    (case lIl => k_is)
    (case cIl => k_is)
    (case kIl => k_is)
    (case aIp => k_is)
    (case lIp => k_is)
    (case cIp => k_is)
    (case kIp => k_is)
    (case aPk => k_is)
    (case lPk => k_is)
    (case cPk => k_is)
    (case kPk => k_is)
    (case pgC => k_is)
    (case hdC => k_is)
    (case poC => k_is)
    (case saC => k_is)
    (case mkC => k_is)
    (case kcC => k_is)
    (case nCweight => k_is)
    (case nCfar => k_is)
    (case pgCG => k_is)
    (case hdCG => k_is)
    (case poCG => k_is)
    (case saCG => k_is)
    (case mkCG => k_is)
    (case kcCG => k_is)
    (case nCGabove => k_is)
    (case nCGbelow => k_is)
    (case cMOST_BALES => k_is)
    (case cMOST_WEIGHT => k_is)
    (case cMOST_LENGTH => k_is)
    (case cMOST_PICKED => k_is)
    (case cWRONG => k_is)
    (case cTOO_FEW => k_is)
    (case zlen => k_is)
    (case zrange => k_is)
    (case zsum => k_is)
    (case zabs => k_is)
  case S =>
    intro K H xs a hO hwi hask hx
    obtain ⟨kk, tt, ns, u⟩ := a
    cases hx with
    | cons h1 h2 =>
      cases h2 with
      | cons h3 h4 =>
        cases h4 with
        | cons h5 h6 =>
          cases h6
          cases h1
          cases h3
          cases h5 with
          | lst hs ha =>
            rename_i adr xs0
            have e := L2.ints_dw ns _ ha
            subst e
            have q : (Codec.inInt 0 4294967295 kk && (Codec.inInt 0 4294967295 tt && ((Codec.inLen 0 20 ns && ns.all (Codec.inInt 0 4294967295)) && true))) = true := hwi
            rw [Bool.and_eq_true, Bool.and_eq_true, Bool.and_eq_true, Bool.and_eq_true] at q
            obtain ⟨q1, q2, ⟨q3, q4⟩, _⟩ := q
            have hn := Bm.iz_natsOf (l := ns) (Bm.all_nonneg q4)
            have ek := Bm.nat_of q1
            have et := Bm.nat_of q2
            refine ⟨adr, kk.toNat, tt.toNat, Kzd1Neutral.natsOf ns, ?_, ?_, ?_, fun H' p hp => ?_⟩
            · show [L2.V.int kk, L2.V.int tt, L2.V.ref adr] = [L2.V.int (kk.toNat : Int), L2.V.int (tt.toNat : Int), L2.V.ref adr]
              rw [ek, et]
            · rw [Bm.iv_map, hn]
              exact hs
            · have hl := (Codec.inNat_iff.mp q3).2
              show (ns.map Int.toNat).length ≤ 20
              rw [List.length_map]
              exact hl
            · rw [hn, ek, et] at hp
              exact .lst (L2.SqL.of hp) (L2.dw_ints _)
#print axioms PySem.Challenge.cw_balelayer_s02_pick_holds
