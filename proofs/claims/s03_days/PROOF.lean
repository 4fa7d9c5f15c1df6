import PyProof.Rows.All
import Wide.All
import OpenK.AllK
import Wide.FinOn
import Open.SpecLaws
import KE.OsGo
import HandS.ForSpec
import HandS.Comp
import HandS.Iter
import HandS.Walk
import HandS.Text
import HandS.WideBits
import PySem.Challenge.RW_balelayer_s03_days
set_option Elab.async false
set_option maxRecDepth 100000
set_option maxHeartbeats 2000000
/-! Bales: what stands in the machine, in plain Lean, and the specification's own words for it (mean, looking). -/
namespace Bm
open Kzd1 (Bale)

/-- all kilograms of some bales; of each its kilograms times how long -/
def wOf : List Bale → Nat
  | [] => 0
  | b :: r => b.kg + wOf r
def mOf : List Bale → Nat
  | [] => 0
  | b :: r => b.kg * b.long + mOf r

theorem foldl_add : ∀ (l : List Nat) (a : Nat), l.foldl (· + ·) a = a + l.foldl (· + ·) 0
  | [], a => rfl
  | x :: r, a => by
    rw [List.foldl_cons, List.foldl_cons, foldl_add r (a + x), foldl_add r (0 + x)]
    omega
theorem sum_nil : Kzd1.sum [] = 0 := rfl
theorem sum_cons (x : Nat) (r : List Nat) : Kzd1.sum (x :: r) = x + Kzd1.sum r := by
  unfold Kzd1.sum
  rw [List.foldl_cons, foldl_add r (0 + x)]
  omega
theorem wOf_is (bs : List Bale) : ∀ s : List Nat, wOf (s.map (Kzd1.at_ bs)) = Kzd1.kgOf bs s
  | [] => rfl
  | i :: r => by
    have ih := wOf_is bs r
    unfold Kzd1.kgOf at ih ⊢
    rw [List.map_cons, List.map_cons, sum_cons, ← ih]
    rfl
theorem mOf_is (bs : List Bale) : ∀ s : List Nat, mOf (s.map (Kzd1.at_ bs)) = Kzd1.longOf bs s
  | [] => rfl
  | i :: r => by
    have ih := mOf_is bs r
    unfold Kzd1.longOf at ih ⊢
    rw [List.map_cons, List.map_cons, sum_cons, ← ih]
    rfl
theorem at_all (bs : List Bale) : (Kzd1.all bs).map (Kzd1.at_ bs) = bs := by
  apply List.ext_getElem?
  intro i
  unfold Kzd1.all Kzd1.at_
  rw [List.getElem?_map]
  by_cases h : i < bs.length
  · simp [h]
  · simp [h]
theorem wOf_all (bs : List Bale) : Kzd1.kgOf bs (Kzd1.all bs) = wOf bs := by rw [← wOf_is, at_all]
theorem mOf_all (bs : List Bale) : Kzd1.longOf bs (Kzd1.all bs) = mOf bs := by rw [← mOf_is, at_all]

/-! ### sizes -/
def Ok1 (b : Bale) : Prop := 1 ≤ b.kg ∧ b.kg ≤ 300 ∧ b.long ≤ 500
def OkBs (bs : List Bale) : Prop := ∀ b ∈ bs, Ok1 b
theorem okBale_iff (b : Bale) : Kzd1.okBale b = true ↔ Ok1 b := by
  unfold Kzd1.okBale Ok1
  simp [and_assoc]
theorem wOf_le : ∀ bs : List Bale, OkBs bs → wOf bs ≤ 300 * bs.length
  | [], _ => Nat.le_refl _
  | b :: r, h => by
    have h1 := (h b (List.mem_cons_self ..)).2.1
    have h2 := wOf_le r fun c hc => h c (List.mem_cons_of_mem _ hc)
    show b.kg + wOf r ≤ 300 * (r.length + 1)
    omega
theorem wOf_ge : ∀ bs : List Bale, OkBs bs → bs.length ≤ wOf bs
  | [], _ => Nat.le_refl _
  | b :: r, h => by
    have h1 := (h b (List.mem_cons_self ..)).1
    have h2 := wOf_ge r fun c hc => h c (List.mem_cons_of_mem _ hc)
    show r.length + 1 ≤ b.kg + wOf r
    omega
theorem mOf_le : ∀ bs : List Bale, OkBs bs → mOf bs ≤ 150000 * bs.length
  | [], _ => Nat.le_refl _
  | b :: r, h => by
    have h1 := (h b (List.mem_cons_self ..)).2
    have h2 := mOf_le r fun c hc => h c (List.mem_cons_of_mem _ hc)
    have h3 : b.kg * b.long ≤ 300 * 500 := Nat.mul_le_mul h1.1 h1.2
    show b.kg * b.long + mOf r ≤ 150000 * (r.length + 1)
    omega
theorem wOf_pos {bs : List Bale} (h : OkBs bs) (hb : bs ≠ []) : 0 < wOf bs := by
  have := wOf_ge bs h
  have : 0 < bs.length := List.length_pos_iff.mpr hb
  omega

/-! ### the list that is handed in -/
/-- whether the first pairs of a list are bales' -/
def okPairs : Nat → List Nat → Bool
  | n + 1, a :: b :: l => decide (1 ≤ a ∧ a ≤ 300 ∧ b ≤ 500) && okPairs n l
  | _, _ => true
theorem bales_len : ∀ l : List Nat, (Kzd1.bales l).length = l.length / 2
  | [] => rfl
  | [x] => by
    show ([] : List Bale).length = ([x] : List Nat).length / 2
    simp
  | a :: b :: l => by
    have ih := bales_len l
    unfold Kzd1.bales
    rw [List.length_cons, List.length_cons, List.length_cons, ih]
    omega
theorem bales_get : ∀ (l : List Nat) (i : Nat), i < l.length / 2 → (Kzd1.bales l)[i]? = some ⟨l.getD (2 * i) 0, l.getD (2 * i + 1) 0⟩
  | [], i, h => absurd h (by simp)
  | [_], i, h => absurd h (by simp)
  | a :: b :: l, 0, _ => by unfold Kzd1.bales; rfl
  | a :: b :: l, i + 1, h => by
    have ih := bales_get l i (by simp at h; omega)
    unfold Kzd1.bales
    rw [List.getElem?_cons_succ, ih]
    have e1 : 2 * (i + 1) = 2 * i + 1 + 1 := by omega
    have e2 : 2 * (i + 1) + 1 = 2 * i + 1 + 1 + 1 := by omega
    rw [e2, e1]
    rfl
theorem all_okBale (l : List Nat) : (Kzd1.bales l).all Kzd1.okBale = true ↔ ∀ i, i < l.length / 2 → 1 ≤ l.getD (2 * i) 0 ∧ l.getD (2 * i) 0 ≤ 300 ∧ l.getD (2 * i + 1) 0 ≤ 500 := by
  rw [List.all_eq_true]
  constructor
  · intro h i hi
    have e := bales_get l i hi
    have m := List.mem_of_getElem? e
    exact (okBale_iff _).mp (h _ m)
  · intro h x hx
    obtain ⟨i, hi⟩ := List.mem_iff_getElem?.mp hx
    have hl : i < l.length / 2 := by
      rw [← bales_len]
      exact (List.getElem?_eq_some_iff.mp hi).1
    have e := bales_get l i hl
    rw [hi] at e
    have e' := Option.some.inj e
    rw [e']
    exact (okBale_iff _).mpr (h i hl)
theorem good_of {l : List Nat} (h : Kzd1.good l = true) : l.length % 2 = 0 ∧ l.length ≤ 18 ∧ OkBs (Kzd1.bales l) ∧ (Kzd1.bales l).length ≤ 9 := by
  unfold Kzd1.good Kzd1.ok at h
  simp only [Bool.and_eq_true, decide_eq_true_eq] at h
  obtain ⟨h1, h2, h3⟩ := h
  refine ⟨h1, ?_, fun b hb => (okBale_iff b).mp (List.all_eq_true.mp h3 b hb), h2⟩
  rw [bales_len] at h2
  omega
theorem good_iff (l : List Nat) : Kzd1.good l = true ↔ l.length % 2 = 0 ∧ l.length ≤ 18 ∧ ∀ i, i < l.length / 2 → 1 ≤ l.getD (2 * i) 0 ∧ l.getD (2 * i) 0 ≤ 300 ∧ l.getD (2 * i + 1) 0 ≤ 500 := by
  unfold Kzd1.good Kzd1.ok
  simp only [Bool.and_eq_true, decide_eq_true_eq, all_okBale, bales_len]
  constructor
  · rintro ⟨h1, h2, h3⟩; exact ⟨h1, by omega, h3⟩
  · rintro ⟨h1, h2, h3⟩; exact ⟨h1, by omega, h3⟩

/-! ### mean -/
theorem top_foldl (l : List Nat) : Kzd1.top l = l.foldl max 0 := rfl
/-- the greatest of a list with 0 ahead, by what max says of it -/
theorem foldl_max_mem : ∀ (l : List Nat) (a : Nat), l.foldl max a ∈ a :: l
  | [], a => List.mem_cons_self ..
  | x :: r, a => by
    have h := foldl_max_mem r (max a x)
    rw [List.foldl_cons]
    rcases List.mem_cons.mp h with h | h
    · rw [h]
      rcases Nat.le_total a x with q | q
      · rw [Nat.max_eq_right q]
        exact List.mem_cons_of_mem _ (List.mem_cons_self ..)
      · rw [Nat.max_eq_left q]
        exact List.mem_cons_self ..
    · exact List.mem_cons_of_mem _ (List.mem_cons_of_mem _ h)
theorem foldl_max_le : ∀ (l : List Nat) (a x : Nat), x ∈ a :: l → x ≤ l.foldl max a
  | [], a, x, h => by
    rcases List.mem_cons.mp h with h | h
    · rw [h]; exact Nat.le_refl _
    · cases h
  | y :: r, a, x, h => by
    rw [List.foldl_cons]
    have hm := foldl_max_le r (max a y) (max a y) (List.mem_cons_self ..)
    rcases List.mem_cons.mp h with h | h
    · rw [h]; exact Nat.le_trans (Nat.le_max_left ..) hm
    · rcases List.mem_cons.mp h with h | h
      · rw [h]; exact Nat.le_trans (Nat.le_max_right ..) hm
      · exact foldl_max_le r (max a y) x (List.mem_cons_of_mem _ h)
def topOf (bs : List Bale) : Nat := (bs.map Bale.long).foldl max 0
theorem topOf_of {bs : List Bale} {m : Nat} (h1 : m ∈ 0 :: bs.map Bale.long) (h2 : ∀ x ∈ 0 :: bs.map Bale.long, x ≤ m) : topOf bs = m :=
  Nat.le_antisymm (h2 _ (foldl_max_mem _ _)) (foldl_max_le _ _ _ h1)
def meanOf (bs : List Bale) : Nat := if bs = [] then 0 else mOf bs / wOf bs
theorem meanOf_is {bs : List Bale} (h : OkBs bs) : Kzd1.mean bs (Kzd1.all bs) = meanOf bs := by
  unfold Kzd1.mean meanOf
  rw [wOf_all, mOf_all]
  by_cases e : bs = []
  · rw [if_pos e, if_pos (by rw [e]; rfl)]
  · rw [if_neg e, if_neg (Nat.ne_of_gt (wOf_pos h e))]

def iz (l : List Nat) : List Int := l.map fun (x : Nat) => (x : Int)
theorem natsOf_iz (l : List Nat) : Kzd1Neutral.natsOf (iz l) = l := by
  unfold Kzd1Neutral.natsOf iz
  rw [List.map_map]
  conv => rhs; rw [← List.map_id l]
  exact List.map_congr_left fun x _ => rfl
theorem iz_natsOf {l : List Int} (h : ∀ x ∈ l, 0 ≤ x) : iz (Kzd1Neutral.natsOf l) = l := by
  unfold Kzd1Neutral.natsOf iz
  rw [List.map_map]
  conv => rhs; rw [← List.map_id l]
  exact List.map_congr_left fun x hx => by
    show ((x.toNat : Nat) : Int) = x
    have := h x hx
    omega
theorem f_mean (l : List Nat) : PyKzd1.mean (iz l) = (Kzd1.answer (.mean l)).value :: Kzd1Neutral.ints (Kzd1.answer (.mean l)).nums := by
  have e : PyKzd1.mean (iz l) = (Kzd1.answer (.mean (Kzd1Neutral.natsOf (iz l)))).value :: Kzd1Neutral.ints (Kzd1.answer (.mean (Kzd1Neutral.natsOf (iz l)))).nums := rfl
  rw [e, natsOf_iz]
theorem mean_bad {l : List Nat} (h : Kzd1.good l = false) : PyKzd1.mean (iz l) = [-22] := by
  have e : Kzd1.answer (.mean l) = Kzd1.say (-22) := if_pos h
  rw [f_mean, e]
  rfl
theorem mean_good {l : List Nat} (h : Kzd1.good l = true) : PyKzd1.mean (iz l) = iz [meanOf (Kzd1.bales l), wOf (Kzd1.bales l), topOf (Kzd1.bales l)] := by
  have e : Kzd1.answer (.mean l) = ⟨(Kzd1.mean (Kzd1.bales l) (Kzd1.all (Kzd1.bales l)) : Nat), [Kzd1.kgOf (Kzd1.bales l) (Kzd1.all (Kzd1.bales l)), Kzd1.top ((Kzd1.bales l).map Bale.long)]⟩ := if_neg (by rw [h]; decide)
  rw [f_mean, e, wOf_all, meanOf_is (good_of h).2.2.1]
  rfl
end Bm
/-! Rows of bales, in the order of their places: the program's, by growing, are the specification's; the nearest. -/
namespace Bm
open Kzd1 (Bale)

/-- where a row goes on -/
def nextOf (row : List Nat) : Nat := match row.getLast? with
  | none => 0
  | some x => x + 1
theorem nextOf_nil : nextOf [] = 0 := rfl
theorem nextOf_snoc (row : List Nat) (x : Nat) : nextOf (row ++ [x]) = x + 1 := by
  unfold nextOf
  rw [List.getLast?_concat]
/-- longer_rows -/
def longer (many : Nat) (row : List Nat) : List (List Nat) := (List.range' (nextOf row) (many - nextOf row)).map fun x => row ++ [x]
/-- one turn of all_rows -/
def grow (many : Nat) (rows : List (List Nat)) : List (List Nat) := rows.flatMap (longer many)
def rowsI (many : Nat) : Nat → List (List Nat)
  | 0 => [[]]
  | k + 1 => grow many (rowsI many k)
/-- all rows that go on from some -/
def ends (many k : Nat) (rows : List (List Nat)) : List (List Nat) := rows.flatMap fun row => (Kzd1.picks k (List.range' (nextOf row) (many - nextOf row))).map (row ++ ·)

theorem picks_zero (l : List Nat) : Kzd1.picks 0 l = [[]] := by unfold Kzd1.picks; rfl
theorem picks_nil (k : Nat) : Kzd1.picks (k + 1) [] = [] := by unfold Kzd1.picks; rfl
theorem picks_cons (k a : Nat) (r : List Nat) : Kzd1.picks (k + 1) (a :: r) = (Kzd1.picks k r).map (a :: ·) ++ Kzd1.picks (k + 1) r := by
  conv => lhs; unfold Kzd1.picks
theorem picks_one_step (k : Nat) : ∀ (n f : Nat) (row : List Nat),
    (Kzd1.picks (k + 1) (List.range' f n)).map (row ++ ·) = (List.range' f n).flatMap fun x => (Kzd1.picks k (List.range' (x + 1) (f + n - (x + 1)))).map (row ++ [x] ++ ·)
  | 0, f, row => by
    rw [List.range'_zero, picks_nil]
    rfl
  | n + 1, f, row => by
    rw [List.range'_succ, picks_cons, List.map_append, picks_one_step k n (f + 1) row, List.flatMap_cons, List.map_map]
    have e1 : f + (n + 1) - (f + 1) = n := by omega
    rw [e1]
    congr 1
    · apply List.map_congr_left
      intro s _
      simp
    · apply congrArg (fun g => List.flatMap g (List.range' (f + 1) n))
      funext x
      rw [show f + 1 + n - (x + 1) = f + (n + 1) - (x + 1) by omega]
theorem ends_grow (many k : Nat) (rows : List (List Nat)) : ends many k (grow many rows) = ends many (k + 1) rows := by
  unfold ends grow
  rw [List.flatMap_assoc]
  apply congrArg (fun g => List.flatMap g rows)
  funext row
  by_cases h : nextOf row ≤ many
  · rw [picks_one_step k (many - nextOf row) (nextOf row) row]
    unfold longer
    rw [List.flatMap_map]
    apply congrArg (fun g => List.flatMap g _)
    funext x
    rw [nextOf_snoc, show nextOf row + (many - nextOf row) = many by omega]
  · have e : many - nextOf row = 0 := by omega
    unfold longer
    rw [e, List.range'_zero, picks_nil]
    rfl
theorem ends_zero (many : Nat) (rows : List (List Nat)) : ends many 0 rows = rows := by
  unfold ends
  simp [picks_zero]
theorem rowsI_ends (many : Nat) : ∀ (k j : Nat), ends many j (rowsI many k) = ends many (j + k) [[]]
  | 0, j => rfl
  | k + 1, j => by
    show ends many j (grow many (rowsI many k)) = _
    rw [ends_grow, rowsI_ends many k (j + 1)]
    congr 1
    omega
/-- the rows that the program makes are the specification's -/
theorem rowsI_is (many k : Nat) : rowsI many k = Kzd1.picks k (List.range many) := by
  have h := rowsI_ends many k 0
  rw [ends_zero, Nat.zero_add] at h
  rw [h]
  unfold ends
  rw [List.flatMap_cons, List.flatMap_nil, List.append_nil, nextOf_nil, Nat.sub_zero, ← List.range_eq_range']
  simp

/-! ### what holds of a row -/
theorem picks_sub : ∀ (l : List Nat) (k : Nat) (s : List Nat), s ∈ Kzd1.picks k l → s.Sublist l ∧ s.length = k
  | l, 0, s, h => by
    rw [picks_zero] at h
    have e : s = [] := by simpa using h
    subst e
    exact ⟨List.nil_sublist _, rfl⟩
  | [], k + 1, s, h => by
    rw [picks_nil] at h
    cases h
  | a :: r, k + 1, s, h => by
    rw [picks_cons, List.mem_append, List.mem_map] at h
    rcases h with ⟨t, ht, rfl⟩ | h
    · have ih := picks_sub r k t ht
      exact ⟨ih.1.cons₂ a, by rw [List.length_cons, ih.2]⟩
    · have ih := picks_sub r (k + 1) s h
      exact ⟨ih.1.cons a, ih.2⟩
theorem picks_count : ∀ (l : List Nat) (k : Nat), (Kzd1.picks k l).length ≤ 2 ^ l.length
  | l, 0 => by
    rw [picks_zero]
    exact Nat.one_le_two_pow
  | [], k + 1 => by
    rw [picks_nil]
    exact Nat.zero_le _
  | a :: r, k + 1 => by
    have h1 := picks_count r k
    have h2 := picks_count r (k + 1)
    rw [picks_cons, List.length_append, List.length_map, List.length_cons, Nat.pow_succ]
    omega
theorem row_of {many k : Nat} {s : List Nat} (h : s ∈ rowsI many k) : s.Sublist (List.range many) ∧ s.length = k := by
  rw [rowsI_is] at h
  exact picks_sub _ _ _ h
theorem row_lt {many k : Nat} {s : List Nat} (h : s ∈ rowsI many k) : ∀ x ∈ s, x < many := fun x hx => List.mem_range.mp ((row_of h).1.subset hx)
theorem rowsI_count (many k : Nat) : (rowsI many k).length ≤ 2 ^ many := by
  rw [rowsI_is]
  have h := picks_count (List.range many) k
  rwa [List.length_range] at h
theorem longer_count (many : Nat) (row : List Nat) : (longer many row).length ≤ many := by
  unfold longer
  rw [List.length_map, List.length_range']
  omega
theorem grow_count (many : Nat) (rows : List (List Nat)) : (grow many rows).length ≤ rows.length * many := by
  induction rows with
  | nil => exact Nat.zero_le _
  | cons row r ih =>
    unfold grow at ih ⊢
    rw [List.flatMap_cons, List.length_append, List.length_cons, Nat.succ_mul]
    have := longer_count many row
    omega
theorem grow_append (many : Nat) (a b : List (List Nat)) : grow many (a ++ b) = grow many a ++ grow many b := by
  unfold grow
  rw [List.flatMap_append]
theorem grow_one (many : Nat) (row : List Nat) : grow many [row] = longer many row := by
  unfold grow
  simp

/-! ### the nearest -/
/-- a gap: above, below -/
def gapOf (bs : List Bale) (t : Nat) (s : List Nat) : Nat × Nat := (Kzd1.off bs t s, Kzd1.kgOf bs s)
def isLess (x y : Nat × Nat) : Bool := decide (x.1 * y.2 < y.1 * x.2)
theorem isLess_is (bs : List Bale) (t : Nat) (x y : List Nat) : isLess (gapOf bs t x) (gapOf bs t y) = Kzd1.nearer bs t x y := rfl
theorem off_is (bs : List Bale) (t : Nat) (s : List Nat) : ((Kzd1.off bs t s : Nat) : Int) = if (Kzd1.longOf bs s : Int) - (t : Int) * (Kzd1.kgOf bs s : Int) < 0 then -((Kzd1.longOf bs s : Int) - (t : Int) * (Kzd1.kgOf bs s : Int)) else (Kzd1.longOf bs s : Int) - (t : Int) * (Kzd1.kgOf bs s : Int) := by
  unfold Kzd1.off Kzd1.gap
  have e : ((t * Kzd1.kgOf bs s : Nat) : Int) = (t : Int) * (Kzd1.kgOf bs s : Int) := Int.natCast_mul _ _
  rw [← e]
  generalize t * Kzd1.kgOf bs s = a
  generalize Kzd1.longOf bs s = b
  split <;> omega
/-- one turn of nearest: what is best so far -/
def near1 (bs : List Bale) (t : Nat) (best : Option (List Nat)) (row : List Nat) : Option (List Nat) := match best with
  | none => some row
  | some b => if Kzd1.nearer bs t row b then some row else some b
def near (bs : List Bale) (t : Nat) (rows : List (List Nat)) : Option (List Nat) := rows.foldl (near1 bs t) none
theorem near_some (bs : List Bale) (t : Nat) : ∀ (rows : List (List Nat)) (x : List Nat), rows.foldl (near1 bs t) (some x) = some (rows.foldl (fun a b => if Kzd1.nearer bs t b a then b else a) x)
  | [], x => rfl
  | y :: r, x => by
    rw [List.foldl_cons, List.foldl_cons]
    have e : near1 bs t (some x) y = some (if Kzd1.nearer bs t y x then y else x) := by
      show (if Kzd1.nearer bs t y x then some y else some x) = _
      split <;> rfl
    rw [e, near_some bs t r]
theorem near_is (bs : List Bale) (k t : Nat) : near bs t (rowsI bs.length k) = Kzd1.pick bs k t := by
  rw [rowsI_is]
  unfold near Kzd1.pick Kzd1.all
  cases Kzd1.picks k (List.range bs.length) with
  | nil => rfl
  | cons x r => exact near_some bs t r x
theorem near1_mem {bs : List Bale} {t : Nat} {rows : List (List Nat)} {x : List Nat} (h : near bs t rows = some x) : x ∈ rows := by
  have aux : ∀ (rows : List (List Nat)) (b : Option (List Nat)) (x : List Nat), rows.foldl (near1 bs t) b = some x → x ∈ rows ∨ b = some x := by
    intro rows
    induction rows with
    | nil => intro b x h; exact .inr h
    | cons y r ih =>
      intro b x h
      rw [List.foldl_cons] at h
      rcases ih _ _ h with h | h
      · exact .inl (List.mem_cons_of_mem _ h)
      · cases b with
        | none =>
          have e : y = x := Option.some.inj h
          rw [e]
          exact .inl (List.mem_cons_self ..)
        | some b =>
          have h' : (if Kzd1.nearer bs t y b then some y else some b) = some x := h
          split at h'
          · have e : y = x := Option.some.inj h'
            rw [e]
            exact .inl (List.mem_cons_self ..)
          · exact .inr h'
  rcases aux rows none x h with h | h
  · exact h
  · cases h
theorem picks_some : ∀ (l : List Nat) (k : Nat), k ≤ l.length → Kzd1.picks k l ≠ []
  | l, 0, _ => by
    rw [picks_zero]
    exact List.cons_ne_nil _ _
  | [], k + 1, h => absurd h (by simp)
  | a :: r, k + 1, h => by
    rw [picks_cons]
    intro e
    have e1 := (List.append_eq_nil_iff.mp e).1
    exact picks_some r k (by simpa using h) (List.map_eq_nil_iff.mp e1)
theorem picks_short : ∀ (l : List Nat) (k : Nat), l.length < k → Kzd1.picks k l = []
  | l, 0, h => absurd h (by simp)
  | [], k + 1, _ => picks_nil k
  | a :: r, k + 1, h => by
    rw [picks_cons, picks_short r k (by simpa using h), picks_short r (k + 1) (by simp at h; omega)]
    rfl

/-! ### pick's answer -/
theorem f_pick (k t : Nat) (l : List Nat) : PyKzd1.pick k t (iz l) = (Kzd1.answer (.pick k t l)).value :: Kzd1Neutral.ints (Kzd1.answer (.pick k t l)).nums := by
  have e : PyKzd1.pick k t (iz l) = (Kzd1.answer (.pick k t (Kzd1Neutral.natsOf (iz l)))).value :: Kzd1Neutral.ints (Kzd1.answer (.pick k t (Kzd1Neutral.natsOf (iz l)))).nums := rfl
  rw [e, natsOf_iz]
def pickOk (k t : Nat) (l : List Nat) : Prop := Kzd1.good l = true ∧ (1 ≤ k ∧ k ≤ 9) ∧ t ≤ 500
theorem pick_bad {k t : Nat} {l : List Nat} (h : ¬ pickOk k t l) : PyKzd1.pick k t (iz l) = [-22] := by
  have c : Kzd1.good l = false ∨ k < 1 ∨ 9 < k ∨ 500 < t := by
    unfold pickOk at h
    cases g : Kzd1.good l with
    | false => exact .inl rfl
    | true =>
      rw [g] at h
      right
      by_cases h1 : k < 1
      · exact .inl h1
      · by_cases h2 : 9 < k
        · exact .inr (.inl h2)
        · by_cases h3 : 500 < t
          · exact .inr (.inr h3)
          · exact absurd ⟨rfl, ⟨by omega, by omega⟩, by omega⟩ h
  have e : Kzd1.answer (.pick k t l) = Kzd1.say (-22) := if_pos c
  rw [f_pick, e]
  rfl
theorem pick_ok {k t : Nat} {l : List Nat} (h : pickOk k t l) : Kzd1.answer (.pick k t l) = match Kzd1.pick (Kzd1.bales l) k t with
    | none => Kzd1.say (-33)
    | some s => ⟨(Kzd1.off (Kzd1.bales l) t s / Kzd1.kgOf (Kzd1.bales l) s : Nat), s⟩ := by
  obtain ⟨h1, h2, h3⟩ := h
  exact if_neg (by
    rintro (c | c | c | c)
    · rw [h1] at c; cases c
    · omega
    · omega
    · omega)
theorem pick_few {k t : Nat} {l : List Nat} (h : pickOk k t l) (hk : (Kzd1.bales l).length < k) : PyKzd1.pick k t (iz l) = [-33] := by
  have e : Kzd1.pick (Kzd1.bales l) k t = none := by
    unfold Kzd1.pick Kzd1.all
    rw [picks_short _ _ (by rw [List.length_range]; exact hk)]
  rw [f_pick, pick_ok h, e]
  rfl
theorem pick_some {k t : Nat} {l : List Nat} (h : pickOk k t l) {s : List Nat} (e : near (Kzd1.bales l) t (rowsI (Kzd1.bales l).length k) = some s) :
    PyKzd1.pick k t (iz l) = iz ((Kzd1.off (Kzd1.bales l) t s / Kzd1.kgOf (Kzd1.bales l) s) :: s) := by
  rw [near_is] at e
  rw [f_pick, pick_ok h, e]
  rfl
theorem near_ne {bs : List Bale} {k t : Nat} (hk : k ≤ bs.length) : ∃ s, near bs t (rowsI bs.length k) = some s := by
  rw [near_is]
  unfold Kzd1.pick Kzd1.all
  cases e : Kzd1.picks k (List.range bs.length) with
  | nil => exact absurd e (picks_some _ _ (by rw [List.length_range]; exact hk))
  | cons x r => exact ⟨_, rfl⟩
end Bm
/-! Days: sets of bales as numbers, the table, and the specification's own search. -/
namespace Bm
open Kzd1 (Bale)

/-! ### sets as numbers -/
def setV : List Nat → Nat
  | [] => 0
  | x :: r => 2 ^ x + setV r
theorem setV_append : ∀ (a b : List Nat), setV (a ++ b) = setV a + setV b
  | [], b => (Nat.zero_add _).symm
  | x :: r, b => by
    show 2 ^ x + setV (r ++ b) = 2 ^ x + setV r + setV b
    rw [setV_append r b]
    omega
theorem sub_succ {n : Nat} {l : List Nat} (h : l.Sublist (List.range (n + 1))) : l.Sublist (List.range n) ∨ ∃ l', l = l' ++ [n] ∧ l'.Sublist (List.range n) := by
  rw [List.range_succ] at h
  obtain ⟨a, b, e, h1, h2⟩ := List.sublist_append_iff.mp h
  subst e
  cases b with
  | nil => exact .inl (by rw [List.append_nil]; exact h1)
  | cons y r =>
    have e1 : y :: r = [n] := h2.eq_of_length_le (by simp)
    rw [e1]
    exact .inr ⟨a, rfl, h1⟩
theorem setV_lt : ∀ (n : Nat) (l : List Nat), l.Sublist (List.range n) → setV l < 2 ^ n
  | 0, l, h => by
    have e : l = [] := by simpa using h
    subst e
    exact Nat.one_pos
  | n + 1, l, h => by
    rcases sub_succ h with hq | ⟨l', rfl, hq⟩
    · have := setV_lt n l hq
      rw [Nat.pow_succ]
      omega
    · have := setV_lt n l' hq
      rw [setV_append, Nat.pow_succ]
      show setV l' + (2 ^ n + 0) < _
      omega
theorem bit_setV : ∀ (n : Nat) (l : List Nat) (i : Nat), l.Sublist (List.range n) → (setV l).testBit i = decide (i ∈ l)
  | 0, l, i, h => by
    have e : l = [] := by simpa using h
    subst e
    simp [setV]
  | n + 1, l, i, h => by
    rcases sub_succ h with hq | ⟨l', rfl, hq⟩
    · exact bit_setV n l i hq
    · have lt := setV_lt n l' hq
      have ih := bit_setV n l' i hq
      have e : setV (l' ++ [n]) = 2 ^ n + setV l' := by
        rw [setV_append]
        show setV l' + (2 ^ n + 0) = _
        omega
      rw [e]
      rcases Nat.lt_trichotomy i n with q | q | q
      · rw [Nat.testBit_two_pow_add_gt q, ih]
        have : i ≠ n := by omega
        simp [this]
      · subst q
        rw [Nat.testBit_two_pow_add_eq, Nat.testBit_lt_two_pow lt]
        simp
      · have l1 : 2 ^ n + setV l' < 2 ^ i := by
          have h2 : 2 ^ (n + 1) ≤ 2 ^ i := Nat.pow_le_pow_right (by decide) q
          rw [Nat.pow_succ] at h2
          omega
        rw [Nat.testBit_lt_two_pow l1]
        have h3 : i ∉ l' := fun z => by
          have := List.mem_range.mp (hq.subset z)
          omega
        have h4 : i ≠ n := by omega
        simp [h3, h4]
theorem setV_surj : ∀ (n c : Nat), c < 2 ^ n → ∃ l : List Nat, l.Sublist (List.range n) ∧ setV l = c
  | 0, c, h => ⟨[], List.nil_sublist _, by simp at h; subst h; rfl⟩
  | n + 1, c, h => by
    rw [Nat.pow_succ] at h
    by_cases q : c < 2 ^ n
    · obtain ⟨l, h1, h2⟩ := setV_surj n c q
      exact ⟨l, by rw [List.range_succ]; exact h1.trans (List.sublist_append_left _ _), h2⟩
    · obtain ⟨l, h1, h2⟩ := setV_surj n (c - 2 ^ n) (by omega)
      refine ⟨l ++ [n], by rw [List.range_succ]; exact h1.append (List.Sublist.refl _), ?_⟩
      rw [setV_append, h2]
      show c - 2 ^ n + (2 ^ n + 0) = c
      omega
theorem filter_mem : ∀ {l m : List Nat}, l.Sublist m → m.Nodup → m.filter (fun i => decide (i ∈ l)) = l
  | _, _, .slnil, _ => rfl
  | l, a :: m, .cons _ h, nd => by
    have n1 := List.nodup_cons.mp nd
    have ha : a ∉ l := fun z => n1.1 (h.subset z)
    rw [List.filter_cons_of_neg (by simp [ha])]
    exact filter_mem h n1.2
  | a :: l, _ :: m, .cons_cons _ h, nd => by
    have n1 := List.nodup_cons.mp nd
    rw [List.filter_cons_of_pos (by simp)]
    congr 1
    conv => rhs; rw [← filter_mem h n1.2]
    apply List.filter_congr
    intro x hx
    have hne : x ≠ a := fun z => n1.1 (z ▸ hx)
    simp [hne]
def bitsOf (n c : Nat) : List Nat := (List.range n).filter fun i => c.testBit i
theorem bitsOf_setV {n : Nat} {l : List Nat} (h : l.Sublist (List.range n)) : bitsOf n (setV l) = l := by
  unfold bitsOf
  conv => rhs; rw [← filter_mem h List.nodup_range]
  apply List.filter_congr
  intro x _
  exact bit_setV n l x h
theorem setV_bitsOf {n c : Nat} (h : c < 2 ^ n) : setV (bitsOf n c) = c ∧ (bitsOf n c).Sublist (List.range n) := by
  obtain ⟨l, h1, rfl⟩ := setV_surj n c h
  rw [bitsOf_setV h1]
  exact ⟨rfl, h1⟩
theorem setV_split (p : Nat → Bool) : ∀ l : List Nat, setV l = setV (l.filter p) + setV (l.filter fun i => !p i)
  | [] => rfl
  | x :: r => by
    have ih := setV_split p r
    show 2 ^ x + setV r = _
    cases e : p x with
    | true =>
      rw [List.filter_cons_of_pos e, List.filter_cons_of_neg (by simp [e])]
      show _ = 2 ^ x + _ + _
      omega
    | false =>
      rw [List.filter_cons_of_neg (by simp [e]), List.filter_cons_of_pos (by simp [e])]
      show _ = _ + (2 ^ x + _)
      omega
/-- what is left of a set when a row is taken -/
def left (l s : List Nat) : List Nat := l.filter fun i => !decide (i ∈ s)
theorem setV_left {l s : List Nat} (h : s.Sublist l) (nd : l.Nodup) : setV l = setV s + setV (left l s) := by
  rw [setV_split (fun i => decide (i ∈ s)) l, filter_mem h nd]
  rfl
theorem left_sub (l s : List Nat) : (left l s).Sublist l := List.filter_sublist
theorem setV_sub {n : Nat} {l s : List Nat} (hl : l.Sublist (List.range n)) (hs : s.Sublist (List.range n)) : (setV s &&& setV l == setV s) = s.all fun x => decide (x ∈ l) := by
  apply Bool.eq_iff_iff.mpr
  rw [beq_iff_eq, List.all_eq_true]
  constructor
  · intro e x hx
    have q := congrArg (fun c => c.testBit x) e
    simp only [Nat.testBit_and, bit_setV n s x hs, bit_setV n l x hl] at q
    simpa [hx] using q
  · intro h
    apply Nat.eq_of_testBit_eq
    intro i
    rw [Nat.testBit_and, bit_setV n s i hs, bit_setV n l i hl]
    by_cases hi : i ∈ s
    · have := h i hi
      simpa [hi] using this
    · simp [hi]
theorem sorted_sub {n a : Nat} {r : List Nat} (h : (a :: r).Sublist (List.range n)) : ∀ x ∈ r, a < x := by
  have hp : (a :: r).Pairwise (· < ·) := List.Pairwise.sublist h List.pairwise_lt_range
  exact (List.pairwise_cons.mp hp).1
theorem nodup_sub {n : Nat} {l : List Nat} (h : l.Sublist (List.range n)) : l.Nodup := h.nodup List.nodup_range
theorem least_no {n a : Nat} {r : List Nat} (h : (a :: r).Sublist (List.range n)) {i : Nat} (hi : i < a) : (setV (a :: r)).testBit i = false := by
  rw [bit_setV n _ i h]
  refine decide_eq_false fun z => ?_
  rcases List.mem_cons.mp z with z | z
  · omega
  · have := sorted_sub h i z
    omega
theorem least_yes {n a : Nat} {r : List Nat} (h : (a :: r).Sublist (List.range n)) : (setV (a :: r)).testBit a = true := by
  rw [bit_setV n _ a h]
  simp

/-! ### the specification's search, without its count -/
section
variable (bs : List Bale) (k t tol : Nat)
def step1 (b : Option (List (List Nat))) (d : List (List Nat)) : Option (List (List Nat)) := match b with
  | none => some d
  | some x => if x.length < d.length then some d else some x
def D (l : List Nat) : List (List Nat) := Kzd1.daysOn bs k t tol l.length l
theorem days_nil : ∀ f, Kzd1.daysOn bs k t tol f [] = []
  | 0 => by unfold Kzd1.daysOn; rfl
  | f + 1 => by unfold Kzd1.daysOn; rfl
theorem days_cons (f a : Nat) (r : List Nat) : Kzd1.daysOn bs k t tol (f + 1) (a :: r) = ((Kzd1.picks (k - 1) r).foldl (fun b s =>
    if Kzd1.alike bs t tol (a :: s) then step1 b ((a :: s) :: Kzd1.daysOn bs k t tol f (r.filter fun i => !(s.contains i))) else b) none).elim (Kzd1.daysOn bs k t tol f r)
      fun x => if x.length < (Kzd1.daysOn bs k t tol f r).length then Kzd1.daysOn bs k t tol f r else x := by
  conv => lhs; unfold Kzd1.daysOn
  rfl
theorem days_fuel : ∀ (m : Nat) (l : List Nat), l.length ≤ m → ∀ f, l.length ≤ f → Kzd1.daysOn bs k t tol f l = D bs k t tol l
  | _, [], _, f, _ => by
    unfold D
    rw [days_nil, days_nil]
  | 0, a :: r, h, _, _ => absurd h (by simp)
  | m + 1, a :: r, h, 0, hf => absurd hf (by simp)
  | m + 1, a :: r, h, f + 1, hf => by
    have hr : r.length ≤ m := by simpa using h
    have hrf : r.length ≤ f := by simpa using hf
    have e1 : ∀ s : List Nat, Kzd1.daysOn bs k t tol f (r.filter fun i => !(s.contains i)) = Kzd1.daysOn bs k t tol r.length (r.filter fun i => !(s.contains i)) := fun s => by
      have hl := List.length_filter_le (fun i => !(s.contains i)) r
      rw [days_fuel m _ (by omega) f (by omega), days_fuel m _ (by omega) r.length hl]
    have e2 : Kzd1.daysOn bs k t tol f r = Kzd1.daysOn bs k t tol r.length r := by
      rw [days_fuel m r hr f hrf]
      rfl
    unfold D
    rw [List.length_cons, days_cons, days_cons, e2]
    simp only [e1]
/-- the rows that the first bale of a set is in -/
def cands (a : Nat) (r : List Nat) : List (List Nat) := ((Kzd1.picks (k - 1) r).map (a :: ·)).filter (Kzd1.alike bs t tol)
/-- the days that begin with a row -/
def with1 (l row : List Nat) : List (List Nat) := row :: D bs k t tol (left l row)
theorem fold_cands (a : Nat) (r : List Nat) (ha : a ∉ r) : ∀ (ss : List (List Nat)) (b : Option (List (List Nat))),
    ss.foldl (fun b s => if Kzd1.alike bs t tol (a :: s) then step1 b ((a :: s) :: Kzd1.daysOn bs k t tol r.length (r.filter fun i => !(s.contains i))) else b) b =
      (((ss.map (a :: ·)).filter (Kzd1.alike bs t tol)).map (with1 bs k t tol (a :: r))).foldl step1 b
  | [], _ => rfl
  | s :: ss, b => by
    have e1 : (s :: ss).map (a :: ·) = (a :: s) :: ss.map (a :: ·) := rfl
    rw [List.foldl_cons, e1]
    cases e : Kzd1.alike bs t tol (a :: s) with
    | false =>
      rw [List.filter_cons_of_neg (by simp [e])]
      exact fold_cands a r ha ss b
    | true =>
      rw [List.filter_cons_of_pos e, List.map_cons, List.foldl_cons]
      have e2 : (a :: s) :: Kzd1.daysOn bs k t tol r.length (r.filter fun i => !(s.contains i)) = with1 bs k t tol (a :: r) (a :: s) := by
        unfold with1
        have e3 : left (a :: r) (a :: s) = r.filter fun i => !(s.contains i) := by
          unfold left
          rw [List.filter_cons_of_neg (by simp)]
          apply List.filter_congr
          intro x hx
          have hne : x ≠ a := fun z => ha (z ▸ hx)
          simp [hne]
        rw [e3, days_fuel bs k t tol r.length _ (List.length_filter_le _ r) r.length (List.length_filter_le _ r)]
      rw [e2]
      exact fold_cands a r ha ss _
theorem D_nil : D bs k t tol [] = [] := days_nil bs k t tol _
theorem D_cons (a : Nat) (r : List Nat) (ha : a ∉ r) : D bs k t tol (a :: r) = (((cands bs k t tol a r).map (with1 bs k t tol (a :: r))).foldl step1 none).elim (D bs k t tol r)
    fun x => if x.length < (D bs k t tol r).length then D bs k t tol r else x := by
  have e : D bs k t tol (a :: r) = Kzd1.daysOn bs k t tol (r.length + 1) (a :: r) := rfl
  rw [e, days_cons, fold_cands bs k t tol a r ha]
  rfl

/-! ### the first of the longest -/
theorem step1_first : ∀ (ds : List (List (List Nat))) (x : List (List Nat)), ∃ y pre post, ds.foldl step1 (some x) = some y ∧ x :: ds = pre ++ y :: post ∧ (∀ z ∈ pre, z.length < y.length) ∧ ∀ z ∈ post, z.length ≤ y.length
  | [], x => ⟨x, [], [], rfl, rfl, (fun _ h => nomatch h), (fun _ h => nomatch h)⟩
  | d :: ds, x => by
    rw [List.foldl_cons]
    by_cases c : x.length < d.length
    · have e : step1 (some x) d = some d := if_pos c
      obtain ⟨y, pre, post, h1, h2, h3, h4⟩ := step1_first ds d
      rw [e]
      refine ⟨y, x :: pre, post, h1, by rw [h2]; rfl, fun z hz => ?_, h4⟩
      rcases List.mem_cons.mp hz with hz | hz
      · rw [hz]
        have hd : d ∈ pre ++ y :: post := by rw [← h2]; exact List.mem_cons_self ..
        have hle : d.length ≤ y.length := by
          rcases List.mem_append.mp hd with q | q
          · exact Nat.le_of_lt (h3 d q)
          · rcases List.mem_cons.mp q with q | q
            · rw [q]; exact Nat.le_refl _
            · exact h4 d q
        omega
      · exact h3 z hz
    · have e : step1 (some x) d = some x := if_neg c
      obtain ⟨y, pre, post, h1, h2, h3, h4⟩ := step1_first ds x
      rw [e]
      cases pre with
      | nil =>
        have e1 := List.cons.inj h2
        refine ⟨y, [], d :: post, h1, by rw [e1.1, e1.2]; rfl, (fun _ h => nomatch h), fun z hz => ?_⟩
        rcases List.mem_cons.mp hz with hz | hz
        · rw [hz, ← e1.1]
          omega
        · exact h4 z hz
      | cons p pre =>
        have e1 := List.cons.inj h2
        refine ⟨y, p :: d :: pre, post, h1, by rw [e1.1, e1.2]; rfl, fun z hz => ?_, h4⟩
        rcases List.mem_cons.mp hz with hz | hz
        · rw [hz]
          exact h3 p (List.mem_cons_self ..)
        · rcases List.mem_cons.mp hz with hz | hz
          · have hp := h3 p (List.mem_cons_self ..)
            rw [← e1.1] at hp
            rw [hz]
            omega
          · exact h3 z (List.mem_cons_of_mem _ hz)
theorem foldl_max_ge : ∀ (ns : List Nat) (m : Nat), m ≤ ns.foldl max m
  | [], m => Nat.le_refl _
  | n :: ns, m => Nat.le_trans (Nat.le_max_left m n) (foldl_max_ge ns (max m n))
theorem foldl_max_all : ∀ (ns : List Nat) (m b : Nat), m ≤ b → (∀ n ∈ ns, n ≤ b) → ns.foldl max m ≤ b
  | [], m, b, h, _ => h
  | n :: ns, m, b, h, hn => foldl_max_all ns (max m n) b (Nat.max_le.mpr ⟨h, hn n (List.mem_cons_self ..)⟩) fun z hz => hn z (List.mem_cons_of_mem _ hz)
/-- the specification's choice is the first that comes to the greatest number, or none -/
theorem choice (ds : List (List (List Nat))) (skip : List (List Nat)) (M : Nat) (hM : M = (ds.map List.length).foldl max skip.length) :
    ((ds.foldl step1 none).elim skip fun x => if x.length < skip.length then skip else x) = (ds.find? fun d => decide (d.length = M)).getD skip ∧
      ((ds.foldl step1 none).elim skip fun x => if x.length < skip.length then skip else x).length = M := by
  cases ds with
  | nil =>
    subst hM
    exact ⟨rfl, rfl⟩
  | cons d ds =>
    obtain ⟨y, pre, post, h1, h2, h3, h4⟩ := step1_first ds d
    have e0 : (d :: ds).foldl step1 none = some y := h1
    rw [e0]
    have hle : ∀ z ∈ d :: ds, z.length ≤ y.length := fun z hz => by
      rw [h2] at hz
      rcases List.mem_append.mp hz with q | q
      · exact Nat.le_of_lt (h3 z q)
      · rcases List.mem_cons.mp q with q | q
        · rw [q]; exact Nat.le_refl _
        · exact h4 z q
    have hy : y ∈ d :: ds := by
      rw [h2]
      exact List.mem_append_right _ (List.mem_cons_self ..)
    have hM' : M = max skip.length y.length := by
      rw [hM]
      apply Nat.le_antisymm
      · refine foldl_max_all _ _ _ (Nat.le_max_left ..) fun n hn => ?_
        obtain ⟨z, hz, rfl⟩ := List.mem_map.mp hn
        exact Nat.le_trans (hle z hz) (Nat.le_max_right ..)
      · refine Nat.max_le.mpr ⟨foldl_max_ge _ _, foldl_max_le _ _ _ (List.mem_cons_of_mem _ (List.mem_map.mpr ⟨y, hy, rfl⟩))⟩
    show (if y.length < skip.length then skip else y) = _ ∧ (if y.length < skip.length then skip else y).length = M
    by_cases c : y.length < skip.length
    · rw [if_pos c]
      have hn : ((d :: ds).find? fun d => decide (d.length = M)) = none := by
        rw [List.find?_eq_none]
        intro z hz
        have := hle z hz
        simp
        omega
      rw [hn]
      exact ⟨rfl, by omega⟩
    · rw [if_neg c]
      have hs : ((d :: ds).find? fun d => decide (d.length = M)) = some y := by
        rw [h2, List.find?_append]
        have hn : (pre.find? fun d => decide (d.length = M)) = none := by
          rw [List.find?_eq_none]
          intro z hz
          have := h3 z hz
          simp
          omega
        rw [hn, List.find?_cons_of_pos (by simp; omega)]
        rfl
      rw [hs]
      exact ⟨rfl, by omega⟩
end
end Bm
/-! Days: the program's table and its way down, against the specification. -/
namespace Bm
open Kzd1 (Bale)
theorem picks_filter (p : Nat → Bool) : ∀ (k : Nat) (m : List Nat), (Kzd1.picks k m).filter (fun s => s.all p) = Kzd1.picks k (m.filter p)
  | 0, m => by
    rw [picks_zero, picks_zero]
    rfl
  | k + 1, [] => by
    rw [List.filter_nil, picks_nil]
    rfl
  | k + 1, x :: m => by
    rw [picks_cons, List.filter_append, picks_filter p (k + 1) m]
    cases e : p x with
    | true =>
      rw [List.filter_cons_of_pos e, picks_cons, ← picks_filter p k m, List.filter_map]
      congr 2
      apply List.filter_congr
      intro s _
      show (x :: s).all p = s.all p
      simp [e]
    | false =>
      rw [List.filter_cons_of_neg (by simp [e])]
      have h : ((Kzd1.picks k m).map (x :: ·)).filter (fun s => s.all p) = [] := by
        rw [List.filter_eq_nil_iff]
        intro s hs
        obtain ⟨s', _, rfl⟩ := List.mem_map.mp hs
        simp [e]
      rw [h]
      rfl
/-- the rows of a list that begin with a set's first bale and are within the set -/
def fromTest (l row : List Nat) : Bool := decide (row.head? = l.head?) && row.all fun x => decide (x ∈ l)
def rowsFrom (rows : List (List Nat)) (l : List Nat) : List (List Nat) := rows.filter (fromTest l)
def alikeRows (bs : List Bale) (k t tol : Nat) : List (List Nat) := (rowsI bs.length k).filter (Kzd1.alike bs t tol)
section
variable (bs : List Bale) (k t tol : Nat)
theorem rowsFrom_is {a : Nat} {r : List Nat} (hl : (a :: r).Sublist (List.range bs.length)) (hk : 1 ≤ k) : rowsFrom (alikeRows bs k t tol) (a :: r) = cands bs k t tol a r := by
  obtain ⟨k, rfl⟩ : ∃ j, k = j + 1 := ⟨k - 1, by omega⟩
  unfold rowsFrom alikeRows cands
  rw [rowsI_is, List.filter_filter]
  have e1 : (Kzd1.picks (k + 1) (List.range bs.length)).filter (fun s => s.all fun x => decide (x ∈ a :: r)) = Kzd1.picks (k + 1) (a :: r) := by
    rw [picks_filter, filter_mem hl List.nodup_range]
  have e2 : (Kzd1.picks (k + 1) (a :: r)).filter (fun s => decide (s.head? = some a)) = (Kzd1.picks k r).map (a :: ·) := by
    rw [picks_cons, List.filter_append]
    have h1 : ((Kzd1.picks k r).map (a :: ·)).filter (fun s => decide (s.head? = some a)) = (Kzd1.picks k r).map (a :: ·) := by
      rw [List.filter_eq_self]
      intro s hs
      obtain ⟨s', _, rfl⟩ := List.mem_map.mp hs
      simp
    have h2 : (Kzd1.picks (k + 1) r).filter (fun s => decide (s.head? = some a)) = [] := by
      rw [List.filter_eq_nil_iff]
      intro s hs
      have q := (picks_sub r (k + 1) s hs).1
      cases s with
      | nil => simp
      | cons x s' =>
        have hx : x ∈ r := q.subset (List.mem_cons_self ..)
        have := sorted_sub hl x hx
        simp
        omega
    rw [h1, h2, List.append_nil]
  have e3 : k + 1 - 1 = k := by omega
  rw [e3, ← e2, ← e1, List.filter_filter, List.filter_filter]
  apply List.filter_congr
  intro s _
  show (fromTest (a :: r) s && Kzd1.alike bs t tol s) = (Kzd1.alike bs t tol s && decide (s.head? = some a) && s.all fun x => decide (x ∈ a :: r))
  unfold fromTest
  rw [Bool.and_comm, Bool.and_assoc]
  rfl
/-- for each set how many days it has at most -/
def tabT (c : Nat) : Nat := (D bs k t tol (bitsOf bs.length c)).length
theorem tabT_set {l : List Nat} (hl : l.Sublist (List.range bs.length)) : tabT bs k t tol (setV l) = (D bs k t tol l).length := by
  unfold tabT
  rw [bitsOf_setV hl]
theorem rowsFrom_sub {a : Nat} {r row : List Nat} (h : row ∈ rowsFrom (alikeRows bs k t tol) (a :: r)) (hl : (a :: r).Sublist (List.range bs.length)) (hk : 1 ≤ k) :
    row.Sublist (a :: r) ∧ row.length = k := by
  rw [rowsFrom_is bs k t tol hl hk] at h
  have h1 := (List.mem_filter.mp h).1
  obtain ⟨s, hs, rfl⟩ := List.mem_map.mp h1
  have q := picks_sub r (k - 1) s hs
  exact ⟨q.1.cons_cons a, by rw [List.length_cons, q.2]; omega⟩
theorem one_tab {a : Nat} {r row : List Nat} (h : row ∈ rowsFrom (alikeRows bs k t tol) (a :: r)) (hl : (a :: r).Sublist (List.range bs.length)) (hk : 1 ≤ k) :
    setV row ≤ setV (a :: r) ∧ 1 + tabT bs k t tol (setV (a :: r) - setV row) = (with1 bs k t tol (a :: r) row).length := by
  have hs := (rowsFrom_sub bs k t tol h hl hk).1
  have e := setV_left hs (nodup_sub hl)
  have e2 : setV (a :: r) - setV row = setV (left (a :: r) row) := by omega
  refine ⟨by omega, ?_⟩
  rw [e2, tabT_set bs k t tol ((left_sub _ _).trans hl)]
  show 1 + _ = _ + 1
  omega
theorem notin_tail {a : Nat} {r : List Nat} (hl : (a :: r).Sublist (List.range bs.length)) : a ∉ r := fun z => by
  have := sorted_sub hl a z
  omega
theorem tail_sub {a : Nat} {r : List Nat} (hl : (a :: r).Sublist (List.range bs.length)) : r.Sublist (List.range bs.length) := (List.sublist_cons_self a r).trans hl
/-- the table's own turn -/
theorem tab_turn {a : Nat} {r : List Nat} (hl : (a :: r).Sublist (List.range bs.length)) (hk : 1 ≤ k) :
    (rowsFrom (alikeRows bs k t tol) (a :: r)).foldl (fun m row => max m (1 + tabT bs k t tol (setV (a :: r) - setV row))) (tabT bs k t tol (setV r)) = tabT bs k t tol (setV (a :: r)) := by
  have c := (choice ((cands bs k t tol a r).map (with1 bs k t tol (a :: r))) (D bs k t tol r) _ rfl).2
  rw [← D_cons bs k t tol a r (notin_tail bs hl)] at c
  rw [tabT_set bs k t tol hl, tabT_set bs k t tol (tail_sub bs hl), c, ← rowsFrom_is bs k t tol hl hk, List.map_map]
  have aux : ∀ (rows : List (List Nat)) (m : Nat), (∀ row ∈ rows, row ∈ rowsFrom (alikeRows bs k t tol) (a :: r)) →
      rows.foldl (fun m row => max m (1 + tabT bs k t tol (setV (a :: r) - setV row))) m = (rows.map (List.length ∘ with1 bs k t tol (a :: r))).foldl max m := by
    intro rows
    induction rows with
    | nil => intro m _; rfl
    | cons row rows ih =>
      intro m h
      rw [List.foldl_cons, List.map_cons, List.foldl_cons, (one_tab bs k t tol (h row (List.mem_cons_self ..)) hl hk).2]
      exact ih _ fun x hx => h x (List.mem_cons_of_mem _ hx)
  exact aux _ _ fun _ h => h
/-- the row that a set's first bale is in, if it is in one -/
def nextRow (l : List Nat) : Option (List Nat) := (rowsFrom (alikeRows bs k t tol) l).find? fun row => decide (1 + tabT bs k t tol (setV l - setV row) = tabT bs k t tol (setV l))
theorem find_map {α β : Type} (f : α → β) (p : β → Bool) (q : α → Bool) : ∀ l : List α, (∀ x ∈ l, p (f x) = q x) → (l.map f).find? p = (l.find? q).map f
  | [], _ => rfl
  | x :: l, h => by
    have hx := h x (List.mem_cons_self ..)
    rw [List.map_cons]
    cases e : q x with
    | true =>
      rw [List.find?_cons_of_pos (by rw [hx]; exact e), List.find?_cons_of_pos e]
      rfl
    | false =>
      rw [List.find?_cons_of_neg (by rw [hx, e]; decide), List.find?_cons_of_neg (by rw [e]; decide)]
      exact find_map f p q l fun y hy => h y (List.mem_cons_of_mem _ hy)
theorem D_next {a : Nat} {r : List Nat} (hl : (a :: r).Sublist (List.range bs.length)) (hk : 1 ≤ k) :
    D bs k t tol (a :: r) = match nextRow bs k t tol (a :: r) with
      | some row => row :: D bs k t tol (left (a :: r) row)
      | none => D bs k t tol r := by
  have c := (choice ((cands bs k t tol a r).map (with1 bs k t tol (a :: r))) (D bs k t tol r) _ rfl)
  rw [← D_cons bs k t tol a r (notin_tail bs hl)] at c
  have c1 := c.1
  rw [← c.2] at c1
  rw [c1]
  have e : ((cands bs k t tol a r).map (with1 bs k t tol (a :: r))).find? (fun d => decide (d.length = (D bs k t tol (a :: r)).length)) = (nextRow bs k t tol (a :: r)).map (with1 bs k t tol (a :: r)) := by
    unfold nextRow
    rw [← rowsFrom_is bs k t tol hl hk]
    refine find_map _ _ _ _ fun row hrow => ?_
    rw [(one_tab bs k t tol hrow hl hk).2, tabT_set bs k t tol hl]
  rw [e]
  cases nextRow bs k t tol (a :: r) with
  | none => rfl
  | some row => rfl
theorem next_mem {l row : List Nat} (h : nextRow bs k t tol l = some row) : row ∈ rowsFrom (alikeRows bs k t tol) l := List.mem_of_find?_eq_some h
theorem tabT_zero : tabT bs k t tol 0 = 0 := by
  have e : tabT bs k t tol 0 = tabT bs k t tol (setV []) := rfl
  rw [e, tabT_set bs k t tol (List.nil_sublist _), D_nil]
  rfl
end

theorem split_len (p : Nat → Bool) : ∀ l : List Nat, l.length = (l.filter p).length + (l.filter fun i => !p i).length
  | [] => rfl
  | x :: r => by
    have ih := split_len p r
    cases e : p x with
    | true =>
      rw [List.filter_cons_of_pos e, List.filter_cons_of_neg (by simp [e])]
      simp only [List.length_cons]
      omega
    | false =>
      rw [List.filter_cons_of_neg (by simp [e]), List.filter_cons_of_pos (by simp [e])]
      simp only [List.length_cons]
      omega
theorem left_len {l s : List Nat} (h : s.Sublist l) (nd : l.Nodup) : s.length + (left l s).length = l.length := by
  rw [split_len (fun i => decide (i ∈ s)) l, filter_mem h nd]
  rfl

/-! ### of each bale its day -/
theorem findIdx_append {p : List Nat → Bool} (tk : List (List Nat)) (row : List Nat) : (tk ++ [row]).findIdx? p = (tk.findIdx? p).or (if p row then some tk.length else none) := by
  rw [List.findIdx?_append]
  congr 1
  cases e : p row with
  | true => simp [e]
  | false => simp [e]
theorem dayOf_more {tk : List (List Nat)} {row : List Nat} {i : Nat} (h : i ∈ row → ∀ s ∈ tk, i ∉ s) : Kzd1.dayOf (tk ++ [row]) i = if i ∈ row then tk.length + 1 else Kzd1.dayOf tk i := by
  unfold Kzd1.dayOf
  rw [findIdx_append]
  by_cases c : i ∈ row
  · rw [if_pos c]
    have e1 : tk.findIdx? (fun s => s.contains i) = none := by
      rw [List.findIdx?_eq_none_iff]
      intro s hs
      have := h c s hs
      simp [this]
    rw [e1]
    simp [c]
  · rw [if_neg c]
    simp [c]
theorem dayOf_nil (i : Nat) : Kzd1.dayOf [] i = 0 := rfl
/-- the days of all bales, when the first of a row have got theirs -/
def dayRow (n : Nat) (tk : List (List Nat)) (row : List Nat) : List Nat := (List.range n).map fun i => if i ∈ row then tk.length + 1 else Kzd1.dayOf tk i
theorem dayRow_nil (n : Nat) (tk : List (List Nat)) : dayRow n tk [] = (List.range n).map (Kzd1.dayOf tk) := by
  unfold dayRow
  apply List.map_congr_left
  intro i _
  simp
theorem dayRow_all {n : Nat} {tk : List (List Nat)} {row : List Nat} (h : ∀ i ∈ row, ∀ s ∈ tk, i ∉ s) : dayRow n tk row = (List.range n).map (Kzd1.dayOf (tk ++ [row])) := by
  unfold dayRow
  apply List.map_congr_left
  intro i _
  rw [dayOf_more fun hi => h i hi]
theorem dayRow_set {n : Nat} {tk : List (List Nat)} {s : List Nat} {x : Nat} (hx : x < n) : (dayRow n tk s).set x (tk.length + 1) = dayRow n tk (s ++ [x]) := by
  apply List.ext_getElem?
  intro i
  unfold dayRow
  rw [List.getElem?_set]
  by_cases e : x = i
  · subst e
    simp [hx]
  · rw [if_neg e]
    by_cases hi : i < n
    · have e' : i ≠ x := fun z => e z.symm
      simp [hi, e']
    · simp [hi]

/-! ### days' answer -/
theorem f_days (k t tol : Nat) (l : List Nat) : PyKzd1.days k t tol (iz l) = (Kzd1.answer (.days k t tol l)).value :: Kzd1Neutral.ints (Kzd1.answer (.days k t tol l)).nums := by
  have e : PyKzd1.days k t tol (iz l) = (Kzd1.answer (.days k t tol (Kzd1Neutral.natsOf (iz l)))).value :: Kzd1Neutral.ints (Kzd1.answer (.days k t tol (Kzd1Neutral.natsOf (iz l)))).nums := rfl
  rw [e, natsOf_iz]
def daysOk (k t tol : Nat) (l : List Nat) : Prop := Kzd1.good l = true ∧ (1 ≤ k ∧ k ≤ 4) ∧ t ≤ 500 ∧ tol ≤ 500
theorem days_bad {k t tol : Nat} {l : List Nat} (h : ¬ daysOk k t tol l) : PyKzd1.days k t tol (iz l) = [-22] := by
  have c : Kzd1.good l = false ∨ k < 1 ∨ 4 < k ∨ 500 < t ∨ 500 < tol := by
    unfold daysOk at h
    cases g : Kzd1.good l with
    | false => exact .inl rfl
    | true =>
      rw [g] at h
      right
      by_cases h1 : k < 1
      · exact .inl h1
      · by_cases h2 : 4 < k
        · exact .inr (.inl h2)
        · by_cases h3 : 500 < t
          · exact .inr (.inr (.inl h3))
          · by_cases h4 : 500 < tol
            · exact .inr (.inr (.inr h4))
            · exact absurd ⟨rfl, ⟨by omega, by omega⟩, by omega, by omega⟩ h
  have e : Kzd1.answer (.days k t tol l) = Kzd1.say (-22) := if_pos c
  rw [f_days, e]
  rfl
theorem days_good {k t tol : Nat} {l : List Nat} (h : daysOk k t tol l) :
    PyKzd1.days k t tol (iz l) = iz ((D (Kzd1.bales l) k t tol (List.range (Kzd1.bales l).length)).length :: (List.range (Kzd1.bales l).length).map (Kzd1.dayOf (D (Kzd1.bales l) k t tol (List.range (Kzd1.bales l).length)))) := by
  obtain ⟨h1, h2, h3, h4⟩ := h
  have c : ¬ (Kzd1.good l = false ∨ k < 1 ∨ 4 < k ∨ 500 < t ∨ 500 < tol) := by
    rintro (c | c | c | c | c)
    · rw [h1] at c; cases c
    · omega
    · omega
    · omega
    · omega
  have e : Kzd1.answer (.days k t tol l) = ⟨((Kzd1.days (Kzd1.bales l) k t tol).length : Nat), (Kzd1.all (Kzd1.bales l)).map (Kzd1.dayOf (Kzd1.days (Kzd1.bales l) k t tol))⟩ := if_neg c
  have e2 : Kzd1.days (Kzd1.bales l) k t tol = D (Kzd1.bales l) k t tol (List.range (Kzd1.bales l).length) := by
    unfold Kzd1.days D Kzd1.all
    rw [List.length_range]
  rw [f_days, e, e2]
  rfl
end Bm
namespace Bm
open PySem PySem.Spec PyProof.Rows L2
open Kzd1 (Bale)

/-! ### values, heaps -/
def iv (n : Nat) : V := .int (n : Int)
theorem iv_get {l : List Nat} {i : Nat} {n : Nat} (h : l[i]? = some n) : (l.map iv)[i]? = some (iv n) := by
  rw [List.getElem?_map, h]
  rfl
theorem iv_of {l : List Nat} {i : Nat} {x : V} (h : (l.map iv)[i]? = some x) : ∃ n, l[i]? = some n ∧ x = iv n := by
  rw [List.getElem?_map] at h
  cases e : l[i]? with
  | none =>
    rw [e] at h
    cases h
  | some n =>
    rw [e] at h
    exact ⟨n, rfl, (Option.some.inj h).symm⟩
theorem iv_map (l : List Nat) : l.map iv = (iz l).map V.int := by
  unfold iz
  rw [List.map_map]
  rfl
theorem same_upd {H : Hp} {p : Addr} {o : HO} (h : H p = none) : Same H (upd H p o) := fun b x e => by
  rw [upd_ne (ne_of_none e h)]
  exact e
theorem small_size {n : Nat} (h : n ≤ 16000000) : n < sizeLine := Nat.lt_of_le_of_lt h (by decide)
theorem small_size' {n : Nat} (h : n ≤ 16000000) : n ≤ sizeLine := Nat.le_of_lt (small_size h)
theorem take_more {α : Type} : ∀ {l : List α} {i : Nat} {x : α}, l[i]? = some x → l.take (i + 1) = l.take i ++ [x]
  | [], i, x, h => by simp at h
  | a :: l, 0, x, h => by
    have e : a = x := Option.some.inj h
    subst e
    rfl
  | a :: l, i + 1, x, h => by
    have ih := take_more (l := l) (i := i) (x := x) h
    show a :: l.take (i + 1) = a :: l.take i ++ [x]
    rw [ih]
    rfl
theorem pair_get {α β : Type} {F : α → β → Prop} : ∀ {l : List α} {m : List β} {i : Nat} {a : α}, Paired F l m → l[i]? = some a → ∃ b, m[i]? = some b ∧ F a b
  | _, _, _, _, .nil, h => by simp at h
  | _, _, 0, a, .cons r _, h => by
    have e := Option.some.inj h
    exact ⟨_, rfl, e ▸ r⟩
  | _, _, i + 1, a, .cons _ t, h => pair_get (i := i) t h
theorem pair_get' {α β : Type} {F : α → β → Prop} : ∀ {l : List α} {m : List β} {i : Nat} {b : β}, Paired F l m → m[i]? = some b → ∃ a, l[i]? = some a ∧ F a b
  | _, _, _, _, .nil, h => by simp at h
  | _, _, 0, b, .cons r _, h => by
    have e := Option.some.inj h
    exact ⟨_, rfl, e ▸ r⟩
  | _, _, i + 1, b, .cons _ t, h => pair_get' (i := i) t h
theorem pair_len {α β : Type} {F : α → β → Prop} {l : List α} {m : List β} (h : Paired F l m) : l.length = m.length := Paired.length h
theorem ref_of {ps : List Addr} {i : Nat} {x : V} (h : (ps.map V.ref)[i]? = some x) : ∃ p, ps[i]? = some p ∧ x = .ref p := by
  rw [List.getElem?_map] at h
  cases e : ps[i]? with
  | none =>
    rw [e] at h
    cases h
  | some p =>
    rw [e] at h
    exact ⟨p, rfl, (Option.some.inj h).symm⟩
theorem ref_get {ps : List Addr} {i : Nat} {p : Addr} (h : ps[i]? = some p) : (ps.map V.ref)[i]? = some (V.ref p) := by
  rw [List.getElem?_map, h]
  rfl

/-! ### attributes -/
theorem lk_here {k : Str} {v : V} {r : List (Str × V)} : List.lookup k ((k, v) :: r) = some v := by
  have e : (k == k) = true := beq_self_eq_true k
  simp only [List.lookup, e]
theorem lk_past {k g : Str} {v : V} {r : List (Str × V)} (h : (k == g) = false) : List.lookup k ((g, v) :: r) = List.lookup k r := by
  simp only [List.lookup, h]
theorem put_here {f : Str} {v x : V} {r : List (Str × V)} : putF f v ((f, x) :: r) = (f, v) :: r := if_pos rfl
theorem put_past {f g : Str} {v x : V} {r : List (Str × V)} (h : ¬ g = f) : putF f v ((g, x) :: r) = (g, x) :: putF f v r := if_neg h

/-! ### bales -/
def bF (b : Bale) : List (Str × V) := [("weight", iv b.kg), ("far", iv b.long)]
def BaleAt (C : Addr) (H : Hp) (p : Addr) (b : Bale) : Prop := ∃ dx, H p = some (.ins C dx (bF b))
def BalesAt (K : PySem.W.Frag) (C : Addr) (H : Hp) (a : Addr) (bs : List Bale) : Prop := ∃ ps : List Addr, SqL K H a (ps.map V.ref) ∧ Paired (BaleAt C H) ps bs
theorem bF_weight (b : Bale) : (bF b).lookup ("weight" : Str) = some (iv b.kg) := lk_here
theorem bF_far (b : Bale) : (bF b).lookup ("far" : Str) = some (iv b.long) := (lk_past (by decide +kernel)).trans lk_here
theorem bF_new (b : Bale) : putF "far" (iv b.long) (putF "weight" (iv b.kg) []) = bF b := (put_past (by decide +kernel)).trans rfl
theorem BaleAt.same {C : Addr} {H H' : Hp} {p : Addr} {b : Bale} (s : Same H H') (h : BaleAt C H p b) : BaleAt C H' p b := let ⟨dx, e⟩ := h; ⟨dx, s _ _ e⟩
theorem pair_bales {C : Addr} {H H' : Hp} {ps : List Addr} {bs : List Bale} (s : Same H H') (h : Paired (BaleAt C H) ps bs) : Paired (BaleAt C H') ps bs := Paired.mapP h fun _ _ q => q.same s
theorem BalesAt.same {K : PySem.W.Frag} {C : Addr} {H H' : Hp} {a : Addr} {bs : List Bale} (s : Same H H') (h : BalesAt K C H a bs) : BalesAt K C H' a bs :=
  let ⟨ps, h1, h2⟩ := h
  ⟨ps, s.seq h1, pair_bales s h2⟩

/-! ### range(0, n, 2) -/
theorem rg2 : ∀ n : Nat, n ≤ 20 → RgC 0 (n : Int) 2 ((n + 1) / 2) := by
  have h : ∀ n : Fin 21, RgC 0 ((n.val : Nat) : Int) 2 ((n.val + 1) / 2) := by
    unfold RgC
    decide +kernel
  exact fun n hn => h ⟨n, by omega⟩
end Bm
namespace Bm
open PySem PySem.Spec PyProof.Rows L2
open Kzd1 (Bale)
def top (i : Nat) : Stmt := PySem.Challenge.pw_balelayer_s03_days.main.body.getD i (.Pass ⟨0, 0, 0, 0⟩)
abbrev sBale : Stmt := inClass (top 2) 0
abbrev sBalesOf : Stmt := top 4
abbrev sWeight : Stmt := top 5
abbrev sMoment : Stmt := top 6

/-- what the top has written of Bale -/
structure TBale (K : PySem.W.Frag) (mg : Str → Option Value) (C : Addr) : Prop where
  cl : Cls K C
  nW : NoAttr K C "weight"
  nF : NoAttr K C "far"
  gC : mg "Bale" = some (.ref C)
/-- the built-ins' names are free -/
structure TBlt (mg : Str → Option Value) : Prop where
  len : mg "len" = none
  range : mg "range" = none
  sum : mg "sum" = none

section
variable {P : Program} {w : World} {K : PySem.W.Frag} {mg : Str → Option Value} {base : Heap} {C : Addr}
/-! ### Bale(weight, far) -/
def spBale (C : Addr) : Sp := fun vs H Q _ => ∃ (p dx : Addr) (b : Bale), vs = [.ref p, iv b.kg, iv b.long] ∧ H p = some (.ins C dx []) ∧
  ∀ H' : Hp, BaleAt C H' p b → (∀ a o, H a = some o → a ≠ p → H' a = some o) → Q .non H'
theorem scBale : FnScope ["self", "weight", "far"] ["self", "weight", "far"] (defScope sBale) := ⟨rfl, rfl, rfl, by decide +kernel, rfl, by decide +kernel, by decide +kernel⟩
theorem ok_bale {f : Addr} {fd : FuncData} (F : Fun K "__init__" "Bale.__init__" sBale f fd) (T : TBale K mg C) : FnOk P w K mg base CX0 1 f fd ["self", "weight", "far"] (spBale C) := by
  refine F.ok scBale (fun vs H Q E h => ?_) (fun cdv A outer s H vs Q E hr h => ?_)
  · obtain ⟨p, dx, b, rfl, _⟩ := h
    rfl
  · obtain ⟨p, dx, b, rfl, hp, k⟩ := h
    refine ⟨_, pss_cons (ps_fld (pv 0) (pv 1) rfl) (pss_one (ps_fld (pv 0) (pv 2) rfl)), ?_⟩
    refine ⟨_, rfl, _, rfl, p, C, dx, [], rfl, hp, T.cl, T.nW, (by show 0 < 1000; decide), ?_⟩
    refine ⟨_, rfl, _, rfl, p, C, dx, _, rfl, upd_same, T.cl, T.nF, (by show 1 < 1000; decide), ?_⟩
    exact k _ ⟨dx, Eq.trans upd_same (congrArg (fun q => some (HO.ins C dx q)) (bF_new b))⟩ fun a o e ha => by
      rw [upd_ne ha, upd_ne ha]
      exact e

/-! ### bales_of(numbers) -/
def spBalesOf (K : PySem.W.Frag) (C : Addr) : Sp := fun vs H Q _ => ∃ (a : Addr) (l : List Nat), vs = [.ref a] ∧ SqL K H a (l.map iv) ∧ l.length % 2 = 0 ∧ l.length ≤ 20 ∧
  ∀ (H' : Hp) (p : Addr), Same H H' → BalesAt K C H' p (Kzd1.bales l) → Q (.ref p) H'
theorem scBalesOf : FnScope ["numbers", "at"] ["numbers"] (defScope sBalesOf) := ⟨rfl, rfl, rfl, by decide +kernel, rfl, by decide +kernel, by decide +kernel⟩
theorem ok_bales_of {f fI : Addr} {fd fdI : FuncData} (F : Fun K "bales_of" "bales_of" sBalesOf f fd) (T : TBale K mg C) (B : TBlt mg) (M : Mk K C fI) (FI : Fun K "__init__" "Bale.__init__" sBale fI fdI) (bI : Binds K fdI ["self", "weight", "far"] []) :
    FnOk P w K mg base CX0 3 f fd ["numbers"] (spBalesOf K C) := by
  have GI : FnOk P w K mg base CX0 1 fI fdI ["self", "weight", "far"] (spBale C) := ok_bale FI T
  refine F.ok scBalesOf (fun vs H Q E h => ?_) (fun cdv A outer s H vs Q E hr h => ?_)
  · obtain ⟨a, l, rfl, _⟩ := h
    rfl
  · obtain ⟨a, l, rfl, hS, hev, hlen, k⟩ := h
    refine ⟨_, pss_one (ps_ret (pe_lc (own := [("at", 1)]) (g := gName 1) (tt := tYes) rfl scBalesOf.nd
      (pi_range3 rfl B.range (pa_cons pe_int (pa_cons (pe_callB call_len_seq (by rfl) B.len PySem.boot_len (pa_cons (pv 0) pa_nil)) (pa_cons pe_int pa_nil))))
      (blkOk_by (N := ["numbers", "at"]) (sc := defScope sBalesOf) (by decide +kernel))
      (fun _ _ _ _ _ => pg_name (i := 1) scBalesOf.nd rfl (Or.inl rfl)) (fun _ _ _ _ _ => pts_nil)
      (fun _ _ _ _ _ => pe_make M GI hr rfl T.gC bI .nil pass0 (pa_cons (pe_ix (r := rIxL K) ix_list (pv 0) (pv 1) (fun _ _ => rfl)) (pa_cons (pe_ix (r := rIxL K) ix_list (pv 0) (pe_op op_add (pv 1) pe_int) (fun _ _ => rfl)) pa_nil))))), ?_⟩
    refine ⟨_, rfl, a, _, rfl, .inl hS, 0, _, 2, (l.length + 1) / 2, rfl, ?_, fun D hD => ?_⟩
    · rw [List.length_map]
      exact rg2 _ hlen
    · refine lc_it walk_rangeC (fun i H1 => Same H H1 ∧ ∃ ps, H1 D = some (.lst (ps.map V.ref)) ∧ Paired (BaleAt C H1) ps ((Kzd1.bales l).take i))
        ⟨same_upd hD, [], upd_same, .nil⟩ (fun _ _ _ _ => trivial) ?_ ?_
      · rintro i x H1 H2 hi ⟨sm, ps, e1, e2⟩ ⟨rfl, rfl⟩
        have hi2 : i < l.length / 2 := by omega
        have g0 : 2 * i < l.length := by omega
        have g1 : 2 * i + 1 < l.length := by omega
        have i0 : l[2 * i]? = some (l.getD (2 * i) 0) := by simp [g0]
        have i1 : l[2 * i + 1]? = some (l.getD (2 * i + 1) 0) := by simp [g1]
        have hb := bales_get l i hi2
        refine ⟨rfl, ?_⟩
        refine ⟨_, rfl, _, rfl, a, _, _, _, rfl, rfl, sm.seq hS, at_of (j := 2 * i) (by omega) (iv_get i0), ?_⟩
        refine ⟨_, rfl, _, rfl, _, _, rfl, rfl, a, _, _, _, rfl, rfl, sm.seq hS, at_of (j := 2 * i + 1) (by omega) (iv_get i1), ?_⟩
        intro x dx nx nd ne
        refine ⟨x, dx, ⟨l.getD (2 * i) 0, l.getD (2 * i + 1) 0⟩, rfl, upd_same, fun H3 J kp => ⟨rfl, ?_⟩⟩
        have s3 : Same H2 H3 := Same.made nx nd kp
        refine ⟨ps.map V.ref, s3 _ _ e1, ?_, ?_, ?_⟩
        · rw [List.length_map, pair_len e2, List.length_take, bales_len]
          exact small_size (by omega)
        · intro b o hb
          have hbD : b ≠ D := ne_of_none hb hD
          rw [upd_ne hbD]
          exact s3 _ _ (sm _ _ hb)
        · have hpD : ∀ q b, BaleAt C H3 q b → BaleAt C (upd H3 D (.lst (ps.map V.ref ++ [.ref x]))) q b := fun q b ⟨dq, hq⟩ => ⟨dq, by
            rw [upd_ne (ne_of hq (s3 _ _ e1) (by intro z; cases z))]
            exact hq⟩
          refine ⟨ps ++ [x], ?_, ?_⟩
          · rw [upd_same, List.map_append]
            rfl
          · rw [take_more hb]
            exact Paired.snoc (Paired.mapP (pair_bales s3 e2) hpD) (hpD _ _ J)
      · rintro H1 ⟨sm, ps, e1, e2⟩
        rw [List.take_of_length_le (by rw [bales_len]; omega)] at e2
        exact k H1 D sm ⟨ps, SqL.of e1, e2⟩
end
section
variable {P : Program} {w : World} {K : PySem.W.Frag} {mg : Str → Option Value} {base : Heap} {C : Addr}
theorem wOf_sum (bs : List Bale) : (iz (bs.map Bale.kg)).sum = (wOf bs : Int) := by
  induction bs with
  | nil => rfl
  | cons b r ih =>
    show ((b.kg : Nat) : Int) + (iz (r.map Bale.kg)).sum = ((b.kg + wOf r : Nat) : Int)
    rw [ih]
    omega
theorem mOf_sum (bs : List Bale) : (iz (bs.map fun b => b.kg * b.long)).sum = (mOf bs : Int) := by
  induction bs with
  | nil => rfl
  | cons b r ih =>
    show ((b.kg * b.long : Nat) : Int) + (iz (r.map fun b => b.kg * b.long)).sum = ((b.kg * b.long + mOf r : Nat) : Int)
    rw [ih]
    omega
/-- a list of the bales' numbers: what a comprehension [g(bale) for bale in bales] has made, turn by turn -/
theorem map_more {α β : Type} {g : α → β} {l : List α} {i : Nat} {x : α} (h : l[i]? = some x) : (l.take (i + 1)).map g = (l.take i).map g ++ [g x] := by
  rw [take_more h, List.map_append]
  rfl

/-! ### weight_of(bales), moment_of(bales) -/
def spWeight (K : PySem.W.Frag) (C : Addr) : Sp := fun vs H Q _ => ∃ (a : Addr) (bs : List Bale), vs = [.ref a] ∧ BalesAt K C H a bs ∧ bs.length ≤ 100 ∧
  ∀ H' : Hp, Same H H' → Q (iv (wOf bs)) H'
theorem scWeight : FnScope ["bales", "bale"] ["bales"] (defScope sWeight) := ⟨rfl, rfl, rfl, by decide +kernel, rfl, by decide +kernel, by decide +kernel⟩
theorem ok_weight {f : Addr} {fd : FuncData} (F : Fun K "weight_of" "weight_of" sWeight f fd) (T : TBale K mg C) (B : TBlt mg) : FnOk P w K mg base CX0 1 f fd ["bales"] (spWeight K C) := by
  refine F.ok scWeight (fun vs H Q E h => ?_) (fun cdv A outer s H vs Q E hr h => ?_)
  · obtain ⟨a, l, rfl, _⟩ := h
    rfl
  · obtain ⟨a, bs, rfl, ⟨ps, hS, hP⟩, hlen, k⟩ := h
    refine ⟨_, pss_one (ps_ret (pe_callB (cr_sum rfl) (by rfl) B.sum (by decide +kernel) (pa_cons (pe_lc (own := [("bale", 1)]) (g := gName 1) (tt := tYes) (te := tFld K (tVar 1) "weight") rfl scWeight.nd
      (pi_list (pv 0))
      (blkOk_by (N := ["bales", "bale"]) (sc := defScope sWeight) (by decide +kernel))
      (fun _ _ _ _ _ => pg_name (i := 1) scWeight.nd rfl (Or.inl rfl)) (fun _ _ _ _ _ => pts_nil)
      (fun _ _ _ _ _ => pe_fld (pv 1) rfl)) pa_nil))), ?_⟩
    refine ⟨_, rfl, a, rfl, ⟨_, hS⟩, fun D hD => ?_⟩
    refine lc_list (K := K) (a := a) (xs := ps.map V.ref) (fun i H1 => Same H H1 ∧ H1 D = some (.lst (((bs.take i).map Bale.kg).map iv)))
        ⟨same_upd hD, upd_same⟩ (fun i H1 _ q => q.1.seq hS) ?_ ?_
    · rintro i x H1 hx ⟨sm, e1⟩
      obtain ⟨p, hp, rfl⟩ := ref_of hx
      obtain ⟨b, hb, dx, hd⟩ := pair_get hP hp
      refine ⟨rfl, ?_⟩
      refine ⟨_, rfl, p, C, dx, _, _, rfl, sm _ _ hd, T.cl, T.nW, bF_weight b, ?_⟩
      refine ⟨_, e1, ?_, fun b o hb => ?_, ?_⟩
      · rw [List.length_map, List.length_map, List.length_take]
        exact small_size (by omega)
      · rw [upd_ne (ne_of_none hb hD)]
        exact sm _ _ hb
      · rw [upd_same, map_more hb, List.map_append]
        rfl
    · rintro H1 ⟨sm, e1⟩
      rw [List.length_map, pair_len hP, List.take_length] at e1
      refine ⟨D, iz (bs.map Bale.kg), rfl, SqL.of (by rw [e1, iv_map]), ?_⟩
      rw [wOf_sum]
      exact k H1 sm
def spMoment (K : PySem.W.Frag) (C : Addr) : Sp := fun vs H Q _ => ∃ (a : Addr) (bs : List Bale), vs = [.ref a] ∧ BalesAt K C H a bs ∧ bs.length ≤ 100 ∧ OkBs bs ∧
  ∀ H' : Hp, Same H H' → Q (iv (mOf bs)) H'
theorem scMoment : FnScope ["bales", "bale"] ["bales"] (defScope sMoment) := ⟨rfl, rfl, rfl, by decide +kernel, rfl, by decide +kernel, by decide +kernel⟩
theorem ok_moment {f : Addr} {fd : FuncData} (F : Fun K "moment_of" "moment_of" sMoment f fd) (T : TBale K mg C) (B : TBlt mg) : FnOk P w K mg base CX0 1 f fd ["bales"] (spMoment K C) := by
  refine F.ok scMoment (fun vs H Q E h => ?_) (fun cdv A outer s H vs Q E hr h => ?_)
  · obtain ⟨a, l, rfl, _⟩ := h
    rfl
  · obtain ⟨a, bs, rfl, ⟨ps, hS, hP⟩, hlen, hok, k⟩ := h
    refine ⟨_, pss_one (ps_ret (pe_callB (cr_sum rfl) (by rfl) B.sum (by decide +kernel) (pa_cons (pe_lc (own := [("bale", 1)]) (g := gName 1) (tt := tYes) (te := tOp _ (tFld K (tVar 1) "weight") (tFld K (tVar 1) "far")) rfl scMoment.nd
      (pi_list (pv 0))
      (blkOk_by (N := ["bales", "bale"]) (sc := defScope sMoment) (by decide +kernel))
      (fun _ _ _ _ _ => pg_name (i := 1) scMoment.nd rfl (Or.inl rfl)) (fun _ _ _ _ _ => pts_nil)
      (fun _ _ _ _ _ => pe_op op_mulN (pe_fld (pv 1) rfl) (pe_fld (pv 1) rfl))) pa_nil))), ?_⟩
    refine ⟨_, rfl, a, rfl, ⟨_, hS⟩, fun D hD => ?_⟩
    refine lc_list (K := K) (a := a) (xs := ps.map V.ref) (fun i H1 => Same H H1 ∧ H1 D = some (.lst (((bs.take i).map fun b => b.kg * b.long).map iv)))
        ⟨same_upd hD, upd_same⟩ (fun i H1 _ q => q.1.seq hS) ?_ ?_
    · rintro i x H1 hx ⟨sm, e1⟩
      obtain ⟨p, hp, rfl⟩ := ref_of hx
      obtain ⟨b, hb, dx, hd⟩ := pair_get hP hp
      have ob := hok b (List.mem_of_getElem? hb)
      refine ⟨rfl, ?_⟩
      refine ⟨_, rfl, p, C, dx, _, _, rfl, sm _ _ hd, T.cl, T.nW, bF_weight b, ?_⟩
      refine ⟨_, rfl, p, C, dx, _, _, rfl, sm _ _ hd, T.cl, T.nF, bF_far b, ?_⟩
      refine ⟨b.kg, b.long, rfl, rfl, by have := ob.2.1; omega, ?_⟩
      refine ⟨_, e1, ?_, fun b o hb => ?_, ?_⟩
      · rw [List.length_map, List.length_map, List.length_take]
        exact small_size (by omega)
      · rw [upd_ne (ne_of_none hb hD)]
        exact sm _ _ hb
      · rw [upd_same, map_more hb, List.map_append]
        rfl
    · rintro H1 ⟨sm, e1⟩
      rw [List.length_map, pair_len hP, List.take_length] at e1
      refine ⟨D, iz (bs.map fun b => b.kg * b.long), rfl, SqL.of (by rw [e1, iv_map]), ?_⟩
      rw [mOf_sum]
      exact k H1 sm

end
theorem way_yes {c : Bool} {A B : Prop} (hc : c = true) (h : A) : if c = true then A else B := by
  rw [if_pos hc]
  exact h
theorem way_no {c : Bool} {A B : Prop} (hc : c = false) (h : B) : if c = true then A else B := by
  rw [hc, if_neg Bool.false_ne_true]
  exact h
abbrev sIsBale : Stmt := top 24
abbrev sAre : Stmt := top 25
/-- the constants of looking -/
structure TLook (mg : Str → Option Value) : Prop where
  mB : ∃ t, mg "MOST_BALES" = some (.int 9 t)
  mW : ∃ t, mg "MOST_WEIGHT" = some (.int 300 t)
  mL : ∃ t, mg "MOST_LENGTH" = some (.int 500 t)
section
variable {P : Program} {w : World} {K : PySem.W.Frag} {mg : Str → Option Value} {base : Heap} {C : Addr}
def okPair (a b : Nat) : Bool := decide (1 ≤ a ∧ a ≤ 300 ∧ b ≤ 500)
def spIsBale : Sp := fun vs H Q _ => ∃ (a b : Nat), vs = [iv a, iv b] ∧ Q (.bl (okPair a b)) H
theorem scIsBale : FnScope ["weight", "far"] ["weight", "far"] (defScope sIsBale) := ⟨rfl, rfl, rfl, by decide +kernel, rfl, by decide +kernel, by decide +kernel⟩
theorem ok_is_bale {f : Addr} {fd : FuncData} (F : Fun K "is_bale" "is_bale" sIsBale f fd) (L : TLook mg) : FnOk P w K mg base CX0 1 f fd ["weight", "far"] spIsBale := by
  refine F.ok scIsBale (fun vs H Q E h => ?_) (fun cdv A outer s H vs Q E hr h => ?_)
  · obtain ⟨a, b, rfl, _⟩ := h
    rfl
  · obtain ⟨a, b, rfl, k⟩ := h
    obtain ⟨tW, gW⟩ := L.mW
    obtain ⟨tL, gL⟩ := L.mL
    refine ⟨_, pss_one (ps_ret (pe_and (pe_chain op_le op_le pe_int (pv 0) (pe_glob (v := .int 300) rfl gW ⟨_, rfl⟩)) (pe_one (pe_cmpR op_le (pv 1) (pe_glob (v := .int 500) rfl gL ⟨_, rfl⟩) (nomark _))))), ?_⟩
    refine ⟨_, rfl, _, _, rfl, rfl, _, rfl, ite2 (fun e => ?_) (fun e => ?_)⟩
    · have e1 := of_decide_eq_true e
      refine ⟨_, _, rfl, rfl, _, rfl, ite2 (fun e => ?_) (fun e => ?_)⟩
      · have e2 := of_decide_eq_true e
        refine ⟨_, rfl, _, _, rfl, rfl, ?_⟩
        have q : decide ((b : Int) ≤ 500) = okPair a b := by
          unfold okPair
          apply decide_eq_decide.mpr
          constructor
          · intro h; omega
          · intro h; omega
        show Q (.bl (decide ((b : Int) ≤ 500))) H
        rw [q]
        exact k
      · have e2 : ¬ (a : Int) ≤ 300 := fun z => e (decide_eq_true z)
        have q : false = okPair a b := by
          unfold okPair
          exact (decide_eq_false (by omega)).symm
        rw [q]
        exact k
    · have e1 : ¬ (1 : Int) ≤ (a : Int) := fun z => e (decide_eq_true z)
      refine ⟨_, rfl, way_no rfl ?_⟩
      have q : false = okPair a b := by
        unfold okPair
        exact (decide_eq_false (by omega)).symm
      rw [q]
      exact k

theorem good_false_size {l : List Nat} (h : ¬ (l.length % 2 = 0 ∧ l.length ≤ 18)) : Kzd1.good l = false := by
  cases e : Kzd1.good l with
  | false => rfl
  | true => exact absurd ⟨((good_iff l).mp e).1, ((good_iff l).mp e).2.1⟩ h
theorem good_false_at {l : List Nat} {i : Nat} (hi : i < l.length / 2) (h : okPair (l.getD (2 * i) 0) (l.getD (2 * i + 1) 0) = false) : Kzd1.good l = false := by
  cases e : Kzd1.good l with
  | false => rfl
  | true =>
    have q := ((good_iff l).mp e).2.2 i hi
    unfold okPair at h
    exact absurd q (of_decide_eq_false h)
def spAre (K : PySem.W.Frag) : Sp := fun vs H Q _ => ∃ (a : Addr) (l : List Nat), vs = [.ref a] ∧ SqL K H a (l.map iv) ∧ l.length ≤ 20 ∧ Q (.bl (Kzd1.good l)) H
theorem scAre : FnScope ["numbers", "at"] ["numbers"] (defScope sAre) := ⟨rfl, rfl, rfl, by decide +kernel, rfl, by decide +kernel, by decide +kernel⟩
theorem ok_are {f fI : Addr} {fd fdI : FuncData} (F : Fun K "are_bales" "are_bales" sAre f fd) (B : TBlt mg) (L : TLook mg) (FI : Fun K "is_bale" "is_bale" sIsBale fI fdI) (bI : Binds K fdI ["weight", "far"] []) (gI : mg "is_bale" = some (.ref fI)) :
    FnOk P w K mg base CX0 2 f fd ["numbers"] (spAre K) := by
  have GI : FnOk P w K mg base CX0 1 fI fdI ["weight", "far"] spIsBale := ok_is_bale FI L
  refine F.ok scAre (fun vs H Q E h => ?_) (fun cdv A outer s H vs Q E hr h => ?_)
  · obtain ⟨a, l, rfl, _⟩ := h
    rfl
  · obtain ⟨a, l, rfl, hS, hlen, k⟩ := h
    obtain ⟨tB, gB⟩ := L.mB
    refine ⟨_, pss_cons (ps_if (PW.pt (pw_or (pt_cmpR op_ne (pe_op op_mod (pe_callB call_len_seq (by rfl) B.len PySem.boot_len (pa_cons (pv 0) pa_nil)) pe_int) pe_int (nomark _))
          (pw_or1 (pt_cmpR op_gt (pe_callB call_len_seq (by rfl) B.len PySem.boot_len (pa_cons (pv 0) pa_nil)) (pe_op op_mul pe_int (pe_glob (v := .int 9) rfl gB ⟨_, rfl⟩)) (nomark _)))))
          (pss_one (ps_ret pe_bl)) pss_nil)
      (pss_cons (ps_for PassesOwn.never rfl (pi_range3 rfl B.range (pa_cons pe_int (pa_cons (pe_callB call_len_seq (by rfl) B.len PySem.boot_len (pa_cons (pv 0) pa_nil)) (pa_cons pe_int pa_nil)))) (pg_name (i := 1) scAre.nd rfl (Or.inl rfl))
        (pss_one (ps_if (pt_not (pt_val (pe_call GI hr (by rfl) gI FI.kp bI .nil pass0 (pa_cons (pe_ix ix_list (pv 0) (pv 1) (fun _ _ => rfl)) (pa_cons (pe_ix ix_list (pv 0) (pe_op op_add (pv 1) pe_int) (fun _ _ => rfl)) pa_nil))))) (pss_one (ps_ret pe_bl)) pss_nil)))
      (pss_one (ps_ret pe_bl))), ?_⟩
    have hl : ((l.map iv).length : Int) = (l.length : Int) := by rw [List.length_map]
    refine ⟨_, rfl, a, _, rfl, .inl hS, _, _, rfl, rfl, (by show (0 : Int) < 2; decide), rfl, _, rfl, ?_⟩
    by_cases c1 : l.length % 2 = 0
    · refine way_no ?_ ?_
      · rw [hl]
        have e : (l.length : Int) % 2 = 0 := by omega
        show (!decide (V.int ((l.length : Int) % 2) = V.int 0)) = false
        rw [e]
        rfl
      · refine ⟨_, rfl, a, _, rfl, .inl hS, _, _, rfl, rfl, .inl ⟨by decide, by decide⟩, _, _, rfl, rfl, _, rfl, ?_⟩
        by_cases c2 : l.length ≤ 18
        · refine way_no ?_ ?_
          · rw [hl]
            exact decide_eq_false (by omega)
          · refine ⟨_, rfl, a, _, rfl, .inl hS, 0, _, 2, (l.length + 1) / 2, rfl, ?_, ?_⟩
            · rw [hl]
              exact rg2 _ hlen
            · refine for_rangeC (fun i σ H' => H' = H ∧ (∃ v, σ = [some (.ref a), v]) ∧ ∀ j, j < i → okPair (l.getD (2 * j) 0) (l.getD (2 * j + 1) 0) = true) ⟨rfl, ⟨none, rfl⟩, fun j hj => absurd hj (Nat.not_lt_zero j)⟩ ?_ ?_
              · rintro i σ H' hi ⟨rfl, ⟨v, rfl⟩, ih⟩
                have hi2 : i < l.length / 2 := by omega
                have g0 : 2 * i < l.length := by omega
                have g1 : 2 * i + 1 < l.length := by omega
                have i0 : l[2 * i]? = some (l.getD (2 * i) 0) := by simp [g0]
                have i1 : l[2 * i + 1]? = some (l.getD (2 * i + 1) 0) := by simp [g1]
                refine ⟨_, rfl, _, rfl, a, _, _, _, rfl, rfl, hS, at_of (j := 2 * i) (by omega) (iv_get i0), ?_⟩
                refine ⟨_, rfl, _, rfl, _, _, rfl, rfl, a, _, _, _, rfl, rfl, hS, at_of (j := 2 * i + 1) (by omega) (iv_get i1), ?_⟩
                refine ⟨_, _, rfl, _, rfl, ?_⟩
                cases e : okPair (l.getD (2 * i) 0) (l.getD (2 * i + 1) 0) with
                | true =>
                  refine way_no rfl ⟨rfl, ⟨_, rfl⟩, fun j hj => ?_⟩
                  rcases Nat.lt_succ_iff_lt_or_eq.mp hj with q | q
                  · exact ih j q
                  · rw [q]
                    exact e
                | false =>
                  refine way_yes rfl ?_
                  rw [good_false_at hi2 e] at k
                  exact k
              · rintro σ H' ⟨rfl, ⟨v, rfl⟩, ih⟩
                have g : Kzd1.good l = true := (good_iff l).mpr ⟨c1, c2, fun i hi => of_decide_eq_true (ih i (by omega))⟩
                rw [g] at k
                exact k
        · refine way_yes ?_ ?_
          · rw [hl]
            exact decide_eq_true (by omega)
          · rw [good_false_size (fun z => c2 z.2)] at k
            exact k
    · refine way_yes ?_ (way_yes rfl ?_)
      · rw [hl]
        have e : (l.length : Int) % 2 = 1 := by omega
        show (!decide (V.int ((l.length : Int) % 2) = V.int 0)) = true
        rw [e]
        rfl
      · rw [good_false_size (fun z => c1 z.1)] at k
        exact k

end
end Bm
namespace Bm
open PySem PySem.Spec PyProof.Rows L2
open Kzd1 (Bale)
/-! ### gaps -/
abbrev sGap : Stmt := inClass (top 3) 0
abbrev sLess : Stmt := inClass (top 3) 1
abbrev sWithin : Stmt := inClass (top 3) 2
abbrev sRounded : Stmt := inClass (top 3) 3
abbrev sGapOf : Stmt := top 7
def gF (x : Nat × Nat) : List (Str × V) := [("above", iv x.1), ("below", iv x.2)]
def GapAt (G : Addr) (H : Hp) (p : Addr) (x : Nat × Nat) : Prop := ∃ dx, H p = some (.ins G dx (gF x))
theorem gF_above (x : Nat × Nat) : (gF x).lookup ("above" : Str) = some (iv x.1) := lk_here
theorem gF_below (x : Nat × Nat) : (gF x).lookup ("below" : Str) = some (iv x.2) := (lk_past (by decide +kernel)).trans lk_here
theorem gF_no (x : Nat × Nat) {m : Str} (h1 : (m == ("above" : Str)) = false) (h2 : (m == ("below" : Str)) = false) : (gF x).lookup m = none := (lk_past h1).trans ((lk_past h2).trans rfl)
theorem gF_new (x : Nat × Nat) : putF "below" (iv x.2) (putF "above" (iv x.1) []) = gF x := (put_past (by decide +kernel)).trans rfl
theorem GapAt.same {G : Addr} {H H' : Hp} {p : Addr} {x : Nat × Nat} (s : Same H H') (h : GapAt G H p x) : GapAt G H' p x := let ⟨dx, e⟩ := h; ⟨dx, s _ _ e⟩
structure TGap (K : PySem.W.Frag) (mg : Str → Option Value) (G : Addr) : Prop where
  cl : Cls K G
  nA : NoAttr K G "above"
  nB : NoAttr K G "below"
  gG : mg "Gap" = some (.ref G)
section
variable {P : Program} {w : World} {K : PySem.W.Frag} {mg : Str → Option Value} {base : Heap} {C G : Addr}
def spGap (G : Addr) : Sp := fun vs H Q _ => ∃ (p dx : Addr) (x : Nat × Nat), vs = [.ref p, iv x.1, iv x.2] ∧ H p = some (.ins G dx []) ∧
  ∀ H' : Hp, GapAt G H' p x → (∀ a o, H a = some o → a ≠ p → H' a = some o) → Q .non H'
theorem scGap : FnScope ["self", "above", "below"] ["self", "above", "below"] (defScope sGap) := ⟨rfl, rfl, rfl, by decide +kernel, rfl, by decide +kernel, by decide +kernel⟩
theorem ok_gap {f : Addr} {fd : FuncData} (F : Fun K "__init__" "Gap.__init__" sGap f fd) (T : TGap K mg G) : FnOk P w K mg base CX0 1 f fd ["self", "above", "below"] (spGap G) := by
  refine F.ok scGap (fun vs H Q E h => ?_) (fun cdv A outer s H vs Q E hr h => ?_)
  · obtain ⟨p, dx, b, rfl, _⟩ := h
    rfl
  · obtain ⟨p, dx, b, rfl, hp, k⟩ := h
    refine ⟨_, pss_cons (ps_fld (pv 0) (pv 1) rfl) (pss_one (ps_fld (pv 0) (pv 2) rfl)), ?_⟩
    refine ⟨_, rfl, _, rfl, p, G, dx, [], rfl, hp, T.cl, T.nA, (by show 0 < 1000; decide), ?_⟩
    refine ⟨_, rfl, _, rfl, p, G, dx, _, rfl, upd_same, T.cl, T.nB, (by show 1 < 1000; decide), ?_⟩
    exact k _ ⟨dx, Eq.trans upd_same (congrArg (fun q => some (HO.ins G dx q)) (gF_new b))⟩ fun a o e ha => by
      rw [upd_ne ha, upd_ne ha]
      exact e
/-- how far some bales are from a length, above and below -/
def gapB (bs : List Bale) (t : Nat) : Nat × Nat := (Kzd1.gap (mOf bs) (t * wOf bs), wOf bs)
theorem gapB_is (bs : List Bale) (t : Nat) (row : List Nat) : gapB (row.map (Kzd1.at_ bs)) t = gapOf bs t row := by
  unfold gapB gapOf Kzd1.off
  rw [wOf_is, mOf_is]
theorem gap_abs (m a : Nat) : (if (m : Int) - (a : Int) < 0 then -((m : Int) - (a : Int)) else (m : Int) - (a : Int)) = ((Kzd1.gap m a : Nat) : Int) := by
  unfold Kzd1.gap
  split <;> omega
theorem gapB_le {bs : List Bale} {t : Nat} (h : OkBs bs) (hl : bs.length ≤ 100) (ht : t ≤ 500) : (gapB bs t).1 ≤ 15000000 ∧ (gapB bs t).2 ≤ 30000 := by
  have h1 := wOf_le bs h
  have h2 := mOf_le bs h
  have h3 : t * wOf bs ≤ 500 * 30000 := Nat.mul_le_mul ht (by omega)
  unfold gapB Kzd1.gap
  refine ⟨?_, by show wOf bs ≤ 30000; omega⟩
  show max (mOf bs) (t * wOf bs) - min (mOf bs) (t * wOf bs) ≤ 15000000
  omega
def spGapOf (K : PySem.W.Frag) (C G : Addr) : Sp := fun vs H Q _ => ∃ (a : Addr) (bs : List Bale) (t : Nat), vs = [.ref a, iv t] ∧ BalesAt K C H a bs ∧ bs.length ≤ 100 ∧ OkBs bs ∧ t ≤ 500 ∧
  ∀ (H' : Hp) (p : Addr), Same H H' → GapAt G H' p (gapB bs t) → Q (.ref p) H'
theorem scGapOf : FnScope ["bales", "t"] ["bales", "t"] (defScope sGapOf) := ⟨rfl, rfl, rfl, by decide +kernel, rfl, by decide +kernel, by decide +kernel⟩
theorem ok_gap_of {f fI fW fM : Addr} {fd fdI fdW fdM : FuncData} (F : Fun K "gap_of" "gap_of" sGapOf f fd) (T : TGap K mg G) (habs : mg "abs" = none) (MG : Mk K G fI) (FI : Fun K "__init__" "Gap.__init__" sGap fI fdI) (bI : Binds K fdI ["self", "above", "below"] [])
    (kW : PySem.W.keepIn K (.ref fW) = true) (GW : FnOk P w K mg base CX0 1 fW fdW ["bales"] (spWeight K C)) (bW : Binds K fdW ["bales"] []) (gW : mg "weight_of" = some (.ref fW))
    (kM : PySem.W.keepIn K (.ref fM) = true) (GM : FnOk P w K mg base CX0 1 fM fdM ["bales"] (spMoment K C)) (bM : Binds K fdM ["bales"] []) (gM : mg "moment_of" = some (.ref fM)) :
    FnOk P w K mg base CX0 3 f fd ["bales", "t"] (spGapOf K C G) := by
  have GI : FnOk P w K mg base CX0 1 fI fdI ["self", "above", "below"] (spGap G) := ok_gap FI T
  refine F.ok scGapOf (fun vs H Q E h => ?_) (fun cdv A outer s H vs Q E hr h => ?_)
  · obtain ⟨a, bs, t, rfl, _⟩ := h
    rfl
  · obtain ⟨a, bs, t, rfl, hB, hlen, hok, ht, k⟩ := h
    have hr1 : Room 1 _ := hr.mono (by decide)
    refine ⟨_, pss_one (ps_ret (pe_make MG GI hr rfl T.gG bI .nil pass0
      (pa_cons (pe_callB call_abs (by rfl) habs (by decide +kernel) (pa_cons (pe_op op_sub (pe_call GM hr1 (by rfl) gM kM bM .nil pass0 (pa_cons (pv 0) pa_nil)) (pe_op op_mulN (pv 1) (pe_call GW hr1 (by rfl) gW kW bW .nil pass0 (pa_cons (pv 0) pa_nil)))) pa_nil))
        (pa_cons (pe_call GW hr1 (by rfl) gW kW bW .nil pass0 (pa_cons (pv 0) pa_nil)) pa_nil)))), ?_⟩
    refine ⟨_, rfl, a, bs, rfl, hB, hlen, hok, fun H1 s1 => ?_⟩
    refine ⟨_, rfl, _, rfl, a, bs, rfl, hB.same s1, hlen, fun H2 s2 => ?_⟩
    refine ⟨t, wOf bs, rfl, rfl, by omega, _, _, rfl, rfl, _, rfl, ?_⟩
    refine ⟨_, rfl, a, bs, rfl, hB.same (s1.trans s2), hlen, fun H3 s3 => ?_⟩
    intro x dx nx nd ne
    have s4 : Same H H3 := (s1.trans s2).trans s3
    refine ⟨x, dx, gapB bs t, ?_, upd_same, fun H4 J kp => ⟨rfl, k H4 x (s4.trans (Same.made nx nd kp)) J⟩⟩
    rw [gap_abs]
    rfl
end
/-! ### rows -/
abbrev sChosen : Stmt := top 8
abbrev sLonger : Stmt := top 9
abbrev sAll : Stmt := top 10
/-- a row's list, a list of rows' lists -/
def RowAt (H : Hp) (p : Addr) (row : List Nat) : Prop := H p = some (.lst (row.map iv))
def RowsAt (H : Hp) (a : Addr) (rows : List (List Nat)) : Prop := ∃ ps : List Addr, H a = some (.lst (ps.map V.ref)) ∧ Paired (RowAt H) ps rows
theorem RowAt.same {H H' : Hp} {p : Addr} {row : List Nat} (s : Same H H') (h : RowAt H p row) : RowAt H' p row := s _ _ h
theorem pair_rows {H H' : Hp} {ps : List Addr} {rows : List (List Nat)} (s : Same H H') (h : Paired (RowAt H) ps rows) : Paired (RowAt H') ps rows := Paired.mapP h fun _ _ q => q.same s
theorem RowsAt.same {H H' : Hp} {a : Addr} {rows : List (List Nat)} (s : Same H H') (h : RowsAt H a rows) : RowsAt H' a rows :=
  let ⟨ps, h1, h2⟩ := h
  ⟨ps, s _ _ h1, pair_rows s h2⟩
/-- a row that isn't empty is no list of objects -/
theorem row_ne_refs {row : List Nat} {ps : List Addr} (h : row ≠ []) : (HO.lst (row.map iv)) ≠ .lst (ps.map V.ref) := fun z => by
  have e := HO.lst.inj z
  cases row with
  | nil => exact h rfl
  | cons x r =>
    cases ps with
    | nil => cases e
    | cons p q =>
      have e1 := (List.cons.inj e).1
      cases e1
/-- a list of rows stands when a list of objects is changed: no row is empty -/
theorem rows_upd {H : Hp} {D : Addr} {qs : List Addr} {o : HO} (hD : H D = some (.lst (qs.map V.ref))) : ∀ {ps : List Addr} {rows : List (List Nat)}, Paired (RowAt H) ps rows → (∀ r ∈ rows, r ≠ []) → Paired (RowAt (upd H D o)) ps rows
  | _, _, .nil, _ => .nil
  | _, _, .cons q t, hn => .cons (by
      have hq := q
      unfold RowAt at q ⊢
      rw [upd_ne (ne_of q hD (row_ne_refs (hn _ (List.mem_cons_self ..))))]
      exact q) (rows_upd hD t fun r hr => hn r (List.mem_cons_of_mem _ hr))
theorem pair_append {α β : Type} {F : α → β → Prop} : ∀ {l1 l2 : List α} {m1 m2 : List β}, Paired F l1 m1 → Paired F l2 m2 → Paired F (l1 ++ l2) (m1 ++ m2)
  | _, _, _, _, .nil, h => h
  | _, _, _, _, .cons r t, h => .cons r (pair_append t h)
theorem longer_ne {many : Nat} {row r : List Nat} (h : r ∈ longer many row) : r ≠ [] := by
  unfold longer at h
  obtain ⟨x, _, rfl⟩ := List.mem_map.mp h
  simp
theorem grow_ne {many : Nat} {rows : List (List Nat)} : ∀ r ∈ grow many rows, r ≠ [] := fun r h => by
  unfold grow at h
  obtain ⟨row, _, h2⟩ := List.mem_flatMap.mp h
  exact longer_ne h2
section
variable {P : Program} {w : World} {K : PySem.W.Frag} {mg : Str → Option Value} {base : Heap} {C G : Addr}
def spChosen (K : PySem.W.Frag) (C : Addr) : Sp := fun vs H Q _ => ∃ (a r : Addr) (bs : List Bale) (row : List Nat), vs = [.ref a, .ref r] ∧ BalesAt K C H a bs ∧ RowAt H r row ∧ (∀ x ∈ row, x < bs.length) ∧ row.length ≤ 100 ∧
  ∀ (H' : Hp) (p : Addr), Same H H' → BalesAt K C H' p (row.map (Kzd1.at_ bs)) → Q (.ref p) H'
theorem scChosen : FnScope ["bales", "numbers", "number"] ["bales", "numbers"] (defScope sChosen) := ⟨rfl, rfl, rfl, by decide +kernel, rfl, by decide +kernel, by decide +kernel⟩
theorem ok_chosen {f : Addr} {fd : FuncData} (F : Fun K "chosen_bales" "chosen_bales" sChosen f fd) : FnOk P w K mg base CX0 1 f fd ["bales", "numbers"] (spChosen K C) := by
  refine F.ok scChosen (fun vs H Q E h => ?_) (fun cdv A outer s H vs Q E hr h => ?_)
  · obtain ⟨a, r, bs, row, rfl, _⟩ := h
    rfl
  · obtain ⟨a, r, bs, row, rfl, ⟨ps, hS, hP⟩, hR, hlt, hlen, k⟩ := h
    refine ⟨_, pss_one (ps_ret (pe_lc (own := [("number", 2)]) (g := gName 2) (tt := tYes) (te := tOp (rIxL K) (tVar 0) (tVar 2)) rfl scChosen.nd
      (pi_list (pv 1))
      (blkOk_by (N := ["bales", "numbers", "number"]) (sc := defScope sChosen) (by decide +kernel))
      (fun _ _ _ _ _ => pg_name (i := 2) scChosen.nd rfl (Or.inl rfl)) (fun _ _ _ _ _ => pts_nil)
      (fun _ _ _ _ _ => pe_ix (r := rIxL K) ix_list (pv 0) (pv 2) (fun _ _ => rfl)))), ?_⟩
    refine ⟨_, rfl, r, rfl, ⟨_, SqL.of hR⟩, fun D hD => ?_⟩
    refine lc_list (K := K) (a := r) (xs := row.map iv) (fun i H1 => Same H H1 ∧ ∃ qs, H1 D = some (.lst (qs.map V.ref)) ∧ Paired (BaleAt C H) qs ((row.take i).map (Kzd1.at_ bs)))
        ⟨same_upd hD, [], upd_same, .nil⟩ (fun i H1 _ q => SqL.of (hR.same q.1)) ?_ ?_
    · rintro i x H1 hx ⟨sm, qs, e1, e2⟩
      obtain ⟨n, hn, rfl⟩ := iv_of hx
      have hnl : n < bs.length := hlt n (List.mem_of_getElem? hn)
      have hb : bs[n]? = some (Kzd1.at_ bs n) := by
        unfold Kzd1.at_
        simp [hnl]
      obtain ⟨p, hp, hq⟩ := pair_get' hP hb
      refine ⟨rfl, ?_⟩
      refine ⟨_, rfl, _, rfl, a, _, _, _, rfl, rfl, sm.seq hS, at_of (j := n) rfl (ref_get hp), ?_⟩
      refine ⟨_, e1, ?_, fun b o hb => ?_, qs ++ [p], ?_, ?_⟩
      · rw [List.length_map, pair_len e2, List.length_map, List.length_take]
        exact small_size (by omega)
      · rw [upd_ne (ne_of_none hb hD)]
        exact sm _ _ hb
      · rw [upd_same, List.map_append]
        rfl
      · rw [take_more hn, List.map_append]
        exact Paired.snoc e2 hq
    · rintro H1 ⟨sm, qs, e1, e2⟩
      rw [List.length_map, List.take_length] at e2
      exact k H1 D sm ⟨qs, SqL.of e1, pair_bales sm e2⟩

def spLonger : Sp := fun vs H Q _ => ∃ (r : Addr) (row : List Nat) (many : Nat), vs = [.ref r, iv many] ∧ RowAt H r row ∧ (∀ x ∈ row, x < many) ∧ row.length ≤ 100 ∧ many ≤ 100 ∧
  ∀ (H' : Hp) (p : Addr), Same H H' → H p = none → RowsAt H' p (longer many row) → Q (.ref p) H'
theorem scLonger : FnScope ["row", "many", "first", "number"] ["row", "many"] (defScope sLonger) := ⟨rfl, rfl, rfl, by decide +kernel, rfl, by decide +kernel, by decide +kernel⟩
theorem ok_longer {f : Addr} {fd : FuncData} (F : Fun K "longer_rows" "longer_rows" sLonger f fd) (B : TBlt mg) : FnOk P w K mg base CX0 1 f fd ["row", "many"] spLonger := by
  refine F.ok scLonger (fun vs H Q E h => ?_) (fun cdv A outer s H vs Q E hr h => ?_)
  · obtain ⟨r, row, many, rfl, _⟩ := h
    rfl
  · obtain ⟨r, row, many, rfl, hR, hlt, hlen, hm, k⟩ := h
    refine ⟨_, pss_cons (ps_set (i := 2) scLonger.nd rfl (.inl rfl) pe_int)
      (pss_cons (ps_if (pt_cmpR op_gt (pe_callB call_len_seq (by rfl) B.len PySem.boot_len (pa_cons (pv 0) pa_nil)) pe_int (nomark _))
        (pss_one (ps_set (i := 2) scLonger.nd rfl (.inl rfl) (pe_op op_add (pe_ix ix_list (pv 0) (pe_un un_neg pe_int) (fun _ _ => rfl)) pe_int))) pss_nil)
      (pss_one (ps_ret (pe_lc (own := [("number", 3)]) (g := gName 3) (tt := tYes) rfl scLonger.nd
        (pi_range2 (by rfl) B.range (pa_cons (pv 2) (pa_cons (pv 1) pa_nil)))
        (blkOk_by (N := ["row", "many", "first", "number"]) (sc := defScope sLonger) (by decide +kernel))
        (fun _ _ _ _ _ => pg_name (i := 3) scLonger.nd rfl (Or.inl rfl)) (fun _ _ _ _ _ => pts_nil)
        (fun _ _ _ _ _ => pe_op op_cat (pv 0) (pe_lst (pa_cons (pv 3) pa_nil))))))), ?_⟩
    have main : ∀ σ, σ = [some (.ref r), some (iv many), some (iv (nextOf row)), none] →
        tLc (iRng2 (tCons (tVar 2) (tCons (tVar 1) tNil))) (gName 3) tYes (tOp rCat (tVar 0) (tLst (tCons (tVar 3) tNil))) [3] σ H Q := by
      rintro σ rfl
      have hnx : nextOf row ≤ many := by
        unfold nextOf
        cases e : row.getLast? with
        | none => exact Nat.zero_le _
        | some x => exact hlt x (List.mem_of_getLast? e)
      refine ⟨_, rfl, _, rfl, (nextOf row : Int), (many : Int), rfl, ⟨by omega, by omega, by omega, by omega⟩, fun D hD => ?_⟩
      have en : ((many : Int) - (nextOf row : Int)).toNat = many - nextOf row := by omega
      rw [en]
      refine lc_range (lo := (nextOf row : Int)) (n := many - nextOf row) (fun i H1 => Same H H1 ∧ ∃ ps, H1 D = some (.lst (ps.map V.ref)) ∧ Paired (RowAt H1) ps ((longer many row).take i))
        ⟨same_upd hD, [], upd_same, .nil⟩ ?_ ?_
      · rintro i H1 hi ⟨sm, ps, e1, e2⟩
        have hi2 : (longer many row)[i]? = some (row ++ [nextOf row + i]) := by
          unfold longer
          rw [List.getElem?_map, List.getElem?_range' hi]
          simp
        refine ⟨rfl, ?_⟩
        refine ⟨_, rfl, _, rfl, by show 1 ≤ sizeLine; decide, fun z hz => ?_⟩
        have s1 : Same H1 (upd H1 z (.lst [.int ((nextOf row : Int) + i)])) := same_upd hz
        refine ⟨r, z, _, _, rfl, rfl, s1 _ _ (hR.same sm), upd_same, ?_, fun p hp => ?_⟩
        · rw [List.length_map]
          exact small_size' (by show row.length + 1 ≤ _; omega)
        · have s2 := s1.trans (same_upd (o := HO.lst (row.map iv ++ [.int ((nextOf row : Int) + i)])) hp)
          have e3 := s2 _ _ e1
          refine ⟨_, e3, ?_, fun b o hb => ?_, ps ++ [p], ?_, ?_⟩
          · have : (longer many row).length = many - nextOf row := by unfold longer; simp
            rw [List.length_map, pair_len e2, List.length_take]
            exact small_size (by omega)
          · rw [upd_ne (ne_of_none hb hD)]
            exact s2 _ _ (sm _ _ hb)
          · rw [upd_same, List.map_append]
            rfl
          · rw [take_more hi2]
            refine Paired.snoc (rows_upd e3 (pair_rows s2 e2) fun r hr => longer_ne (List.mem_of_mem_take hr)) ?_
            unfold RowAt
            have hpD : p ≠ D := fun z => by
              have hn := s1.free hp
              rw [z, e1] at hn
              cases hn
            rw [upd_ne hpD, upd_same, List.map_append]
            have ei : (nextOf row : Int) + (i : Int) = ((nextOf row + i : Nat) : Int) := by omega
            rw [ei]
            rfl
      · rintro H1 ⟨sm, ps, e1, e2⟩
        rw [List.take_of_length_le (by unfold longer; simp)] at e2
        exact k H1 D sm hD ⟨ps, e1, e2⟩
    refine ⟨_, rfl, r, _, rfl, .inl (SqL.of hR), _, _, rfl, rfl, _, rfl, ite2 (fun e => ?_) (fun e => ?_)⟩
    · have e0 := of_decide_eq_true e
      rw [List.length_map] at e0
      have hne : row ≠ [] := fun z => by
        subst z
        exact absurd e0 (by decide)
      have hz : row.map iv = row.dropLast.map iv ++ [iv (row.getLast hne)] := by
        rw [← List.map_singleton, ← List.map_append, List.dropLast_concat_getLast]
      have gl : atI (row.map iv) (-1) = some (iv (row.getLast hne)) := by
        rw [hz]
        exact atI_last _ _
      refine ⟨_, rfl, 1, rfl, r, _, -1, _, rfl, rfl, SqL.of hR, gl, _, _, rfl, rfl, ?_⟩
      refine main _ ?_
      have hn : nextOf row = row.getLast hne + 1 := by
        unfold nextOf
        rw [List.getLast?_eq_some_getLast hne]
      rw [hn]
      have ei : ((row.getLast hne : Nat) : Int) + 1 = ((row.getLast hne + 1 : Nat) : Int) := by omega
      show [some (V.ref r), some (iv many), some (V.int (((row.getLast hne : Nat) : Int) + 1)), none] = _
      rw [ei]
      rfl
    · have e0 : ¬ (0 : Int) < ((row.map iv).length : Int) := fun z => e (decide_eq_true z)
      rw [List.length_map] at e0
      have hn : row = [] := List.length_eq_zero_iff.mp (by omega)
      refine main _ ?_
      rw [hn]
      rfl

def spAll : Sp := fun vs H Q _ => ∃ (many size : Nat), vs = [iv many, iv size] ∧ many ≤ 9 ∧ size ≤ 9 ∧
  ∀ (H' : Hp) (p : Addr), Same H H' → H p = none → RowsAt H' p (rowsI many size) → Q (.ref p) H'
theorem scAll : FnScope ["many", "size", "found", "turn", "longer", "row"] ["many", "size"] (defScope sAll) := ⟨rfl, rfl, rfl, by decide +kernel, rfl, by decide +kernel, by decide +kernel⟩
theorem ok_all {f fL : Addr} {fd fdL : FuncData} (F : Fun K "all_rows" "all_rows" sAll f fd) (B : TBlt mg) (FL : Fun K "longer_rows" "longer_rows" sLonger fL fdL) (bL : Binds K fdL ["row", "many"] []) (gL : mg "longer_rows" = some (.ref fL)) :
    FnOk P w K mg base CX0 2 f fd ["many", "size"] spAll := by
  have GL : FnOk P w K mg base CX0 1 fL fdL ["row", "many"] spLonger := ok_longer FL B
  refine F.ok scAll (fun vs H Q E h => ?_) (fun cdv A outer s H vs Q E hr h => ?_)
  · obtain ⟨many, size, rfl, _⟩ := h
    rfl
  · obtain ⟨many, size, rfl, hm, hs, k⟩ := h
    refine ⟨_, pss_cons (ps_set (i := 2) scAll.nd rfl (.inl rfl) (pe_lst (pa_cons (pe_lst pa_nil) pa_nil)))
      (pss_cons (ps_for PassesOwn.never rfl (pi_range1 rfl B.range (pa_cons (pv 1) pa_nil)) (pg_name (i := 3) scAll.nd rfl (Or.inl rfl))
        (pss_cons (ps_set (i := 4) scAll.nd rfl (.inl rfl) (pe_lst pa_nil))
        (pss_cons (ps_for PassesOwn.never rfl (pi_list (pv 2)) (pg_name (i := 5) scAll.nd rfl (Or.inl rfl))
          (pss_one (ps_expr (pe_bm PySem.F.plainAttrs_list PySem.F.slot_list_extend PySem.F.type_list_extend mt_extend (pv 4) (pa_cons (pe_call GL hr (by rfl) gL FL.kp bL .nil pass0 (pa_cons (pv 5) (pa_cons (pv 0) pa_nil))) pa_nil)))))
        (pss_one (ps_set (i := 2) scAll.nd rfl (.inl rfl) (pv 4))))))
      (pss_one (ps_ret (pv 2)))), ?_⟩
    refine ⟨Nat.zero_le _, fun e he => ⟨by show 1 ≤ sizeLine; decide, fun f0 hf0 => ?_⟩⟩
    have hef : e ≠ f0 := ne_of_none upd_same hf0
    have s0 : Same H (upd (upd H e (.lst [])) f0 (.lst [.ref e])) := (same_upd he).trans (same_upd hf0)
    refine ⟨_, rfl, (size : Int), rfl, by omega, by omega, ?_⟩
    rw [Int.toNat_natCast]
    refine for_range (lo := 0) (n := size) (fun i σ H1 => ∃ f v3 v4 v5, σ = [some (iv many), some (iv size), some (.ref f), v3, v4, v5] ∧ Same H H1 ∧ H f = none ∧ RowsAt H1 f (rowsI many i))
      ⟨f0, none, none, none, rfl, s0, (same_upd he).free hf0, [e], upd_same, .cons (by unfold RowAt; rw [upd_ne hef, upd_same]; rfl) .nil⟩ ?_ ?_
    · rintro i σ H1 hi ⟨f, v3, v4, v5, rfl, sm, _, ps, e1, e2⟩
      refine ⟨Nat.zero_le _, fun g hg => ?_⟩
      have s1 : Same H1 (upd H1 g (.lst [])) := same_upd hg
      refine ⟨_, rfl, f, rfl, ⟨_, SqL.of (s1 _ _ e1)⟩, ?_⟩
      have lenR : (rowsI many i).length ≤ 512 := Nat.le_trans (rowsI_count many i) (Nat.le_trans (Nat.pow_le_pow_right (by decide) hm) (by decide))
      refine for_list (K := K) (a := f) (xs := ps.map V.ref) (fun j σ H2 => ∃ w3 w5, σ = [some (iv many), some (iv size), some (.ref f), w3, some (.ref g), w5] ∧ Same H1 H2 ∧ RowsAt H2 g (grow many ((rowsI many i).take j)))
        ⟨_, _, rfl, s1, [], upd_same, .nil⟩ (fun j σ H2 _ ⟨_, _, _, q, _⟩ => SqL.of (q _ _ e1)) ?_ ?_
      · rintro j x σ H2 hx ⟨w3, w5, rfl, sm2, qs, d1, d2⟩
        obtain ⟨p, hp, rfl⟩ := ref_of hx
        obtain ⟨row, hrow, hq⟩ := pair_get e2 hp
        have hmem := List.mem_of_getElem? hrow
        refine ⟨_, rfl, .inl ⟨rfl, _, SqL.of d1⟩, _, rfl, _, rfl, p, row, many, rfl, hq.same sm2, row_lt hmem, by rw [(row_of hmem).2]; omega, by omega, fun H3 z s3 hz R3 => ?_⟩
        obtain ⟨zs, z1, z2⟩ := R3
        have d3 := s3 _ _ d1
        have lg : (grow many ((rowsI many i).take j)).length ≤ 512 * 9 := by
          refine Nat.le_trans (grow_count many _) (Nat.mul_le_mul ?_ hm)
          rw [List.length_take]
          omega
        refine ⟨g, z, _, _, rfl, rfl, d3, z1, ?_, ?_⟩
        · have := longer_count many row
          rw [List.length_map, List.length_map, pair_len d2, pair_len z2]
          exact small_size' (by omega)
        · refine ⟨_, _, rfl, fun b o hb => ?_, qs ++ zs, ?_, ?_⟩
          · rw [upd_ne (ne_of_none hb hg)]
            exact s3 _ _ (sm2 _ _ hb)
          · rw [upd_same, List.map_append]
          · rw [take_more hrow, grow_append, grow_one]
            exact pair_append (rows_upd d3 (pair_rows s3 d2) fun r hr => grow_ne r hr) (rows_upd d3 z2 fun r hr => longer_ne hr)
      · rintro σ H2 ⟨w3, w5, rfl, sm2, R2⟩
        rw [List.length_map, pair_len e2, List.take_length] at R2
        exact ⟨_, rfl, g, w3, _, w5, rfl, sm.trans sm2, sm.free hg, R2⟩
    · rintro σ H1 ⟨f, v3, v4, v5, rfl, sm, nf, R⟩
      exact ⟨_, rfl, k H1 f sm nf R⟩
end
end Bm
namespace Bm
open PySem PySem.Spec PyProof.Rows L2
open Kzd1 (Bale)
/-! ### the rows that are alike -/
abbrev sAlike : Stmt := top 12
abbrev sSetOf : Stmt := top 13
abbrev sLeast : Stmt := top 14
abbrev sRowsFrom : Stmt := top 15
section
variable {P : Program} {w : World} {K : PySem.W.Frag} {mg : Str → Option Value} {base : Heap} {C G : Addr}
def spWithin (G : Addr) : Sp := fun vs H Q _ => ∃ (p : Addr) (x : Nat × Nat) (m : Nat), vs = [.ref p, iv m] ∧ GapAt G H p x ∧ m ≤ 4294967296 ∧ Q (.bl (decide (x.1 ≤ m * x.2))) H
theorem scWithin : FnScope ["self", "most"] ["self", "most"] (defScope sWithin) := ⟨rfl, rfl, rfl, by decide +kernel, rfl, by decide +kernel, by decide +kernel⟩
theorem ok_within {f : Addr} {fd : FuncData} (F : Fun K "is_within" "Gap.is_within" sWithin f fd) (T : TGap K mg G) : FnOk P w K mg base CX0 1 f fd ["self", "most"] (spWithin G) := by
  refine F.ok scWithin (fun vs H Q E h => ?_) (fun cdv A outer s H vs Q E hr h => ?_)
  · obtain ⟨p, x, m, rfl, _⟩ := h
    rfl
  · obtain ⟨p, x, m, rfl, ⟨dp, hp⟩, hm, k⟩ := h
    refine ⟨_, pss_one (ps_ret (pe_cmpR op_le (pe_fld (pv 0) rfl) (pe_op op_mulN (pv 1) (pe_fld (pv 0) rfl)) (nomark _))), ?_⟩
    refine ⟨_, rfl, p, G, dp, _, _, rfl, hp, T.cl, T.nA, gF_above x, _, rfl, _, rfl, p, G, dp, _, _, rfl, hp, T.cl, T.nB, gF_below x, m, x.2, rfl, rfl, hm, ?_⟩
    refine ⟨_, _, rfl, rfl, ?_⟩
    have e : decide (((x.1 : Nat) : Int) ≤ ((m * x.2 : Nat) : Int)) = decide (x.1 ≤ m * x.2) := decide_eq_decide.mpr (by omega)
    rw [← e] at k
    exact k
theorem ok_bs_sub {bs : List Bale} (h : OkBs bs) {row : List Nat} (hl : ∀ x ∈ row, x < bs.length) : OkBs (row.map (Kzd1.at_ bs)) := fun b hb => by
  obtain ⟨x, hx, rfl⟩ := List.mem_map.mp hb
  have hxl := hl x hx
  refine h _ ?_
  unfold Kzd1.at_
  rw [List.getD_eq_getElem?_getD, List.getElem?_eq_getElem hxl]
  exact List.getElem_mem hxl
theorem filter_more {α : Type} {p : α → Bool} {l : List α} {i : Nat} {x : α} (h : l[i]? = some x) : (l.take (i + 1)).filter p = (l.take i).filter p ++ if p x = true then [x] else [] := by
  rw [take_more h, List.filter_append]
  cases e : p x with
  | true => simp [e]
  | false => simp [e]
def spAlike (K : PySem.W.Frag) (C : Addr) : Sp := fun vs H Q _ => ∃ (a : Addr) (bs : List Bale) (size t m : Nat), vs = [.ref a, iv size, iv t, iv m] ∧ BalesAt K C H a bs ∧ bs.length ≤ 9 ∧ OkBs bs ∧ 1 ≤ size ∧ size ≤ 9 ∧ t ≤ 500 ∧ m ≤ 500 ∧
  ∀ (H' : Hp) (p : Addr), Same H H' → RowsAt H' p (alikeRows bs size t m) → Q (.ref p) H'
theorem scAlike : FnScope ["bales", "size", "t", "most", "found", "row"] ["bales", "size", "t", "most"] (defScope sAlike) := ⟨rfl, rfl, rfl, by decide +kernel, rfl, by decide +kernel, by decide +kernel⟩
theorem ok_alike {f fA fG fC fW : Addr} {fd fdA fdG fdC fdW : FuncData} (F : Fun K "alike_rows" "alike_rows" sAlike f fd) (T : TGap K mg G) (B : TBlt mg)
    (kA : PySem.W.keepIn K (.ref fA) = true) (GA : FnOk P w K mg base CX0 2 fA fdA ["many", "size"] spAll) (bA : Binds K fdA ["many", "size"] []) (gA : mg "all_rows" = some (.ref fA))
    (kG : PySem.W.keepIn K (.ref fG) = true) (GG : FnOk P w K mg base CX0 3 fG fdG ["bales", "t"] (spGapOf K C G)) (bG : Binds K fdG ["bales", "t"] []) (gG : mg "gap_of" = some (.ref fG))
    (kC : PySem.W.keepIn K (.ref fC) = true) (GC : FnOk P w K mg base CX0 1 fC fdC ["bales", "numbers"] (spChosen K C)) (bC : Binds K fdC ["bales", "numbers"] []) (gC : mg "chosen_bales" = some (.ref fC))
    (mW : Meth K G "is_within" fW) (GW : FnOk P w K mg base CX0 1 fW fdW ["self", "most"] (spWithin G)) (bW : Binds K fdW ["self", "most"] []) :
    FnOk P w K mg base CX0 4 f fd ["bales", "size", "t", "most"] (spAlike K C) := by
  refine F.ok scAlike (fun vs H Q E h => ?_) (fun cdv A outer s H vs Q E hr h => ?_)
  · obtain ⟨a, bs, size, t, m, rfl, _⟩ := h
    rfl
  · obtain ⟨a, bs, size, t, m, rfl, hB, hlen, hok, h1, h2, ht, hm, k⟩ := h
    have hr1 : Room 1 _ := hr.mono (by decide)
    have hr2 : Room 2 _ := hr.mono (by decide)
    obtain ⟨pb, hS, hP⟩ := id hB
    refine ⟨_, pss_cons (ps_set (i := 4) scAlike.nd rfl (.inl rfl) (pe_lst pa_nil))
      (pss_cons (ps_for PassesOwn.never rfl (pi_list (pe_call GA hr2 (by rfl) gA kA bA .nil pass0 (pa_cons (pe_callB call_len_seq (by rfl) B.len PySem.boot_len (pa_cons (pv 0) pa_nil)) (pa_cons (pv 1) pa_nil)))) (pg_name (i := 5) scAlike.nd rfl (Or.inl rfl))
        (pss_one (ps_if (pt_val (pe_meth (pe_call GG hr (by rfl) gG kG bG .nil pass0 (pa_cons (pe_call GC hr1 (by rfl) gC kC bC .nil pass0 (pa_cons (pv 0) (pa_cons (pv 5) pa_nil))) (pa_cons (pv 2) pa_nil))) T.cl mW GW hr1 bW .nil pass0 (by exact (pa_cons (pv 3) pa_nil))))
          (pss_one (ps_expr (pe_bm PySem.F.plainAttrs_list PySem.F.slot_list_append PySem.F.type_list_append mt_append (pv 4) (pa_cons (pv 5) pa_nil)))) pss_nil)))
      (pss_one (ps_ret (pv 4)))), ?_⟩
    refine ⟨Nat.zero_le _, fun g hg => ?_⟩
    have s0 : Same H (upd H g (.lst [])) := same_upd hg
    have el : ((pb.map V.ref).length : Int) = (bs.length : Int) := by rw [List.length_map, pair_len hP]
    refine ⟨_, rfl, a, _, rfl, .inl (s0.seq hS), _, rfl, bs.length, size, by rw [el]; rfl, hlen, by omega, fun H1 rw1 s1 n1 R1 => ?_⟩
    obtain ⟨ps, e1, e2⟩ := R1
    have hrg : rw1 ≠ g := fun z => by
      rw [z, upd_same] at n1
      cases n1
    have lenR : (rowsI bs.length size).length ≤ 512 := Nat.le_trans (rowsI_count bs.length size) (Nat.le_trans (Nat.pow_le_pow_right (by decide) hlen) (by decide))
    refine ⟨rw1, rfl, ⟨_, SqL.of e1⟩, ?_⟩
    refine for_list (K := K) (a := rw1) (xs := ps.map V.ref) (fun i σ H2 => ∃ v5, σ = [some (.ref a), some (iv size), some (iv t), some (iv m), some (.ref g), v5] ∧ Same H H2 ∧ H2 rw1 = some (.lst (ps.map V.ref)) ∧ Paired (RowAt H2) ps (rowsI bs.length size) ∧
        ∃ qs, H2 g = some (.lst (qs.map V.ref)) ∧ Paired (RowAt H2) qs (((rowsI bs.length size).take i).filter (Kzd1.alike bs t m)))
      ⟨none, rfl, s0.trans s1, e1, e2, [], s1 _ _ upd_same, .nil⟩ (fun i σ H2 _ ⟨_, _, _, q, _⟩ => SqL.of q) ?_ ?_
    · rintro i x σ H2 hx ⟨v5, rfl, sm, d1, d2, qs, d3, d4⟩
      obtain ⟨p, hp, rfl⟩ := ref_of hx
      obtain ⟨row, hrow, hq⟩ := pair_get d2 hp
      have hmem := List.mem_of_getElem? hrow
      have hlt := row_lt hmem
      have hrl : row.length = size := (row_of hmem).2
      refine ⟨_, rfl, _, rfl, a, p, bs, row, rfl, hB.same sm, hq, hlt, by omega, fun H3 z s3 B3 => ?_⟩
      refine ⟨_, rfl, z, _, t, rfl, B3, by rw [List.length_map]; omega, ok_bs_sub hok hlt, ht, fun H4 y s4 J => ?_⟩
      rw [gapB_is] at J
      have s24 := s3.trans s4
      obtain ⟨dg, hgy⟩ := id J
      have f4 := s24 _ _ d3
      refine ⟨y, dg, _, rfl, hgy, gF_no _ (by decide +kernel) (by decide +kernel), _, rfl, y, _, m, rfl, J, by omega, _, rfl, ?_⟩
      have ea : decide ((gapOf bs t row).1 ≤ m * (gapOf bs t row).2) = Kzd1.alike bs t m row := rfl
      rw [ea]
      have hfm := filter_more (p := Kzd1.alike bs t m) hrow
      have hne : ∀ r ∈ rowsI bs.length size, r ≠ [] := fun r hr z => by
        have := (row_of hr).2
        rw [z] at this
        simp at this
        omega
      cases ec : Kzd1.alike bs t m row with
      | false =>
        refine way_no rfl ?_
        rw [ec] at hfm
        have hfm2 : ((rowsI bs.length size).take (i + 1)).filter (Kzd1.alike bs t m) = ((rowsI bs.length size).take i).filter (Kzd1.alike bs t m) := by
          rw [hfm]
          exact List.append_nil _
        refine ⟨_, rfl, sm.trans s24, s24 _ _ d1, pair_rows s24 d2, qs, f4, ?_⟩
        rw [hfm2]
        exact pair_rows s24 d4
      | true =>
        refine way_yes rfl ?_
        rw [ec] at hfm
        have hfm2 : ((rowsI bs.length size).take (i + 1)).filter (Kzd1.alike bs t m) = ((rowsI bs.length size).take i).filter (Kzd1.alike bs t m) ++ [row] := hfm
        refine ⟨_, rfl, .inl ⟨rfl, _, SqL.of f4⟩, _, rfl, g, _, _, rfl, rfl, f4, ?_, ?_⟩
        · have hle := List.length_filter_le (Kzd1.alike bs t m) ((rowsI bs.length size).take i)
          rw [List.length_take] at hle
          rw [List.length_map, pair_len d4]
          exact small_size (by omega)
        · have d2' := rows_upd (o := HO.lst (qs.map V.ref ++ [V.ref p])) f4 (pair_rows s24 d2) hne
          refine ⟨_, rfl, fun b o hb => ?_, ?_, d2', qs ++ [p], ?_, ?_⟩
          · rw [upd_ne (ne_of_none hb hg)]
            exact s24 _ _ (sm _ _ hb)
          · rw [upd_ne hrg]
            exact s24 _ _ d1
          · rw [upd_same, List.map_append]
            rfl
          · rw [hfm2]
            refine Paired.snoc (rows_upd f4 (pair_rows s24 d4) fun r hr => hne r (List.mem_of_mem_take (List.mem_filter.mp hr).1)) ?_
            obtain ⟨r', hr1, hr2⟩ := pair_get d2' hp
            rw [hrow] at hr1
            cases hr1
            exact hr2
    · rintro σ H2 ⟨v5, rfl, sm, d1, d2, qs, d3, d4⟩
      rw [List.length_map, pair_len e2, List.take_length] at d4
      exact ⟨_, rfl, k H2 g sm ⟨qs, d3, d4⟩⟩

/-! ### sets -/
theorem pow_cast (a : Nat) : ((2 ^ a : Nat) : Int) = (2 : Int) ^ a := Int.natCast_pow 2 a
theorem setV_sum : ∀ row : List Nat, (iz (row.map fun x => 2 ^ x)).sum = (setV row : Int)
  | [] => rfl
  | x :: r => by
    show ((2 ^ x : Nat) : Int) + (iz (r.map fun x => 2 ^ x)).sum = ((2 ^ x + setV r : Nat) : Int)
    rw [setV_sum r]
    omega
def spSetOf : Sp := fun vs H Q _ => ∃ (r : Addr) (row : List Nat), vs = [.ref r] ∧ RowAt H r row ∧ row.length ≤ 100 ∧ (∀ x ∈ row, x ≤ 100) ∧
  ∀ H' : Hp, Same H H' → Q (iv (setV row)) H'
theorem scSetOf : FnScope ["row", "number"] ["row"] (defScope sSetOf) := ⟨rfl, rfl, rfl, by decide +kernel, rfl, by decide +kernel, by decide +kernel⟩
theorem ok_set_of {f : Addr} {fd : FuncData} (F : Fun K "set_of" "set_of" sSetOf f fd) (B : TBlt mg) : FnOk P w K mg base CX0 1 f fd ["row"] spSetOf := by
  refine F.ok scSetOf (fun vs H Q E h => ?_) (fun cdv A outer s H vs Q E hr h => ?_)
  · obtain ⟨r, row, rfl, _⟩ := h
    rfl
  · obtain ⟨r, row, rfl, hR, hlen, hlt, k⟩ := h
    refine ⟨_, pss_one (ps_ret (pe_callB (cr_sum rfl) (by rfl) B.sum (by decide +kernel) (pa_cons (pe_lc (own := [("number", 1)]) (g := gName 1) (tt := tYes) rfl scSetOf.nd
      (pi_list (pv 0))
      (blkOk_by (N := ["row", "number"]) (sc := defScope sSetOf) (by decide +kernel))
      (fun _ _ _ _ _ => pg_name (i := 1) scSetOf.nd rfl (Or.inl rfl)) (fun _ _ _ _ _ => pts_nil)
      (fun _ _ _ _ _ => pe_op op_oneShl pe_int (pv 1))) pa_nil))), ?_⟩
    refine ⟨_, rfl, r, rfl, ⟨_, SqL.of hR⟩, fun D hD => ?_⟩
    refine lc_list (K := K) (a := r) (xs := row.map iv) (fun i H1 => Same H H1 ∧ H1 D = some (.lst (((row.take i).map fun x => 2 ^ x).map iv)))
        ⟨same_upd hD, upd_same⟩ (fun i H1 _ q => SqL.of (hR.same q.1)) ?_ ?_
    · rintro i x H1 hx ⟨sm, e1⟩
      obtain ⟨n, hn, rfl⟩ := iv_of hx
      have hnl := hlt n (List.mem_of_getElem? hn)
      refine ⟨rfl, ?_⟩
      refine ⟨_, rfl, n, rfl, rfl, by omega, ?_⟩
      refine ⟨_, e1, ?_, fun b o hb => ?_, ?_⟩
      · rw [List.length_map, List.length_map, List.length_take]
        exact small_size (by omega)
      · rw [upd_ne (ne_of_none hb hD)]
        exact sm _ _ hb
      · rw [upd_same, map_more hn, List.map_append, ← pow_cast]
        rfl
    · rintro H1 ⟨sm, e1⟩
      rw [List.length_map, List.take_length] at e1
      refine ⟨D, iz (row.map fun x => 2 ^ x), rfl, SqL.of (by rw [e1, iv_map]), ?_⟩
      rw [setV_sum]
      exact k H1 sm
/-- chosen >> found & 1 == 0 -/
theorem bit_test (c j : Nat) : decide (V.int ((c / 2 ^ j % 2 : Nat) : Int) = V.int 0) = !c.testBit j := by
  rw [Nat.testBit_eq_decide_div_mod_eq]
  have h : c / 2 ^ j % 2 < 2 := Nat.mod_lt _ (by decide)
  generalize c / 2 ^ j % 2 = y at h
  have hy : y = 0 ∨ y = 1 := by omega
  rcases hy with rfl | rfl
  · rfl
  · rfl
theorem shr_cast (c j : Nat) : (c : Int) / 2 ^ j = ((c / 2 ^ j : Nat) : Int) := by
  rw [← pow_cast, Int.natCast_ediv]
def spLeast : Sp := fun vs H Q _ => ∃ (n a : Nat) (r : List Nat), vs = [iv (setV (a :: r))] ∧ (a :: r).Sublist (List.range n) ∧ Q (iv a) H
theorem scLeast : FnScope ["chosen", "found"] ["chosen"] (defScope sLeast) := ⟨rfl, rfl, rfl, by decide +kernel, rfl, by decide +kernel, by decide +kernel⟩
theorem ok_least {f : Addr} {fd : FuncData} (F : Fun K "least_in" "least_in" sLeast f fd) : FnOk P w K mg base CX0 1 f fd ["chosen"] spLeast := by
  refine F.ok scLeast (fun vs H Q E h => ?_) (fun cdv A outer s H vs Q E hr h => ?_)
  · obtain ⟨n, a, r, rfl, _⟩ := h
    rfl
  · obtain ⟨n, a, r, rfl, hl, k⟩ := h
    refine ⟨_, pss_cons (ps_set (i := 1) scLeast.nd rfl (.inl rfl) pe_int)
      (pss_cons (ps_while PassesOwn.never (pt_cmpR op_eq (pe_op op_odd (pe_op op_shrN (pv 0) (pv 1)) pe_int) pe_int (nomark _)) (pss_one (ps_set (i := 1) scLeast.nd rfl (.inl rfl) (pe_op op_addN (pv 1) pe_int))))
      (pss_one (ps_ret (pv 1)))), ?_⟩
    refine ⟨fun m σ H1 => H1 = H ∧ ∃ j, σ = [some (iv (setV (a :: r))), some (iv j)] ∧ j ≤ a ∧ m = a - j, ⟨a, rfl, 0, rfl, Nat.zero_le _, rfl⟩, ?_⟩
    rintro m σ H1 ⟨rfl, j, rfl, hj, rfl⟩
    refine ⟨_, rfl, _, rfl, _, j, rfl, rfl, setV (a :: r) / 2 ^ j, by rw [shr_cast], rfl, rfl, _, rfl, ?_⟩
    rw [bit_test]
    by_cases c : j = a
    · subst c
      rw [least_yes hl]
      exact way_no rfl ⟨_, rfl, k⟩
    · rw [least_no hl (by omega)]
      refine way_yes rfl ⟨fun σ' H' => H' = H1 ∧ σ' = [some (iv (setV (a :: r))), some (iv (j + 1))], fun σ' H' ⟨q1, q2⟩ => ⟨a - (j + 1), by omega, q1, j + 1, q2, by omega, rfl⟩, ?_⟩
      exact ⟨_, rfl, j, 1, rfl, rfl, rfl, rfl⟩

/-- rows of a machine's sets -/
def OkRows (n : Nat) (rows : List (List Nat)) : Prop := ∀ row ∈ rows, row.Sublist (List.range n) ∧ row ≠ []
theorem okRows_alike {bs : List Bale} {k t m : Nat} (hk : 1 ≤ k) : OkRows bs.length (alikeRows bs k t m) := fun row hr => by
  have h := row_of (List.mem_filter.mp hr).1
  refine ⟨h.1, fun z => ?_⟩
  rw [z] at h
  have := h.2
  simp at this
  omega
theorem alike_count {bs : List Bale} {k t m : Nat} (hl : bs.length ≤ 9) : (alikeRows bs k t m).length ≤ 512 :=
  Nat.le_trans (List.length_filter_le _ _) (Nat.le_trans (rowsI_count bs.length k) (Nat.le_trans (Nat.pow_le_pow_right (by decide) hl) (by decide)))
theorem and_cast (a b : Nat) : Builtin.bitAnd (a : Int) (b : Int) = ((a &&& b : Nat) : Int) := by
  rw [bitAnd_pp (by omega) (by omega), Int.toNat_natCast, Int.toNat_natCast]
theorem sub_len {n : Nat} {row : List Nat} (h : row.Sublist (List.range n)) : row.length ≤ n := by
  have := h.length_le
  rwa [List.length_range] at this
def spRowsFrom : Sp := fun vs H Q _ => ∃ (n : Nat) (p : Addr) (ps : List Addr) (rows : List (List Nat)) (a : Nat) (r : List Nat), vs = [.ref p, iv (setV (a :: r))] ∧ H p = some (.lst (ps.map V.ref)) ∧ Paired (RowAt H) ps rows ∧ (a :: r).Sublist (List.range n) ∧ n ≤ 9 ∧ rows.length ≤ 512 ∧ OkRows n rows ∧
  ∀ (H' : Hp) (q : Addr) (qs : List Addr), Same H H' → (∀ y ∈ qs, y ∈ ps) → H' q = some (.lst (qs.map V.ref)) → Paired (RowAt H') qs (rowsFrom rows (a :: r)) → Q (.ref q) H'
theorem scRowsFrom : FnScope ["rows", "chosen", "least", "row"] ["rows", "chosen"] (defScope sRowsFrom) := ⟨rfl, rfl, rfl, by decide +kernel, rfl, by decide +kernel, by decide +kernel⟩
theorem ok_rows_from {f fL fS : Addr} {fd fdL fdS : FuncData} (F : Fun K "rows_from" "rows_from" sRowsFrom f fd)
    (kL : PySem.W.keepIn K (.ref fL) = true) (GL : FnOk P w K mg base CX0 1 fL fdL ["chosen"] spLeast) (bL : Binds K fdL ["chosen"] []) (gL : mg "least_in" = some (.ref fL))
    (kS : PySem.W.keepIn K (.ref fS) = true) (GS : FnOk P w K mg base CX0 1 fS fdS ["row"] spSetOf) (bS : Binds K fdS ["row"] []) (gS : mg "set_of" = some (.ref fS)) :
    FnOk P w K mg base CX0 2 f fd ["rows", "chosen"] spRowsFrom := by
  refine F.ok scRowsFrom (fun vs H Q E h => ?_) (fun cdv A outer s H vs Q E hr h => ?_)
  · obtain ⟨n, p, ps, rows, a, r, rfl, _⟩ := h
    rfl
  · obtain ⟨n, p, ps, rows, a, r, rfl, hS, hP, hl, hn, hc, hok, k⟩ := h
    refine ⟨_, pss_cons (ps_set (i := 2) scRowsFrom.nd rfl (.inr rfl) (pe_call GL hr (by rfl) gL kL bL .nil pass0 (pa_cons (pv 1) pa_nil)))
      (pss_one (ps_ret (pe_lc (own := [("row", 3)]) (g := gName 3) rfl scRowsFrom.nd
        (pi_list (pv 0))
        (blkOk_by (N := ["rows", "chosen", "least", "row"]) (sc := defScope sRowsFrom) (by decide +kernel))
        (fun _ _ _ _ _ => pg_name (i := 3) scRowsFrom.nd rfl (Or.inl rfl))
        (fun _ _ _ _ _ => pts_one (PW.pt (pw_and (pt_cmpR op_eq (pe_ix (r := rIxL K) ix_list (pv 3) pe_int (fun _ _ => rfl)) (pv 2) (nomark _))
          (pw_and1 (pt_cmpR op_eq (pe_op op_and (pe_call GS hr (by rfl) gS kS bS .nil pass0 (pa_cons (pv 3) pa_nil)) (pv 1)) (pe_call GS hr (by rfl) gS kS bS .nil pass0 (pa_cons (pv 3) pa_nil)) (nomark _))))))
        (fun _ _ _ _ _ => pv 3)))), ?_⟩
    refine ⟨_, rfl, n, a, r, rfl, hl, ?_⟩
    refine ⟨_, rfl, p, rfl, ⟨_, SqL.of hS⟩, fun D hD => ?_⟩
    refine lc_list (K := K) (a := p) (xs := ps.map V.ref) (fun i H1 => Same H H1 ∧ ∃ qs, (∀ y ∈ qs, y ∈ ps) ∧ H1 D = some (.lst (qs.map V.ref)) ∧ Paired (RowAt H) qs ((rows.take i).filter (fromTest (a :: r))))
        ⟨same_upd hD, [], (fun _ h => nomatch h), upd_same, .nil⟩ (fun i H1 _ q => SqL.of (q.1 _ _ hS)) ?_ ?_
    · rintro i x H1 hx ⟨sm, qs, e0, e1, e2⟩
      obtain ⟨q, hq, rfl⟩ := ref_of hx
      obtain ⟨row, hrow, hR⟩ := pair_get hP hq
      obtain ⟨hsub, hne⟩ := hok row (List.mem_of_getElem? hrow)
      have hfm := filter_more (p := fromTest (a :: r)) hrow
      have rl := sub_len hsub
      have lt : ∀ x ∈ row, x ≤ 100 := fun x hx => by
        have := List.mem_range.mp (hsub.subset hx)
        omega
      obtain ⟨y, row', rfl⟩ : ∃ y row', row = y :: row' := by
        cases row with
        | nil => exact absurd rfl hne
        | cons y row' => exact ⟨y, row', rfl⟩
      -- the turn's end: the row is left out, or taken
      have out : ∀ H2, Same H1 H2 → fromTest (a :: r) (y :: row') = false → Same H H2 ∧ ∃ qs, (∀ y ∈ qs, y ∈ ps) ∧ H2 D = some (.lst (qs.map V.ref)) ∧ Paired (RowAt H) qs ((rows.take (i + 1)).filter (fromTest (a :: r))) := fun H2 s2 e => by
        rw [e] at hfm
        have hfm2 : (rows.take (i + 1)).filter (fromTest (a :: r)) = (rows.take i).filter (fromTest (a :: r)) := by
          rw [hfm]
          exact List.append_nil _
        exact ⟨sm.trans s2, qs, e0, s2 _ _ e1, by rw [hfm2]; exact e2⟩
      refine ⟨rfl, ?_⟩
      refine ⟨_, rfl, q, _, 0, iv y, rfl, rfl, SqL.of (hR.same sm), at_of (j := 0) rfl rfl, _, rfl, rfl, _, rfl, ?_⟩
      by_cases c1 : y = a
      · subst c1
        refine way_yes (decide_eq_true rfl) ?_
        refine ⟨_, rfl, q, _, rfl, hR.same sm, by omega, lt, fun H2 s2 => ?_⟩
        refine ⟨_, rfl, _, _, rfl, rfl, _, rfl, q, _, rfl, hR.same (sm.trans s2), by omega, lt, fun H3 s3 => ⟨rfl, _, rfl, ?_⟩⟩
        have e3 : decide (V.int (Builtin.bitAnd (setV (y :: row') : Int) (setV (y :: r) : Int)) = iv (setV (y :: row'))) = (setV (y :: row') &&& setV (y :: r) == setV (y :: row')) := by
          rw [and_cast]
          apply Bool.eq_iff_iff.mpr
          rw [decide_eq_true_iff, beq_iff_eq]
          constructor
          · intro h
            have := V.int.inj h
            omega
          · intro h
            rw [h]
            rfl
        have e4 : fromTest (y :: r) (y :: row') = (setV (y :: row') &&& setV (y :: r) == setV (y :: row')) := by
          rw [setV_sub hl hsub]
          unfold fromTest
          have : decide ((y :: row').head? = (y :: r).head?) = true := decide_eq_true rfl
          rw [this, Bool.true_and]
        have e5 := e3.trans e4.symm
        cases ec : fromTest (y :: r) (y :: row') with
        | false => exact way_no (e5.trans ec) (out H3 (s2.trans s3) ec)
        | true =>
          refine way_yes (e5.trans ec) ⟨_, rfl, qs.map V.ref, s3 _ _ (s2 _ _ e1), ?_, fun b o hb => ?_, qs ++ [q], fun y hy => ?_, ?_, ?_⟩
          · have hle := List.length_filter_le (fromTest (y :: r)) (rows.take i)
            rw [List.length_take] at hle
            rw [List.length_map, pair_len e2]
            exact small_size (by omega)
          · rw [upd_ne (ne_of_none hb hD)]
            exact s3 _ _ (s2 _ _ (sm _ _ hb))
          · rcases List.mem_append.mp hy with hy | hy
            · exact e0 y hy
            · have e : y = q := by simpa using hy
              rw [e]
              exact List.mem_of_getElem? hq
          · rw [upd_same, List.map_append]
            rfl
          · rw [ec] at hfm
            have hfm2 : (rows.take (i + 1)).filter (fromTest (y :: r)) = (rows.take i).filter (fromTest (y :: r)) ++ [y :: row'] := hfm
            rw [hfm2]
            exact Paired.snoc e2 hR
      · have ny : iv y ≠ iv a := fun z => c1 (by have := V.int.inj z; omega)
        refine way_no (decide_eq_false ny) ?_
        refine out H1 (Same.refl _) ?_
        unfold fromTest
        have : decide ((y :: row').head? = (a :: r).head?) = false := decide_eq_false fun z => c1 (Option.some.inj z)
        rw [this, Bool.false_and]
    · rintro H1 ⟨sm, qs, e0, e1, e2⟩
      rw [List.length_map, pair_len hP, List.take_length] at e2
      exact k H1 D qs sm e0 e1 (pair_rows sm e2)
end
end Bm
namespace Bm
open PySem PySem.Spec PyProof.Rows L2
open Kzd1 (Bale)
/-! ### the table -/
abbrev sMost : Stmt := top 16
abbrev sFirst : Stmt := top 17
abbrev sLaid : Stmt := top 18
/-- the table as it lies: of the first so many sets how many days each has at most -/
def tabL (bs : List Bale) (k t m n : Nat) : List V := (List.range n).map fun c => iv (tabT bs k t m c)
theorem tabL_get {bs : List Bale} {k t m n c : Nat} (h : c < n) : (tabL bs k t m n)[c]? = some (iv (tabT bs k t m c)) := by
  unfold tabL
  simp [h]
theorem tabL_len (bs : List Bale) (k t m n : Nat) : (tabL bs k t m n).length = n := by
  unfold tabL
  simp
theorem tabL_succ (bs : List Bale) (k t m n : Nat) : tabL bs k t m (n + 1) = tabL bs k t m n ++ [iv (tabT bs k t m n)] := by
  unfold tabL
  rw [List.range_succ, List.map_append]
  rfl
theorem pow_small {n : Nat} (h : n ≤ 9) : 2 ^ n ≤ 512 := Nat.le_trans (Nat.pow_le_pow_right (by decide) h) (by decide)
theorem setV_cons_sub (a : Nat) (r : List Nat) : ((setV (a :: r) : Nat) : Int) - (2 : Int) ^ a = ((setV r : Nat) : Int) := by
  rw [← pow_cast]
  show ((2 ^ a + setV r : Nat) : Int) - ((2 ^ a : Nat) : Int) = _
  omega
theorem setV_pos (a : Nat) (r : List Nat) : 0 < setV (a :: r) := by
  have : 0 < 2 ^ a := Nat.two_pow_pos a
  show 0 < 2 ^ a + setV r
  omega
theorem max_cast (i j : Nat) : (if (j : Int) > (i : Int) then (j : Int) else (i : Int)) = ((max i j : Nat) : Int) := by
  split <;> omega
theorem at_nine {n a : Nat} {l : List Nat} (h : l.Sublist (List.range n)) (hn : n ≤ 9) (ha : a ∈ l) : a ≤ 100 := by
  have := List.mem_range.mp (h.subset ha)
  omega
section
variable {P : Program} {w : World} {K : PySem.W.Frag} {mg : Str → Option Value} {base : Heap} {C G : Addr}
def spMost : Sp := fun vs H Q _ => ∃ (p : Addr) (bs : List Bale) (k t m : Nat), vs = [.ref p, iv bs.length] ∧ RowsAt H p (alikeRows bs k t m) ∧ bs.length ≤ 9 ∧ 1 ≤ k ∧
  ∀ (H' : Hp) (q : Addr), Same H H' → H' q = some (.lst (tabL bs k t m (2 ^ bs.length))) → Q (.ref q) H'
theorem scMost : FnScope ["rows", "many", "found", "chosen", "best", "row"] ["rows", "many"] (defScope sMost) := ⟨rfl, rfl, rfl, by decide +kernel, rfl, by decide +kernel, by decide +kernel⟩
theorem ok_most {f fL fS fR : Addr} {fd fdL fdS fdR : FuncData} (F : Fun K "most_days" "most_days" sMost f fd) (B : TBlt mg) (hmax : mg "max" = none)
    (kL : PySem.W.keepIn K (.ref fL) = true) (GL : FnOk P w K mg base CX0 1 fL fdL ["chosen"] spLeast) (bL : Binds K fdL ["chosen"] []) (gL : mg "least_in" = some (.ref fL))
    (kS : PySem.W.keepIn K (.ref fS) = true) (GS : FnOk P w K mg base CX0 1 fS fdS ["row"] spSetOf) (bS : Binds K fdS ["row"] []) (gS : mg "set_of" = some (.ref fS))
    (kR : PySem.W.keepIn K (.ref fR) = true) (GR : FnOk P w K mg base CX0 2 fR fdR ["rows", "chosen"] spRowsFrom) (bR : Binds K fdR ["rows", "chosen"] []) (gR : mg "rows_from" = some (.ref fR)) :
    FnOk P w K mg base CX0 3 f fd ["rows", "many"] spMost := by
  refine F.ok scMost (fun vs H Q E h => ?_) (fun cdv A outer s H vs Q E hr h => ?_)
  · obtain ⟨p, bs, k, t, m, rfl, _⟩ := h
    rfl
  · obtain ⟨p, bs, kk, t, m, rfl, ⟨rs, hR1, hR2⟩, hn, hk, k⟩ := h
    have hr1 : Room 1 _ := hr.mono (by decide)
    refine ⟨_, pss_cons (ps_set (i := 2) scMost.nd rfl (.inl rfl) (pe_lst (pa_cons pe_int pa_nil)))
      (pss_cons (ps_for PassesOwn.never rfl (pi_range2 (by rfl) B.range (pa_cons pe_int (pa_cons (pe_op op_oneShl pe_int (pv 1)) pa_nil))) (pg_name (i := 3) scMost.nd rfl (Or.inl rfl))
        (pss_cons (ps_set (i := 4) scMost.nd rfl (.inl rfl) (pe_ix ix_list (pv 2) (pe_op op_sub (pv 3) (pe_op op_oneShl pe_int (pe_call GL hr1 (by rfl) gL kL bL .nil pass0 (pa_cons (pv 3) pa_nil)))) (fun _ _ => rfl)))
        (pss_cons (ps_for PassesOwn.never rfl (pi_list (pe_call GR hr (by rfl) gR kR bR .nil pass0 (pa_cons (pv 0) (pa_cons (pv 3) pa_nil)))) (pg_name (i := 5) scMost.nd rfl (Or.inl rfl))
          (pss_one (ps_set (i := 4) scMost.nd rfl (.inl rfl) (pe_callB (call_max2 rfl) (by rfl) hmax (by decide +kernel) (pa_cons (pv 4) (pa_cons (pe_op op_addN pe_int (pe_ix ix_list (pv 2) (pe_op op_subN (pv 3) (pe_call GS hr1 (by rfl) gS kS bS .nil pass0 (pa_cons (pv 5) pa_nil))) (fun _ _ => rfl))) pa_nil))))))
        (pss_one (ps_expr (pe_bm PySem.F.plainAttrs_list PySem.F.slot_list_append PySem.F.type_list_append mt_append (pv 2) (pa_cons (pv 4) pa_nil)))))))
      (pss_one (ps_ret (pv 2)))), ?_⟩
    have p1 := pow_small hn
    have p2 : 0 < 2 ^ bs.length := Nat.two_pow_pos _
    refine ⟨by show 1 ≤ sizeLine; decide, fun g hg => ?_⟩
    have s0 : Same H (upd H g (.lst [.int 0])) := same_upd hg
    have pc : (2 : Int) ^ bs.length = ((2 ^ bs.length : Nat) : Int) := (pow_cast _).symm
    refine ⟨_, rfl, bs.length, rfl, rfl, by omega, 1, _, rfl, ⟨by decide, by decide, by rw [pc]; omega, by rw [pc]; omega⟩, ?_⟩
    have en : ((2 : Int) ^ bs.length - 1).toNat = 2 ^ bs.length - 1 := by
      rw [pc]
      omega
    rw [en]
    refine for_range (lo := 1) (n := 2 ^ bs.length - 1) (fun i σ H1 => ∃ v3 v4 v5, σ = [some (.ref p), some (iv bs.length), some (.ref g), v3, v4, v5] ∧ Same H H1 ∧ H1 g = some (.lst (tabL bs kk t m (i + 1))))
      ⟨none, none, none, rfl, s0, by rw [upd_same]; show _ = some (HO.lst [iv (tabT bs kk t m 0)]); rw [tabT_zero]; rfl⟩ ?_ ?_
    · rintro i σ H1 hi ⟨v3, v4, v5, rfl, sm, e1⟩
      have hc : i + 1 < 2 ^ bs.length := by omega
      obtain ⟨hv, hl⟩ := setV_bitsOf (n := bs.length) hc
      generalize bitsOf bs.length (i + 1) = l at hv hl
      cases l with
      | nil => exact absurd hv (by show ¬ 0 = i + 1; omega)
      | cons a r =>
        have ec : V.int (1 + (i : Int)) = iv (setV (a :: r)) := by
          rw [hv]
          show V.int (1 + (i : Int)) = V.int ((i + 1 : Nat) : Int)
          congr 1
          omega
        rw [ec]
        have ha : a ≤ 100 := at_nine hl hn (List.mem_cons_self ..)
        have hrl := tail_sub bs hl
        have hlt : setV r < i + 1 := by
          rw [← hv]
          have : 0 < 2 ^ a := Nat.two_pow_pos a
          show setV r < 2 ^ a + setV r
          omega
        refine ⟨_, rfl, _, rfl, _, rfl, bs.length, a, r, rfl, hl, a, rfl, rfl, by omega, _, _, rfl, rfl, g, _, _, _, rfl, rfl, SqL.of e1, at_of (j := setV r) (setV_cons_sub a r) (tabL_get hlt), ?_⟩
        refine ⟨_, rfl, _, rfl, bs.length, p, rs, alikeRows bs kk t m, a, r, rfl, sm _ _ hR1, pair_rows sm hR2, hl, hn, alike_count hn, okRows_alike hk, fun H2 q ps s2 _ d1 d2 => ?_⟩
        have e2 := s2 _ _ e1
        refine ⟨q, rfl, ⟨_, SqL.of d1⟩, ?_⟩
        refine for_list (K := K) (a := q) (xs := ps.map V.ref) (fun j σ H3 => ∃ v5, σ = [some (.ref p), some (iv bs.length), some (.ref g), some (iv (setV (a :: r))),
              some (iv (((rowsFrom (alikeRows bs kk t m) (a :: r)).take j).foldl (fun mm row => max mm (1 + tabT bs kk t m (setV (a :: r) - setV row))) (tabT bs kk t m (setV r)))), v5] ∧ Same H2 H3)
          ⟨_, rfl, Same.refl _⟩ (fun j σ H3 _ ⟨_, _, q⟩ => SqL.of (q _ _ d1)) ?_ ?_
        · rintro j x σ H3 hx ⟨v5, rfl, sm3⟩
          obtain ⟨z, hz, rfl⟩ := ref_of hx
          obtain ⟨row, hrow, hq⟩ := pair_get d2 hz
          have hmem := List.mem_of_getElem? hrow
          obtain ⟨hsub, hrlen⟩ := rowsFrom_sub bs kk t m hmem hl hk
          have hsub' := hsub.trans hl
          have hlen9 := sub_len hsub'
          obtain ⟨le, _⟩ := one_tab bs kk t m hmem hl hk
          refine ⟨_, rfl, _, rfl, _, rfl, _, rfl, z, row, rfl, hq.same sm3, by omega, fun x hx => at_nine hsub' hn hx, fun H4 s4 => ?_⟩
          have e4 := s4 _ _ (sm3 _ _ e2)
          have lt2 : setV (a :: r) - setV row < i + 1 := by
            have : 0 < setV row := by
              cases row with
              | nil => simp at hrlen; omega
              | cons y row' => exact setV_pos y row'
            omega
          refine ⟨_, _, rfl, rfl, le, g, _, _, _, rfl, rfl, SqL.of e4, at_of rfl (tabL_get lt2), 1, _, rfl, rfl, _, _, rfl, ?_⟩
          refine ⟨some (.ref z), ?_, sm3.trans s4⟩
          rw [take_more hrow, List.foldl_append, max_cast]
          rfl
        · rintro σ H3 ⟨v5, rfl, sm3⟩
          rw [List.length_map, pair_len d2, List.take_length, tab_turn bs kk t m hl hk]
          have e3 := sm3 _ _ e2
          refine ⟨_, rfl, .inl ⟨rfl, _, SqL.of e3⟩, _, rfl, g, _, _, rfl, rfl, e3, ?_, ?_⟩
          · rw [tabL_len]
            exact small_size (by omega)
          · refine ⟨_, _, _, rfl, fun b o hb => ?_, ?_⟩
            · rw [upd_ne (ne_of_none hb hg)]
              exact sm3 _ _ (s2 _ _ (sm _ _ hb))
            · rw [upd_same, tabL_succ bs kk t m (i + 1), hv]
    · rintro σ H1 ⟨v3, v4, v5, rfl, sm, e1⟩
      have ee : 2 ^ bs.length - 1 + 1 = 2 ^ bs.length := by omega
      rw [ee] at e1
      exact ⟨_, rfl, k H1 g sm e1⟩

/-! ### the first row -/
def spFirst : Sp := fun vs H Q _ => ∃ (p q : Addr) (rs : List Addr) (bs : List Bale) (k t m a : Nat) (r : List Nat), vs = [.ref p, .ref q, iv (setV (a :: r))] ∧ H p = some (.lst (rs.map V.ref)) ∧ Paired (RowAt H) rs (alikeRows bs k t m) ∧ H q = some (.lst (tabL bs k t m (2 ^ bs.length))) ∧
  (a :: r).Sublist (List.range bs.length) ∧ bs.length ≤ 9 ∧ 1 ≤ k ∧ ∀ (H' : Hp) (z : Addr), Same H H' → RowAt H' z ((nextRow bs k t m (a :: r)).getD []) → (∀ row, nextRow bs k t m (a :: r) = some row → z ∈ rs) → Q (.ref z) H'
theorem scFirst : FnScope ["rows", "table", "chosen", "row"] ["rows", "table", "chosen"] (defScope sFirst) := ⟨rfl, rfl, rfl, by decide +kernel, rfl, by decide +kernel, by decide +kernel⟩
theorem find_take {α : Type} {p : α → Bool} : ∀ {l : List α} {i : Nat} {x : α}, l[i]? = some x → (l.take i).find? p = none → p x = true → l.find? p = some x
  | [], _, _, h, _, _ => by simp at h
  | y :: l, 0, x, h, _, hp => by
    have e : y = x := Option.some.inj h
    subst e
    exact List.find?_cons_of_pos hp
  | y :: l, i + 1, x, h, hn, hp => by
    have hn' : (y :: l.take i).find? p = none := hn
    rw [List.find?_eq_none] at hn'
    have hy := hn' y (List.mem_cons_self ..)
    rw [List.find?_cons_of_neg hy]
    exact find_take (i := i) h (List.find?_eq_none.mpr fun z hz => hn' z (List.mem_cons_of_mem _ hz)) hp
theorem ok_first {f fS fR : Addr} {fd fdS fdR : FuncData} (F : Fun K "first_row" "first_row" sFirst f fd)
    (kS : PySem.W.keepIn K (.ref fS) = true) (GS : FnOk P w K mg base CX0 1 fS fdS ["row"] spSetOf) (bS : Binds K fdS ["row"] []) (gS : mg "set_of" = some (.ref fS))
    (kR : PySem.W.keepIn K (.ref fR) = true) (GR : FnOk P w K mg base CX0 2 fR fdR ["rows", "chosen"] spRowsFrom) (bR : Binds K fdR ["rows", "chosen"] []) (gR : mg "rows_from" = some (.ref fR)) :
    FnOk P w K mg base CX0 3 f fd ["rows", "table", "chosen"] spFirst := by
  refine F.ok scFirst (fun vs H Q E h => ?_) (fun cdv A outer s H vs Q E hr h => ?_)
  · obtain ⟨p, q, rs, bs, k, t, m, a, r, rfl, _⟩ := h
    rfl
  · obtain ⟨p, q, rs, bs, kk, t, m, a, r, rfl, hR1, hR2, hT, hl, hn, hk, k⟩ := h
    have hr1 : Room 1 _ := hr.mono (by decide)
    refine ⟨_, pss_cons (ps_for PassesOwn.never rfl (pi_list (pe_call GR hr (by rfl) gR kR bR .nil pass0 (pa_cons (pv 0) (pa_cons (pv 2) pa_nil)))) (pg_name (i := 3) scFirst.nd rfl (Or.inl rfl))
        (pss_one (ps_if (pt_cmpR op_eq (pe_op op_addN pe_int (pe_ix ix_list (pv 1) (pe_op op_subN (pv 2) (pe_call GS hr1 (by rfl) gS kS bS .nil pass0 (pa_cons (pv 3) pa_nil))) (fun _ _ => rfl))) (pe_ix ix_list (pv 1) (pv 2) (fun _ _ => rfl)) (nomark _))
          (pss_one (ps_ret (pv 3))) pss_nil)))
      (pss_one (ps_ret (pe_lst pa_nil))), ?_⟩
    refine ⟨_, rfl, _, rfl, bs.length, p, rs, alikeRows bs kk t m, a, r, rfl, hR1, hR2, hl, hn, alike_count hn, okRows_alike hk, fun H1 z ps s1 d0 d1 d2 => ?_⟩
    have hlt := setV_lt _ _ hl
    refine ⟨z, rfl, ⟨_, SqL.of d1⟩, ?_⟩
    refine for_list (K := K) (a := z) (xs := ps.map V.ref) (fun j σ H2 => ∃ v3, σ = [some (.ref p), some (.ref q), some (iv (setV (a :: r))), v3] ∧ Same H1 H2 ∧
        ((rowsFrom (alikeRows bs kk t m) (a :: r)).take j).find? (fun row => decide (1 + tabT bs kk t m (setV (a :: r) - setV row) = tabT bs kk t m (setV (a :: r)))) = none)
      ⟨none, rfl, Same.refl _, rfl⟩ (fun j σ H2 _ ⟨_, _, s, _⟩ => SqL.of (s _ _ d1)) ?_ ?_
    · rintro j x σ H2 hx ⟨v3, rfl, sm, ih⟩
      obtain ⟨y, hy, rfl⟩ := ref_of hx
      obtain ⟨row, hrow, hq⟩ := pair_get d2 hy
      have hmem := List.mem_of_getElem? hrow
      obtain ⟨hsub, hrlen⟩ := rowsFrom_sub bs kk t m hmem hl hk
      have hsub' := hsub.trans hl
      have hlen9 := sub_len hsub'
      obtain ⟨le, _⟩ := one_tab bs kk t m hmem hl hk
      refine ⟨_, rfl, _, rfl, _, rfl, y, row, rfl, hq.same sm, by omega, fun x hx => at_nine hsub' hn hx, fun H3 s3 => ?_⟩
      have s13 := sm.trans s3
      have eT := s13 _ _ (s1 _ _ hT)
      refine ⟨_, _, rfl, rfl, le, q, _, _, _, rfl, rfl, SqL.of eT, at_of rfl (tabL_get (by omega)), 1, _, rfl, rfl, ?_⟩
      refine ⟨_, rfl, _, rfl, q, _, _, _, rfl, rfl, SqL.of eT, at_of rfl (tabL_get hlt), rfl, _, rfl, ?_⟩
      have e5 : decide (V.int ((1 + tabT bs kk t m (setV (a :: r) - setV row) : Nat) : Int) = iv (tabT bs kk t m (setV (a :: r)))) = decide (1 + tabT bs kk t m (setV (a :: r) - setV row) = tabT bs kk t m (setV (a :: r))) := by
        apply decide_eq_decide.mpr
        constructor
        · intro h
          have := V.int.inj h
          omega
        · intro h
          rw [h]
          rfl
      by_cases c : 1 + tabT bs kk t m (setV (a :: r) - setV row) = tabT bs kk t m (setV (a :: r))
      · refine way_yes (e5.trans (decide_eq_true c)) ?_
        refine ⟨_, rfl, k H3 y (s1.trans s13) ?_ fun _ _ => d0 y (List.mem_of_getElem? hy)⟩
        have e6 : nextRow bs kk t m (a :: r) = some row := find_take hrow ih (decide_eq_true c)
        rw [e6]
        exact hq.same s13
      · refine way_no (e5.trans (decide_eq_false c)) ?_
        refine ⟨_, rfl, s13, ?_⟩
        rw [take_more hrow, List.find?_append, ih, List.find?_cons_of_neg (by simp [c])]
        rfl
    · rintro σ H2 ⟨v3, rfl, sm, ih⟩
      rw [List.length_map, pair_len d2, List.take_length] at ih
      have e6 : nextRow bs kk t m (a :: r) = none := ih
      refine ⟨Nat.zero_le _, fun y hy => k _ y ((s1.trans sm).trans (same_upd hy)) ?_ fun row z => ?_⟩
      · rw [e6]
        exact upd_same
      · rw [e6] at z
        cases z

/-! ### laid_down(bales, size, t, most) -/
def spLaid (K : PySem.W.Frag) (C : Addr) : Sp := fun vs H Q _ => ∃ (a : Addr) (bs : List Bale) (size t m : Nat), vs = [.ref a, iv size, iv t, iv m] ∧ BalesAt K C H a bs ∧ bs.length ≤ 9 ∧ OkBs bs ∧ 1 ≤ size ∧ size ≤ 9 ∧ t ≤ 500 ∧ m ≤ 500 ∧
  ∀ (H' : Hp) (p : Addr), H' p = some (.lst (((D bs size t m (List.range bs.length)).length :: (List.range bs.length).map (Kzd1.dayOf (D bs size t m (List.range bs.length)))).map iv)) → Q (.ref p) H'
theorem scLaid : FnScope ["bales", "size", "t", "most", "rows", "table", "found", "chosen", "day", "row", "number"] ["bales", "size", "t", "most"] (defScope sLaid) := ⟨rfl, rfl, rfl, by decide +kernel, rfl, by decide +kernel, by decide +kernel⟩
theorem setV_range : ∀ n : Nat, setV (List.range n) = 2 ^ n - 1
  | 0 => rfl
  | n + 1 => by
    rw [List.range_succ, setV_append, setV_range n, Nat.pow_succ]
    have : 0 < 2 ^ n := Nat.two_pow_pos n
    show 2 ^ n - 1 + (2 ^ n + 0) = _
    omega
theorem rep_flat (n : Nat) (x : V) : (List.replicate n [x]).flatten = List.replicate n x := by
  induction n with
  | zero => rfl
  | succ n ih =>
    rw [List.replicate_succ, List.flatten_cons, ih, List.replicate_succ]
    rfl
theorem days_none (n : Nat) : (List.range n).map (Kzd1.dayOf []) = List.replicate n 0 := by
  apply List.ext_getElem?
  intro i
  by_cases h : i < n
  · simp [h, dayOf_nil]
  · simp [h]
theorem dayRow_len (n : Nat) (tk : List (List Nat)) (s : List Nat) : (dayRow n tk s).length = n := by
  unfold dayRow
  simp
theorem ixN_nat {n j : Nat} (h : j < n) : ixN n (j : Int) = some j := by
  unfold ixN
  rw [if_pos (by omega), if_pos (by omega)]
  simp
theorem ok_laid {f fA fM fF fL fS : Addr} {fd fdA fdM fdF fdL fdS : FuncData} (F : Fun K "laid_down" "laid_down" sLaid f fd) (B : TBlt mg)
    (kA : PySem.W.keepIn K (.ref fA) = true) (GA : FnOk P w K mg base CX0 4 fA fdA ["bales", "size", "t", "most"] (spAlike K C)) (bA : Binds K fdA ["bales", "size", "t", "most"] []) (gA : mg "alike_rows" = some (.ref fA))
    (kM : PySem.W.keepIn K (.ref fM) = true) (GM : FnOk P w K mg base CX0 3 fM fdM ["rows", "many"] spMost) (bM : Binds K fdM ["rows", "many"] []) (gM : mg "most_days" = some (.ref fM))
    (kF : PySem.W.keepIn K (.ref fF) = true) (GF : FnOk P w K mg base CX0 3 fF fdF ["rows", "table", "chosen"] spFirst) (bF : Binds K fdF ["rows", "table", "chosen"] []) (gF : mg "first_row" = some (.ref fF))
    (kL : PySem.W.keepIn K (.ref fL) = true) (GL : FnOk P w K mg base CX0 1 fL fdL ["chosen"] spLeast) (bL : Binds K fdL ["chosen"] []) (gL : mg "least_in" = some (.ref fL))
    (kS : PySem.W.keepIn K (.ref fS) = true) (GS : FnOk P w K mg base CX0 1 fS fdS ["row"] spSetOf) (bS : Binds K fdS ["row"] []) (gS : mg "set_of" = some (.ref fS)) :
    FnOk P w K mg base CX0 5 f fd ["bales", "size", "t", "most"] (spLaid K C) := by
  refine F.ok scLaid (fun vs H Q E h => ?_) (fun cdv A outer s H vs Q E hr h => ?_)
  · obtain ⟨a, bs, size, t, m, rfl, _⟩ := h
    rfl
  · obtain ⟨a, bs, size, t, m, rfl, hB, hn, hok, h1, h2, ht, hm, k⟩ := h
    have hr1 : Room 1 _ := hr.mono (by decide)
    have hr3 : Room 3 _ := hr.mono (by decide)
    obtain ⟨pb, hS, hP⟩ := id hB
    have el : ((pb.map V.ref).length : Int) = (bs.length : Int) := by rw [List.length_map, pair_len hP]
    refine ⟨_, pss_cons (ps_set (i := 4) scLaid.nd rfl (.inl rfl) (pe_call GA hr (by rfl) gA kA bA .nil pass0 (pa_cons (pv 0) (pa_cons (pv 1) (pa_cons (pv 2) (pa_cons (pv 3) pa_nil))))))
      (pss_cons (ps_set (i := 5) scLaid.nd rfl (.inl rfl) (pe_call GM hr3 (by rfl) gM kM bM .nil pass0 (pa_cons (pv 4) (pa_cons (pe_callB call_len_seq (by rfl) B.len PySem.boot_len (pa_cons (pv 0) pa_nil)) pa_nil))))
      (pss_cons (ps_set (i := 6) scLaid.nd rfl (.inl rfl) (pe_op op_rep (pe_lst (pa_cons pe_int pa_nil)) (pe_callB call_len_seq (by rfl) B.len PySem.boot_len (pa_cons (pv 0) pa_nil))))
      (pss_cons (ps_set (i := 7) scLaid.nd rfl (.inl rfl) (pe_op op_sub (pe_op op_oneShl pe_int (pe_callB call_len_seq (by rfl) B.len PySem.boot_len (pa_cons (pv 0) pa_nil))) pe_int))
      (pss_cons (ps_set (i := 8) scLaid.nd rfl (.inl rfl) pe_int)
      (pss_cons (ps_while PassesOwn.never (pt_cmpR op_gt (pv 7) pe_int (nomark _))
        (pss_cons (ps_set (i := 9) scLaid.nd rfl (.inl rfl) (pe_call GF hr3 (by rfl) gF kF bF .nil pass0 (pa_cons (pv 4) (pa_cons (pv 5) (pa_cons (pv 7) pa_nil)))))
        (pss_one (ps_if (pt_cmpR op_eq (pe_callB call_len_seq (by rfl) B.len PySem.boot_len (pa_cons (pv 9) pa_nil)) pe_int (nomark _))
          (pss_one (ps_set (i := 7) scLaid.nd rfl (.inl rfl) (pe_op op_sub (pv 7) (pe_op op_oneShl pe_int (pe_call GL hr1 (by rfl) gL kL bL .nil pass0 (pa_cons (pv 7) pa_nil))))))
          (pss_cons (ps_set (i := 8) scLaid.nd rfl (.inl rfl) (pe_op op_addN (pv 8) pe_int))
          (pss_cons (ps_for PassesOwn.never rfl (pi_list (pv 9)) (pg_name (i := 10) scLaid.nd rfl (Or.inl rfl)) (pss_one (ps_asg (pv 8) (pg_sub (pv 6) (pv 10) set_list))))
          (pss_one (ps_set (i := 7) scLaid.nd rfl (.inl rfl) (pe_op op_subN (pv 7) (pe_call GS hr1 (by rfl) gS kS bS .nil pass0 (pa_cons (pv 9) pa_nil)))))))))))
      (pss_one (ps_ret (pe_op op_cat (pe_lst (pa_cons (pv 8) pa_nil)) (pv 6))))))))), ?_⟩
    -- rows, table
    refine ⟨_, rfl, _, rfl, _, rfl, _, rfl, a, bs, size, t, m, rfl, hB, hn, hok, h1, h2, ht, hm, fun H1 rp s1 R1 => ?_⟩
    obtain ⟨rs, r1, r2⟩ := R1
    refine ⟨_, rfl, _, rfl, a, _, rfl, .inl (s1.seq hS), rp, bs, size, t, m, by rw [el]; rfl, ⟨rs, r1, r2⟩, hn, h1, fun H2 tp s2 T2 => ?_⟩
    have s12 := s1.trans s2
    -- found
    refine ⟨by show 1 ≤ sizeLine; decide, fun z hz => ?_⟩
    have s3 : Same H2 (upd H2 z (.lst [.int 0])) := same_upd hz
    refine ⟨_, rfl, a, _, rfl, .inl ((s12.trans s3).seq hS), z, _, _, rfl, rfl, upd_same, by omega, by omega, ?_, fun g hg => ?_⟩
    · rw [el, Int.toNat_natCast]
      exact small_size' (by show 1 * bs.length ≤ _; omega)
    · rw [el, Int.toNat_natCast, rep_flat]
      have hg2 : H2 g = none := s3.free hg
      have hgH : H g = none := s12.free hg2
      have s4 : Same H2 (upd (upd H2 z (.lst [.int 0])) g (.lst (List.replicate bs.length (.int 0)))) := s3.trans (same_upd hg)
      -- chosen, day
      refine ⟨_, rfl, a, _, rfl, .inl ((s12.trans s4).seq hS), bs.length, rfl, by rw [el], by omega, _, _, rfl, rfl, ?_⟩
      -- the way down
      refine ⟨fun mm σ H3 => ∃ (l : List Nat) (tk : List (List Nat)) (v9 v10 : Option V), l.length = mm ∧ l.Sublist (List.range bs.length) ∧
          σ = [some (.ref a), some (iv size), some (iv t), some (iv m), some (.ref rp), some (.ref tp), some (.ref g), some (iv (setV l)), some (iv tk.length), v9, v10] ∧
          D bs size t m (List.range bs.length) = tk ++ D bs size t m l ∧ (∀ s ∈ tk, ∀ i ∈ s, i ∉ l) ∧ Same H2 H3 ∧ H3 g = some (.lst (((List.range bs.length).map (Kzd1.dayOf tk)).map iv)),
        ⟨_, List.range bs.length, [], none, none, rfl, List.Sublist.refl _, ?_, rfl, (fun _ h => nomatch h), s4, ?_⟩, ?_⟩
      · have e : V.int ((2 : Int) ^ bs.length - 1) = iv (setV (List.range bs.length)) := by
          rw [setV_range, ← pow_cast]
          have : 0 < 2 ^ bs.length := Nat.two_pow_pos _
          show V.int (((2 ^ bs.length : Nat) : Int) - 1) = V.int ((2 ^ bs.length - 1 : Nat) : Int)
          congr 1
          omega
        show [some (V.ref a), some (iv size), some (iv t), some (iv m), some (V.ref rp), some (V.ref tp), some (V.ref g), some (V.int ((2 : Int) ^ bs.length - 1)), some (V.int 0), none, none] = _
        rw [e]
        rfl
      · rw [upd_same, days_none, List.map_replicate]
        rfl
      · rintro mm σ H3 ⟨l, tk, v9, v10, rfl, hl, rfl, hD, hdis, sm, e3⟩
        refine ⟨_, rfl, _, _, rfl, rfl, _, rfl, ?_⟩
        cases l with
        | nil =>
          refine way_no (decide_eq_false (by show ¬ (0 : Int) < ((0 : Nat) : Int); omega)) ?_
          rw [D_nil, List.append_nil] at hD
          refine ⟨_, rfl, by show 1 ≤ sizeLine; decide, fun y hy => ?_⟩
          refine ⟨_, rfl, y, g, _, _, rfl, rfl, upd_same, same_upd hy _ _ e3, ?_, fun q hq => k _ q ?_⟩
          · rw [List.length_map, List.length_map, List.length_range]
            exact small_size' (by show 1 + bs.length ≤ _; omega)
          · rw [upd_same, hD]
            rfl
        | cons b r =>
          have hpos := setV_pos b r
          refine way_yes (decide_eq_true (by show (0 : Int) < ((setV (b :: r) : Nat) : Int); omega)) ?_
          refine ⟨fun σ' H' => ∃ mm', mm' < (b :: r).length ∧ ∃ (l : List Nat) (tk : List (List Nat)) (v9 v10 : Option V), l.length = mm' ∧ l.Sublist (List.range bs.length) ∧
            σ' = [some (.ref a), some (iv size), some (iv t), some (iv m), some (.ref rp), some (.ref tp), some (.ref g), some (iv (setV l)), some (iv tk.length), v9, v10] ∧
            D bs size t m (List.range bs.length) = tk ++ D bs size t m l ∧ (∀ s ∈ tk, ∀ i ∈ s, i ∉ l) ∧ Same H2 H' ∧ H' g = some (.lst (((List.range bs.length).map (Kzd1.dayOf tk)).map iv)), fun σ' H' h => h, ?_⟩
          have hnx := D_next bs size t m hl h1
          refine ⟨_, rfl, _, rfl, _, rfl, rp, tp, rs, bs, size, t, m, b, r, rfl, sm _ _ (s2 _ _ r1), pair_rows (s2.trans sm) r2, sm _ _ T2, hl, hn, h1, fun H4 x s4' X4 hx => ?_⟩
          have sm4 := sm.trans s4'
          have e4 := s4' _ _ e3
          refine ⟨_, rfl, x, _, rfl, .inl (SqL.of X4), rfl, _, rfl, ?_⟩
          cases en : nextRow bs size t m (b :: r) with
          | none =>
            rw [en] at hnx X4
            refine way_yes (decide_eq_true rfl) ?_
            refine ⟨_, rfl, _, rfl, bs.length, b, r, rfl, hl, b, rfl, rfl, by have := at_nine hl hn (List.mem_cons_self ..); omega, _, _, rfl, rfl, ?_⟩
            refine ⟨r.length, Nat.lt_succ_self _, r, tk, some (.ref x), v10, rfl, tail_sub bs hl, ?_, by rw [hD, hnx], fun s hs i hi z => hdis s hs i hi (List.mem_cons_of_mem _ z), sm4, e4⟩
            show [_, _, _, _, _, _, _, some (V.int (((setV (b :: r) : Nat) : Int) - (2 : Int) ^ b)), _, _, _] = _
            rw [setV_cons_sub]
            rfl
          | some row =>
            rw [en] at hnx X4
            have X5 : RowAt H4 x row := X4
            have hmem := next_mem bs size t m en
            obtain ⟨hsub, hrlen⟩ := rowsFrom_sub bs size t m hmem hl h1
            have hsub' := hsub.trans hl
            have hlen9 := sub_len hsub'
            obtain ⟨le, _⟩ := one_tab bs size t m hmem hl h1
            have hrow0 : row ≠ [] := fun z => by
              rw [z] at hrlen
              simp at hrlen
              omega
            have hfree : ∀ i ∈ row, ∀ s ∈ tk, i ∉ s := fun i hi s hs z => hdis s hs i z (hsub.subset hi)
            refine way_no ?_ ?_
            · apply decide_eq_false
              intro z
              have z2 : (((row.map iv).length : Nat) : Int) = 0 := V.int.inj z
              rw [List.length_map] at z2
              omega
            · refine ⟨_, rfl, tk.length, 1, rfl, rfl, ?_⟩
              refine ⟨_, rfl, x, rfl, ⟨_, SqL.of X5⟩, ?_⟩
              -- the row's own list is none of the days'
              have hxg : x ≠ g := by
                obtain ⟨j, hj⟩ := List.mem_iff_getElem?.mp (hx row en)
                obtain ⟨_, _, q⟩ := pair_get r2 hj
                exact ne_of_none (s2 _ _ q) hg2
              · refine for_list (K := K) (a := x) (xs := row.map iv) (fun j σ H5 => ∃ w10, σ = [some (.ref a), some (iv size), some (iv t), some (iv m), some (.ref rp), some (.ref tp), some (.ref g), some (iv (setV (b :: r))), some (iv (tk.length + 1)), some (.ref x), w10] ∧
                    Same H2 H5 ∧ H5 x = some (.lst (row.map iv)) ∧ H5 g = some (.lst ((dayRow bs.length tk (row.take j)).map iv)))
                  ⟨v10, rfl, sm4, X5, by rw [List.take_zero, dayRow_nil]; exact e4⟩ (fun j σ H5 _ ⟨_, _, _, q, _⟩ => SqL.of q) ?_ ?_
                · rintro j y σ H5 hy ⟨w10, rfl, sm5, X6, e5⟩
                  obtain ⟨n, hnr, rfl⟩ := iv_of hy
                  have hnl : n < bs.length := List.mem_range.mp (hsub'.subset (List.mem_of_getElem? hnr))
                  refine ⟨_, rfl, _, rfl, _, rfl, g, _, _, n, rfl, rfl, e5, ixN_nat (by rw [List.length_map, dayRow_len]; exact hnl), ?_⟩
                  refine ⟨_, rfl, fun c o hc => ?_, by rw [upd_ne hxg]; exact X6, ?_⟩
                  · rw [upd_ne (ne_of_none hc hg2)]
                    exact sm5 _ _ hc
                  · rw [upd_same, take_more hnr, ← dayRow_set hnl, List.map_set]
                · rintro σ H5 ⟨w10, rfl, sm5, X6, e5⟩
                  rw [List.length_map, List.take_length, dayRow_all hfree] at e5
                  refine ⟨_, rfl, _, rfl, x, row, rfl, X6, by omega, fun y hy => at_nine hsub' hn hy, fun H6 s6 => ⟨setV (b :: r), setV row, rfl, rfl, le, ?_⟩⟩
                  have hsv := setV_left hsub (nodup_sub hl)
                  have ev : setV (b :: r) - setV row = setV (left (b :: r) row) := by omega
                  refine ⟨(left (b :: r) row).length, ?_, left (b :: r) row, tk ++ [row], some (.ref x), w10, rfl, (left_sub _ _).trans hl, ?_, ?_, fun s hs i hi z => ?_, sm5.trans s6, s6 _ _ e5⟩
                  · have hlb : (left (b :: r) row).length < (b :: r).length := by
                      have h3 := left_len hsub (nodup_sub hl)
                      omega
                    exact hlb
                  · rw [ev, List.length_append]
                    rfl
                  · rw [hD, hnx, List.append_assoc]
                    rfl
                  · have zl := List.mem_filter.mp z
                    rcases List.mem_append.mp hs with hs | hs
                    · exact hdis s hs i hi zl.1
                    · have es : s = row := by simpa using hs
                      rw [es] at hi
                      simp [hi] at zl
end
end Bm
namespace Bm
open PySem PySem.Spec PyProof.Rows L2
open Kzd1 (Bale)
/-! ### is_length, is_a_day, days -/
abbrev sIsLength : Stmt := top 26
abbrev sIsADay : Stmt := top 27
abbrev sDays : Stmt := top 30
section
variable {P : Program} {w : World} {K : PySem.W.Frag} {mg : Str → Option Value} {base : Heap} {C G : Addr}
def spIsLength : Sp := fun vs H Q _ => ∃ n : Nat, vs = [iv n] ∧ Q (.bl (decide (n ≤ 500))) H
theorem scIsLength : FnScope ["number"] ["number"] (defScope sIsLength) := ⟨rfl, rfl, rfl, by decide +kernel, rfl, by decide +kernel, by decide +kernel⟩
theorem ok_is_length {f : Addr} {fd : FuncData} (F : Fun K "is_length" "is_length" sIsLength f fd) (L : TLook mg) : FnOk P w K mg base CX0 1 f fd ["number"] spIsLength := by
  refine F.ok scIsLength (fun vs H Q E h => ?_) (fun cdv A outer s H vs Q E hr h => ?_)
  · obtain ⟨n, rfl, _⟩ := h
    rfl
  · obtain ⟨n, rfl, k⟩ := h
    obtain ⟨tL, gL⟩ := L.mL
    refine ⟨_, pss_one (ps_ret (pe_cmpR op_le (pv 0) (pe_glob (v := .int 500) rfl gL ⟨_, rfl⟩) (nomark _))), ?_⟩
    refine ⟨_, rfl, _, _, rfl, rfl, ?_⟩
    have e : decide ((n : Int) ≤ 500) = decide (n ≤ 500) := decide_eq_decide.mpr (by omega)
    rw [← e] at k
    exact k
def spRange (m : Nat) : Sp := fun vs H Q _ => ∃ n : Nat, vs = [iv n] ∧ Q (.bl (decide (1 ≤ n ∧ n ≤ m))) H
theorem scIsADay : FnScope ["number"] ["number"] (defScope sIsADay) := ⟨rfl, rfl, rfl, by decide +kernel, rfl, by decide +kernel, by decide +kernel⟩
theorem ok_is_a_day {f : Addr} {fd : FuncData} (F : Fun K "is_a_day" "is_a_day" sIsADay f fd) (hM : ∃ t, mg "MOST_A_DAY" = some (.int 4 t)) : FnOk P w K mg base CX0 1 f fd ["number"] (spRange 4) := by
  refine F.ok scIsADay (fun vs H Q E h => ?_) (fun cdv A outer s H vs Q E hr h => ?_)
  · obtain ⟨n, rfl, _⟩ := h
    rfl
  · obtain ⟨n, rfl, k⟩ := h
    obtain ⟨tM, gM⟩ := hM
    refine ⟨_, pss_one (ps_ret (pe_chain op_le op_le pe_int (pv 0) (pe_glob (v := .int 4) rfl gM ⟨_, rfl⟩))), ?_⟩
    refine ⟨_, rfl, _, _, rfl, rfl, _, rfl, ite2 (fun e => ?_) (fun e => ?_)⟩
    · have e1 := of_decide_eq_true e
      refine ⟨_, _, rfl, rfl, ?_⟩
      have e2 : decide ((n : Int) ≤ 4) = decide (1 ≤ n ∧ n ≤ 4) := decide_eq_decide.mpr (by omega)
      rw [← e2] at k
      exact k
    · have e1 : ¬ (1 : Int) ≤ (n : Int) := fun z => e (decide_eq_true z)
      have e2 : false = decide (1 ≤ n ∧ n ≤ 4) := (decide_eq_false (by omega)).symm
      rw [e2]
      exact k
def spDays (K : PySem.W.Frag) : Sp := fun vs H Q _ => ∃ (a : Addr) (kk t m : Nat) (l : List Nat), vs = [iv kk, iv t, iv m, .ref a] ∧ SqL K H a (l.map iv) ∧ l.length ≤ 20 ∧
  ∀ (H' : Hp) (p : Addr), H' p = some (.lst ((PyKzd1.days kk t m (iz l)).map V.int)) → Q (.ref p) H'
theorem scDays : FnScope ["k", "t", "tol", "bales"] ["k", "t", "tol", "bales"] (defScope sDays) := ⟨rfl, rfl, rfl, by decide +kernel, rfl, by decide +kernel, by decide +kernel⟩
theorem ok_days {f fA fB fK fL fN : Addr} {fd fdA fdB fdK fdL fdN : FuncData} (F : Fun K "days" "days" sDays f fd) (gR : ∃ t, mg "WRONG" = some (.int (-22) t))
    (kA : PySem.W.keepIn K (.ref fA) = true) (GA : FnOk P w K mg base CX0 2 fA fdA ["numbers"] (spAre K)) (bA : Binds K fdA ["numbers"] []) (gA : mg "are_bales" = some (.ref fA))
    (kB : PySem.W.keepIn K (.ref fB) = true) (GB : FnOk P w K mg base CX0 3 fB fdB ["numbers"] (spBalesOf K C)) (bB : Binds K fdB ["numbers"] []) (gB : mg "bales_of" = some (.ref fB))
    (kK : PySem.W.keepIn K (.ref fK) = true) (GK : FnOk P w K mg base CX0 1 fK fdK ["number"] (spRange 4)) (bK : Binds K fdK ["number"] []) (gK : mg "is_a_day" = some (.ref fK))
    (kL : PySem.W.keepIn K (.ref fL) = true) (GL : FnOk P w K mg base CX0 1 fL fdL ["number"] spIsLength) (bL : Binds K fdL ["number"] []) (gL : mg "is_length" = some (.ref fL))
    (kN : PySem.W.keepIn K (.ref fN) = true) (GN : FnOk P w K mg base CX0 5 fN fdN ["bales", "size", "t", "most"] (spLaid K C)) (bN : Binds K fdN ["bales", "size", "t", "most"] []) (gN : mg "laid_down" = some (.ref fN)) :
    FnOk P w K mg base CX0 6 f fd ["k", "t", "tol", "bales"] (spDays K) := by
  refine F.ok scDays (fun vs H Q E h => ?_) (fun cdv A outer s H vs Q E hr h => ?_)
  · obtain ⟨a, kk, t, m, l, rfl, _⟩ := h
    rfl
  · obtain ⟨a, kk, t, m, l, rfl, hS, hlen, k⟩ := h
    obtain ⟨tR, gR⟩ := gR
    have hr1 : Room 1 _ := hr.mono (by decide)
    have hr2 : Room 2 _ := hr.mono (by decide)
    have hr3 : Room 3 _ := hr.mono (by decide)
    refine ⟨_, pss_cons (ps_if (PW.pt (pw_or (pt_not (pt_val (pe_call GA hr2 (by rfl) gA kA bA .nil pass0 (pa_cons (pv 3) pa_nil))))
          (pw_or (pt_not (pt_val (pe_call GK hr1 (by rfl) gK kK bK .nil pass0 (pa_cons (pv 0) pa_nil))))
          (pw_or (pt_not (pt_val (pe_call GL hr1 (by rfl) gL kL bL .nil pass0 (pa_cons (pv 1) pa_nil))))
          (pw_or1 (pt_not (pt_val (pe_call GL hr1 (by rfl) gL kL bL .nil pass0 (pa_cons (pv 2) pa_nil)))))))))
        (pss_one (ps_ret (pe_lst (pa_cons (pe_glob (v := .int (-22)) rfl gR ⟨_, rfl⟩) pa_nil)))) pss_nil)
      (pss_one (ps_ret (pe_call GN hr (by rfl) gN kN bN .nil pass0 (pa_cons (pe_call GB hr3 (by rfl) gB kB bB .nil pass0 (pa_cons (pv 3) pa_nil)) (pa_cons (pv 0) (pa_cons (pv 1) (pa_cons (pv 2) pa_nil))))))), ?_⟩
    have wrong : ¬ daysOk kk t m l → ∀ p : Addr, H p = none → Q (.ref p) (upd H p (.lst [.int (-22)])) := fun hn p hp => by
      refine k _ p ?_
      rw [upd_same, days_bad hn]
      rfl
    refine ⟨_, rfl, a, l, rfl, hS, hlen, _, rfl, ?_⟩
    cases e1 : Kzd1.good l with
    | false =>
      refine way_yes rfl (way_yes rfl ⟨by show 1 ≤ sizeLine; decide, fun p hp => wrong (fun z => ?_) p hp⟩)
      have q := z.1
      rw [e1] at q
      cases q
    | true =>
      refine way_no rfl ⟨_, rfl, kk, rfl, _, rfl, ?_⟩
      by_cases e2 : 1 ≤ kk ∧ kk ≤ 4
      · refine way_no (by rw [decide_eq_true e2]; rfl) ⟨_, rfl, t, rfl, _, rfl, ?_⟩
        by_cases e3 : t ≤ 500
        · refine way_no (by rw [decide_eq_true e3]; rfl) ⟨_, rfl, m, rfl, _, rfl, ?_⟩
          by_cases e4 : m ≤ 500
          · refine way_no (by rw [decide_eq_true e4]; rfl) ?_
            have ok : daysOk kk t m l := ⟨e1, e2, e3, e4⟩
            obtain ⟨g1, g2, g3, g4⟩ := good_of e1
            refine ⟨_, rfl, a, l, rfl, hS, g1, hlen, fun H1 p s1 hB => ?_⟩
            refine ⟨_, rfl, _, rfl, _, rfl, p, _, kk, t, m, rfl, hB, g4, g3, e2.1, by omega, e3, e4, fun H2 q hq => ?_⟩
            refine k _ q ?_
            rw [hq, days_good ok, ← iv_map]
          · refine way_yes (by rw [decide_eq_false e4]; rfl) ⟨by show 1 ≤ sizeLine; decide, fun p hp => wrong (fun z => e4 z.2.2.2) p hp⟩
        · refine way_yes (by rw [decide_eq_false e3]; rfl) (way_yes rfl ⟨by show 1 ≤ sizeLine; decide, fun p hp => wrong (fun z => e3 z.2.2.1) p hp⟩)
      · refine way_yes (by rw [decide_eq_false e2]; rfl) (way_yes rfl ⟨by show 1 ≤ sizeLine; decide, fun p hp => wrong (fun z => e2 z.2.1) p hp⟩)
end
end Bm
namespace Bm
open PySem PySem.Spec PyProof.Rows L2
open PySem.W (Codec)
theorem all_nonneg {l : List Int} (h : l.all (Codec.inInt 0 4294967295) = true) : ∀ x ∈ l, 0 ≤ x := fun x hx => by
  have q := List.all_eq_true.mp h x hx
  unfold Codec.inInt at q
  simp only [Bool.and_eq_true, decide_eq_true_eq] at q
  exact q.1
theorem nat_of {x : Int} (h : Codec.inInt 0 4294967295 x = true) : ((x.toNat : Nat) : Int) = x := by
  unfold Codec.inInt at h
  simp only [Bool.and_eq_true, decide_eq_true_eq] at h
  omega
/-! ### the end: what the top has written -/
theorem all_mk {P : Program} {w : World} {K : PySem.W.Frag} {h : Heap} {mg : Str → Option Value} {fa C CG fBi fGi fGw fBo fWe fMo fGo fCh fLr fAl fAk fSo fLi fRf fMd fFr fLd fIb fAr fIl fIa fDy : Addr} (X : K.In h) (G : h.Ns mainGlobals mg) (hfa : mg "days" = some (.ref fa))
    {odBi anBi odGi anGi odGw anGw odBo anBo odWe anWe odMo anMo odGo anGo odCh anCh odLr anLr odAl anAl odAk anAk odSo anSo odLi anLi odRf anRf odMd anMd odFr anFr odLd anLd odIb anIb odAr anAr odIl anIl odIa anIa odDy anDy : Option Addr} {slBi slGi slGw slBo slWe slMo slGo slCh slLr slAl slAk slSo slLi slRf slMd slFr slLd slIb slAr slIl slIa slDy : Array (Option Value)} {ocBi kVBi dcBi pmBi cdBi ctBi ocGi kVGi dcGi pmGi cdGi ctGi ocGw kVGw dcGw pmGw cdGw ctGw ocBo kVBo dcBo pmBo cdBo ctBo ocWe kVWe dcWe pmWe cdWe ctWe ocMo kVMo dcMo pmMo cdMo ctMo ocGo kVGo dcGo pmGo cdGo ctGo ocCh kVCh dcCh pmCh cdCh ctCh ocLr kVLr dcLr pmLr cdLr ctLr ocAl kVAl dcAl pmAl cdAl ctAl ocAk kVAk dcAk pmAk cdAk ctAk ocSo kVSo dcSo pmSo cdSo ctSo ocLi kVLi dcLi pmLi cdLi ctLi ocRf kVRf dcRf pmRf cdRf ctRf ocMd kVMd dcMd pmMd cdMd ctMd ocFr kVFr dcFr pmFr cdFr ctFr ocLd kVLd dcLd pmLd cdLd ctLd ocIb kVIb dcIb pmIb cdIb ctIb ocAr kVAr dcAr pmAr cdAr ctAr ocIl kVIl dcIl pmIl cdIl ctIl ocIa kVIa dcIa pmIa cdIa ctIa ocDy kVDy dcDy pmDy cdDy ctDy : Value} {tMOST_BALES tMOST_WEIGHT tMOST_LENGTH tMOST_A_DAY tWRONG : Tok}
    (aC : PySem.W.nsIn K mainGlobals "Bale" = some (some (.ref C)))
    (aCG : PySem.W.nsIn K mainGlobals "Gap" = some (some (.ref CG)))
    (aBi : PySem.W.findIn K (.ref C) "__init__" = some (some (.ref fBi)))
    (iBi : PySem.W.isFn K (.ref fBi) = true)
    (lBi : K.lookup fBi = some ⟨ocBi, odBi, .func (PySem.W.fnOf "__init__" "Bale.__init__" (defArgs sBale) (defBody sBale) (defScope sBale) .none kVBi dcBi pmBi anBi cdBi ctBi), slBi⟩)
    (cBi : PySem.W.codeIn K cdBi "Bale.__init__" = true)
    (kBi : PySem.W.keepIn K (.ref fBi) = true)
    (aGi : PySem.W.findIn K (.ref CG) "__init__" = some (some (.ref fGi)))
    (iGi : PySem.W.isFn K (.ref fGi) = true)
    (lGi : K.lookup fGi = some ⟨ocGi, odGi, .func (PySem.W.fnOf "__init__" "Gap.__init__" (defArgs sGap) (defBody sGap) (defScope sGap) .none kVGi dcGi pmGi anGi cdGi ctGi), slGi⟩)
    (cGi : PySem.W.codeIn K cdGi "Gap.__init__" = true)
    (kGi : PySem.W.keepIn K (.ref fGi) = true)
    (aGw : PySem.W.findIn K (.ref CG) "is_within" = some (some (.ref fGw)))
    (iGw : PySem.W.isFn K (.ref fGw) = true)
    (lGw : K.lookup fGw = some ⟨ocGw, odGw, .func (PySem.W.fnOf "is_within" "Gap.is_within" (defArgs sWithin) (defBody sWithin) (defScope sWithin) .none kVGw dcGw pmGw anGw cdGw ctGw), slGw⟩)
    (cGw : PySem.W.codeIn K cdGw "Gap.is_within" = true)
    (kGw : PySem.W.keepIn K (.ref fGw) = true)
    (aBo : PySem.W.nsIn K mainGlobals "bales_of" = some (some (.ref fBo)))
    (lBo : K.lookup fBo = some ⟨ocBo, odBo, .func (PySem.W.fnOf "bales_of" "bales_of" (defArgs sBalesOf) (defBody sBalesOf) (defScope sBalesOf) .none kVBo dcBo pmBo anBo cdBo ctBo), slBo⟩)
    (cBo : PySem.W.codeIn K cdBo "bales_of" = true)
    (kBo : PySem.W.keepIn K (.ref fBo) = true)
    (aWe : PySem.W.nsIn K mainGlobals "weight_of" = some (some (.ref fWe)))
    (lWe : K.lookup fWe = some ⟨ocWe, odWe, .func (PySem.W.fnOf "weight_of" "weight_of" (defArgs sWeight) (defBody sWeight) (defScope sWeight) .none kVWe dcWe pmWe anWe cdWe ctWe), slWe⟩)
    (cWe : PySem.W.codeIn K cdWe "weight_of" = true)
    (kWe : PySem.W.keepIn K (.ref fWe) = true)
    (aMo : PySem.W.nsIn K mainGlobals "moment_of" = some (some (.ref fMo)))
    (lMo : K.lookup fMo = some ⟨ocMo, odMo, .func (PySem.W.fnOf "moment_of" "moment_of" (defArgs sMoment) (defBody sMoment) (defScope sMoment) .none kVMo dcMo pmMo anMo cdMo ctMo), slMo⟩)
    (cMo : PySem.W.codeIn K cdMo "moment_of" = true)
    (kMo : PySem.W.keepIn K (.ref fMo) = true)
    (aGo : PySem.W.nsIn K mainGlobals "gap_of" = some (some (.ref fGo)))
    (lGo : K.lookup fGo = some ⟨ocGo, odGo, .func (PySem.W.fnOf "gap_of" "gap_of" (defArgs sGapOf) (defBody sGapOf) (defScope sGapOf) .none kVGo dcGo pmGo anGo cdGo ctGo), slGo⟩)
    (cGo : PySem.W.codeIn K cdGo "gap_of" = true)
    (kGo : PySem.W.keepIn K (.ref fGo) = true)
    (aCh : PySem.W.nsIn K mainGlobals "chosen_bales" = some (some (.ref fCh)))
    (lCh : K.lookup fCh = some ⟨ocCh, odCh, .func (PySem.W.fnOf "chosen_bales" "chosen_bales" (defArgs sChosen) (defBody sChosen) (defScope sChosen) .none kVCh dcCh pmCh anCh cdCh ctCh), slCh⟩)
    (cCh : PySem.W.codeIn K cdCh "chosen_bales" = true)
    (kCh : PySem.W.keepIn K (.ref fCh) = true)
    (aLr : PySem.W.nsIn K mainGlobals "longer_rows" = some (some (.ref fLr)))
    (lLr : K.lookup fLr = some ⟨ocLr, odLr, .func (PySem.W.fnOf "longer_rows" "longer_rows" (defArgs sLonger) (defBody sLonger) (defScope sLonger) .none kVLr dcLr pmLr anLr cdLr ctLr), slLr⟩)
    (cLr : PySem.W.codeIn K cdLr "longer_rows" = true)
    (kLr : PySem.W.keepIn K (.ref fLr) = true)
    (aAl : PySem.W.nsIn K mainGlobals "all_rows" = some (some (.ref fAl)))
    (lAl : K.lookup fAl = some ⟨ocAl, odAl, .func (PySem.W.fnOf "all_rows" "all_rows" (defArgs sAll) (defBody sAll) (defScope sAll) .none kVAl dcAl pmAl anAl cdAl ctAl), slAl⟩)
    (cAl : PySem.W.codeIn K cdAl "all_rows" = true)
    (kAl : PySem.W.keepIn K (.ref fAl) = true)
    (aAk : PySem.W.nsIn K mainGlobals "alike_rows" = some (some (.ref fAk)))
    (lAk : K.lookup fAk = some ⟨ocAk, odAk, .func (PySem.W.fnOf "alike_rows" "alike_rows" (defArgs sAlike) (defBody sAlike) (defScope sAlike) .none kVAk dcAk pmAk anAk cdAk ctAk), slAk⟩)
    (cAk : PySem.W.codeIn K cdAk "alike_rows" = true)
    (kAk : PySem.W.keepIn K (.ref fAk) = true)
    (aSo : PySem.W.nsIn K mainGlobals "set_of" = some (some (.ref fSo)))
    (lSo : K.lookup fSo = some ⟨ocSo, odSo, .func (PySem.W.fnOf "set_of" "set_of" (defArgs sSetOf) (defBody sSetOf) (defScope sSetOf) .none kVSo dcSo pmSo anSo cdSo ctSo), slSo⟩)
    (cSo : PySem.W.codeIn K cdSo "set_of" = true)
    (kSo : PySem.W.keepIn K (.ref fSo) = true)
    (aLi : PySem.W.nsIn K mainGlobals "least_in" = some (some (.ref fLi)))
    (lLi : K.lookup fLi = some ⟨ocLi, odLi, .func (PySem.W.fnOf "least_in" "least_in" (defArgs sLeast) (defBody sLeast) (defScope sLeast) .none kVLi dcLi pmLi anLi cdLi ctLi), slLi⟩)
    (cLi : PySem.W.codeIn K cdLi "least_in" = true)
    (kLi : PySem.W.keepIn K (.ref fLi) = true)
    (aRf : PySem.W.nsIn K mainGlobals "rows_from" = some (some (.ref fRf)))
    (lRf : K.lookup fRf = some ⟨ocRf, odRf, .func (PySem.W.fnOf "rows_from" "rows_from" (defArgs sRowsFrom) (defBody sRowsFrom) (defScope sRowsFrom) .none kVRf dcRf pmRf anRf cdRf ctRf), slRf⟩)
    (cRf : PySem.W.codeIn K cdRf "rows_from" = true)
    (kRf : PySem.W.keepIn K (.ref fRf) = true)
    (aMd : PySem.W.nsIn K mainGlobals "most_days" = some (some (.ref fMd)))
    (lMd : K.lookup fMd = some ⟨ocMd, odMd, .func (PySem.W.fnOf "most_days" "most_days" (defArgs sMost) (defBody sMost) (defScope sMost) .none kVMd dcMd pmMd anMd cdMd ctMd), slMd⟩)
    (cMd : PySem.W.codeIn K cdMd "most_days" = true)
    (kMd : PySem.W.keepIn K (.ref fMd) = true)
    (aFr : PySem.W.nsIn K mainGlobals "first_row" = some (some (.ref fFr)))
    (lFr : K.lookup fFr = some ⟨ocFr, odFr, .func (PySem.W.fnOf "first_row" "first_row" (defArgs sFirst) (defBody sFirst) (defScope sFirst) .none kVFr dcFr pmFr anFr cdFr ctFr), slFr⟩)
    (cFr : PySem.W.codeIn K cdFr "first_row" = true)
    (kFr : PySem.W.keepIn K (.ref fFr) = true)
    (aLd : PySem.W.nsIn K mainGlobals "laid_down" = some (some (.ref fLd)))
    (lLd : K.lookup fLd = some ⟨ocLd, odLd, .func (PySem.W.fnOf "laid_down" "laid_down" (defArgs sLaid) (defBody sLaid) (defScope sLaid) .none kVLd dcLd pmLd anLd cdLd ctLd), slLd⟩)
    (cLd : PySem.W.codeIn K cdLd "laid_down" = true)
    (kLd : PySem.W.keepIn K (.ref fLd) = true)
    (aIb : PySem.W.nsIn K mainGlobals "is_bale" = some (some (.ref fIb)))
    (lIb : K.lookup fIb = some ⟨ocIb, odIb, .func (PySem.W.fnOf "is_bale" "is_bale" (defArgs sIsBale) (defBody sIsBale) (defScope sIsBale) .none kVIb dcIb pmIb anIb cdIb ctIb), slIb⟩)
    (cIb : PySem.W.codeIn K cdIb "is_bale" = true)
    (kIb : PySem.W.keepIn K (.ref fIb) = true)
    (aAr : PySem.W.nsIn K mainGlobals "are_bales" = some (some (.ref fAr)))
    (lAr : K.lookup fAr = some ⟨ocAr, odAr, .func (PySem.W.fnOf "are_bales" "are_bales" (defArgs sAre) (defBody sAre) (defScope sAre) .none kVAr dcAr pmAr anAr cdAr ctAr), slAr⟩)
    (cAr : PySem.W.codeIn K cdAr "are_bales" = true)
    (kAr : PySem.W.keepIn K (.ref fAr) = true)
    (aIl : PySem.W.nsIn K mainGlobals "is_length" = some (some (.ref fIl)))
    (lIl : K.lookup fIl = some ⟨ocIl, odIl, .func (PySem.W.fnOf "is_length" "is_length" (defArgs sIsLength) (defBody sIsLength) (defScope sIsLength) .none kVIl dcIl pmIl anIl cdIl ctIl), slIl⟩)
    (cIl : PySem.W.codeIn K cdIl "is_length" = true)
    (kIl : PySem.W.keepIn K (.ref fIl) = true)
    (aIa : PySem.W.nsIn K mainGlobals "is_a_day" = some (some (.ref fIa)))
    (lIa : K.lookup fIa = some ⟨ocIa, odIa, .func (PySem.W.fnOf "is_a_day" "is_a_day" (defArgs sIsADay) (defBody sIsADay) (defScope sIsADay) .none kVIa dcIa pmIa anIa cdIa ctIa), slIa⟩)
    (cIa : PySem.W.codeIn K cdIa "is_a_day" = true)
    (kIa : PySem.W.keepIn K (.ref fIa) = true)
    (aDy : PySem.W.nsIn K mainGlobals "days" = some (some (.ref fDy)))
    (lDy : K.lookup fDy = some ⟨ocDy, odDy, .func (PySem.W.fnOf "days" "days" (defArgs sDays) (defBody sDays) (defScope sDays) .none kVDy dcDy pmDy anDy cdDy ctDy), slDy⟩)
    (cDy : PySem.W.codeIn K cdDy "days" = true)
    (kDy : PySem.W.keepIn K (.ref fDy) = true)
    (pgC : PySem.W.plainGet K C Str.empty = true)
    (hdC : PySem.W.hasDictIn K C = true)
    (poC : PySem.W.plainOver K C = true)
    (saC : PySem.W.findIn K (.ref C) "__setattr__" = some (some (.builtin "object.__setattr__")))
    (mkC : PySem.W.makesIn K C = true)
    (kcC : PySem.W.keepIn K (.ref C) = true)
    (nCweight : PySem.W.findIn K (.ref C) "weight" = some none)
    (nCfar : PySem.W.findIn K (.ref C) "far" = some none)
    (pgCG : PySem.W.plainGet K CG Str.empty = true)
    (hdCG : PySem.W.hasDictIn K CG = true)
    (poCG : PySem.W.plainOver K CG = true)
    (saCG : PySem.W.findIn K (.ref CG) "__setattr__" = some (some (.builtin "object.__setattr__")))
    (mkCG : PySem.W.makesIn K CG = true)
    (kcCG : PySem.W.keepIn K (.ref CG) = true)
    (nCGabove : PySem.W.findIn K (.ref CG) "above" = some none)
    (nCGbelow : PySem.W.findIn K (.ref CG) "below" = some none)
    (cMOST_BALES : PySem.W.nsIn K mainGlobals "MOST_BALES" = some (some (.int (9) tMOST_BALES)))
    (cMOST_WEIGHT : PySem.W.nsIn K mainGlobals "MOST_WEIGHT" = some (some (.int (300) tMOST_WEIGHT)))
    (cMOST_LENGTH : PySem.W.nsIn K mainGlobals "MOST_LENGTH" = some (some (.int (500) tMOST_LENGTH)))
    (cMOST_A_DAY : PySem.W.nsIn K mainGlobals "MOST_A_DAY" = some (some (.int (4) tMOST_A_DAY)))
    (cWRONG : PySem.W.nsIn K mainGlobals "WRONG" = some (some (.int (-22) tWRONG)))
    (zlen : PySem.W.nsIn K mainGlobals "len" = some none)
    (zrange : PySem.W.nsIn K mainGlobals "range" = some none)
    (zsum : PySem.W.nsIn K mainGlobals "sum" = some none)
    (zabs : PySem.W.nsIn K mainGlobals "abs" = some none)
    (zmax : PySem.W.nsIn K mainGlobals "max" = some none)
    : ∃ fd : FuncData, (∀ (s : Shared) (us : List Value), us.length = (["k", "t", "tol", "bales"] : List Str).length → BindsTo s fd ⟨us, []⟩ ((["k", "t", "tol", "bales"] : List Str).zip us)) ∧ ∀ base : Heap, K.In base → base.Ns mainGlobals mg → FnOk P w K mg base CX0 6 fa fd ["k", "t", "tol", "bales"] (spDays K) := by
  have e := hfa.symm.trans (PySem.W.mg_of X G aDy)
  cases e
  have FBi := fun_mk (st := sBale) lBi cBi kBi
  have FGi := fun_mk (st := sGap) lGi cGi kGi
  have FGw := fun_mk (st := sWithin) lGw cGw kGw
  have FBo := fun_mk (st := sBalesOf) lBo cBo kBo
  have FWe := fun_mk (st := sWeight) lWe cWe kWe
  have FMo := fun_mk (st := sMoment) lMo cMo kMo
  have FGo := fun_mk (st := sGapOf) lGo cGo kGo
  have FCh := fun_mk (st := sChosen) lCh cCh kCh
  have FLr := fun_mk (st := sLonger) lLr cLr kLr
  have FAl := fun_mk (st := sAll) lAl cAl kAl
  have FAk := fun_mk (st := sAlike) lAk cAk kAk
  have FSo := fun_mk (st := sSetOf) lSo cSo kSo
  have FLi := fun_mk (st := sLeast) lLi cLi kLi
  have FRf := fun_mk (st := sRowsFrom) lRf cRf kRf
  have FMd := fun_mk (st := sMost) lMd cMd kMd
  have FFr := fun_mk (st := sFirst) lFr cFr kFr
  have FLd := fun_mk (st := sLaid) lLd cLd kLd
  have FIb := fun_mk (st := sIsBale) lIb cIb kIb
  have FAr := fun_mk (st := sAre) lAr cAr kAr
  have FIl := fun_mk (st := sIsLength) lIl cIl kIl
  have FIa := fun_mk (st := sIsADay) lIa cIa kIa
  have FDy := fun_mk (st := sDays) lDy cDy kDy
  have bBi := FBi.binds (ps := ["self", "weight", "far"]) fun _ _ _ _ _ _ us hl => match us, hl with | [_, _, _], _ => rfl
  have bGi := FGi.binds (ps := ["self", "above", "below"]) fun _ _ _ _ _ _ us hl => match us, hl with | [_, _, _], _ => rfl
  have bGw := FGw.binds (ps := ["self", "most"]) fun _ _ _ _ _ _ us hl => match us, hl with | [_, _], _ => rfl
  have bBo := FBo.binds (ps := ["numbers"]) fun _ _ _ _ _ _ us hl => match us, hl with | [_], _ => rfl
  have gBo := PySem.W.mg_of X G aBo
  have bWe := FWe.binds (ps := ["bales"]) fun _ _ _ _ _ _ us hl => match us, hl with | [_], _ => rfl
  have gWe := PySem.W.mg_of X G aWe
  have bMo := FMo.binds (ps := ["bales"]) fun _ _ _ _ _ _ us hl => match us, hl with | [_], _ => rfl
  have gMo := PySem.W.mg_of X G aMo
  have bGo := FGo.binds (ps := ["bales", "t"]) fun _ _ _ _ _ _ us hl => match us, hl with | [_, _], _ => rfl
  have gGo := PySem.W.mg_of X G aGo
  have bCh := FCh.binds (ps := ["bales", "numbers"]) fun _ _ _ _ _ _ us hl => match us, hl with | [_, _], _ => rfl
  have gCh := PySem.W.mg_of X G aCh
  have bLr := FLr.binds (ps := ["row", "many"]) fun _ _ _ _ _ _ us hl => match us, hl with | [_, _], _ => rfl
  have gLr := PySem.W.mg_of X G aLr
  have bAl := FAl.binds (ps := ["many", "size"]) fun _ _ _ _ _ _ us hl => match us, hl with | [_, _], _ => rfl
  have gAl := PySem.W.mg_of X G aAl
  have bAk := FAk.binds (ps := ["bales", "size", "t", "most"]) fun _ _ _ _ _ _ us hl => match us, hl with | [_, _, _, _], _ => rfl
  have gAk := PySem.W.mg_of X G aAk
  have bSo := FSo.binds (ps := ["row"]) fun _ _ _ _ _ _ us hl => match us, hl with | [_], _ => rfl
  have gSo := PySem.W.mg_of X G aSo
  have bLi := FLi.binds (ps := ["chosen"]) fun _ _ _ _ _ _ us hl => match us, hl with | [_], _ => rfl
  have gLi := PySem.W.mg_of X G aLi
  have bRf := FRf.binds (ps := ["rows", "chosen"]) fun _ _ _ _ _ _ us hl => match us, hl with | [_, _], _ => rfl
  have gRf := PySem.W.mg_of X G aRf
  have bMd := FMd.binds (ps := ["rows", "many"]) fun _ _ _ _ _ _ us hl => match us, hl with | [_, _], _ => rfl
  have gMd := PySem.W.mg_of X G aMd
  have bFr := FFr.binds (ps := ["rows", "table", "chosen"]) fun _ _ _ _ _ _ us hl => match us, hl with | [_, _, _], _ => rfl
  have gFr := PySem.W.mg_of X G aFr
  have bLd := FLd.binds (ps := ["bales", "size", "t", "most"]) fun _ _ _ _ _ _ us hl => match us, hl with | [_, _, _, _], _ => rfl
  have gLd := PySem.W.mg_of X G aLd
  have bIb := FIb.binds (ps := ["weight", "far"]) fun _ _ _ _ _ _ us hl => match us, hl with | [_, _], _ => rfl
  have gIb := PySem.W.mg_of X G aIb
  have bAr := FAr.binds (ps := ["numbers"]) fun _ _ _ _ _ _ us hl => match us, hl with | [_], _ => rfl
  have gAr := PySem.W.mg_of X G aAr
  have bIl := FIl.binds (ps := ["number"]) fun _ _ _ _ _ _ us hl => match us, hl with | [_], _ => rfl
  have gIl := PySem.W.mg_of X G aIl
  have bIa := FIa.binds (ps := ["number"]) fun _ _ _ _ _ _ us hl => match us, hl with | [_], _ => rfl
  have gIa := PySem.W.mg_of X G aIa
  have gC := PySem.W.mg_of X G aC
  have gCG := PySem.W.mg_of X G aCG
  have gMOST_BALES := PySem.W.mg_of X G cMOST_BALES
  have gMOST_WEIGHT := PySem.W.mg_of X G cMOST_WEIGHT
  have gMOST_LENGTH := PySem.W.mg_of X G cMOST_LENGTH
  have gMOST_A_DAY := PySem.W.mg_of X G cMOST_A_DAY
  have gWRONG := PySem.W.mg_of X G cWRONG
  have mlen := PySem.W.mg_none_of X G zlen
  have mrange := PySem.W.mg_none_of X G zrange
  have msum := PySem.W.mg_none_of X G zsum
  have mabs := PySem.W.mg_none_of X G zabs
  have mmax := PySem.W.mg_none_of X G zmax
  have T : TBale K mg C := ⟨⟨pgC, hdC, poC, saC⟩, nCweight, nCfar, gC⟩
  have TG : TGap K mg CG := ⟨⟨pgCG, hdCG, poCG, saCG⟩, nCGabove, nCGbelow, gCG⟩
  have B : TBlt mg := ⟨mlen, mrange, msum⟩
  have L : TLook mg := ⟨⟨_, gMOST_BALES⟩, ⟨_, gMOST_WEIGHT⟩, ⟨_, gMOST_LENGTH⟩⟩
  exact ⟨PySem.W.fnOf "days" "days" (defArgs sDays) (defBody sDays) (defScope sDays) .none kVDy dcDy pmDy anDy cdDy ctDy, fun s us hu => match us, hu with | [_, _, _, _], _ => .of_eq rfl, fun base _ _ => ok_days FDy ⟨_, gWRONG⟩
    kAr (ok_are FAr B L FIb bIb gIb) bAr gAr
    kBo (ok_bales_of FBo T B ⟨mkC, aBi, iBi, kcC⟩ FBi bBi) bBo gBo
    kIa (ok_is_a_day FIa ⟨_, gMOST_A_DAY⟩) bIa gIa
    kIl (ok_is_length FIl L) bIl gIl
    kLd (ok_laid FLd B
      kAk (ok_alike FAk TG B
        kAl (ok_all FAl B FLr bLr gLr) bAl gAl
        kGo (ok_gap_of FGo TG mabs ⟨mkCG, aGi, iGi, kcCG⟩ FGi bGi kWe (ok_weight FWe T B) bWe gWe kMo (ok_moment FMo T B) bMo gMo) bGo gGo
        kCh (ok_chosen FCh) bCh gCh
        ⟨aGw, iGw, kGw⟩ (ok_within FGw TG) bGw) bAk gAk
      kMd (ok_most FMd B mmax kLi (ok_least FLi) bLi gLi kSo (ok_set_of FSo B) bSo gSo
        kRf (ok_rows_from FRf kLi (ok_least FLi) bLi gLi kSo (ok_set_of FSo B) bSo gSo) bRf gRf) bMd gMd
      kFr (ok_first FFr kSo (ok_set_of FSo B) bSo gSo
        kRf (ok_rows_from FRf kLi (ok_least FLi) bLi gLi kSo (ok_set_of FSo B) bSo gSo) bRf gRf) bFr gFr
      kLi (ok_least FLi) bLi gLi kSo (ok_set_of FSo B) bSo gSo) bLd gLd⟩
end Bm
open PySem PySem.W PyProof.Rows
set_option maxRecDepth 100000 in
set_option maxHeartbeats 8000000 in
theorem PySem.Challenge.cw_balelayer_s03_days_holds : PySem.Challenge.rw_balelayer_s03_days.Holds := by
  w_on; k_headS; (case hw => exact ⟨[.int 0, .int 0, .int 0, .list []], by decide +kernel, by decide +kernel⟩)
  k_fillS
  refine L2.walk_specK (r := PySem.Challenge.rw_balelayer_s03_days) (k := 6) (CX := L2.CX0) (ps := ["k", "t", "tol", "bales"]) (sp := Bm.spDays) (by decide +kernel) rfl rfl ⟨rfl, by decide, by decide⟩ (fun w h Y => PySem.W.kIn_of Y) ?F ?S (fun _ _ _ _ z => z)
  case F =>
    intro w mg fa h Y KX G hmg
    refine' Bm.all_mk KX G hmg ?aC ?aCG ?aBi ?iBi ?lBi ?cBi ?kBi ?aGi ?iGi ?lGi ?cGi ?kGi ?aGw ?iGw ?lGw ?cGw ?kGw ?aBo ?lBo ?cBo ?kBo ?aWe ?lWe ?cWe ?kWe ?aMo ?lMo ?cMo ?kMo ?aGo ?lGo ?cGo ?kGo ?aCh ?lCh ?cCh ?kCh ?aLr ?lLr ?cLr ?kLr ?aAl ?lAl ?cAl ?kAl ?aAk ?lAk ?cAk ?kAk ?aSo ?lSo ?cSo ?kSo ?aLi ?lLi ?cLi ?kLi ?aRf ?lRf ?cRf ?kRf ?aMd ?lMd ?cMd ?kMd ?aFr ?lFr ?cFr ?kFr ?aLd ?lLd ?cLd ?kLd ?aIb ?lIb ?cIb ?kIb ?aAr ?lAr ?cAr ?kAr ?aIl ?lIl ?cIl ?kIl ?aIa ?lIa ?cIa ?kIa ?aDy ?lDy ?cDy ?kDy ?pgC ?hdC ?poC ?saC ?mkC ?kcC ?nCweight ?nCfar ?pgCG ?hdCG ?poCG ?saCG ?mkCG ?kcCG ?nCGabove ?nCGbelow ?cMOST_BALES ?cMOST_WEIGHT ?cMOST_LENGTH ?cMOST_A_DAY ?cWRONG ?zlen ?zrange ?zsum ?zabs ?zmax
    (case aC => k_is)
    (case aCG => k_is)
    (case aBi => k_is)
    (case iBi => k_is)
    (case lBi => k_is)
    (case cBi => k_is)
    (case kBi => k_is)
    (case aGi => k_is)
    (case iGi => k_is)
    (case lGi => k_is)
    (case cGi => k_is)
    (case kGi => k_is)
    (case aGw => k_is)
    (case iGw => k_is)
    (case lGw => k_is)
    (case cGw => k_is)
    (case kGw => k_is)
    (case aBo => k_is)
    (case lBo => k_is)
    (case cBo => k_is)
    (case kBo => k_is)
    (case aWe => k_is)
    (case lWe => k_is)
    (case cWe => k_is)
    (case kWe => k_is)
    (case aMo => k_is)
    (case lMo => k_is)
    (case cMo => k_is)
    (case kMo => k_is)
    (case aGo => k_is)
    (case lGo => k_is)
    (case cGo => k_is)
    (case kGo => k_is)
    (case aCh => k_is)
    (case lCh => k_is)
    (case cCh => k_is)
    (case kCh => k_is)
    (case aLr => k_is)
    (case lLr => k_is)
    (case cLr => k_is)
    (case kLr => k_is)
    (case aAl => k_is)
    (case lAl => k_is)
    (case cAl => k_is)
    (case kAl => k_is)
    (case aAk => k_is)
    (case lAk => k_is)
    (case cAk => k_is)
    (case kAk => k_is)
    (case aSo => k_is)
    (case lSo => k_is)
    (case cSo => k_is)
    (case kSo => k_is)
    (case aLi => k_is)
    (case lLi => k_is)
    (case cLi => k_is)
    (case kLi => k_is)
    (case aRf => k_is)
    (case lRf => k_is)
    (case cRf => k_is)
    (case kRf => k_is)
    (case aMd => k_is)
    (case lMd => k_is)
    (case cMd => k_is)
    (case kMd => k_is)
    (case aFr => k_is)
    (case lFr => k_is)
    (case cFr => k_is)
    (case kFr => k_is)
    (case aLd => k_is)
    (case lLd => k_is)
    (case cLd => k_is)
    (case kLd => k_is)
    (case aIb => k_is)
    (case lIb => k_is)
    (case cIb => k_is)
    (case kIb => k_is)
    (case aAr => k_is)
    (case lAr => k_is)
    (case cAr => k_is)
    (case kAr => k_is)
    (case aIl => k_is)
    (case lIl => k_is)
    (case cIl => k_is)
    (case kIl => k_is)
    (case aIa => k_is)
    (case lIa => k_is)
    (case cIa => k_is)
    (case kIa => k_is)
    (case aDy => k_is)
    (case lDy => k_is)
    (case cDy => k_is)
    (case kDy => k_is)
    (case pgC => k_is)
    (case hdC => k_is)
    (case poC => k_is)
    (case saC => k_is)
    (case mkC => k_is)
    (case kcC => k_is)
    (case nCweight => k_is)
    (case nCfar => k_is)
    (case pgCG => k_is)
    (case hdCG => k_is)
    (case poCG => k_is)
    (case saCG => k_is)
    (case mkCG => k_is)
    (case kcCG => k_is)
    (case nCGabove => k_is)
    (case nCGbelow => k_is)
    (case cMOST_BALES => k_is)
    (case cMOST_WEIGHT => k_is)
    (case cMOST_LENGTH => k_is)
    (case cMOST_A_DAY => k_is)
    (case cWRONG => k_is)
    (case zlen => k_is)
    (case zrange => k_is)
    (case zsum => k_is)
    (case zabs => k_is)
    (case zmax => k_is)
  case S =>
    intro K H xs a hO hwi hask hx
    obtain ⟨kk, tt, mm, ns, u⟩ := a
    cases hx with
    | cons h1 h2 =>
      cases h2 with
      | cons h3 h4 =>
        cases h4 with
        | cons h5 h6 =>
          cases h6 with
          | cons h7 h8 =>
            cases h8
            cases h1
            cases h3
            cases h5
            cases h7 with
            | lst hs ha =>
              rename_i adr xs0
              have e := L2.ints_dw ns _ ha
              subst e
              have q : (Codec.inInt 0 4294967295 kk && (Codec.inInt 0 4294967295 tt && (Codec.inInt 0 4294967295 mm && ((Codec.inLen 0 20 ns && ns.all (Codec.inInt 0 4294967295)) && true)))) = true := hwi
              rw [Bool.and_eq_true, Bool.and_eq_true, Bool.and_eq_true, Bool.and_eq_true, Bool.and_eq_true] at q
              obtain ⟨q1, q2, q5, ⟨q3, q4⟩, _⟩ := q
              have hn := Bm.iz_natsOf (l := ns) (Bm.all_nonneg q4)
              have ek := Bm.nat_of q1
              have et := Bm.nat_of q2
              have em := Bm.nat_of q5
              refine ⟨adr, kk.toNat, tt.toNat, mm.toNat, Kzd1Neutral.natsOf ns, ?_, ?_, ?_, fun H' p hp => ?_⟩
              · show [L2.V.int kk, L2.V.int tt, L2.V.int mm, L2.V.ref adr] = [L2.V.int (kk.toNat : Int), L2.V.int (tt.toNat : Int), L2.V.int (mm.toNat : Int), L2.V.ref adr]
                rw [ek, et, em]
              · rw [Bm.iv_map, hn]
                exact hs
              · have hl := (Codec.inNat_iff.mp q3).2
                show (ns.map Int.toNat).length ≤ 20
                rw [List.length_map]
                exact hl
              · rw [hn, ek, et, em] at hp
                exact .lst (L2.SqL.of hp) (L2.dw_ints _)
#print axioms PySem.Challenge.cw_balelayer_s03_days_holds
