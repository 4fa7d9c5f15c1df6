import PyProof.Rows.All
import Wide.All
import OpenK.AllK
import Wide.FinOn
import Open.SpecLaws
import KE.OsGo
import HandS.ForSpec
import HandS.Comp
import HandS.Iter
import HandS.Walk
import HandS.Text
import HandS.WideBits
import PySem.Challenge.RW_balelayer_s01_mean
set_option Elab.async false
set_option maxRecDepth 100000
set_option maxHeartbeats 2000000
/-! Bales: what stands in the machine, in plain Lean, and the specification's own words for it (mean, looking). -/
namespace Bm
open Kzd1 (Bale)

/-- all kilograms of some bales; of each its kilograms times how long -/
def wOf : List Bale → Nat
  | [] => 0
  | b :: r => b.kg + wOf r
def mOf : List Bale → Nat
  | [] => 0
  | b :: r => b.kg * b.long + mOf r

theorem foldl_add : ∀ (l : List Nat) (a : Nat), l.foldl (· + ·) a = a + l.foldl (· + ·) 0
  | [], a => rfl
  | x :: r, a => by
    rw [List.foldl_cons, List.foldl_cons, foldl_add r (a + x), foldl_add r (0 + x)]
    omega
theorem sum_nil : Kzd1.sum [] = 0 := rfl
theorem sum_cons (x : Nat) (r : List Nat) : Kzd1.sum (x :: r) = x + Kzd1.sum r := by
  unfold Kzd1.sum
  rw [List.foldl_cons, foldl_add r (0 + x)]
  omega
theorem wOf_is (bs : List Bale) : ∀ s : List Nat, wOf (s.map (Kzd1.at_ bs)) = Kzd1.kgOf bs s
  | [] => rfl
  | i :: r => by
    have ih := wOf_is bs r
    unfold Kzd1.kgOf at ih ⊢
    rw [List.map_cons, List.map_cons, sum_cons, ← ih]
    rfl
theorem mOf_is (bs : List Bale) : ∀ s : List Nat, mOf (s.map (Kzd1.at_ bs)) = Kzd1.longOf bs s
  | [] => rfl
  | i :: r => by
    have ih := mOf_is bs r
    unfold Kzd1.longOf at ih ⊢
    rw [List.map_cons, List.map_cons, sum_cons, ← ih]
    rfl
theorem at_all (bs : List Bale) : (Kzd1.all bs).map (Kzd1.at_ bs) = bs := by
  apply List.ext_getElem?
  intro i
  unfold Kzd1.all Kzd1.at_
  rw [List.getElem?_map]
  by_cases h : i < bs.length
  · simp [h]
  · simp [h]
theorem wOf_all (bs : List Bale) : Kzd1.kgOf bs (Kzd1.all bs) = wOf bs := by rw [← wOf_is, at_all]
theorem mOf_all (bs : List Bale) : Kzd1.longOf bs (Kzd1.all bs) = mOf bs := by rw [← mOf_is, at_all]

/-! ### sizes -/
def Ok1 (b : Bale) : Prop := 1 ≤ b.kg ∧ b.kg ≤ 300 ∧ b.long ≤ 500
def OkBs (bs : List Bale) : Prop := ∀ b ∈ bs, Ok1 b
theorem okBale_iff (b : Bale) : Kzd1.okBale b = true ↔ Ok1 b := by
  unfold Kzd1.okBale Ok1
  simp [and_assoc]
theorem wOf_le : ∀ bs : List Bale, OkBs bs → wOf bs ≤ 300 * bs.length
  | [], _ => Nat.le_refl _
  | b :: r, h => by
    have h1 := (h b (List.mem_cons_self ..)).2.1
    have h2 := wOf_le r fun c hc => h c (List.mem_cons_of_mem _ hc)
    show b.kg + wOf r ≤ 300 * (r.length + 1)
    omega
theorem wOf_ge : ∀ bs : List Bale, OkBs bs → bs.length ≤ wOf bs
  | [], _ => Nat.le_refl _
  | b :: r, h => by
    have h1 := (h b (List.mem_cons_self ..)).1
    have h2 := wOf_ge r fun c hc => h c (List.mem_cons_of_mem _ hc)
    show r.length + 1 ≤ b.kg + wOf r
    omega
theorem mOf_le : ∀ bs : List Bale, OkBs bs → mOf bs ≤ 150000 * bs.length
  | [], _ => Nat.le_refl _
  | b :: r, h => by
    have h1 := (h b (List.mem_cons_self ..)).2
    have h2 := mOf_le r fun c hc => h c (List.mem_cons_of_mem _ hc)
    have h3 : b.kg * b.long ≤ 300 * 500 := Nat.mul_le_mul h1.1 h1.2
    show b.kg * b.long + mOf r ≤ 150000 * (r.length + 1)
    omega
theorem wOf_pos {bs : List Bale} (h : OkBs bs) (hb : bs ≠ []) : 0 < wOf bs := by
  have := wOf_ge bs h
  have : 0 < bs.length := List.length_pos_iff.mpr hb
  omega

/-! ### the list that is handed in -/
/-- whether the first pairs of a list are bales' -/
def okPairs : Nat → List Nat → Bool
  | n + 1, a :: b :: l => decide (1 ≤ a ∧ a ≤ 300 ∧ b ≤ 500) && okPairs n l
  | _, _ => true
theorem bales_len : ∀ l : List Nat, (Kzd1.bales l).length = l.length / 2
  | [] => rfl
  | [x] => by
    show ([] : List Bale).length = ([x] : List Nat).length / 2
    simp
  | a :: b :: l => by
    have ih := bales_len l
    unfold Kzd1.bales
    rw [List.length_cons, List.length_cons, List.length_cons, ih]
    omega
theorem bales_get : ∀ (l : List Nat) (i : Nat), i < l.length / 2 → (Kzd1.bales l)[i]? = some ⟨l.getD (2 * i) 0, l.getD (2 * i + 1) 0⟩
  | [], i, h => absurd h (by simp)
  | [_], i, h => absurd h (by simp)
  | a :: b :: l, 0, _ => by unfold Kzd1.bales; rfl
  | a :: b :: l, i + 1, h => by
    have ih := bales_get l i (by simp at h; omega)
    unfold Kzd1.bales
    rw [List.getElem?_cons_succ, ih]
    have e1 : 2 * (i + 1) = 2 * i + 1 + 1 := by omega
    have e2 : 2 * (i + 1) + 1 = 2 * i + 1 + 1 + 1 := by omega
    rw [e2, e1]
    rfl
theorem all_okBale (l : List Nat) : (Kzd1.bales l).all Kzd1.okBale = true ↔ ∀ i, i < l.length / 2 → 1 ≤ l.getD (2 * i) 0 ∧ l.getD (2 * i) 0 ≤ 300 ∧ l.getD (2 * i + 1) 0 ≤ 500 := by
  rw [List.all_eq_true]
  constructor
  · intro h i hi
    have e := bales_get l i hi
    have m := List.mem_of_getElem? e
    exact (okBale_iff _).mp (h _ m)
  · intro h x hx
    obtain ⟨i, hi⟩ := List.mem_iff_getElem?.mp hx
    have hl : i < l.length / 2 := by
      rw [← bales_len]
      exact (List.getElem?_eq_some_iff.mp hi).1
    have e := bales_get l i hl
    rw [hi] at e
    have e' := Option.some.inj e
    rw [e']
    exact (okBale_iff _).mpr (h i hl)
theorem good_of {l : List Nat} (h : Kzd1.good l = true) : l.length % 2 = 0 ∧ l.length ≤ 18 ∧ OkBs (Kzd1.bales l) ∧ (Kzd1.bales l).length ≤ 9 := by
  unfold Kzd1.good Kzd1.ok at h
  simp only [Bool.and_eq_true, decide_eq_true_eq] at h
  obtain ⟨h1, h2, h3⟩ := h
  refine ⟨h1, ?_, fun b hb => (okBale_iff b).mp (List.all_eq_true.mp h3 b hb), h2⟩
  rw [bales_len] at h2
  omega
theorem good_iff (l : List Nat) : Kzd1.good l = true ↔ l.length % 2 = 0 ∧ l.length ≤ 18 ∧ ∀ i, i < l.length / 2 → 1 ≤ l.getD (2 * i) 0 ∧ l.getD (2 * i) 0 ≤ 300 ∧ l.getD (2 * i + 1) 0 ≤ 500 := by
  unfold Kzd1.good Kzd1.ok
  simp only [Bool.and_eq_true, decide_eq_true_eq, all_okBale, bales_len]
  constructor
  · rintro ⟨h1, h2, h3⟩; exact ⟨h1, by omega, h3⟩
  · rintro ⟨h1, h2, h3⟩; exact ⟨h1, by omega, h3⟩

/-! ### mean -/
theorem top_foldl (l : List Nat) : Kzd1.top l = l.foldl max 0 := rfl
/-- the greatest of a list with 0 ahead, by what max says of it -/
theorem foldl_max_mem : ∀ (l : List Nat) (a : Nat), l.foldl max a ∈ a :: l
  | [], a => List.mem_cons_self ..
  | x :: r, a => by
    have h := foldl_max_mem r (max a x)
    rw [List.foldl_cons]
    rcases List.mem_cons.mp h with h | h
    · rw [h]
      rcases Nat.le_total a x with q | q
      · rw [Nat.max_eq_right q]
        exact List.mem_cons_of_mem _ (List.mem_cons_self ..)
      · rw [Nat.max_eq_left q]
        exact List.mem_cons_self ..
    · exact List.mem_cons_of_mem _ (List.mem_cons_of_mem _ h)
theorem foldl_max_le : ∀ (l : List Nat) (a x : Nat), x ∈ a :: l → x ≤ l.foldl max a
  | [], a, x, h => by
    rcases List.mem_cons.mp h with h | h
    · rw [h]; exact Nat.le_refl _
    · cases h
  | y :: r, a, x, h => by
    rw [List.foldl_cons]
    have hm := foldl_max_le r (max a y) (max a y) (List.mem_cons_self ..)
    rcases List.mem_cons.mp h with h | h
    · rw [h]; exact Nat.le_trans (Nat.le_max_left ..) hm
    · rcases List.mem_cons.mp h with h | h
      · rw [h]; exact Nat.le_trans (Nat.le_max_right ..) hm
      · exact foldl_max_le r (max a y) x (List.mem_cons_of_mem _ h)
def topOf (bs : List Bale) : Nat := (bs.map Bale.long).foldl max 0
theorem topOf_of {bs : List Bale} {m : Nat} (h1 : m ∈ 0 :: bs.map Bale.long) (h2 : ∀ x ∈ 0 :: bs.map Bale.long, x ≤ m) : topOf bs = m :=
  Nat.le_antisymm (h2 _ (foldl_max_mem _ _)) (foldl_max_le _ _ _ h1)
def meanOf (bs : List Bale) : Nat := if bs = [] then 0 else mOf bs / wOf bs
theorem meanOf_is {bs : List Bale} (h : OkBs bs) : Kzd1.mean bs (Kzd1.all bs) = meanOf bs := by
  unfold Kzd1.mean meanOf
  rw [wOf_all, mOf_all]
  by_cases e : bs = []
  · rw [if_pos e, if_pos (by rw [e]; rfl)]
  · rw [if_neg e, if_neg (Nat.ne_of_gt (wOf_pos h e))]

def iz (l : List Nat) : List Int := l.map fun (x : Nat) => (x : Int)
theorem natsOf_iz (l : List Nat) : Kzd1Neutral.natsOf (iz l) = l := by
  unfold Kzd1Neutral.natsOf iz
  rw [List.map_map]
  conv => rhs; rw [← List.map_id l]
  exact List.map_congr_left fun x _ => rfl
theorem iz_natsOf {l : List Int} (h : ∀ x ∈ l, 0 ≤ x) : iz (Kzd1Neutral.natsOf l) = l := by
  unfold Kzd1Neutral.natsOf iz
  rw [List.map_map]
  conv => rhs; rw [← List.map_id l]
  exact List.map_congr_left fun x hx => by
    show ((x.toNat : Nat) : Int) = x
    have := h x hx
    omega
theorem f_mean (l : List Nat) : PyKzd1.mean (iz l) = (Kzd1.answer (.mean l)).value :: Kzd1Neutral.ints (Kzd1.answer (.mean l)).nums := by
  have e : PyKzd1.mean (iz l) = (Kzd1.answer (.mean (Kzd1Neutral.natsOf (iz l)))).value :: Kzd1Neutral.ints (Kzd1.answer (.mean (Kzd1Neutral.natsOf (iz l)))).nums := rfl
  rw [e, natsOf_iz]
theorem mean_bad {l : List Nat} (h : Kzd1.good l = false) : PyKzd1.mean (iz l) = [-22] := by
  have e : Kzd1.answer (.mean l) = Kzd1.say (-22) := if_pos h
  rw [f_mean, e]
  rfl
theorem mean_good {l : List Nat} (h : Kzd1.good l = true) : PyKzd1.mean (iz l) = iz [meanOf (Kzd1.bales l), wOf (Kzd1.bales l), topOf (Kzd1.bales l)] := by
  have e : Kzd1.answer (.mean l) = ⟨(Kzd1.mean (Kzd1.bales l) (Kzd1.all (Kzd1.bales l)) : Nat), [Kzd1.kgOf (Kzd1.bales l) (Kzd1.all (Kzd1.bales l)), Kzd1.top ((Kzd1.bales l).map Bale.long)]⟩ := if_neg (by rw [h]; decide)
  rw [f_mean, e, wOf_all, meanOf_is (good_of h).2.2.1]
  rfl
end Bm
namespace Bm
open PySem PySem.Spec PyProof.Rows L2
open Kzd1 (Bale)

/-! ### values, heaps -/
def iv (n : Nat) : V := .int (n : Int)
theorem iv_get {l : List Nat} {i : Nat} {n : Nat} (h : l[i]? = some n) : (l.map iv)[i]? = some (iv n) := by
  rw [List.getElem?_map, h]
  rfl
theorem iv_of {l : List Nat} {i : Nat} {x : V} (h : (l.map iv)[i]? = some x) : ∃ n, l[i]? = some n ∧ x = iv n := by
  rw [List.getElem?_map] at h
  cases e : l[i]? with
  | none =>
    rw [e] at h
    cases h
  | some n =>
    rw [e] at h
    exact ⟨n, rfl, (Option.some.inj h).symm⟩
theorem iv_map (l : List Nat) : l.map iv = (iz l).map V.int := by
  unfold iz
  rw [List.map_map]
  rfl
theorem same_upd {H : Hp} {p : Addr} {o : HO} (h : H p = none) : Same H (upd H p o) := fun b x e => by
  rw [upd_ne (ne_of_none e h)]
  exact e
theorem small_size {n : Nat} (h : n ≤ 16000000) : n < sizeLine := Nat.lt_of_le_of_lt h (by decide)
theorem small_size' {n : Nat} (h : n ≤ 16000000) : n ≤ sizeLine := Nat.le_of_lt (small_size h)
theorem take_more {α : Type} : ∀ {l : List α} {i : Nat} {x : α}, l[i]? = some x → l.take (i + 1) = l.take i ++ [x]
  | [], i, x, h => by simp at h
  | a :: l, 0, x, h => by
    have e : a = x := Option.some.inj h
    subst e
    rfl
  | a :: l, i + 1, x, h => by
    have ih := take_more (l := l) (i := i) (x := x) h
    show a :: l.take (i + 1) = a :: l.take i ++ [x]
    rw [ih]
    rfl
theorem pair_get {α β : Type} {F : α → β → Prop} : ∀ {l : List α} {m : List β} {i : Nat} {a : α}, Paired F l m → l[i]? = some a → ∃ b, m[i]? = some b ∧ F a b
  | _, _, _, _, .nil, h => by simp at h
  | _, _, 0, a, .cons r _, h => by
    have e := Option.some.inj h
    exact ⟨_, rfl, e ▸ r⟩
  | _, _, i + 1, a, .cons _ t, h => pair_get (i := i) t h
theorem pair_get' {α β : Type} {F : α → β → Prop} : ∀ {l : List α} {m : List β} {i : Nat} {b : β}, Paired F l m → m[i]? = some b → ∃ a, l[i]? = some a ∧ F a b
  | _, _, _, _, .nil, h => by simp at h
  | _, _, 0, b, .cons r _, h => by
    have e := Option.some.inj h
    exact ⟨_, rfl, e ▸ r⟩
  | _, _, i + 1, b, .cons _ t, h => pair_get' (i := i) t h
theorem pair_len {α β : Type} {F : α → β → Prop} {l : List α} {m : List β} (h : Paired F l m) : l.length = m.length := Paired.length h
theorem ref_of {ps : List Addr} {i : Nat} {x : V} (h : (ps.map V.ref)[i]? = some x) : ∃ p, ps[i]? = some p ∧ x = .ref p := by
  rw [List.getElem?_map] at h
  cases e : ps[i]? with
  | none =>
    rw [e] at h
    cases h
  | some p =>
    rw [e] at h
    exact ⟨p, rfl, (Option.some.inj h).symm⟩
theorem ref_get {ps : List Addr} {i : Nat} {p : Addr} (h : ps[i]? = some p) : (ps.map V.ref)[i]? = some (V.ref p) := by
  rw [List.getElem?_map, h]
  rfl

/-! ### attributes -/
theorem lk_here {k : Str} {v : V} {r : List (Str × V)} : List.lookup k ((k, v) :: r) = some v := by
  have e : (k == k) = true := beq_self_eq_true k
  simp only [List.lookup, e]
theorem lk_past {k g : Str} {v : V} {r : List (Str × V)} (h : (k == g) = false) : List.lookup k ((g, v) :: r) = List.lookup k r := by
  simp only [List.lookup, h]
theorem put_here {f : Str} {v x : V} {r : List (Str × V)} : putF f v ((f, x) :: r) = (f, v) :: r := if_pos rfl
theorem put_past {f g : Str} {v x : V} {r : List (Str × V)} (h : ¬ g = f) : putF f v ((g, x) :: r) = (g, x) :: putF f v r := if_neg h

/-! ### bales -/
def bF (b : Bale) : List (Str × V) := [("weight", iv b.kg), ("far", iv b.long)]
def BaleAt (C : Addr) (H : Hp) (p : Addr) (b : Bale) : Prop := ∃ dx, H p = some (.ins C dx (bF b))
def BalesAt (K : PySem.W.Frag) (C : Addr) (H : Hp) (a : Addr) (bs : List Bale) : Prop := ∃ ps : List Addr, SqL K H a (ps.map V.ref) ∧ Paired (BaleAt C H) ps bs
theorem bF_weight (b : Bale) : (bF b).lookup ("weight" : Str) = some (iv b.kg) := lk_here
theorem bF_far (b : Bale) : (bF b).lookup ("far" : Str) = some (iv b.long) := (lk_past (by decide +kernel)).trans lk_here
theorem bF_new (b : Bale) : putF "far" (iv b.long) (putF "weight" (iv b.kg) []) = bF b := (put_past (by decide +kernel)).trans rfl
theorem BaleAt.same {C : Addr} {H H' : Hp} {p : Addr} {b : Bale} (s : Same H H') (h : BaleAt C H p b) : BaleAt C H' p b := let ⟨dx, e⟩ := h; ⟨dx, s _ _ e⟩
theorem pair_bales {C : Addr} {H H' : Hp} {ps : List Addr} {bs : List Bale} (s : Same H H') (h : Paired (BaleAt C H) ps bs) : Paired (BaleAt C H') ps bs := Paired.mapP h fun _ _ q => q.same s
theorem BalesAt.same {K : PySem.W.Frag} {C : Addr} {H H' : Hp} {a : Addr} {bs : List Bale} (s : Same H H') (h : BalesAt K C H a bs) : BalesAt K C H' a bs :=
  let ⟨ps, h1, h2⟩ := h
  ⟨ps, s.seq h1, pair_bales s h2⟩

/-! ### range(0, n, 2) -/
theorem rg2 : ∀ n : Nat, n ≤ 20 → RgC 0 (n : Int) 2 ((n + 1) / 2) := by
  have h : ∀ n : Fin 21, RgC 0 ((n.val : Nat) : Int) 2 ((n.val + 1) / 2) := by
    unfold RgC
    decide +kernel
  exact fun n hn => h ⟨n, by omega⟩
end Bm
namespace Bm
open PySem PySem.Spec PyProof.Rows L2
open Kzd1 (Bale)
def top (i : Nat) : Stmt := PySem.Challenge.pw_balelayer_s01_mean.main.body.getD i (.Pass ⟨0, 0, 0, 0⟩)
abbrev sBale : Stmt := inClass (top 1) 0
abbrev sBalesOf : Stmt := top 2
abbrev sWeight : Stmt := top 3
abbrev sMoment : Stmt := top 4

/-- what the top has written of Bale -/
structure TBale (K : PySem.W.Frag) (mg : Str → Option Value) (C : Addr) : Prop where
  cl : Cls K C
  nW : NoAttr K C "weight"
  nF : NoAttr K C "far"
  gC : mg "Bale" = some (.ref C)
/-- the built-ins' names are free -/
structure TBlt (mg : Str → Option Value) : Prop where
  len : mg "len" = none
  range : mg "range" = none
  sum : mg "sum" = none

section
variable {P : Program} {w : World} {K : PySem.W.Frag} {mg : Str → Option Value} {base : Heap} {C : Addr}
/-! ### Bale(weight, far) -/
def spBale (C : Addr) : Sp := fun vs H Q _ => ∃ (p dx : Addr) (b : Bale), vs = [.ref p, iv b.kg, iv b.long] ∧ H p = some (.ins C dx []) ∧
  ∀ H' : Hp, BaleAt C H' p b → (∀ a o, H a = some o → a ≠ p → H' a = some o) → Q .non H'
theorem scBale : FnScope ["self", "weight", "far"] ["self", "weight", "far"] (defScope sBale) := ⟨rfl, rfl, rfl, by decide +kernel, rfl, by decide +kernel, by decide +kernel⟩
theorem ok_bale {f : Addr} {fd : FuncData} (F : Fun K "__init__" "Bale.__init__" sBale f fd) (T : TBale K mg C) : FnOk P w K mg base CX0 1 f fd ["self", "weight", "far"] (spBale C) := by
  refine F.ok scBale (fun vs H Q E h => ?_) (fun cdv A outer s H vs Q E hr h => ?_)
  · obtain ⟨p, dx, b, rfl, _⟩ := h
    rfl
  · obtain ⟨p, dx, b, rfl, hp, k⟩ := h
    refine ⟨_, pss_cons (ps_fld (pv 0) (pv 1) rfl) (pss_one (ps_fld (pv 0) (pv 2) rfl)), ?_⟩
    refine ⟨_, rfl, _, rfl, p, C, dx, [], rfl, hp, T.cl, T.nW, (by show 0 < 1000; decide), ?_⟩
    refine ⟨_, rfl, _, rfl, p, C, dx, _, rfl, upd_same, T.cl, T.nF, (by show 1 < 1000; decide), ?_⟩
    exact k _ ⟨dx, Eq.trans upd_same (congrArg (fun q => some (HO.ins C dx q)) (bF_new b))⟩ fun a o e ha => by
      rw [upd_ne ha, upd_ne ha]
      exact e

/-! ### bales_of(numbers) -/
def spBalesOf (K : PySem.W.Frag) (C : Addr) : Sp := fun vs H Q _ => ∃ (a : Addr) (l : List Nat), vs = [.ref a] ∧ SqL K H a (l.map iv) ∧ l.length % 2 = 0 ∧ l.length ≤ 20 ∧
  ∀ (H' : Hp) (p : Addr), Same H H' → BalesAt K C H' p (Kzd1.bales l) → Q (.ref p) H'
theorem scBalesOf : FnScope ["numbers", "at"] ["numbers"] (defScope sBalesOf) := ⟨rfl, rfl, rfl, by decide +kernel, rfl, by decide +kernel, by decide +kernel⟩
theorem ok_bales_of {f fI : Addr} {fd fdI : FuncData} (F : Fun K "bales_of" "bales_of" sBalesOf f fd) (T : TBale K mg C) (B : TBlt mg) (M : Mk K C fI) (FI : Fun K "__init__" "Bale.__init__" sBale fI fdI) (bI : Binds K fdI ["self", "weight", "far"] []) :
    FnOk P w K mg base CX0 3 f fd ["numbers"] (spBalesOf K C) := by
  have GI : FnOk P w K mg base CX0 1 fI fdI ["self", "weight", "far"] (spBale C) := ok_bale FI T
  refine F.ok scBalesOf (fun vs H Q E h => ?_) (fun cdv A outer s H vs Q E hr h => ?_)
  · obtain ⟨a, l, rfl, _⟩ := h
    rfl
  · obtain ⟨a, l, rfl, hS, hev, hlen, k⟩ := h
    refine ⟨_, pss_one (ps_ret (pe_lc (own := [("at", 1)]) (g := gName 1) (tt := tYes) rfl scBalesOf.nd
      (pi_range3 rfl B.range (pa_cons pe_int (pa_cons (pe_callB call_len_seq (by rfl) B.len PySem.boot_len (pa_cons (pv 0) pa_nil)) (pa_cons pe_int pa_nil))))
      (blkOk_by (N := ["numbers", "at"]) (sc := defScope sBalesOf) (by decide +kernel))
      (fun _ _ _ _ _ => pg_name (i := 1) scBalesOf.nd rfl (Or.inl rfl)) (fun _ _ _ _ _ => pts_nil)
      (fun _ _ _ _ _ => pe_make M GI hr rfl T.gC bI .nil pass0 (pa_cons (pe_ix (r := rIxL K) ix_list (pv 0) (pv 1) (fun _ _ => rfl)) (pa_cons (pe_ix (r := rIxL K) ix_list (pv 0) (pe_op op_add (pv 1) pe_int) (fun _ _ => rfl)) pa_nil))))), ?_⟩
    refine ⟨_, rfl, a, _, rfl, .inl hS, 0, _, 2, (l.length + 1) / 2, rfl, ?_, fun D hD => ?_⟩
    · rw [List.length_map]
      exact rg2 _ hlen
    · refine lc_it walk_rangeC (fun i H1 => Same H H1 ∧ ∃ ps, H1 D = some (.lst (ps.map V.ref)) ∧ Paired (BaleAt C H1) ps ((Kzd1.bales l).take i))
        ⟨same_upd hD, [], upd_same, .nil⟩ (fun _ _ _ _ => trivial) ?_ ?_
      · rintro i x H1 H2 hi ⟨sm, ps, e1, e2⟩ ⟨rfl, rfl⟩
        have hi2 : i < l.length / 2 := by omega
        have g0 : 2 * i < l.length := by omega
        have g1 : 2 * i + 1 < l.length := by omega
        have i0 : l[2 * i]? = some (l.getD (2 * i) 0) := by simp [g0]
        have i1 : l[2 * i + 1]? = some (l.getD (2 * i + 1) 0) := by simp [g1]
        have hb := bales_get l i hi2
        refine ⟨rfl, ?_⟩
        refine ⟨_, rfl, _, rfl, a, _, _, _, rfl, rfl, sm.seq hS, at_of (j := 2 * i) (by omega) (iv_get i0), ?_⟩
        refine ⟨_, rfl, _, rfl, _, _, rfl, rfl, a, _, _, _, rfl, rfl, sm.seq hS, at_of (j := 2 * i + 1) (by omega) (iv_get i1), ?_⟩
        intro x dx nx nd ne
        refine ⟨x, dx, ⟨l.getD (2 * i) 0, l.getD (2 * i + 1) 0⟩, rfl, upd_same, fun H3 J kp => ⟨rfl, ?_⟩⟩
        have s3 : Same H2 H3 := Same.made nx nd kp
        refine ⟨ps.map V.ref, s3 _ _ e1, ?_, ?_, ?_⟩
        · rw [List.length_map, pair_len e2, List.length_take, bales_len]
          exact small_size (by omega)
        · intro b o hb
          have hbD : b ≠ D := ne_of_none hb hD
          rw [upd_ne hbD]
          exact s3 _ _ (sm _ _ hb)
        · have hpD : ∀ q b, BaleAt C H3 q b → BaleAt C (upd H3 D (.lst (ps.map V.ref ++ [.ref x]))) q b := fun q b ⟨dq, hq⟩ => ⟨dq, by
            rw [upd_ne (ne_of hq (s3 _ _ e1) (by intro z; cases z))]
            exact hq⟩
          refine ⟨ps ++ [x], ?_, ?_⟩
          · rw [upd_same, List.map_append]
            rfl
          · rw [take_more hb]
            exact Paired.snoc (Paired.mapP (pair_bales s3 e2) hpD) (hpD _ _ J)
      · rintro H1 ⟨sm, ps, e1, e2⟩
        rw [List.take_of_length_le (by rw [bales_len]; omega)] at e2
        exact k H1 D sm ⟨ps, SqL.of e1, e2⟩
end
end Bm
namespace Bm
open PySem PySem.Spec PyProof.Rows L2
open Kzd1 (Bale)
section
variable {P : Program} {w : World} {K : PySem.W.Frag} {mg : Str → Option Value} {base : Heap} {C : Addr}
theorem wOf_sum (bs : List Bale) : (iz (bs.map Bale.kg)).sum = (wOf bs : Int) := by
  induction bs with
  | nil => rfl
  | cons b r ih =>
    show ((b.kg : Nat) : Int) + (iz (r.map Bale.kg)).sum = ((b.kg + wOf r : Nat) : Int)
    rw [ih]
    omega
theorem mOf_sum (bs : List Bale) : (iz (bs.map fun b => b.kg * b.long)).sum = (mOf bs : Int) := by
  induction bs with
  | nil => rfl
  | cons b r ih =>
    show ((b.kg * b.long : Nat) : Int) + (iz (r.map fun b => b.kg * b.long)).sum = ((b.kg * b.long + mOf r : Nat) : Int)
    rw [ih]
    omega
/-- a list of the bales' numbers: what a comprehension [g(bale) for bale in bales] has made, turn by turn -/
theorem map_more {α β : Type} {g : α → β} {l : List α} {i : Nat} {x : α} (h : l[i]? = some x) : (l.take (i + 1)).map g = (l.take i).map g ++ [g x] := by
  rw [take_more h, List.map_append]
  rfl

/-! ### weight_of(bales), moment_of(bales) -/
def spWeight (K : PySem.W.Frag) (C : Addr) : Sp := fun vs H Q _ => ∃ (a : Addr) (bs : List Bale), vs = [.ref a] ∧ BalesAt K C H a bs ∧ bs.length ≤ 100 ∧
  ∀ H' : Hp, Same H H' → Q (iv (wOf bs)) H'
theorem scWeight : FnScope ["bales", "bale"] ["bales"] (defScope sWeight) := ⟨rfl, rfl, rfl, by decide +kernel, rfl, by decide +kernel, by decide +kernel⟩
theorem ok_weight {f : Addr} {fd : FuncData} (F : Fun K "weight_of" "weight_of" sWeight f fd) (T : TBale K mg C) (B : TBlt mg) : FnOk P w K mg base CX0 1 f fd ["bales"] (spWeight K C) := by
  refine F.ok scWeight (fun vs H Q E h => ?_) (fun cdv A outer s H vs Q E hr h => ?_)
  · obtain ⟨a, l, rfl, _⟩ := h
    rfl
  · obtain ⟨a, bs, rfl, ⟨ps, hS, hP⟩, hlen, k⟩ := h
    refine ⟨_, pss_one (ps_ret (pe_callB (cr_sum rfl) (by rfl) B.sum (by decide +kernel) (pa_cons (pe_lc (own := [("bale", 1)]) (g := gName 1) (tt := tYes) (te := tFld K (tVar 1) "weight") rfl scWeight.nd
      (pi_list (pv 0))
      (blkOk_by (N := ["bales", "bale"]) (sc := defScope sWeight) (by decide +kernel))
      (fun _ _ _ _ _ => pg_name (i := 1) scWeight.nd rfl (Or.inl rfl)) (fun _ _ _ _ _ => pts_nil)
      (fun _ _ _ _ _ => pe_fld (pv 1) rfl)) pa_nil))), ?_⟩
    refine ⟨_, rfl, a, rfl, ⟨_, hS⟩, fun D hD => ?_⟩
    refine lc_list (K := K) (a := a) (xs := ps.map V.ref) (fun i H1 => Same H H1 ∧ H1 D = some (.lst (((bs.take i).map Bale.kg).map iv)))
        ⟨same_upd hD, upd_same⟩ (fun i H1 _ q => q.1.seq hS) ?_ ?_
    · rintro i x H1 hx ⟨sm, e1⟩
      obtain ⟨p, hp, rfl⟩ := ref_of hx
      obtain ⟨b, hb, dx, hd⟩ := pair_get hP hp
      refine ⟨rfl, ?_⟩
      refine ⟨_, rfl, p, C, dx, _, _, rfl, sm _ _ hd, T.cl, T.nW, bF_weight b, ?_⟩
      refine ⟨_, e1, ?_, fun b o hb => ?_, ?_⟩
      · rw [List.length_map, List.length_map, List.length_take]
        exact small_size (by omega)
      · rw [upd_ne (ne_of_none hb hD)]
        exact sm _ _ hb
      · rw [upd_same, map_more hb, List.map_append]
        rfl
    · rintro H1 ⟨sm, e1⟩
      rw [List.length_map, pair_len hP, List.take_length] at e1
      refine ⟨D, iz (bs.map Bale.kg), rfl, SqL.of (by rw [e1, iv_map]), ?_⟩
      rw [wOf_sum]
      exact k H1 sm
def spMoment (K : PySem.W.Frag) (C : Addr) : Sp := fun vs H Q _ => ∃ (a : Addr) (bs : List Bale), vs = [.ref a] ∧ BalesAt K C H a bs ∧ bs.length ≤ 100 ∧ OkBs bs ∧
  ∀ H' : Hp, Same H H' → Q (iv (mOf bs)) H'
theorem scMoment : FnScope ["bales", "bale"] ["bales"] (defScope sMoment) := ⟨rfl, rfl, rfl, by decide +kernel, rfl, by decide +kernel, by decide +kernel⟩
theorem ok_moment {f : Addr} {fd : FuncData} (F : Fun K "moment_of" "moment_of" sMoment f fd) (T : TBale K mg C) (B : TBlt mg) : FnOk P w K mg base CX0 1 f fd ["bales"] (spMoment K C) := by
  refine F.ok scMoment (fun vs H Q E h => ?_) (fun cdv A outer s H vs Q E hr h => ?_)
  · obtain ⟨a, l, rfl, _⟩ := h
    rfl
  · obtain ⟨a, bs, rfl, ⟨ps, hS, hP⟩, hlen, hok, k⟩ := h
    refine ⟨_, pss_one (ps_ret (pe_callB (cr_sum rfl) (by rfl) B.sum (by decide +kernel) (pa_cons (pe_lc (own := [("bale", 1)]) (g := gName 1) (tt := tYes) (te := tOp _ (tFld K (tVar 1) "weight") (tFld K (tVar 1) "far")) rfl scMoment.nd
      (pi_list (pv 0))
      (blkOk_by (N := ["bales", "bale"]) (sc := defScope sMoment) (by decide +kernel))
      (fun _ _ _ _ _ => pg_name (i := 1) scMoment.nd rfl (Or.inl rfl)) (fun _ _ _ _ _ => pts_nil)
      (fun _ _ _ _ _ => pe_op op_mulN (pe_fld (pv 1) rfl) (pe_fld (pv 1) rfl))) pa_nil))), ?_⟩
    refine ⟨_, rfl, a, rfl, ⟨_, hS⟩, fun D hD => ?_⟩
    refine lc_list (K := K) (a := a) (xs := ps.map V.ref) (fun i H1 => Same H H1 ∧ H1 D = some (.lst (((bs.take i).map fun b => b.kg * b.long).map iv)))
        ⟨same_upd hD, upd_same⟩ (fun i H1 _ q => q.1.seq hS) ?_ ?_
    · rintro i x H1 hx ⟨sm, e1⟩
      obtain ⟨p, hp, rfl⟩ := ref_of hx
      obtain ⟨b, hb, dx, hd⟩ := pair_get hP hp
      have ob := hok b (List.mem_of_getElem? hb)
      refine ⟨rfl, ?_⟩
      refine ⟨_, rfl, p, C, dx, _, _, rfl, sm _ _ hd, T.cl, T.nW, bF_weight b, ?_⟩
      refine ⟨_, rfl, p, C, dx, _, _, rfl, sm _ _ hd, T.cl, T.nF, bF_far b, ?_⟩
      refine ⟨b.kg, b.long, rfl, rfl, by have := ob.2.1; omega, ?_⟩
      refine ⟨_, e1, ?_, fun b o hb => ?_, ?_⟩
      · rw [List.length_map, List.length_map, List.length_take]
        exact small_size (by omega)
      · rw [upd_ne (ne_of_none hb hD)]
        exact sm _ _ hb
      · rw [upd_same, map_more hb, List.map_append]
        rfl
    · rintro H1 ⟨sm, e1⟩
      rw [List.length_map, pair_len hP, List.take_length] at e1
      refine ⟨D, iz (bs.map fun b => b.kg * b.long), rfl, SqL.of (by rw [e1, iv_map]), ?_⟩
      rw [mOf_sum]
      exact k H1 sm

/-! ### mean_of(bales), longest_of(bales) -/
abbrev sMeanOf : Stmt := top 5
abbrev sLongest : Stmt := top 6
def spMeanOf (K : PySem.W.Frag) (C : Addr) : Sp := fun vs H Q _ => ∃ (a : Addr) (bs : List Bale), vs = [.ref a] ∧ BalesAt K C H a bs ∧ bs.length ≤ 100 ∧ OkBs bs ∧
  ∀ H' : Hp, Same H H' → Q (iv (meanOf bs)) H'
theorem scMeanOf : FnScope ["bales"] ["bales"] (defScope sMeanOf) := ⟨rfl, rfl, rfl, by decide +kernel, rfl, by decide +kernel, by decide +kernel⟩
theorem ok_mean_of {f fW fM : Addr} {fd fdW fdM : FuncData} (F : Fun K "mean_of" "mean_of" sMeanOf f fd) (B : TBlt mg) 
    (FW : Fun K "weight_of" "weight_of" sWeight fW fdW) (GW : FnOk P w K mg base CX0 1 fW fdW ["bales"] (spWeight K C)) (bW : Binds K fdW ["bales"] []) (gW : mg "weight_of" = some (.ref fW))
    (FM : Fun K "moment_of" "moment_of" sMoment fM fdM) (GM : FnOk P w K mg base CX0 1 fM fdM ["bales"] (spMoment K C)) (bM : Binds K fdM ["bales"] []) (gM : mg "moment_of" = some (.ref fM)) :
    FnOk P w K mg base CX0 2 f fd ["bales"] (spMeanOf K C) := by
  refine F.ok scMeanOf (fun vs H Q E h => ?_) (fun cdv A outer s H vs Q E hr h => ?_)
  · obtain ⟨a, l, rfl, _⟩ := h
    rfl
  · obtain ⟨a, bs, rfl, hB, hlen, hok, k⟩ := h
    refine ⟨_, pss_cons (ps_if (pt_cmpR op_eq (pe_callB call_len_seq (by rfl) B.len PySem.boot_len (pa_cons (pv 0) pa_nil)) pe_int (nomark _)) (pss_one (ps_ret pe_int)) pss_nil)
      (pss_one (ps_ret (pe_op op_fdivNN (pe_call GM hr (by rfl) gM FM.kp bM .nil pass0 (pa_cons (pv 0) pa_nil)) (pe_call GW hr (by rfl) gW FW.kp bW .nil pass0 (pa_cons (pv 0) pa_nil))))), ?_⟩
    have hB0 := hB
    obtain ⟨ps, hS, hP⟩ := hB0
    refine ⟨_, rfl, a, _, rfl, .inl hS, rfl, _, rfl, ite2 (fun e => ?_) (fun e => ?_)⟩
    · have e0 : ((ps.map V.ref).length : Int) = 0 := V.int.inj (of_decide_eq_true e)
      have e1 : bs = [] := List.length_eq_zero_iff.mp (by
        rw [List.length_map, pair_len hP] at e0
        omega)
      subst e1
      exact k H (Same.refl H)
    · have hne : bs ≠ [] := fun z => by
        subst z
        refine e (decide_eq_true ?_)
        rw [List.length_map, pair_len hP]
        rfl
      refine ⟨_, rfl, a, bs, rfl, hB, hlen, hok, fun H1 s1 => ?_⟩
      refine ⟨_, rfl, a, bs, rfl, hB.same s1, hlen, fun H2 s2 => ?_⟩
      have q1 := wOf_pos hok hne
      have q2 := wOf_le bs hok
      refine ⟨mOf bs, wOf bs, rfl, rfl, ⟨q1, by omega⟩, ?_⟩
      have em : meanOf bs = mOf bs / wOf bs := if_neg hne
      have k2 := k H2 (s1.trans s2)
      rw [em] at k2
      exact k2
def spLongest (K : PySem.W.Frag) (C : Addr) : Sp := fun vs H Q _ => ∃ (a : Addr) (bs : List Bale), vs = [.ref a] ∧ BalesAt K C H a bs ∧ bs.length ≤ 100 ∧
  ∀ H' : Hp, Same H H' → Q (iv (topOf bs)) H'
theorem scLongest : FnScope ["bales", "bale"] ["bales"] (defScope sLongest) := ⟨rfl, rfl, rfl, by decide +kernel, rfl, by decide +kernel, by decide +kernel⟩
theorem ok_longest {f : Addr} {fd : FuncData} (F : Fun K "longest_of" "longest_of" sLongest f fd) (T : TBale K mg C) (hmax : mg "max" = none) : FnOk P w K mg base CX0 1 f fd ["bales"] (spLongest K C) := by
  refine F.ok scLongest (fun vs H Q E h => ?_) (fun cdv A outer s H vs Q E hr h => ?_)
  · obtain ⟨a, l, rfl, _⟩ := h
    rfl
  · obtain ⟨a, bs, rfl, ⟨ps, hS, hP⟩, hlen, k⟩ := h
    refine ⟨_, pss_one (ps_ret (pe_callB (cr_max rfl) (by rfl) hmax (by decide +kernel) (pa_cons (pe_op op_cat (pe_lst (pa_cons pe_int pa_nil)) (pe_lc (own := [("bale", 1)]) (g := gName 1) (tt := tYes) (te := tFld K (tVar 1) "far") rfl scLongest.nd
      (pi_list (pv 0))
      (blkOk_by (N := ["bales", "bale"]) (sc := defScope sLongest) (by decide +kernel))
      (fun _ _ _ _ _ => pg_name (i := 1) scLongest.nd rfl (Or.inl rfl)) (fun _ _ _ _ _ => pts_nil)
      (fun _ _ _ _ _ => pe_fld (pv 1) rfl))) pa_nil))), ?_⟩
    refine ⟨by show 1 ≤ sizeLine; decide, fun z hz => ?_⟩
    have s0 : Same H (upd H z (.lst [.int 0])) := same_upd hz
    refine ⟨_, rfl, a, rfl, ⟨_, s0.seq hS⟩, fun D hD => ?_⟩
    have hDH : H D = none := s0.free hD
    have s1 := s0.trans (same_upd (o := HO.lst []) hD)
    have hzD : z ≠ D := ne_of_none upd_same hD
    refine lc_list (K := K) (a := a) (xs := ps.map V.ref) (fun i H1 => Same H H1 ∧ H1 z = some (.lst [.int 0]) ∧ H1 D = some (.lst (((bs.take i).map Bale.long).map iv)))
        ⟨s1, by rw [upd_ne hzD, upd_same], upd_same⟩ (fun i H1 _ q => q.1.seq hS) ?_ ?_
    · rintro i x H1 hx ⟨sm, ez, e1⟩
      obtain ⟨p, hp, rfl⟩ := ref_of hx
      obtain ⟨b, hb, dx, hd⟩ := pair_get hP hp
      refine ⟨rfl, ?_⟩
      refine ⟨_, rfl, p, C, dx, _, _, rfl, sm _ _ hd, T.cl, T.nF, bF_far b, ?_⟩
      refine ⟨_, e1, ?_, fun b o hb => ?_, by rw [upd_ne hzD]; exact ez, ?_⟩
      · rw [List.length_map, List.length_map, List.length_take]
        exact small_size (by omega)
      · rw [upd_ne (ne_of_none hb hDH)]
        exact sm _ _ hb
      · rw [upd_same, map_more hb, List.map_append]
        rfl
    · rintro H1 ⟨sm, ez, e1⟩
      rw [List.length_map, pair_len hP, List.take_length] at e1
      refine ⟨z, D, _, _, rfl, rfl, ez, e1, ?_, fun p hp => ?_⟩
      · rw [List.length_map, List.length_map]
        exact small_size' (by show 1 + bs.length ≤ _; omega)
      · refine ⟨p, iz (0 :: bs.map Bale.long), rfl, SqL.of (by rw [upd_same, ← iv_map]; rfl), by show 0 < (iz _).length; simp [iz], fun m hm hle => ?_⟩
        obtain ⟨n, hn, rfl⟩ : ∃ n ∈ 0 :: bs.map Bale.long, ((n : Nat) : Int) = m := by
          unfold iz at hm
          obtain ⟨n, h1, h2⟩ := List.mem_map.mp hm
          exact ⟨n, h1, h2⟩
        have e : topOf bs = n := topOf_of hn fun x hx => by
          have := hle (x : Int) (List.mem_map.mpr ⟨x, hx, rfl⟩)
          omega
        have k2 := k (upd H1 p (.lst ([.int 0] ++ (bs.map Bale.long).map iv))) (sm.trans (same_upd hp))
        rw [e] at k2
        exact k2
end
end Bm
namespace Bm
open PySem PySem.Spec PyProof.Rows L2
open Kzd1 (Bale)
theorem way_yes {c : Bool} {A B : Prop} (hc : c = true) (h : A) : if c = true then A else B := by
  rw [if_pos hc]
  exact h
theorem way_no {c : Bool} {A B : Prop} (hc : c = false) (h : B) : if c = true then A else B := by
  rw [hc, if_neg Bool.false_ne_true]
  exact h
abbrev sIsBale : Stmt := top 11
abbrev sAre : Stmt := top 12
/-- the constants of looking -/
structure TLook (mg : Str → Option Value) : Prop where
  mB : ∃ t, mg "MOST_BALES" = some (.int 9 t)
  mW : ∃ t, mg "MOST_WEIGHT" = some (.int 300 t)
  mL : ∃ t, mg "MOST_LENGTH" = some (.int 500 t)
section
variable {P : Program} {w : World} {K : PySem.W.Frag} {mg : Str → Option Value} {base : Heap} {C : Addr}
def okPair (a b : Nat) : Bool := decide (1 ≤ a ∧ a ≤ 300 ∧ b ≤ 500)
def spIsBale : Sp := fun vs H Q _ => ∃ (a b : Nat), vs = [iv a, iv b] ∧ Q (.bl (okPair a b)) H
theorem scIsBale : FnScope ["weight", "far"] ["weight", "far"] (defScope sIsBale) := ⟨rfl, rfl, rfl, by decide +kernel, rfl, by decide +kernel, by decide +kernel⟩
theorem ok_is_bale {f : Addr} {fd : FuncData} (F : Fun K "is_bale" "is_bale" sIsBale f fd) (L : TLook mg) : FnOk P w K mg base CX0 1 f fd ["weight", "far"] spIsBale := by
  refine F.ok scIsBale (fun vs H Q E h => ?_) (fun cdv A outer s H vs Q E hr h => ?_)
  · obtain ⟨a, b, rfl, _⟩ := h
    rfl
  · obtain ⟨a, b, rfl, k⟩ := h
    obtain ⟨tW, gW⟩ := L.mW
    obtain ⟨tL, gL⟩ := L.mL
    refine ⟨_, pss_one (ps_ret (pe_and (pe_chain op_le op_le pe_int (pv 0) (pe_glob (v := .int 300) rfl gW ⟨_, rfl⟩)) (pe_one (pe_cmpR op_le (pv 1) (pe_glob (v := .int 500) rfl gL ⟨_, rfl⟩) (nomark _))))), ?_⟩
    refine ⟨_, rfl, _, _, rfl, rfl, _, rfl, ite2 (fun e => ?_) (fun e => ?_)⟩
    · have e1 := of_decide_eq_true e
      refine ⟨_, _, rfl, rfl, _, rfl, ite2 (fun e => ?_) (fun e => ?_)⟩
      · have e2 := of_decide_eq_true e
        refine ⟨_, rfl, _, _, rfl, rfl, ?_⟩
        have q : decide ((b : Int) ≤ 500) = okPair a b := by
          unfold okPair
          apply decide_eq_decide.mpr
          constructor
          · intro h; omega
          · intro h; omega
        show Q (.bl (decide ((b : Int) ≤ 500))) H
        rw [q]
        exact k
      · have e2 : ¬ (a : Int) ≤ 300 := fun z => e (decide_eq_true z)
        have q : false = okPair a b := by
          unfold okPair
          exact (decide_eq_false (by omega)).symm
        rw [q]
        exact k
    · have e1 : ¬ (1 : Int) ≤ (a : Int) := fun z => e (decide_eq_true z)
      refine ⟨_, rfl, way_no rfl ?_⟩
      have q : false = okPair a b := by
        unfold okPair
        exact (decide_eq_false (by omega)).symm
      rw [q]
      exact k

theorem good_false_size {l : List Nat} (h : ¬ (l.length % 2 = 0 ∧ l.length ≤ 18)) : Kzd1.good l = false := by
  cases e : Kzd1.good l with
  | false => rfl
  | true => exact absurd ⟨((good_iff l).mp e).1, ((good_iff l).mp e).2.1⟩ h
theorem good_false_at {l : List Nat} {i : Nat} (hi : i < l.length / 2) (h : okPair (l.getD (2 * i) 0) (l.getD (2 * i + 1) 0) = false) : Kzd1.good l = false := by
  cases e : Kzd1.good l with
  | false => rfl
  | true =>
    have q := ((good_iff l).mp e).2.2 i hi
    unfold okPair at h
    exact absurd q (of_decide_eq_false h)
def spAre (K : PySem.W.Frag) : Sp := fun vs H Q _ => ∃ (a : Addr) (l : List Nat), vs = [.ref a] ∧ SqL K H a (l.map iv) ∧ l.length ≤ 20 ∧ Q (.bl (Kzd1.good l)) H
theorem scAre : FnScope ["numbers", "at"] ["numbers"] (defScope sAre) := ⟨rfl, rfl, rfl, by decide +kernel, rfl, by decide +kernel, by decide +kernel⟩
theorem ok_are {f fI : Addr} {fd fdI : FuncData} (F : Fun K "are_bales" "are_bales" sAre f fd) (B : TBlt mg) (L : TLook mg) (FI : Fun K "is_bale" "is_bale" sIsBale fI fdI) (bI : Binds K fdI ["weight", "far"] []) (gI : mg "is_bale" = some (.ref fI)) :
    FnOk P w K mg base CX0 2 f fd ["numbers"] (spAre K) := by
  have GI : FnOk P w K mg base CX0 1 fI fdI ["weight", "far"] spIsBale := ok_is_bale FI L
  refine F.ok scAre (fun vs H Q E h => ?_) (fun cdv A outer s H vs Q E hr h => ?_)
  · obtain ⟨a, l, rfl, _⟩ := h
    rfl
  · obtain ⟨a, l, rfl, hS, hlen, k⟩ := h
    obtain ⟨tB, gB⟩ := L.mB
    refine ⟨_, pss_cons (ps_if (PW.pt (pw_or (pt_cmpR op_ne (pe_op op_mod (pe_callB call_len_seq (by rfl) B.len PySem.boot_len (pa_cons (pv 0) pa_nil)) pe_int) pe_int (nomark _))
          (pw_or1 (pt_cmpR op_gt (pe_callB call_len_seq (by rfl) B.len PySem.boot_len (pa_cons (pv 0) pa_nil)) (pe_op op_mul pe_int (pe_glob (v := .int 9) rfl gB ⟨_, rfl⟩)) (nomark _)))))
          (pss_one (ps_ret pe_bl)) pss_nil)
      (pss_cons (ps_for PassesOwn.never rfl (pi_range3 rfl B.range (pa_cons pe_int (pa_cons (pe_callB call_len_seq (by rfl) B.len PySem.boot_len (pa_cons (pv 0) pa_nil)) (pa_cons pe_int pa_nil)))) (pg_name (i := 1) scAre.nd rfl (Or.inl rfl))
        (pss_one (ps_if (pt_not (pt_val (pe_call GI hr (by rfl) gI FI.kp bI .nil pass0 (pa_cons (pe_ix ix_list (pv 0) (pv 1) (fun _ _ => rfl)) (pa_cons (pe_ix ix_list (pv 0) (pe_op op_add (pv 1) pe_int) (fun _ _ => rfl)) pa_nil))))) (pss_one (ps_ret pe_bl)) pss_nil)))
      (pss_one (ps_ret pe_bl))), ?_⟩
    have hl : ((l.map iv).length : Int) = (l.length : Int) := by rw [List.length_map]
    refine ⟨_, rfl, a, _, rfl, .inl hS, _, _, rfl, rfl, (by show (0 : Int) < 2; decide), rfl, _, rfl, ?_⟩
    by_cases c1 : l.length % 2 = 0
    · refine way_no ?_ ?_
      · rw [hl]
        have e : (l.length : Int) % 2 = 0 := by omega
        show (!decide (V.int ((l.length : Int) % 2) = V.int 0)) = false
        rw [e]
        rfl
      · refine ⟨_, rfl, a, _, rfl, .inl hS, _, _, rfl, rfl, .inl ⟨by decide, by decide⟩, _, _, rfl, rfl, _, rfl, ?_⟩
        by_cases c2 : l.length ≤ 18
        · refine way_no ?_ ?_
          · rw [hl]
            exact decide_eq_false (by omega)
          · refine ⟨_, rfl, a, _, rfl, .inl hS, 0, _, 2, (l.length + 1) / 2, rfl, ?_, ?_⟩
            · rw [hl]
              exact rg2 _ hlen
            · refine for_rangeC (fun i σ H' => H' = H ∧ (∃ v, σ = [some (.ref a), v]) ∧ ∀ j, j < i → okPair (l.getD (2 * j) 0) (l.getD (2 * j + 1) 0) = true) ⟨rfl, ⟨none, rfl⟩, fun j hj => absurd hj (Nat.not_lt_zero j)⟩ ?_ ?_
              · rintro i σ H' hi ⟨rfl, ⟨v, rfl⟩, ih⟩
                have hi2 : i < l.length / 2 := by omega
                have g0 : 2 * i < l.length := by omega
                have g1 : 2 * i + 1 < l.length := by omega
                have i0 : l[2 * i]? = some (l.getD (2 * i) 0) := by simp [g0]
                have i1 : l[2 * i + 1]? = some (l.getD (2 * i + 1) 0) := by simp [g1]
                refine ⟨_, rfl, _, rfl, a, _, _, _, rfl, rfl, hS, at_of (j := 2 * i) (by omega) (iv_get i0), ?_⟩
                refine ⟨_, rfl, _, rfl, _, _, rfl, rfl, a, _, _, _, rfl, rfl, hS, at_of (j := 2 * i + 1) (by omega) (iv_get i1), ?_⟩
                refine ⟨_, _, rfl, _, rfl, ?_⟩
                cases e : okPair (l.getD (2 * i) 0) (l.getD (2 * i + 1) 0) with
                | true =>
                  refine way_no rfl ⟨rfl, ⟨_, rfl⟩, fun j hj => ?_⟩
                  rcases Nat.lt_succ_iff_lt_or_eq.mp hj with q | q
                  · exact ih j q
                  · rw [q]
                    exact e
                | false =>
                  refine way_yes rfl ?_
                  rw [good_false_at hi2 e] at k
                  exact k
              · rintro σ H' ⟨rfl, ⟨v, rfl⟩, ih⟩
                have g : Kzd1.good l = true := (good_iff l).mpr ⟨c1, c2, fun i hi => of_decide_eq_true (ih i (by omega))⟩
                rw [g] at k
                exact k
        · refine way_yes ?_ ?_
          · rw [hl]
            exact decide_eq_true (by omega)
          · rw [good_false_size (fun z => c2 z.2)] at k
            exact k
    · refine way_yes ?_ (way_yes rfl ?_)
      · rw [hl]
        have e : (l.length : Int) % 2 = 1 := by omega
        show (!decide (V.int ((l.length : Int) % 2) = V.int 0)) = true
        rw [e]
        rfl
      · rw [good_false_size (fun z => c1 z.1)] at k
        exact k

/-! ### mean(bales) -/
abbrev sMean : Stmt := top 15
def spMean (K : PySem.W.Frag) : Sp := fun vs H Q _ => ∃ (a : Addr) (l : List Nat), vs = [.ref a] ∧ SqL K H a (l.map iv) ∧ l.length ≤ 20 ∧
  ∀ (H' : Hp) (p : Addr), H' p = some (.lst ((PyKzd1.mean (iz l)).map V.int)) → Q (.ref p) H'
theorem scMean : FnScope ["bales", "some"] ["bales"] (defScope sMean) := ⟨rfl, rfl, rfl, by decide +kernel, rfl, by decide +kernel, by decide +kernel⟩
theorem ok_mean {f fA fB fM fW fL : Addr} {fd fdA fdB fdM fdW fdL : FuncData} (F : Fun K "mean" "mean" sMean f fd) (gR : ∃ t, mg "WRONG" = some (.int (-22) t))
    (FA : PySem.W.keepIn K (.ref fA) = true) (GA : FnOk P w K mg base CX0 2 fA fdA ["numbers"] (spAre K)) (bA : Binds K fdA ["numbers"] []) (gA : mg "are_bales" = some (.ref fA))
    (FB : PySem.W.keepIn K (.ref fB) = true) (GB : FnOk P w K mg base CX0 3 fB fdB ["numbers"] (spBalesOf K C)) (bB : Binds K fdB ["numbers"] []) (gB : mg "bales_of" = some (.ref fB))
    (FM : PySem.W.keepIn K (.ref fM) = true) (GM : FnOk P w K mg base CX0 2 fM fdM ["bales"] (spMeanOf K C)) (bM : Binds K fdM ["bales"] []) (gM : mg "mean_of" = some (.ref fM))
    (FW : PySem.W.keepIn K (.ref fW) = true) (GW : FnOk P w K mg base CX0 1 fW fdW ["bales"] (spWeight K C)) (bW : Binds K fdW ["bales"] []) (gW : mg "weight_of" = some (.ref fW))
    (FL : PySem.W.keepIn K (.ref fL) = true) (GL : FnOk P w K mg base CX0 1 fL fdL ["bales"] (spLongest K C)) (bL : Binds K fdL ["bales"] []) (gL : mg "longest_of" = some (.ref fL)) :
    FnOk P w K mg base CX0 4 f fd ["bales"] (spMean K) := by
  refine F.ok scMean (fun vs H Q E h => ?_) (fun cdv A outer s H vs Q E hr h => ?_)
  · obtain ⟨a, l, rfl, _⟩ := h
    rfl
  · obtain ⟨a, l, rfl, hS, hlen, k⟩ := h
    obtain ⟨tR, gR⟩ := gR
    refine ⟨_, pss_cons (ps_if (pt_not (pt_val (pe_call GA (hr.mono (by decide)) (by rfl) gA FA bA .nil pass0 (pa_cons (pv 0) pa_nil)))) (pss_one (ps_ret (pe_lst (pa_cons (pe_glob (v := .int (-22)) rfl gR ⟨_, rfl⟩) pa_nil)))) pss_nil)
      (pss_cons (ps_set (i := 1) scMean.nd rfl (.inl rfl) (pe_call GB hr (by rfl) gB FB bB .nil pass0 (pa_cons (pv 0) pa_nil)))
      (pss_one (ps_ret (pe_lst (pa_cons (pe_call GM (hr.mono (by decide)) (by rfl) gM FM bM .nil pass0 (pa_cons (pv 1) pa_nil)) (pa_cons (pe_call GW (hr.mono (by decide)) (by rfl) gW FW bW .nil pass0 (pa_cons (pv 1) pa_nil)) (pa_cons (pe_call GL (hr.mono (by decide)) (by rfl) gL FL bL .nil pass0 (pa_cons (pv 1) pa_nil)) pa_nil))))))), ?_⟩
    refine ⟨_, rfl, a, l, rfl, hS, hlen, _, rfl, ?_⟩
    cases e : Kzd1.good l with
    | false =>
      refine way_yes rfl ⟨by show 1 ≤ sizeLine; decide, fun p hp => ?_⟩
      refine k _ p ?_
      rw [upd_same, mean_bad e]
      rfl
    | true =>
      obtain ⟨g1, g2, g3, g4⟩ := good_of e
      refine way_no rfl ⟨_, rfl, a, l, rfl, hS, g1, hlen, fun H1 p s1 hB => ?_⟩
      refine ⟨_, rfl, p, _, rfl, hB, by omega, g3, fun H2 s2 => ?_⟩
      refine ⟨_, rfl, p, _, rfl, hB.same s2, by omega, fun H3 s3 => ?_⟩
      refine ⟨_, rfl, p, _, rfl, hB.same (s2.trans s3), by omega, fun H4 s4 => ?_⟩
      refine ⟨by show 3 ≤ sizeLine; decide, fun q hq => ?_⟩
      refine k _ q ?_
      rw [upd_same, mean_good e, ← iv_map]
      rfl
end
end Bm
namespace Bm
open PySem PySem.Spec PyProof.Rows L2
open PySem.W (Codec)
theorem all_nonneg {l : List Int} (h : l.all (Codec.inInt 0 4294967295) = true) : ∀ x ∈ l, 0 ≤ x := fun x hx => by
  have q := List.all_eq_true.mp h x hx
  unfold Codec.inInt at q
  simp only [Bool.and_eq_true, decide_eq_true_eq] at q
  exact q.1
/-! ### the end: what the top has written -/
theorem all_mk {P : Program} {w : World} {K : PySem.W.Frag} {h : Heap} {mg : Str → Option Value} {fa C fBi fBo fWe fMo fMe fLo fIb fAr fMean : Addr} (X : K.In h) (G : h.Ns mainGlobals mg) (hfa : mg "mean" = some (.ref fa))
    {odBi anBi odBo anBo odWe anWe odMo anMo odMe anMe odLo anLo odIb anIb odAr anAr odMean anMean : Option Addr} {slBi slBo slWe slMo slMe slLo slIb slAr slMean : Array (Option Value)} {ocBi kVBi dcBi pmBi cdBi ctBi ocBo kVBo dcBo pmBo cdBo ctBo ocWe kVWe dcWe pmWe cdWe ctWe ocMo kVMo dcMo pmMo cdMo ctMo ocMe kVMe dcMe pmMe cdMe ctMe ocLo kVLo dcLo pmLo cdLo ctLo ocIb kVIb dcIb pmIb cdIb ctIb ocAr kVAr dcAr pmAr cdAr ctAr ocMean kVMean dcMean pmMean cdMean ctMean : Value} {tMOST_BALES tMOST_WEIGHT tMOST_LENGTH tWRONG : Tok}
    (aC : PySem.W.nsIn K mainGlobals "Bale" = some (some (.ref C)))
    (aBi : PySem.W.findIn K (.ref C) "__init__" = some (some (.ref fBi)))
    (iBi : PySem.W.isFn K (.ref fBi) = true)
    (lBi : K.lookup fBi = some ⟨ocBi, odBi, .func (PySem.W.fnOf "__init__" "Bale.__init__" (defArgs sBale) (defBody sBale) (defScope sBale) .none kVBi dcBi pmBi anBi cdBi ctBi), slBi⟩)
    (cBi : PySem.W.codeIn K cdBi "Bale.__init__" = true)
    (kBi : PySem.W.keepIn K (.ref fBi) = true)
    (aBo : PySem.W.nsIn K mainGlobals "bales_of" = some (some (.ref fBo)))
    (lBo : K.lookup fBo = some ⟨ocBo, odBo, .func (PySem.W.fnOf "bales_of" "bales_of" (defArgs sBalesOf) (defBody sBalesOf) (defScope sBalesOf) .none kVBo dcBo pmBo anBo cdBo ctBo), slBo⟩)
    (cBo : PySem.W.codeIn K cdBo "bales_of" = true)
    (kBo : PySem.W.keepIn K (.ref fBo) = true)
    (aWe : PySem.W.nsIn K mainGlobals "weight_of" = some (some (.ref fWe)))
    (lWe : K.lookup fWe = some ⟨ocWe, odWe, .func (PySem.W.fnOf "weight_of" "weight_of" (defArgs sWeight) (defBody sWeight) (defScope sWeight) .none kVWe dcWe pmWe anWe cdWe ctWe), slWe⟩)
    (cWe : PySem.W.codeIn K cdWe "weight_of" = true)
    (kWe : PySem.W.keepIn K (.ref fWe) = true)
    (aMo : PySem.W.nsIn K mainGlobals "moment_of" = some (some (.ref fMo)))
    (lMo : K.lookup fMo = some ⟨ocMo, odMo, .func (PySem.W.fnOf "moment_of" "moment_of" (defArgs sMoment) (defBody sMoment) (defScope sMoment) .none kVMo dcMo pmMo anMo cdMo ctMo), slMo⟩)
    (cMo : PySem.W.codeIn K cdMo "moment_of" = true)
    (kMo : PySem.W.keepIn K (.ref fMo) = true)
    (aMe : PySem.W.nsIn K mainGlobals "mean_of" = some (some (.ref fMe)))
    (lMe : K.lookup fMe = some ⟨ocMe, odMe, .func (PySem.W.fnOf "mean_of" "mean_of" (defArgs sMeanOf) (defBody sMeanOf) (defScope sMeanOf) .none kVMe dcMe pmMe anMe cdMe ctMe), slMe⟩)
    (cMe : PySem.W.codeIn K cdMe "mean_of" = true)
    (kMe : PySem.W.keepIn K (.ref fMe) = true)
    (aLo : PySem.W.nsIn K mainGlobals "longest_of" = some (some (.ref fLo)))
    (lLo : K.lookup fLo = some ⟨ocLo, odLo, .func (PySem.W.fnOf "longest_of" "longest_of" (defArgs sLongest) (defBody sLongest) (defScope sLongest) .none kVLo dcLo pmLo anLo cdLo ctLo), slLo⟩)
    (cLo : PySem.W.codeIn K cdLo "longest_of" = true)
    (kLo : PySem.W.keepIn K (.ref fLo) = true)
    (aIb : PySem.W.nsIn K mainGlobals "is_bale" = some (some (.ref fIb)))
    (lIb : K.lookup fIb = some ⟨ocIb, odIb, .func (PySem.W.fnOf "is_bale" "is_bale" (defArgs sIsBale) (defBody sIsBale) (defScope sIsBale) .none kVIb dcIb pmIb anIb cdIb ctIb), slIb⟩)
    (cIb : PySem.W.codeIn K cdIb "is_bale" = true)
    (kIb : PySem.W.keepIn K (.ref fIb) = true)
    (aAr : PySem.W.nsIn K mainGlobals "are_bales" = some (some (.ref fAr)))
    (lAr : K.lookup fAr = some ⟨ocAr, odAr, .func (PySem.W.fnOf "are_bales" "are_bales" (defArgs sAre) (defBody sAre) (defScope sAre) .none kVAr dcAr pmAr anAr cdAr ctAr), slAr⟩)
    (cAr : PySem.W.codeIn K cdAr "are_bales" = true)
    (kAr : PySem.W.keepIn K (.ref fAr) = true)
    (aMean : PySem.W.nsIn K mainGlobals "mean" = some (some (.ref fMean)))
    (lMean : K.lookup fMean = some ⟨ocMean, odMean, .func (PySem.W.fnOf "mean" "mean" (defArgs sMean) (defBody sMean) (defScope sMean) .none kVMean dcMean pmMean anMean cdMean ctMean), slMean⟩)
    (cMean : PySem.W.codeIn K cdMean "mean" = true)
    (kMean : PySem.W.keepIn K (.ref fMean) = true)
    (pgC : PySem.W.plainGet K C Str.empty = true)
    (hdC : PySem.W.hasDictIn K C = true)
    (poC : PySem.W.plainOver K C = true)
    (saC : PySem.W.findIn K (.ref C) "__setattr__" = some (some (.builtin "object.__setattr__")))
    (mkC : PySem.W.makesIn K C = true)
    (kcC : PySem.W.keepIn K (.ref C) = true)
    (nCweight : PySem.W.findIn K (.ref C) "weight" = some none)
    (nCfar : PySem.W.findIn K (.ref C) "far" = some none)
    (cMOST_BALES : PySem.W.nsIn K mainGlobals "MOST_BALES" = some (some (.int (9) tMOST_BALES)))
    (cMOST_WEIGHT : PySem.W.nsIn K mainGlobals "MOST_WEIGHT" = some (some (.int (300) tMOST_WEIGHT)))
    (cMOST_LENGTH : PySem.W.nsIn K mainGlobals "MOST_LENGTH" = some (some (.int (500) tMOST_LENGTH)))
    (cWRONG : PySem.W.nsIn K mainGlobals "WRONG" = some (some (.int (-22) tWRONG)))
    (zlen : PySem.W.nsIn K mainGlobals "len" = some none)
    (zrange : PySem.W.nsIn K mainGlobals "range" = some none)
    (zsum : PySem.W.nsIn K mainGlobals "sum" = some none)
    (zmax : PySem.W.nsIn K mainGlobals "max" = some none)
    : ∃ fd : FuncData, (∀ (s : Shared) (us : List Value), us.length = (["bales"] : List Str).length → BindsTo s fd ⟨us, []⟩ ((["bales"] : List Str).zip us)) ∧ ∀ base : Heap, K.In base → base.Ns mainGlobals mg → FnOk P w K mg base CX0 4 fa fd ["bales"] (spMean K) := by
  have e := hfa.symm.trans (PySem.W.mg_of X G aMean)
  cases e
  have FBi := fun_mk (st := sBale) lBi cBi kBi
  have FBo := fun_mk (st := sBalesOf) lBo cBo kBo
  have FWe := fun_mk (st := sWeight) lWe cWe kWe
  have FMo := fun_mk (st := sMoment) lMo cMo kMo
  have FMe := fun_mk (st := sMeanOf) lMe cMe kMe
  have FLo := fun_mk (st := sLongest) lLo cLo kLo
  have FIb := fun_mk (st := sIsBale) lIb cIb kIb
  have FAr := fun_mk (st := sAre) lAr cAr kAr
  have FMean := fun_mk (st := sMean) lMean cMean kMean
  have bBi := FBi.binds (ps := ["self", "weight", "far"]) fun _ _ _ _ _ _ us hl => match us, hl with | [_, _, _], _ => rfl
  have bBo := FBo.binds (ps := ["numbers"]) fun _ _ _ _ _ _ us hl => match us, hl with | [_], _ => rfl
  have gBo := PySem.W.mg_of X G aBo
  have bWe := FWe.binds (ps := ["bales"]) fun _ _ _ _ _ _ us hl => match us, hl with | [_], _ => rfl
  have gWe := PySem.W.mg_of X G aWe
  have bMo := FMo.binds (ps := ["bales"]) fun _ _ _ _ _ _ us hl => match us, hl with | [_], _ => rfl
  have gMo := PySem.W.mg_of X G aMo
  have bMe := FMe.binds (ps := ["bales"]) fun _ _ _ _ _ _ us hl => match us, hl with | [_], _ => rfl
  have gMe := PySem.W.mg_of X G aMe
  have bLo := FLo.binds (ps := ["bales"]) fun _ _ _ _ _ _ us hl => match us, hl with | [_], _ => rfl
  have gLo := PySem.W.mg_of X G aLo
  have bIb := FIb.binds (ps := ["weight", "far"]) fun _ _ _ _ _ _ us hl => match us, hl with | [_, _], _ => rfl
  have gIb := PySem.W.mg_of X G aIb
  have bAr := FAr.binds (ps := ["numbers"]) fun _ _ _ _ _ _ us hl => match us, hl with | [_], _ => rfl
  have gAr := PySem.W.mg_of X G aAr
  have gC := PySem.W.mg_of X G aC
  have gMOST_BALES := PySem.W.mg_of X G cMOST_BALES
  have gMOST_WEIGHT := PySem.W.mg_of X G cMOST_WEIGHT
  have gMOST_LENGTH := PySem.W.mg_of X G cMOST_LENGTH
  have gWRONG := PySem.W.mg_of X G cWRONG
  have mlen := PySem.W.mg_none_of X G zlen
  have mrange := PySem.W.mg_none_of X G zrange
  have msum := PySem.W.mg_none_of X G zsum
  have mmax := PySem.W.mg_none_of X G zmax
  have T : TBale K mg C := ⟨⟨pgC, hdC, poC, saC⟩, nCweight, nCfar, gC⟩
  have B : TBlt mg := ⟨mlen, mrange, msum⟩
  have L : TLook mg := ⟨⟨_, gMOST_BALES⟩, ⟨_, gMOST_WEIGHT⟩, ⟨_, gMOST_LENGTH⟩⟩
  exact ⟨PySem.W.fnOf "mean" "mean" (defArgs sMean) (defBody sMean) (defScope sMean) .none kVMean dcMean pmMean anMean cdMean ctMean, fun s us hu => match us, hu with | [_], _ => .of_eq rfl, fun base _ _ => ok_mean FMean ⟨_, gWRONG⟩
    kAr (ok_are FAr B L FIb bIb gIb) bAr gAr
    kBo (ok_bales_of FBo T B ⟨mkC, aBi, iBi, kcC⟩ FBi bBi) bBo gBo
    kMe (ok_mean_of FMe B FWe (ok_weight FWe T B) bWe gWe FMo (ok_moment FMo T B) bMo gMo) bMe gMe
    kWe (ok_weight FWe T B) bWe gWe
    kLo (ok_longest FLo T mmax) bLo gLo⟩
end Bm
open PySem PySem.W PyProof.Rows
set_option maxRecDepth 100000 in
set_option maxHeartbeats 8000000 in
theorem PySem.Challenge.cw_balelayer_s01_mean_holds : PySem.Challenge.rw_balelayer_s01_mean.Holds := by
  w_on; k_headS; (case hw => exact ⟨[.list []], by decide +kernel, by decide +kernel⟩)
  k_fillS
  refine L2.walk_specK (r := PySem.Challenge.rw_balelayer_s01_mean) (k := 4) (CX := L2.CX0) (ps := ["bales"]) (sp := Bm.spMean) (by decide +kernel) rfl rfl ⟨rfl, by decide, by decide⟩ (fun w h Y => PySem.W.kIn_of Y) ?F ?S (fun _ _ _ _ z => z)
  case F =>
    intro w mg fa h Y KX G hmg
    refine' Bm.all_mk KX G hmg ?aC ?aBi ?iBi ?lBi ?cBi ?kBi ?aBo ?lBo ?cBo ?kBo ?aWe ?lWe ?cWe ?kWe ?aMo ?lMo ?cMo ?kMo ?aMe ?lMe ?cMe ?kMe ?aLo ?lLo ?cLo ?kLo ?aIb ?lIb ?cIb ?kIb ?aAr ?lAr ?cAr ?kAr ?aMean ?lMean ?cMean ?kMean ?pgC ?hdC ?poC ?saC ?mkC ?kcC ?nCweight ?nCfar ?cMOST_BALES ?cMOST_WEIGHT ?cMOST_LENGTH ?cWRONG ?zlen ?zrange ?zsum ?zmax
    (case aC => k_is)
    (case aBi => k_is)
    (case iBi => k_is)
    (case lBi => k_is)
    (case cBi => k_is)
    (case kBi => k_is)
    (case aBo => k_is)
    (case lBo => k_is)
    (case cBo => k_is)
    (case kBo => k_is)
    (case aWe => k_is)
    (case lWe => k_is)
    (case cWe => k_is)
    (case kWe => k_is)
    (case aMo => k_is)
    (case lMo => k_is)
    (case cMo => k_is)
    (case kMo => k_is)
    (case aMe => k_is)
    (case lMe => k_is)
    (case cMe => k_is)
    (case kMe => k_is)
    (case aLo => k_is)
    (case lLo => k_is)
    (case cLo => k_is)
    (case kLo => k_is)
    (case aIb => k_is)
    (case lIb => k_is)
    (case cIb => k_is)
    (case kIb => k_is)
    (case aAr => k_is)
    (case lAr => k_is)
    (case cAr => k_is)
    (case kAr => k_is)
    (case aMean => k_is)
    (case lMean => k_is)
    (case cMean => k_is)
    (case kMean => k_is)
    (case pgC => k_is)
    (case hdC => k_is)
    (case poC => k_is)
    (case saC => k_is)
    (case mkC => k_is)
    (case kcC => k_is)
    (case nCweight => k_is)
    (case nCfar => k_is)
    (case cMOST_BALES => k_is)
    (case cMOST_WEIGHT => k_is)
    (case cMOST_LENGTH => k_is)
    (case cWRONG => k_is)
    (case zlen => k_is)
    (case zrange => k_is)
    (case zsum => k_is)
    (case zmax => k_is)
  case S =>
    intro K H xs a hO hwi hask hx
    cases hx with
    | cons h1 h2 =>
      cases h2
      cases h1 with
      | lst hs ha =>
        have e := L2.ints_dw a.1 _ ha
        subst e
        have q : ((Codec.inLen 0 20 a.1 && a.1.all (Codec.inInt 0 4294967295)) && true) = true := hwi
        rw [Bool.and_eq_true, Bool.and_eq_true] at q
        have hn := Bm.iz_natsOf (l := a.1) (Bm.all_nonneg q.1.2)
        refine ⟨_, Kzd1Neutral.natsOf a.1, rfl, ?_, ?_, fun H' p hp => ?_⟩
        · rw [Bm.iv_map, hn]
          exact hs
        · have hl := (Codec.inNat_iff.mp q.1.1).2
          show (a.1.map Int.toNat).length ≤ 20
          rw [List.length_map]
          exact hl
        · rw [hn] at hp
          exact .lst (L2.SqL.of hp) (L2.dw_ints _)
#print axioms PySem.Challenge.cw_balelayer_s01_mean_holds
