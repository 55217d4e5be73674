import PyProof.Rows.All
import Wide.All
import OpenK.AllK
import Wide.FinOn
import HandS.ForMost
import HandS.Evl
import HandS.Conv
import HandS.Style
import HandS.IsInst
import HandS.Zip
import HandS.SortInts
import HandS.DictComp
import HandS.Defaults
import KE.GoesEnum
import KE.GoesZip
import KE.KDictZip
import KE.KDictItemsList
import HandS.Star
import HandS.SetFor
import HandS.Strs
import PySem.Challenge.RW_houseslessties_k62_whole_far_rounds_of_m
import HandS.Ends
set_option linter.all false
namespace HM
/-! sums -/
def S : Nat → (Nat → Int) → Int
  | 0, _ => 0
  | n + 1, f => S n f + f n
theorem S_congr {f g : Nat → Int} : ∀ n, (∀ i, i < n → f i = g i) → S n f = S n g
  | 0, _ => rfl
  | n + 1, h => by
    show S n f + f n = S n g + g n
    rw [S_congr n fun i hi => h i (Nat.lt_succ_of_lt hi), h n (Nat.lt_succ_self n)]
theorem S_zero : ∀ n, S n (fun _ => 0) = 0
  | 0 => rfl
  | n + 1 => by show S n _ + 0 = 0; rw [S_zero n]; rfl
theorem S_add (f g : Nat → Int) : ∀ n, S n (fun i => f i + g i) = S n f + S n g
  | 0 => rfl
  | n + 1 => by show S n _ + (f n + g n) = (S n f + f n) + (S n g + g n); rw [S_add f g n]; omega
theorem S_sub (f g : Nat → Int) : ∀ n, S n (fun i => f i - g i) = S n f - S n g
  | 0 => rfl
  | n + 1 => by show S n _ + (f n - g n) = (S n f + f n) - (S n g + g n); rw [S_sub f g n]; omega
theorem S_mulL (k : Int) (f : Nat → Int) : ∀ n, S n (fun i => k * f i) = k * S n f
  | 0 => by show (0 : Int) = k * 0; rw [Int.mul_zero]
  | n + 1 => by show S n _ + k * f n = k * (S n f + f n); rw [S_mulL k f n, Int.mul_add]
theorem S_mulR (k : Int) (f : Nat → Int) : ∀ n, S n (fun i => f i * k) = S n f * k
  | 0 => by show (0 : Int) = 0 * k; rw [Int.zero_mul]
  | n + 1 => by show S n _ + f n * k = (S n f + f n) * k; rw [S_mulR k f n, Int.add_mul]
theorem S_swap (f : Nat → Nat → Int) : ∀ n m, S n (fun i => S m (fun j => f i j)) = S m (fun j => S n (fun i => f i j))
  | 0, m => by show 0 = S m (fun _ => 0); rw [S_zero]
  | n + 1, m => by
    show S n (fun i => S m (fun j => f i j)) + S m (fun j => f n j) = S m (fun j => S n (fun i => f i j) + f n j)
    rw [S_swap f n m, S_add]
theorem S_mod {m : Int} {f g : Nat → Int} : ∀ n, (∀ i, i < n → f i % m = g i % m) → S n f % m = S n g % m
  | 0, _ => rfl
  | n + 1, h => by
    show (S n f + f n) % m = (S n g + g n) % m
    rw [Int.add_emod, S_mod n fun i hi => h i (Nat.lt_succ_of_lt hi), h n (Nat.lt_succ_self n), ← Int.add_emod]
theorem S_delta (c : Nat → Int) (i : Nat) : ∀ n, S n (fun j => c j * (if i = j then 1 else 0)) = if i < n then c i else 0
  | 0 => rfl
  | n + 1 => by
    show S n _ + c n * (if i = n then 1 else 0) = _
    rw [S_delta c i n]
    by_cases h : i = n
    · subst h; rw [if_neg (Nat.lt_irrefl _), if_pos rfl, if_pos (Nat.lt_succ_self _)]; omega
    · rw [if_neg h, Int.mul_zero, Int.add_zero]
      by_cases h2 : i < n
      · rw [if_pos h2, if_pos (by omega)]
      · rw [if_neg h2, if_neg (by omega)]
/-- lists and sums -/
theorem sum_range_map (f : Nat → Int) : ∀ n, ((List.range n).map f).sum = S n f
  | 0 => rfl
  | n + 1 => by rw [List.range_succ, List.map_append, List.sum_append, sum_range_map f n]; show S n f + (f n + 0) = S n f + f n; omega
theorem list_tab (xs : List Int) : xs = (List.range xs.length).map fun i => xs.getD i 0 := by
  refine List.ext_getElem (by simp) fun i h1 h2 => ?_
  simp [List.getElem_map, List.getElem_range, List.getD_eq_getElem?_getD, h1]
theorem sum_S (xs : List Int) : xs.sum = S xs.length fun i => xs.getD i 0 := by
  conv => lhs; rw [list_tab xs]
  exact sum_range_map _ _
def dot (a b : List Int) : Int := ((a.zip b).map fun p => p.1 * p.2).sum
theorem dot_S {a b : List Int} {n : Nat} (ha : a.length = n) (hb : b.length = n) : dot a b = S n fun j => a.getD j 0 * b.getD j 0 := by
  unfold dot
  rw [sum_S]
  have hl : ((a.zip b).map fun p => p.1 * p.2).length = n := by simp [ha, hb]
  rw [hl]
  refine S_congr n fun i hi => ?_
  simp [List.getD_eq_getElem?_getD, ha, hb, hi]
/-! tables -/
def app (m : Int) (T : List (List Int)) (c : List Int) : List Int := T.map fun row => dot row c % m
def cols (n : Nat) (T : List (List Int)) : List (List Int) := (List.range n).map fun k => T.map fun row => row.getD k 0
def dbl (m : Int) (n : Nat) (T : List (List Int)) : List (List Int) := T.map fun row => (cols n T).map fun col => dot row col % m
def Sq (n : Nat) (T : List (List Int)) : Prop := T.length = n ∧ ∀ row ∈ T, row.length = n
def rdot (m : Int) (T : List (List Int)) (c : List Int) (j : Nat) : Int := dot (T.getD j []) c % m
theorem app_get {m : Int} {T : List (List Int)} {c : List Int} {j : Nat} (h : j < T.length) : (app m T c).getD j 0 = dot (T.getD j []) c % m := by
  unfold app
  simp [List.getD_eq_getElem?_getD, h]
theorem app_len {m : Int} {T : List (List Int)} {c : List Int} : (app m T c).length = T.length := by unfold app; simp
theorem cols_get {n : Nat} {T : List (List Int)} {k : Nat} (hk : k < n) : (cols n T).getD k [] = T.map fun row => row.getD k 0 := by
  unfold cols
  simp [List.getD_eq_getElem?_getD, hk]
theorem dbl_sq {m : Int} {n : Nat} {T : List (List Int)} (h : Sq n T) : Sq n (dbl m n T) := by
  refine ⟨by unfold dbl; simp [h.1], fun row hr => ?_⟩
  unfold dbl at hr
  obtain ⟨r, _, rfl⟩ := List.mem_map.mp hr
  simp [cols]
theorem dbl_app {m : Int} {n : Nat} {T : List (List Int)} {c : List Int} (h : Sq n T) (hc : c.length = n) : app m (dbl m n T) c = app m T (app m T c) := by
  unfold app dbl
  rw [List.map_map]
  refine List.map_congr_left fun row hr => ?_
  have hrow := h.2 row hr
  show dot ((cols n T).map fun col => dot row col % m) c % m = dot row (T.map fun row => dot row c % m) % m
  have l1 : ((cols n T).map fun col => dot row col % m).length = n := by simp [cols]
  have l2 : (T.map fun row => dot row c % m).length = n := by simp [h.1]
  rw [dot_S l1 hc, dot_S hrow l2]
  have e1 : S n (fun k => ((cols n T).map fun col => dot row col % m).getD k 0 * c.getD k 0) % m = S n (fun k => S n (fun j => row.getD j 0 * (T.getD j []).getD k 0) * c.getD k 0) % m := by
    refine S_mod n fun k hk => ?_
    have e : ((cols n T).map fun col => dot row col % m).getD k 0 = dot row (T.map fun r => r.getD k 0) % m := by
      have := cols_get (T := T) hk
      simp [List.getD_eq_getElem?_getD, cols, hk]
    rw [e, dot_S hrow (by simp [h.1] : (T.map fun r => r.getD k 0).length = n), Int.mul_emod, Int.emod_emod_of_dvd _ (Int.dvd_refl m), ← Int.mul_emod]
    congr 2
    refine S_congr n fun j hj => ?_
    have hj' : j < T.length := by rw [h.1]; exact hj
    simp [List.getD_eq_getElem?_getD, hj']
  have e2 : S n (fun j => row.getD j 0 * (T.map fun row => dot row c % m).getD j 0) % m = S n (fun j => row.getD j 0 * S n (fun k => (T.getD j []).getD k 0 * c.getD k 0)) % m := by
    refine S_mod n fun j hj => ?_
    have hj' : j < T.length := by rw [h.1]; exact hj
    have e : (T.map fun row => dot row c % m).getD j 0 = dot (T.getD j []) c % m := by simp [List.getD_eq_getElem?_getD, hj']
    have hl : (T.getD j []).length = n := h.2 _ (by simp [List.getD_eq_getElem?_getD, hj'])
    rw [e, dot_S hl hc, Int.mul_emod, Int.emod_emod_of_dvd _ (Int.dvd_refl m), ← Int.mul_emod]
  rw [e1, e2]
  congr 1
  have e3 : S n (fun k => S n (fun j => row.getD j 0 * (T.getD j []).getD k 0) * c.getD k 0) = S n (fun k => S n (fun j => row.getD j 0 * (T.getD j []).getD k 0 * c.getD k 0)) := S_congr n fun k _ => (S_mulR _ _ n).symm
  have e4 : S n (fun j => row.getD j 0 * S n (fun k => (T.getD j []).getD k 0 * c.getD k 0)) = S n (fun j => S n (fun k => row.getD j 0 * (T.getD j []).getD k 0 * c.getD k 0)) := S_congr n fun j _ => by
    rw [← S_mulL]
    exact S_congr n fun k _ => (Int.mul_assoc _ _ _).symm
  rw [e3, e4]
  exact S_swap (fun k j => row.getD j 0 * (T.getD j []).getD k 0 * c.getD k 0) n n
/-! what a table does -/
structure Acts (m : Int) (n : Nat) (T : List (List Int)) (F : List Int → List Int) : Prop where
  sq : Sq n T
  app : ∀ c, c.length = n → app m T c = F c
theorem Acts.len {m : Int} {n : Nat} {T : List (List Int)} {F : List Int → List Int} (h : Acts m n T F) {c : List Int} (hc : c.length = n) : (F c).length = n := by rw [← h.app c hc, app_len, h.sq.1]
theorem Acts.dbl {m : Int} {n : Nat} {T : List (List Int)} {F : List Int → List Int} (h : Acts m n T F) : Acts m n (dbl m n T) (fun c => F (F c)) :=
  ⟨dbl_sq h.sq, fun c hc => by rw [dbl_app h.sq hc, h.app c hc, h.app _ (h.len hc)]⟩
def iter {α : Type} (F : α → α) : Nat → α → α
  | 0, c => c
  | n + 1, c => iter F n (F c)
theorem iter_add {α : Type} (F : α → α) : ∀ a b c, iter F (a + b) c = iter F b (iter F a c)
  | 0, b, c => by rw [Nat.zero_add]; rfl
  | a + 1, b, c => by rw [Nat.succ_add]; exact iter_add F a b (F c)
theorem iter_two {α : Type} (F : α → α) : ∀ a c, iter (fun x => F (F x)) a c = iter F (2 * a) c
  | 0, _ => rfl
  | a + 1, c => by rw [show 2 * (a + 1) = (2 * a + 1) + 1 by omega]; exact iter_two F a (F (F c))
theorem iter_even {α : Type} (F : α → α) {r : Nat} (h : r % 2 = 0) (c : α) : iter (fun x => F (F x)) (r / 2) c = iter F r c := by
  rw [iter_two, show 2 * (r / 2) = r by omega]
theorem iter_odd {α : Type} (F : α → α) {r : Nat} (h : r % 2 = 1) (c : α) : iter (fun x => F (F x)) (r / 2) (F c) = iter F r c := by
  rw [iter_two]
  show iter F (2 * (r / 2) + 1) c = iter F r c
  rw [show 2 * (r / 2) + 1 = r by omega]
/-! meetings -/
abbrev Ties := List (Nat × Nat)
def tie (ties : Ties) (t : Nat) : Nat × Nat := ties.getD t (0, 0)
def mstep (h : Nat) (ties : Ties) (c : List Int) (t : Nat) : List Int :=
  let both := c.getD (tie ties t).1 0 + c.getD (tie ties t).2 0 - c.getD (h + t) 0
  ((c.set (tie ties t).1 both).set (tie ties t).2 both).set (h + t) both
def lstep (m : Int) (h : Nat) (ties : Ties) (c : List Int) (t : Nat) : List Int :=
  let both := (c.getD (tie ties t).1 0 + c.getD (tie ties t).2 0 - c.getD (h + t) 0) % m
  ((c.set (tie ties t).1 both).set (tie ties t).2 both).set (h + t) both
def met (h : Nat) (ties : Ties) (order : List Nat) (c : List Int) : List Int := order.foldl (mstep h ties) c
def lmet (m : Int) (h : Nat) (ties : Ties) (order : List Nat) (c : List Int) : List Int := order.foldl (lstep m h ties) c
/-- a web -/
def OkW (h : Nat) (ties : Ties) : Prop := ∀ p ∈ ties, p.1 < h ∧ p.2 < h ∧ p.1 ≠ p.2
def OkO (ties : Ties) (order : List Nat) : Prop := ∀ t ∈ order, t < ties.length
theorem OkW.at {h : Nat} {ties : Ties} (w : OkW h ties) {t : Nat} (ht : t < ties.length) : (tie ties t).1 < h ∧ (tie ties t).2 < h ∧ (tie ties t).1 ≠ (tie ties t).2 := by
  refine w _ ?_
  unfold tie
  rw [List.getD_eq_getElem?_getD, List.getElem?_eq_getElem ht]
  exact List.getElem_mem ht
theorem mstep_len {h ties c t} : (mstep h ties c t).length = c.length := by simp [mstep]
theorem lstep_len {m h ties c t} : (lstep m h ties c t).length = c.length := by simp [lstep]
theorem met_len {h ties} : ∀ {order c}, (met h ties order c).length = c.length
  | [], _ => rfl
  | t :: r, c => by show (met h ties r (mstep h ties c t)).length = _; rw [met_len, mstep_len]
theorem lmet_len {m h ties} : ∀ {order c}, (lmet m h ties order c).length = c.length
  | [], _ => rfl
  | t :: r, c => by show (lmet m h ties r (lstep m h ties c t)).length = _; rw [lmet_len, lstep_len]
def sF (a b t : Nat) (c : Nat → Int) : Nat → Int := fun i => if i = t ∨ i = b ∨ i = a then c a + c b - c t else c i
theorem getD_set3 {c : List Int} {a b t i : Nat} {v : Int} (ha : a < c.length) (hb : b < c.length) (ht : t < c.length) : (((c.set a v).set b v).set t v).getD i 0 = if i = t ∨ i = b ∨ i = a then v else c.getD i 0 := by
  simp only [List.getD_eq_getElem?_getD, List.getElem?_set, List.length_set]
  by_cases h1 : t = i
  · subst h1; simp [ht]
  · by_cases h2 : b = i
    · subst h2; simp [h1, hb]
    · by_cases h3 : a = i
      · subst h3; simp [h1, h2, ha]
      · have : ¬ (i = t ∨ i = b ∨ i = a) := by omega
        simp [h1, h2, h3, this]
theorem mstep_get {h : Nat} {ties : Ties} {c : List Int} {t : Nat} (w : OkW h ties) (ht : t < ties.length) (hc : c.length = h + ties.length) (i : Nat) : (mstep h ties c t).getD i 0 = sF (tie ties t).1 (tie ties t).2 (h + t) (fun i => c.getD i 0) i := by
  obtain ⟨h1, h2, _⟩ := w.at ht
  exact getD_set3 (by omega) (by omega) (by omega)
def metF (h : Nat) (ties : Ties) (order : List Nat) (c : Nat → Int) : Nat → Int := order.foldl (fun c t => sF (tie ties t).1 (tie ties t).2 (h + t) c) c
theorem met_get {h : Nat} {ties : Ties} (w : OkW h ties) : ∀ {order : List Nat} {c : List Int} {f : Nat → Int}, OkO ties order → c.length = h + ties.length → (∀ i, c.getD i 0 = f i) → ∀ i, (met h ties order c).getD i 0 = metF h ties order f i
  | [], c, f, _, _, e, i => e i
  | t :: r, c, f, o, hc, e, i => by
    refine met_get w (order := r) (c := mstep h ties c t) (fun x hx => o x (List.mem_cons_of_mem _ hx)) (by rw [mstep_len, hc]) (fun j => ?_) i
    rw [mstep_get w (o t List.mem_cons_self) hc]
    unfold sF
    simp only [e]
theorem metF_snoc (h : Nat) (ties : Ties) (order : List Nat) (t : Nat) (c : Nat → Int) : metF h ties (order ++ [t]) c = sF (tie ties t).1 (tie ties t).2 (h + t) (metF h ties order c) := by unfold metF; rw [List.foldl_append]; rfl
def unitF (j : Nat) : Nat → Int := fun i => if i = j then 1 else 0
theorem metF_lin {h : Nat} {ties : Ties} (w : OkW h ties) {n : Nat} (hn : n = h + ties.length) (c : Nat → Int) : ∀ (k : Nat) (order : List Nat), order.length = k → OkO ties order → ∀ i, i < n → metF h ties order c i = S n fun j => c j * metF h ties order (unitF j) i
  | 0, order, hk, o, i, hi => by
    have e : order = [] := List.length_eq_zero_iff.mp hk
    subst e
    show c i = S n fun j => c j * (if i = j then 1 else 0)
    rw [S_delta, if_pos hi]
  | k + 1, order, hk, o, i, hi => by
    obtain ⟨r, t, rfl⟩ : ∃ r t, order = r ++ [t] := by
      have hne : order ≠ [] := fun e => by rw [e] at hk; cases hk
      exact ⟨order.dropLast, order.getLast hne, (List.dropLast_concat_getLast hne).symm⟩
    have ht : t < ties.length := o t (by simp)
    obtain ⟨h1, h2, _⟩ := w.at ht
    have ih := metF_lin w hn c k r (by simpa using hk) (fun x hx => o x (List.mem_append_left _ hx))
    rw [metF_snoc]
    simp only [metF_snoc]
    unfold sF
    by_cases hh : i = h + t ∨ i = (tie ties t).2 ∨ i = (tie ties t).1
    · rw [if_pos hh, ih _ (by omega), ih _ (by omega), ih _ (by omega), ← S_add, ← S_sub]
      refine S_congr n fun j _ => ?_
      rw [if_pos hh, Int.mul_sub, Int.mul_add]
    · rw [if_neg hh, ih i hi]
      refine S_congr n fun j _ => ?_
      rw [if_neg hh]
def unit (n j : Nat) : List Int := (List.range n).map fun i => if i = j then 1 else 0
theorem unit_len {n j : Nat} : (unit n j).length = n := by simp [unit]
theorem unit_get {n j : Nat} (hj : j < n) (i : Nat) : (unit n j).getD i 0 = unitF j i := by
  unfold unit unitF
  by_cases hi : i < n
  · simp [List.getD_eq_getElem?_getD, hi]
  · have : i ≠ j := by omega
    simp [List.getD_eq_getElem?_getD, hi, this]
/-- the table of one round -/
def tab (G : List Int → List Int) (n : Nat) : List (List Int) := (List.range n).map fun i => ((List.range n).map fun j => G (unit n j)).map fun im => im.getD i 0
theorem tab_sq {G : List Int → List Int} {n : Nat} : Sq n (tab G n) := by
  refine ⟨by simp [tab], fun row hr => ?_⟩
  unfold tab at hr
  obtain ⟨i, _, rfl⟩ := List.mem_map.mp hr
  simp
def F0 (m : Int) (h : Nat) (ties : Ties) (order : List Nat) (c : List Int) : List Int := (met h ties order c).map (· % m)
theorem tab_app {m : Int} {h : Nat} {ties : Ties} {order : List Nat} {n : Nat} {G : List Int → List Int} (w : OkW h ties) (o : OkO ties order) (hn : n = h + ties.length)
    (hG : ∀ j i, j < n → i < n → (G (unit n j)).getD i 0 % m = (met h ties order (unit n j)).getD i 0 % m) {c : List Int} (hc : c.length = n) : app m (tab G n) c = F0 m h ties order c := by
  unfold app tab F0
  rw [list_tab (met h ties order c), met_len, hc, List.map_map, List.map_map]
  refine List.map_congr_left fun i hi => ?_
  have hi : i < n := by simpa using hi
  show dot (((List.range n).map fun j => G (unit n j)).map fun im => im.getD i 0) c % m = (met h ties order c).getD i 0 % m
  rw [dot_S (n := n) (by simp) hc, met_get w o (by omega) (fun _ => rfl), metF_lin w hn _ _ order rfl o i hi]
  refine S_mod n fun j hj => ?_
  have e : ((((List.range n).map fun j => G (unit n j)).map fun im => im.getD i 0)).getD j 0 = (G (unit n j)).getD i 0 := by simp [List.getD_eq_getElem?_getD, hj]
  rw [e, Int.mul_comm, Int.mul_emod, hG j i hj hi, ← Int.mul_emod, met_get w o (by rw [unit_len, hn]) (unit_get hj)]
theorem tab_acts {m : Int} {h : Nat} {ties : Ties} {order : List Nat} {n : Nat} {G : List Int → List Int} (w : OkW h ties) (o : OkO ties order) (hn : n = h + ties.length)
    (hG : ∀ j i, j < n → i < n → (G (unit n j)).getD i 0 % m = (met h ties order (unit n j)).getD i 0 % m) : Acts m n (tab G n) (F0 m h ties order) := ⟨tab_sq, fun _ hc => tab_app w o hn hG hc⟩
/-- the law's reduced meetings -/
theorem sF_mod {m : Int} {a b t : Nat} {f g : Nat → Int} (h : ∀ i, f i % m = g i % m) (i : Nat) : (if i = t ∨ i = b ∨ i = a then (f a + f b - f t) % m else f i) % m = sF a b t g i % m := by
  unfold sF
  split
  · rw [Int.emod_emod_of_dvd _ (Int.dvd_refl m), Int.sub_emod, Int.add_emod, h a, h b, h t, ← Int.add_emod, ← Int.sub_emod]
  · exact h i
theorem lstep_get {m : Int} {h : Nat} {ties : Ties} {c : List Int} {t : Nat} (w : OkW h ties) (ht : t < ties.length) (hc : c.length = h + ties.length) (i : Nat) : (lstep m h ties c t).getD i 0 = if i = h + t ∨ i = (tie ties t).2 ∨ i = (tie ties t).1 then (c.getD (tie ties t).1 0 + c.getD (tie ties t).2 0 - c.getD (h + t) 0) % m else c.getD i 0 := by
  obtain ⟨h1, h2, _⟩ := w.at ht
  exact getD_set3 (by omega) (by omega) (by omega)
theorem lmet_mod {m : Int} {h : Nat} {ties : Ties} (w : OkW h ties) : ∀ {order : List Nat} {c d : List Int}, OkO ties order → c.length = h + ties.length → d.length = h + ties.length → (∀ i, c.getD i 0 % m = d.getD i 0 % m) →
    ∀ i, (lmet m h ties order c).getD i 0 % m = (met h ties order d).getD i 0 % m
  | [], _, _, _, _, _, e, i => e i
  | t :: r, c, d, o, hc, hd, e, i => by
    refine lmet_mod w (order := r) (fun x hx => o x (List.mem_cons_of_mem _ hx)) (by rw [lstep_len, hc]) (by rw [mstep_len, hd]) (fun j => ?_) i
    rw [lstep_get w (o t List.mem_cons_self) hc, mstep_get w (o t List.mem_cons_self) hd]
    exact sF_mod (f := fun i => c.getD i 0) (g := fun i => d.getD i 0) e j
def Red (m : Int) (c : List Int) : Prop := ∀ x ∈ c, 0 ≤ x ∧ x < m
theorem red_set {m : Int} {c : List Int} {i : Nat} {v : Int} (r : Red m c) (hv : 0 ≤ v ∧ v < m) : Red m (c.set i v) := fun x hx => by
  rcases List.mem_or_eq_of_mem_set hx with h | h
  · exact r x h
  · rw [h]; exact hv
theorem lstep_red {m : Int} {h : Nat} {ties : Ties} {c : List Int} {t : Nat} (hm : 0 < m) (r : Red m c) : Red m (lstep m h ties c t) := by
  have hv : ∀ x : Int, 0 ≤ x % m ∧ x % m < m := fun x => ⟨Int.emod_nonneg _ (by omega), Int.emod_lt_of_pos _ hm⟩
  exact red_set (red_set (red_set r (hv _)) (hv _)) (hv _)
theorem lmet_red {m : Int} {h : Nat} {ties : Ties} (hm : 0 < m) : ∀ {order : List Nat} {c : List Int}, Red m c → Red m (lmet m h ties order c)
  | [], _, r => r
  | t :: o, c, r => lmet_red hm (order := o) (lstep_red hm r)
theorem red_mod {m : Int} {c : List Int} (r : Red m c) : c.map (· % m) = c := by
  have : c.map (· % m) = c.map id := List.map_congr_left fun x hx => Int.emod_eq_of_lt (r x hx).1 (r x hx).2
  rw [this, List.map_id]
theorem lmet_F0 {m : Int} {h : Nat} {ties : Ties} {order : List Nat} {c : List Int} (w : OkW h ties) (o : OkO ties order) (hm : 0 < m) (r : Red m c) (hc : c.length = h + ties.length) : lmet m h ties order c = F0 m h ties order c := by
  rw [← red_mod (lmet_red (h := h) (ties := ties) (order := order) hm r)]
  unfold F0
  rw [list_tab (lmet m h ties order c), list_tab (met h ties order c), lmet_len, met_len, List.map_map, List.map_map]
  refine List.map_congr_left fun i _ => ?_
  exact lmet_mod w o hc hc (fun _ => rfl) i
theorem F0_red {m : Int} {h : Nat} {ties : Ties} {order : List Nat} {c : List Int} (hm : 0 < m) : Red m (F0 m h ties order c) := fun x hx => by
  obtain ⟨y, _, rfl⟩ := List.mem_map.mp hx
  exact ⟨Int.emod_nonneg _ (by omega), Int.emod_lt_of_pos _ hm⟩
theorem F0_len {m : Int} {h : Nat} {ties : Ties} {order : List Nat} {c : List Int} : (F0 m h ties order c).length = c.length := by unfold F0; rw [List.length_map, met_len]
/-! the books -/
def wsum (h : Nat) (c : List Int) : Int := (c.take h).sum - (c.drop h).sum
theorem sum_set : ∀ {c : List Int} {i : Nat} {v : Int}, i < c.length → (c.set i v).sum = c.sum + (v - c.getD i 0)
  | [], i, _, h => absurd h (Nat.not_lt_zero i)
  | x :: r, 0, v, _ => by show v + r.sum = x + r.sum + (v - x); omega
  | x :: r, i + 1, v, h => by
    have := sum_set (c := r) (i := i) (v := v) (by simpa using h)
    show x + (r.set i v).sum = x + r.sum + (v - r.getD i 0)
    omega
theorem wsum_set {h : Nat} {c : List Int} {i : Nat} {v : Int} (hi : i < c.length) : wsum h (c.set i v) = wsum h c + (if i < h then v - c.getD i 0 else -(v - c.getD i 0)) := by
  unfold wsum
  rw [List.take_set, List.drop_set]
  by_cases hh : i < h
  · rw [if_pos hh, if_pos hh, sum_set (by rw [List.length_take]; omega)]
    have e : (c.take h).getD i 0 = c.getD i 0 := by simp [List.getD_eq_getElem?_getD, List.getElem?_take, hh]
    rw [e]; omega
  · rw [if_neg hh, if_neg hh, List.set_eq_of_length_le (by rw [List.length_take]; omega), sum_set (by rw [List.length_drop]; omega)]
    have e : (c.drop h).getD (i - h) 0 = c.getD i 0 := by simp [List.getD_eq_getElem?_getD, List.getElem?_drop, show h + (i - h) = i by omega]
    rw [e]; omega

theorem wsum_step {h : Nat} {ties : Ties} {c : List Int} {t : Nat} (w : OkW h ties) (ht : t < ties.length) (hc : c.length = h + ties.length) : wsum h (mstep h ties c t) = wsum h c := by
  obtain ⟨h1, h2, h3⟩ := w.at ht
  unfold mstep
  show wsum h (((c.set (tie ties t).1 _).set (tie ties t).2 _).set (h + t) _) = _
  rw [wsum_set (by rw [List.length_set, List.length_set]; omega), wsum_set (by rw [List.length_set]; omega), wsum_set (by omega), if_neg (show ¬ h + t < h by omega), if_pos h2, if_pos h1]
  have e1 : (c.set (tie ties t).1 (c.getD (tie ties t).1 0 + c.getD (tie ties t).2 0 - c.getD (h + t) 0)).getD (tie ties t).2 0 = c.getD (tie ties t).2 0 := by
    simp only [List.getD_eq_getElem?_getD]; rw [List.getElem?_set_ne h3]
  have e2 : ((c.set (tie ties t).1 (c.getD (tie ties t).1 0 + c.getD (tie ties t).2 0 - c.getD (h + t) 0)).set (tie ties t).2 (c.getD (tie ties t).1 0 + c.getD (tie ties t).2 0 - c.getD (h + t) 0)).getD (h + t) 0 = c.getD (h + t) 0 := by
    simp only [List.getD_eq_getElem?_getD]; rw [List.getElem?_set_ne (by omega), List.getElem?_set_ne (by omega)]
  rw [e1, e2]
  omega
theorem wsum_met {h : Nat} {ties : Ties} (w : OkW h ties) : ∀ {order : List Nat} {c : List Int}, OkO ties order → c.length = h + ties.length → wsum h (met h ties order c) = wsum h c
  | [], _, _, _ => rfl
  | t :: r, c, o, hc => by
    show wsum h (met h ties r (mstep h ties c t)) = _
    rw [wsum_met w (fun x hx => o x (List.mem_cons_of_mem _ hx)) (by rw [mstep_len, hc]), wsum_step w (o t List.mem_cons_self) hc]
theorem sum_mod (m : Int) : ∀ c : List Int, (c.map (· % m)).sum % m = c.sum % m
  | [] => rfl
  | x :: r => by
    show (x % m + (r.map (· % m)).sum) % m = (x + r.sum) % m
    rw [Int.add_emod, Int.emod_emod_of_dvd _ (Int.dvd_refl m), sum_mod m r, ← Int.add_emod]
theorem wsum_mod (m : Int) (h : Nat) (c : List Int) : wsum h (c.map (· % m)) % m = wsum h c % m := by
  unfold wsum
  rw [← List.map_take, ← List.map_drop, Int.sub_emod, sum_mod, sum_mod, ← Int.sub_emod]
theorem wsum_F0 {m : Int} {h : Nat} {ties : Ties} {order : List Nat} {c : List Int} (w : OkW h ties) (o : OkO ties order) (hc : c.length = h + ties.length) : wsum h (F0 m h ties order c) % m = wsum h c % m := by
  unfold F0
  rw [wsum_mod, wsum_met w o hc]
theorem wsum_iter {m : Int} {h : Nat} {ties : Ties} {order : List Nat} (w : OkW h ties) (o : OkO ties order) : ∀ (r : Nat) {c : List Int}, c.length = h + ties.length → wsum h (iter (F0 m h ties order) r c) % m = wsum h c % m
  | 0, _, _ => rfl
  | r + 1, c, hc => by
    show wsum h (iter _ r (F0 m h ties order c)) % m = _
    rw [wsum_iter w o r (by rw [F0_len, hc]), wsum_F0 w o hc]
theorem wsum_unit {h n j : Nat} (hj : j < h) (hn : h ≤ n) : wsum h (unit n j) = 1 := by
  have e : unit n j = (List.replicate n 0).set j 1 := by
    refine List.ext_getElem (by simp [unit]) fun i h1 h2 => ?_
    have hi : i < n := by simpa [unit] using h1
    simp only [unit, List.getElem_map, List.getElem_range, List.getElem_set, List.getElem_replicate]
    by_cases q : i = j
    · rw [if_pos q, if_pos q.symm]
    · rw [if_neg q, if_neg (fun z => q z.symm)]
  rw [e, wsum_set (by simp; omega), if_pos hj]
  unfold wsum
  rw [List.take_replicate, List.drop_replicate]
  simp [List.getD_eq_getElem?_getD, List.getElem?_replicate, show j < n by omega]
theorem iter_len {m : Int} {h : Nat} {ties : Ties} {order : List Nat} : ∀ (r : Nat) {c : List Int}, (iter (F0 m h ties order) r c).length = c.length
  | 0, _ => rfl
  | r + 1, c => by show (iter _ r (F0 m h ties order c)).length = _; rw [iter_len r, F0_len]
/-- houses less ties, of what was begun at one house -/
theorem books {m : Int} {h : Nat} {ties : Ties} {order : List Nat} {j r : Nat} (w : OkW h ties) (o : OkO ties order) (hj : j < h) :
    (((iter (F0 m h ties order) r ((unit (h + ties.length) j).map (· % m))).take h).sum - ((iter (F0 m h ties order) r ((unit (h + ties.length) j).map (· % m))).drop h).sum - 1) % m = 0 := by
  have e := wsum_iter (m := m) w o r (c := (unit (h + ties.length) j).map (· % m)) (by simp [unit])
  rw [wsum_mod, wsum_unit hj (by omega)] at e
  show (wsum h _ - 1) % m = 0
  rw [Int.sub_emod, e, ← Int.sub_emod]
  simp
/-! how great the entries of one round get -/
def Bd (b : Int) (c : List Int) : Prop := ∀ x ∈ c, -b ≤ x ∧ x ≤ b
theorem Bd.get {b : Int} {c : List Int} (h : Bd b c) (hb : 0 ≤ b) (i : Nat) : -b ≤ c.getD i 0 ∧ c.getD i 0 ≤ b := by
  rw [List.getD_eq_getElem?_getD]
  by_cases hi : i < c.length
  · rw [List.getElem?_eq_getElem hi]; exact h _ (List.getElem_mem hi)
  · rw [List.getElem?_eq_none (by omega)]; show -b ≤ 0 ∧ 0 ≤ b; omega
theorem bd_set {b : Int} {c : List Int} {i : Nat} {v : Int} (r : Bd b c) (hv : -b ≤ v ∧ v ≤ b) : Bd b (c.set i v) := fun x hx => by
  rcases List.mem_or_eq_of_mem_set hx with h | h
  · exact r x h
  · rw [h]; exact hv
theorem Bd.mono {b d : Int} {c : List Int} (h : Bd b c) (hd : b ≤ d) : Bd d c := fun x hx => by have := h x hx; omega
theorem mstep_bd {b : Int} {h : Nat} {ties : Ties} {c : List Int} {t : Nat} (hb : 0 ≤ b) (r : Bd b c) : Bd (3 * b) (mstep h ties c t) := by
  have g := fun i => r.get hb i
  have hv : -(3 * b) ≤ c.getD (tie ties t).1 0 + c.getD (tie ties t).2 0 - c.getD (h + t) 0 ∧ c.getD (tie ties t).1 0 + c.getD (tie ties t).2 0 - c.getD (h + t) 0 ≤ 3 * b := by
    have := g (tie ties t).1; have := g (tie ties t).2; have := g (h + t); omega
  exact bd_set (bd_set (bd_set (r.mono (by omega)) hv) hv) hv
theorem met_bd {h : Nat} {ties : Ties} : ∀ {order : List Nat} {b : Int} {c : List Int}, 0 ≤ b → Bd b c → Bd (3 ^ order.length * b) (met h ties order c)
  | [], b, c, _, r => by show Bd (3 ^ 0 * b) c; rw [Int.pow_zero, Int.one_mul]; exact r
  | t :: o, b, c, hb, r => by
    have := met_bd (h := h) (ties := ties) (order := o) (b := 3 * b) (by omega) (mstep_bd (h := h) (ties := ties) (t := t) hb r)
    show Bd (3 ^ (o.length + 1) * b) (met h ties o (mstep h ties c t))
    rw [Int.pow_succ, Int.mul_assoc]
    exact this
theorem met_small {h : Nat} {ties : Ties} {order : List Nat} {n j : Nat} (ho : order.length ≤ 40) : ∀ x ∈ met h ties order (unit n j), -(2 ^ 64) < x ∧ x < 2 ^ 64 := fun x hx => by
  have r : Bd 1 (unit n j) := fun y hy => by
    unfold unit at hy
    obtain ⟨i, _, rfl⟩ := List.mem_map.mp hy
    split <;> omega
  have b := met_bd (h := h) (ties := ties) (order := order) (b := 1) (by omega) r x hx
  have hp : (3 : Int) ^ order.length * 1 ≤ 3 ^ 40 := by
    rw [Int.mul_one]
    have : (3 : Nat) ^ order.length ≤ 3 ^ 40 := Nat.pow_le_pow_right (by decide) ho
    exact_mod_cast this
  have : (3 : Int) ^ 40 < 2 ^ 64 := by decide
  omega
/-! rings -/
theorem nodup_perm {α : Type} [DecidableEq α] {xs ys : List α} (h1 : xs.Nodup) (h2 : ys.Nodup) (h : ∀ x, x ∈ xs ↔ x ∈ ys) : xs.Perm ys := by
  rw [List.perm_iff_count]
  intro a
  rw [h1.count, h2.count]
  by_cases q : a ∈ xs
  · rw [if_pos q, if_pos ((h a).mp q)]
  · rw [if_neg q, if_neg (fun z => q ((h a).mpr z))]
end HM

set_option Elab.async false
set_option linter.all false
set_option maxRecDepth 100000
set_option maxHeartbeats 4000000
/-! readings by typed data: what a value stands for (Rep), what a reading evaluates to (EvR, EvN, EvA) -/
namespace Ly
open PySem L2 Evl
/-- what a value stands for; it stays while the heap grows -/
structure Rep (α : Type) where
  is : PySem.W.Frag → Hp → V → α → Prop
  mono : ∀ {K : PySem.W.Frag} {H H' : Hp} {v : V} {x : α}, Ex H H' → is K H v x → is K H' v x
def Each (K : PySem.W.Frag) (H : Hp) {α : Type} (r : Rep α) (vs : List V) (xs : List α) : Prop := vs.length = xs.length ∧ ∀ (i : Nat) (v : V) (x : α), vs[i]? = some v → xs[i]? = some x → r.is K H v x
section
variable {K : PySem.W.Frag} {H H' : Hp} {α β : Type} {r : Rep α}
theorem Rep.lift {v : V} {x : α} (h : r.is K H v x) (e : Ex H H') : r.is K H' v x := r.mono e h
theorem Each.mono {vs : List V} {xs : List α} (e : Ex H H') (h : Each K H r vs xs) : Each K H' r vs xs := ⟨h.1, fun i v x a b => r.mono e (h.2 i v x a b)⟩
theorem Each.nil : Each K H r [] [] := ⟨rfl, fun i v x a _ => by simp at a⟩
theorem Each.cons {v : V} {x : α} {vs : List V} {xs : List α} (h : r.is K H v x) (t : Each K H r vs xs) : Each K H r (v :: vs) (x :: xs) := ⟨by simp [t.1], fun i u y a b => by
  cases i with
  | zero => simp at a b; subst a; subst b; exact h
  | succ i => exact t.2 i u y (by simpa using a) (by simpa using b)⟩
theorem Each.tail {v : V} {x : α} {vs : List V} {xs : List α} (h : Each K H r (v :: vs) (x :: xs)) : r.is K H v x ∧ Each K H r vs xs := ⟨h.2 0 v x rfl rfl, by simpa using h.1, fun i u y a b => h.2 (i + 1) u y (by simpa using a) (by simpa using b)⟩
theorem Each.app {vs ws : List V} {xs ys : List α} (h : Each K H r vs xs) (t : Each K H r ws ys) : Each K H r (vs ++ ws) (xs ++ ys) := by
  refine ⟨by simp [h.1, t.1], fun i v x a b => ?_⟩
  by_cases q : i < vs.length
  · rw [List.getElem?_append_left q] at a
    rw [List.getElem?_append_left (by rw [← h.1]; exact q)] at b
    exact h.2 i v x a b
  · rw [List.getElem?_append_right (by omega)] at a
    rw [List.getElem?_append_right (by rw [← h.1]; omega), ← h.1] at b
    exact t.2 _ v x a b
theorem Each.snoc {vs : List V} {xs : List α} {v : V} {x : α} (h : Each K H r vs xs) (q : r.is K H v x) : Each K H r (vs ++ [v]) (xs ++ [x]) := h.app (Each.cons q Each.nil)
theorem Each.get {vs : List V} {xs : List α} (h : Each K H r vs xs) {i : Nat} {x : α} (hx : xs[i]? = some x) : ∃ v, vs[i]? = some v ∧ r.is K H v x := by
  have hi : i < vs.length := by rw [h.1]; exact (List.getElem?_eq_some_iff.mp hx).1
  exact ⟨vs[i], List.getElem?_eq_getElem hi, h.2 i _ x (List.getElem?_eq_getElem hi) hx⟩
theorem Each.got {vs : List V} {xs : List α} (h : Each K H r vs xs) {i : Nat} {v : V} (hv : vs[i]? = some v) : ∃ x, xs[i]? = some x ∧ r.is K H v x := by
  have hi : i < xs.length := by rw [← h.1]; exact (List.getElem?_eq_some_iff.mp hv).1
  exact ⟨xs[i], List.getElem?_eq_getElem hi, h.2 i v _ hv (List.getElem?_eq_getElem hi)⟩
theorem Each.take {vs : List V} {xs : List α} (h : Each K H r vs xs) (n : Nat) : Each K H r (vs.take n) (xs.take n) := ⟨by simp [h.1], fun i v x a b => by
  rw [List.getElem?_take] at a b
  split at a
  · rename_i q
    rw [if_pos q] at b
    exact h.2 i v x a b
  · cases a⟩
theorem Each.drop {vs : List V} {xs : List α} (h : Each K H r vs xs) (n : Nat) : Each K H r (vs.drop n) (xs.drop n) := ⟨by simp [h.1], fun i v x a b => by
  rw [List.getElem?_drop] at a b
  exact h.2 _ v x a b⟩
theorem Each.set {vs : List V} {xs : List α} (h : Each K H r vs xs) {v : V} {x : α} (q : r.is K H v x) (n : Nat) : Each K H r (vs.set n v) (xs.set n x) := ⟨by simp [h.1], fun i u y a b => by
  rw [List.getElem?_set] at a b
  by_cases e : n = i
  · rw [if_pos e] at a b
    split at a
    · rename_i l
      rw [if_pos (by rw [← h.1]; exact l)] at b
      cases a; cases b; exact q
    · cases a
  · rw [if_neg e] at a b
    exact h.2 i u y a b⟩
theorem Each.map {f : β → V} {g : β → α} {ys : List β} (h : ∀ y ∈ ys, r.is K H (f y) (g y)) : Each K H r (ys.map f) (ys.map g) := ⟨by simp, fun i v x a b => by
  rw [List.getElem?_map] at a b
  cases e : ys[i]? with
  | none => rw [e] at a; cases a
  | some y =>
    rw [e] at a b
    cases a; cases b
    exact h y (List.mem_of_getElem? e)⟩
theorem Each.erase {vs : List V} {xs : List α} (h : Each K H r vs xs) (n : Nat) : Each K H r (vs.eraseIdx n) (xs.eraseIdx n) := ⟨by rw [List.length_eraseIdx, List.length_eraseIdx, h.1], fun i v x a b => by
  rw [List.getElem?_eraseIdx] at a b
  split at a
  · rename_i q
    rw [if_pos q] at b
    exact h.2 i v x a b
  · rename_i q
    rw [if_neg q] at b
    exact h.2 _ v x a b⟩
theorem Each.rep {vs : List V} {xs : List α} (h : Each K H r vs xs) : ∀ n : Nat, Each K H r (List.replicate n vs).flatten (List.replicate n xs).flatten
  | 0 => Each.nil
  | n + 1 => by
    rw [List.replicate_succ, List.replicate_succ, List.flatten_cons, List.flatten_cons]
    exact h.app (Each.rep h n)
end
def pI : Rep Int := ⟨fun _ _ v x => v = .int x, fun _ h => h⟩
def pNat : Rep Nat := ⟨fun _ _ v x => v = .int (x : Int), fun _ h => h⟩
def pB : Rep Bool := ⟨fun _ _ v x => v = .bl x, fun _ h => h⟩
def pNon : Rep Unit := ⟨fun _ _ v _ => v = .non, fun _ h => h⟩
def pL {α : Type} (r : Rep α) : Rep (List α) := ⟨fun K H v xs => ∃ a vs, v = .ref a ∧ SqL K H a vs ∧ Each K H r vs xs, fun e ⟨a, vs, h1, h2, h3⟩ => ⟨a, vs, h1, ex_l e h2, h3.mono e⟩⟩
def pT {α : Type} (r : Rep α) : Rep (List α) := ⟨fun K H v xs => ∃ a vs, v = .ref a ∧ SqT K H a vs ∧ Each K H r vs xs, fun e ⟨a, vs, h1, h2, h3⟩ => ⟨a, vs, h1, ex_t e h2, h3.mono e⟩⟩
/-- a tracked list, a tracked tuple -/
def pLn {α : Type} (r : Rep α) : Rep (List α) := ⟨fun K H v xs => ∃ a vs, v = .ref a ∧ H a = some (.lst vs) ∧ Each K H r vs xs, fun e ⟨a, vs, h1, h2, h3⟩ => ⟨a, vs, h1, e a _ h2, h3.mono e⟩⟩
def pTn {α : Type} (r : Rep α) : Rep (List α) := ⟨fun K H v xs => ∃ a vs, v = .ref a ∧ H a = some (.tup vs) ∧ Each K H r vs xs, fun e ⟨a, vs, h1, h2, h3⟩ => ⟨a, vs, h1, e a _ h2, h3.mono e⟩⟩
/-- a list or a tuple, tracked -/
def pS {α : Type} (r : Rep α) : Rep (List α) := ⟨fun K H v xs => (pLn r).is K H v xs ∨ (pTn r).is K H v xs, fun e h => h.elim (fun h => .inl ((pLn r).mono e h)) (fun h => .inr ((pTn r).mono e h))⟩
def pP {α β : Type} (ra : Rep α) (rb : Rep β) : Rep (α × β) := ⟨fun K H v x => ∃ a va vb, v = .ref a ∧ H a = some (.tup [va, vb]) ∧ ra.is K H va x.1 ∧ rb.is K H vb x.2,
  fun e ⟨a, va, vb, h1, h2, h3, h4⟩ => ⟨a, va, vb, h1, e a _ h2, ra.mono e h3, rb.mono e h4⟩⟩
section
variable {K : PySem.W.Frag} {H H' : Hp} {α β : Type} {r : Rep α}
theorem pLn_L {v : V} {xs : List α} (h : (pLn r).is K H v xs) : (pL r).is K H v xs := let ⟨a, vs, h1, h2, h3⟩ := h; ⟨a, vs, h1, SqL.of h2, h3⟩
theorem pTn_T {v : V} {xs : List α} (h : (pTn r).is K H v xs) : (pT r).is K H v xs := let ⟨a, vs, h1, h2, h3⟩ := h; ⟨a, vs, h1, SqT.of h2, h3⟩
theorem each_int {vs : List V} {xs : List Int} (h : Each K H pI vs xs) : vs = xs.map V.int := by
  refine List.ext_getElem (by simp [h.1]) fun i h1 h2 => ?_
  have hx : i < xs.length := by rw [← h.1]; exact h1
  rw [List.getElem_map]
  exact h.2 i _ _ (List.getElem?_eq_getElem h1) (List.getElem?_eq_getElem hx)
theorem int_each (xs : List Int) : Each K H pI (xs.map V.int) xs := by
  have := Each.map (K := K) (H := H) (r := pI) (f := V.int) (g := id) (ys := xs) fun y _ => rfl
  simpa using this
theorem each_nat {vs : List V} {xs : List Nat} (h : Each K H pNat vs xs) : vs = (xs.map (fun (n : Nat) => (n : Int))).map V.int := by
  refine List.ext_getElem (by simp [h.1]) fun i h1 h2 => ?_
  have hx : i < xs.length := by rw [← h.1]; exact h1
  rw [List.getElem_map, List.getElem_map]
  exact h.2 i _ _ (List.getElem?_eq_getElem h1) (List.getElem?_eq_getElem hx)
theorem nat_each (xs : List Nat) : Each K H pNat ((xs.map (fun (n : Nat) => (n : Int))).map V.int) xs := by
  rw [List.map_map]
  have := Each.map (K := K) (H := H) (r := pNat) (f := V.int ∘ fun (n : Nat) => (n : Int)) (g := id) (ys := xs) fun y _ => rfl
  simpa using this
theorem each_bl {vs : List V} {xs : List Bool} (h : Each K H pB vs xs) : vs = xs.map V.bl := by
  refine List.ext_getElem (by simp [h.1]) fun i h1 h2 => ?_
  have hx : i < xs.length := by rw [← h.1]; exact h1
  rw [List.getElem_map]
  exact h.2 i _ _ (List.getElem?_eq_getElem h1) (List.getElem?_eq_getElem hx)
end
/-! ### growing: Hb what is known (and stands), H1 what is there; G and H2 behind. ms: the addresses that may be written -/
structure Grow (ms : List Addr) (Hb H1 G H2 : Hp) : Prop where
  run : ∀ c o, c ∉ ms → H1 c = some o → H2 c = some o
  base : Ex Hb G
  in_ : Ex G H2
  off : ∀ c, H1 c ≠ none → Hb c = none → G c = none
section
variable {ms ns : List Addr} {Hb H1 G H2 G2 H3 H : Hp} {a : Addr} {o : HO}
theorem Grow.ex (g : Grow [] Hb H1 G H2) : Ex H1 H2 := fun c o h => g.run c o (by simp) h
theorem Grow.refl (e : Ex Hb H1) : Grow ms Hb H1 Hb H1 := ⟨fun _ _ _ h => h, Ex.refl _, e, fun _ _ h => h⟩
theorem Grow.mono (g : Grow ms Hb H1 G H2) (h : ∀ c ∈ ms, c ∈ ns) : Grow ns Hb H1 G H2 := ⟨fun c o hc q => g.run c o (fun z => hc (h c z)) q, g.base, g.in_, g.off⟩
theorem Grow.any (g : Grow [] Hb H1 G H2) : Grow ms Hb H1 G H2 := g.mono fun _ h => nomatch h
/-- nothing that is there goes -/
theorem Grow.there (g : Grow ms Hb H1 G H2) (hm : ∀ c ∈ ms, H1 c ≠ none → H2 c ≠ none) : ∀ c, H1 c ≠ none → H2 c ≠ none := fun c h => by
  by_cases q : c ∈ ms
  · exact hm c q h
  · cases e : H1 c with
    | none => exact absurd e h
    | some o => rw [g.run c o q e]; exact fun z => nomatch z
theorem Grow.trans (g : Grow ms Hb H1 G H2) (k : Grow ms G H2 G2 H3) (hm : ∀ c ∈ ms, H1 c ≠ none → H2 c ≠ none) : Grow ms Hb H1 G2 H3 :=
  ⟨fun c o hc h => k.run c o hc (g.run c o hc h), g.base.trans k.base, k.in_, fun c h1 h2 => k.off c (g.there hm c h1) (g.off c h1 h2)⟩
theorem Grow.trans0 (g : Grow [] Hb H1 G H2) (k : Grow ms G H2 G2 H3) : Grow ms Hb H1 G2 H3 :=
  ⟨fun c o hc h => k.run c o hc (g.ex c o h), g.base.trans k.base, k.in_, fun c h1 h2 => k.off c (g.there (fun c h => nomatch h) c h1) (g.off c h1 h2)⟩
/-- more runs, nothing more is known -/
theorem Grow.then_ (g : Grow ms Hb H1 G H2) (k : Ex H2 H3) : Grow ms Hb H1 G H3 := ⟨fun c o hc h => k c o (g.run c o hc h), g.base, g.in_.trans k, g.off⟩
theorem Grow.new (e : Ex Hb H1) (h : H1 a = none) : Grow ms Hb H1 (upd Hb a o) (upd H1 a o) := by
  refine ⟨fun c u _ q => Ex.new h c u q, Ex.new (fresh_back e h), fun c u q => ?_, fun c h1 h2 => ?_⟩
  · by_cases z : c = a
    · subst z; rw [upd_same] at q ⊢; exact q
    · rw [upd_ne z] at q ⊢; exact e c u q
  · by_cases z : c = a
    · subst z; exact absurd h h1
    · rw [upd_ne z]; exact h2
/-- a new object that is ours: known by its address alone -/
theorem Grow.own (e : Ex Hb H1) (h : H1 a = none) : Grow ms Hb H1 Hb (upd H1 a o) := ⟨fun c u _ q => Ex.new h c u q, Ex.refl _, e.trans (Ex.new h), fun _ _ h2 => h2⟩
/-- what is ours is written -/
theorem Grow.mut (g : Grow ms Hb H1 G H2) (h : H1 a = none ∨ a ∈ ms) (hg : G a = none) : Grow ms Hb H1 G (upd H2 a o) := by
  refine ⟨fun c u hc q => ?_, g.base, fun c u q => ?_, g.off⟩
  · have hca : c ≠ a := by
      rintro rfl
      rcases h with z | z
      · rw [z] at q; cases q
      · exact hc z
    rw [upd_ne hca]
    exact g.run c u hc q
  · rw [upd_ne (ne_of_none q hg)]
    exact g.in_ c u q
/-- what was ours becomes known -/
theorem Grow.give (g : Grow ms Hb H1 G H2) (h : H1 a = none ∨ Hb a ≠ none) (hg : G a = none) (ha : H2 a = some o) : Grow ms Hb H1 (upd G a o) H2 := by
  refine ⟨g.run, g.base.trans (Ex.new hg), fun c u q => ?_, fun c h1 h2 => ?_⟩
  · by_cases z : c = a
    · subst z; rw [upd_same] at q; rw [ha]; exact q
    · rw [upd_ne z] at q; exact g.in_ c u q
  · have z : c ≠ a := by
      rintro rfl
      rcases h with z | z
      · exact h1 z
      · exact z h2
    rw [upd_ne z]; exact g.off c h1 h2
theorem Grow.keep (g : Grow ms Hb H1 G H2) (h : H1 a = some o) (hm : a ∉ ms) : H2 a = some o := g.run a o hm h
theorem Grow.no (g : Grow ms Hb H1 G H2) (h : H1 a = some o) (hb : Hb a = none) : G a = none := g.off a (by rw [h]; exact fun z => nomatch z) hb
def un (A B : Hp) : Hp := fun c => match A c with | some o => some o | none => B c
theorem un_l {A B : Hp} : Ex A (un A B) := fun c o h => by unfold un; rw [h]
theorem un_r {A B H : Hp} (a : Ex A H) (b : Ex B H) : Ex B (un A B) := fun c o h => by
  unfold un
  cases e : A c with
  | none => exact h
  | some u =>
    have h1 := a c u e
    rw [b c o h] at h1
    exact h1.symm
theorem un_in {A B H : Hp} (a : Ex A H) (b : Ex B H) : Ex (un A B) H := fun c o h => by
  unfold un at h
  cases e : A c with
  | none => rw [e] at h; exact b c o h
  | some u => rw [e] at h; rw [← h]; exact a c u e
end
/-! ### what a reading evaluates to -/
def EvR (K : PySem.W.Frag) (te : TE) (σ : L2.St) (Hb : Hp) {α : Type} (r : Rep α) (x : α) : Prop := ∀ H1, Ex Hb H1 → ∀ Q : VK, (∀ v G H2, Grow [] Hb H1 G H2 → r.is K G v x → Q v H2) → te σ H1 Q
/-- a new list, ours -/
def EvN (K : PySem.W.Frag) (te : TE) (σ : L2.St) (Hb : Hp) {α : Type} (r : Rep α) (xs : List α) : Prop := ∀ H1, Ex Hb H1 → ∀ Q : VK, (∀ a vs G H2, Grow [] Hb H1 G H2 → G a = none → H1 a = none → H2 a = some (.lst vs) → Each K G r vs xs → Q (.ref a) H2) → te σ H1 Q
section
variable {K : PySem.W.Frag} {σ : L2.St} {H Hb Hb' : Hp} {te ta tb tc : TE} {α β γ δ : Type} {r ra : Rep α} {rb : Rep β} {rc : Rep γ}
theorem EvR.up {x : α} (h : EvR K te σ Hb r x) (e : Ex Hb Hb') : EvR K te σ Hb' r x := fun H1 e1 Q q => h H1 (e.trans e1) Q fun v G H2 g hv => by
  have e2 : Ex Hb' H2 := e1.trans g.ex
  refine q v (un Hb' G) H2 ⟨g.run, un_l, un_in e2 g.in_, fun c h1 h2 => ?_⟩ (r.mono (un_r e2 g.in_) hv)
  unfold un
  rw [h2]
  refine g.off c h1 ?_
  cases q : Hb c with
  | none => rfl
  | some o => rw [e c o q] at h2; cases h2
theorem EvN.up {x : List α} (h : EvN K te σ Hb r x) (e : Ex Hb Hb') : EvN K te σ Hb' r x := fun H1 e1 Q q => h H1 (e.trans e1) Q fun a vs G H2 g n1 n2 h1 hE => by
  have e2 : Ex Hb' H2 := e1.trans g.ex
  refine q a vs (un Hb' G) H2 ⟨g.run, un_l, un_in e2 g.in_, fun c h1 h2 => ?_⟩ ?_ n2 h1 (hE.mono (un_r e2 g.in_))
  · unfold un
    rw [h2]
    refine g.off c h1 ?_
    cases q : Hb c with
    | none => rfl
    | some o => rw [e c o q] at h2; cases h2
  · unfold un
    rw [fresh_back e1 n2]
    exact n1
theorem EvR.to {x : α} {y : β} (h : EvR K te σ Hb r x) (f : ∀ v G, Ex Hb G → r.is K G v x → rb.is K G v y) : EvR K te σ Hb rb y := fun H1 e Q q => h H1 e Q fun v G H2 g h2 => q v G H2 g (f v G g.base h2)
theorem EvR.eq {x y : α} (h : EvR K te σ Hb r x) (e : x = y) : EvR K te σ Hb r y := e ▸ h
theorem EvN.eq {x y : List α} (h : EvN K te σ Hb r x) (e : x = y) : EvN K te σ Hb r y := e ▸ h
theorem EvN.R {xs : List α} (h : EvN K te σ Hb r xs) : EvR K te σ Hb (pLn r) xs := fun H1 e Q q => h H1 e Q fun a vs G H2 g n1 n2 h2 h3 => q _ _ H2 (g.give (.inl n2) n1 h2) ⟨a, vs, rfl, upd_same, h3.mono (Ex.new n1)⟩
theorem EvR.L {xs : List α} (h : EvR K te σ Hb (pLn r) xs) : EvR K te σ Hb (pL r) xs := h.to fun _ _ _ q => pLn_L q
theorem EvR.T {xs : List α} (h : EvR K te σ Hb (pTn r) xs) : EvR K te σ Hb (pT r) xs := h.to fun _ _ _ q => pTn_T q
/-- as the library's Ev -/
theorem EvR.int {x : Int} (h : EvR K te σ Hb pI x) : Ev te σ Hb (.int x) := fun H1 e Q q => h H1 e Q fun v G H2 g hv => by
  have hv : v = .int x := hv
  subst hv
  exact q H2 g.ex
theorem EvR.nat {x : Nat} (h : EvR K te σ Hb pNat x) : EvR K te σ Hb pI (x : Int) := h
theorem EvR.bl {x : Bool} (h : EvR K te σ Hb pB x) : Ev te σ Hb (.bl x) := fun H1 e Q q => h H1 e Q fun v G H2 g hv => by
  have hv : v = .bl x := hv
  subst hv
  exact q H2 g.ex
theorem Ev.R {v : V} {x : α} (h : Ev te σ Hb v) (hv : ∀ G, Ex Hb G → r.is K G v x) : EvR K te σ Hb r x := fun H1 e Q q => h H1 e Q fun H2 e2 => q v Hb H2 ((Grow.refl e).then_ e2) (hv Hb (Ex.refl _))
theorem Ev.I {x : Int} (h : Ev te σ Hb (.int x)) : EvR K te σ Hb pI x := Ev.R h fun _ _ => rfl
theorem Ev.N {x : Nat} (h : Ev te σ Hb (.int (x : Int))) : EvR K te σ Hb pNat x := Ev.R h fun _ _ => rfl
theorem Ev.B {x : Bool} (h : Ev te σ Hb (.bl x)) : EvR K te σ Hb pB x := Ev.R h fun _ _ => rfl
/-! names and constants -/
theorem e_var {i : Nat} {v : V} {x : α} (hs : σ[i]? = some (some v)) (h : r.is K Hb v x) : EvR K (tVar i) σ Hb r x := fun H1 e Q q => ⟨v, hs, q v Hb H1 (Grow.refl e) h⟩
theorem e_varI {i : Nat} {n : Int} (hs : σ[i]? = some (some (.int n))) : EvR K (tVar i) σ Hb pI n := e_var hs rfl
theorem e_varN {i : Nat} {n : Nat} (hs : σ[i]? = some (some (.int (n : Int)))) : EvR K (tVar i) σ Hb pNat n := e_var hs rfl
theorem e_varB {i : Nat} {b : Bool} (hs : σ[i]? = some (some (.bl b))) : EvR K (tVar i) σ Hb pB b := e_var hs rfl
theorem e_int {n : Int} : EvR K (tC (.int n)) σ Hb pI n := Ev.I ev_c
theorem e_bl {b : Bool} : EvR K (tC (.bl b)) σ Hb pB b := Ev.B ev_c
theorem e_non : EvR K (tC .non) σ Hb pNon () := Ev.R ev_c fun _ _ => rfl
/-! arithmetic -/
theorem e_op2 {f : R2} {x y : Int} {z : V} {c : γ} (hf : ∀ H1 (Q : VK), Q z H1 → f (.int x) (.int y) H1 Q) (hz : ∀ H1, rc.is K H1 z c) (h1 : EvR K ta σ Hb pI x) (h2 : EvR K tb σ Hb pI y) : EvR K (tOp f ta tb) σ Hb rc c :=
  Ev.R (v := z) (fun H1 e Q q => h1.int H1 e _ fun H2 e2 => h2.int H2 (e.trans e2) _ fun H3 e3 => hf H3 Q (q H3 (e2.trans e3))) fun G _ => hz G
theorem e_I0 {g : Int → Int → V} {x y : Int} {c : γ} (hz : ∀ H1, rc.is K H1 (g x y) c) (h1 : EvR K ta σ Hb pI x) (h2 : EvR K tb σ Hb pI y) : EvR K (tOp (rI0 g) ta tb) σ Hb rc c := e_op2 (fun H1 Q q => ⟨x, y, rfl, rfl, q⟩) hz h1 h2
theorem e_IC {C : Int → Int → Prop} {g : Int → Int → V} {x y : Int} {c : γ} (hc : C x y) (hz : ∀ H1, rc.is K H1 (g x y) c) (h1 : EvR K ta σ Hb pI x) (h2 : EvR K tb σ Hb pI y) : EvR K (tOp (rI C g) ta tb) σ Hb rc c := e_op2 (fun H1 Q q => ⟨x, y, rfl, rfl, hc, q⟩) hz h1 h2
theorem e_add {x y : Int} (h1 : EvR K ta σ Hb pI x) (h2 : EvR K tb σ Hb pI y) : EvR K (tOp (rI0 fun i j => .int (i + j)) ta tb) σ Hb pI (x + y) := e_I0 (fun _ => rfl) h1 h2
theorem e_sub {x y : Int} (h1 : EvR K ta σ Hb pI x) (h2 : EvR K tb σ Hb pI y) : EvR K (tOp (rI0 fun i j => .int (i - j)) ta tb) σ Hb pI (x - y) := e_I0 (fun _ => rfl) h1 h2
theorem e_mul {x y : Int} (hc : CMul x y) (h1 : EvR K ta σ Hb pI x) (h2 : EvR K tb σ Hb pI y) : EvR K (tOp (rI CMul fun i j => .int (i * j)) ta tb) σ Hb pI (x * y) := e_IC hc (fun _ => rfl) h1 h2
theorem e_mod {x y : Int} (hc : 0 < y) (h1 : EvR K ta σ Hb pI x) (h2 : EvR K tb σ Hb pI y) : EvR K (tOp (rI (fun _ j => 0 < j) fun i j => .int (i % j)) ta tb) σ Hb pI (x % y) := e_IC hc (fun _ => rfl) h1 h2
theorem e_div {x y : Int} (hc : 0 < y ∧ y < 1073741824) (h1 : EvR K ta σ Hb pI x) (h2 : EvR K tb σ Hb pI y) : EvR K (tOp (rI CDiv fun i j => .int (i / j)) ta tb) σ Hb pI (x / y) := e_IC hc (fun _ => rfl) h1 h2
theorem e_pow {x y : Int} (hc : CPow x y) (h1 : EvR K ta σ Hb pI x) (h2 : EvR K tb σ Hb pI y) : EvR K (tOp (rI CPow fun i j => .int (i ^ j.toNat)) ta tb) σ Hb pI (x ^ y.toNat) := e_IC hc (fun _ => rfl) h1 h2
/-! comparisons of ints -/
theorem e_lt {x y : Int} (h1 : EvR K ta σ Hb pI x) (h2 : EvR K tb σ Hb pI y) : EvR K (tOp (rI0 fun i j => .bl (decide (i < j))) ta tb) σ Hb pB (decide (x < y)) := e_I0 (fun _ => rfl) h1 h2
theorem e_le {x y : Int} (h1 : EvR K ta σ Hb pI x) (h2 : EvR K tb σ Hb pI y) : EvR K (tOp (rI0 fun i j => .bl (decide (i ≤ j))) ta tb) σ Hb pB (decide (x ≤ y)) := e_I0 (fun _ => rfl) h1 h2
theorem e_gt {x y : Int} (h1 : EvR K ta σ Hb pI x) (h2 : EvR K tb σ Hb pI y) : EvR K (tOp (rI0 fun i j => .bl (decide (j < i))) ta tb) σ Hb pB (decide (y < x)) := e_I0 (fun _ => rfl) h1 h2
theorem e_ge {x y : Int} (h1 : EvR K ta σ Hb pI x) (h2 : EvR K tb σ Hb pI y) : EvR K (tOp (rI0 fun i j => .bl (decide (j ≤ i))) ta tb) σ Hb pB (decide (y ≤ x)) := e_I0 (fun _ => rfl) h1 h2
theorem dec_VI {x y : Int} : decide (V.int x = V.int y) = decide (x = y) := by
  by_cases h : x = y
  · subst h; simp
  · have : ¬ V.int x = V.int y := fun q => h (V.int.inj q)
    rw [decide_eq_false this, decide_eq_false h]
theorem e_eq {x y : Int} (h1 : EvR K ta σ Hb pI x) (h2 : EvR K tb σ Hb pI y) : EvR K (tOp rEq ta tb) σ Hb pB (decide (x = y)) := e_op2 (z := .bl (decide (x = y))) (fun H1 Q q => ⟨rfl, by rw [dec_VI]; exact q⟩) (fun _ => rfl) h1 h2
theorem e_ne {x y : Int} (h1 : EvR K ta σ Hb pI x) (h2 : EvR K tb σ Hb pI y) : EvR K (tOp rNe ta tb) σ Hb pB (!decide (x = y)) := e_op2 (z := .bl (!decide (x = y))) (fun H1 Q q => ⟨rfl, by rw [dec_VI]; exact q⟩) (fun _ => rfl) h1 h2
theorem e_isNon {v : V} (h : Ev ta σ Hb v) : EvR K (tOp (fun x y H Q => y = .non ∧ Q (.bl (decide (x = .non))) H) ta (tC .non)) σ Hb pB (decide (v = .non)) := Ev.B fun H1 e Q q => h H1 e _ fun H2 e2 => ⟨rfl, q H2 e2⟩
/-- a chain of two comparisons of ints -/
theorem e_chain {g1 g2 : Int → Int → Bool} {x y z : Int} (h1 : EvR K ta σ Hb pI x) (h2 : EvR K tb σ Hb pI y) (h3 : EvR K tc σ Hb pI z) :
    EvR K (tChain (rI0 fun i j => .bl (g1 i j)) (rI0 fun i j => .bl (g2 i j)) ta tb tc) σ Hb pB (g1 x y && g2 y z) := Ev.B fun H1 e Q q =>
  h1.int H1 e _ fun H2 e2 => h2.int H2 (e.trans e2) _ fun H3 e3 => ⟨x, y, rfl, rfl, g1 x y, rfl, by
    cases hg : g1 x y with
    | true =>
      rw [hg] at q
      show tc σ H3 _
      exact h3.int H3 ((e.trans e2).trans e3) _ fun H4 e4 => ⟨y, z, rfl, rfl, q H4 ((e2.trans e3).trans e4)⟩
    | false =>
      rw [hg] at q
      show Q _ H3
      exact q H3 (e2.trans e3)⟩
/-! truth values -/
theorem e_and {a b : Bool} (h1 : EvR K ta σ Hb pB a) (h2 : a = true → EvR K tb σ Hb pB b) : EvR K (tAndV ta tb) σ Hb pB (a && b) := Ev.B (ev_andV h1.bl fun q => (h2 q).bl)
theorem e_or {a b : Bool} (h1 : EvR K ta σ Hb pB a) (h2 : a = false → EvR K tb σ Hb pB b) : EvR K (tOrV ta tb) σ Hb pB (a || b) := Ev.B (ev_orV h1.bl fun q => (h2 q).bl)
theorem e_not {a : Bool} (h1 : EvR K ta σ Hb pB a) : EvR K (tNotV ta) σ Hb pB (!a) := Ev.B (ev_notV h1.bl)
theorem t_test {a : Bool} (h1 : EvR K ta σ Hb pB a) : EvT (tTest ta) σ Hb a := et_test h1.bl
theorem t_B {a : Bool} (h1 : EvR K ta σ Hb pB a) : EvT (tB ta) σ Hb a := et_B h1.bl
theorem e_if {t : TT} {b : Bool} {x : α} (h : EvT t σ Hb b) (h1 : b = true → EvR K ta σ Hb r x) (h2 : b = false → EvR K tb σ Hb r x) : EvR K (tIf t ta tb) σ Hb r x := fun H1 e Q q => h H1 e _ fun H2 e2 => by
  cases b with
  | true =>
    show ta σ H2 Q
    exact h1 rfl H2 (e.trans e2) Q fun v G H3 g => q v G H3 (((Grow.refl e).then_ e2).trans0 g)
  | false =>
    show tb σ H2 Q
    exact h2 rfl H2 (e.trans e2) Q fun v G H3 g => q v G H3 (((Grow.refl e).then_ e2).trans0 g)
/-! items: of a list or of a tuple -/
theorem e_ixL {xs : List α} {i : Nat} {x : α} (h1 : EvR K ta σ Hb (pL r) xs) (h2 : EvR K tb σ Hb pI (i : Int)) (hx : xs[i]? = some x) : EvR K (tOp (rIx K) ta tb) σ Hb r x := fun H1 e Q q =>
  h1 H1 e _ fun v G H2 g ⟨a, vs, ev, hs, hE⟩ => h2.int H2 (e.trans g.ex) _ fun H3 e3 => by
    obtain ⟨u, hu, ru⟩ := hE.get hx
    exact .inl ⟨a, vs, i, u, ev, rfl, ex_l (g.in_.trans e3) hs, atI_nat hu, q u G H3 (g.then_ e3) ru⟩
theorem e_ixT {xs : List α} {i : Nat} {x : α} (h1 : EvR K ta σ Hb (pT r) xs) (h2 : EvR K tb σ Hb pI (i : Int)) (hx : xs[i]? = some x) : EvR K (tOp (rIx K) ta tb) σ Hb r x := fun H1 e Q q =>
  h1 H1 e _ fun v G H2 g ⟨a, vs, ev, hs, hE⟩ => h2.int H2 (e.trans g.ex) _ fun H3 e3 => by
    obtain ⟨u, hu, ru⟩ := hE.get hx
    exact .inr (.inl ⟨a, vs, i, u, ev, rfl, ex_t (g.in_.trans e3) hs, atI_nat hu, q u G H3 (g.then_ e3) ru⟩)
theorem e_fst {x : α × β} (h1 : EvR K ta σ Hb (pP ra rb) x) : EvR K (tOp (rIx K) ta (tC (.int 0))) σ Hb ra x.1 := fun H1 e Q q =>
  h1 H1 e _ fun v G H2 g ⟨a, va, vb, ev, hs, h3, h4⟩ => .inr (.inl ⟨a, _, 0, va, ev, rfl, SqT.of (g.in_ _ _ hs), rfl, q va G H2 g h3⟩)
theorem e_snd {x : α × β} (h1 : EvR K ta σ Hb (pP ra rb) x) : EvR K (tOp (rIx K) ta (tC (.int 1))) σ Hb rb x.2 := fun H1 e Q q =>
  h1 H1 e _ fun v G H2 g ⟨a, va, vb, ev, hs, h3, h4⟩ => .inr (.inl ⟨a, _, 1, vb, ev, rfl, SqT.of (g.in_ _ _ hs), rfl, q vb G H2 g h4⟩)
/-! lengths, sums, conversions -/
def rLenQ (K : PySem.W.Frag) : List V → Hp → VK → Prop := fun xs H Q => ∃ p ys, xs = [.ref p] ∧ (SqL K H p ys ∨ SqT K H p ys) ∧ Q (.int ys.length) H
theorem c_len {X : Cx} : CallR X (.builtin "len") (rLenQ X.K) := call_len_seq
theorem e_lenL {xs : List α} (h : EvR K ta σ Hb (pL r) xs) : EvR K (tCB (rLenQ K) (tCons ta tNil)) σ Hb pNat xs.length := Ev.N fun H1 e Q q => h H1 e _ fun v G H2 g ⟨a, vs, ev, hs, hE⟩ => ⟨a, vs, by rw [ev], .inl (ex_l g.in_ hs), by rw [hE.1]; exact q H2 g.ex⟩
theorem e_lenT {xs : List α} (h : EvR K ta σ Hb (pT r) xs) : EvR K (tCB (rLenQ K) (tCons ta tNil)) σ Hb pNat xs.length := Ev.N fun H1 e Q q => h H1 e _ fun v G H2 g ⟨a, vs, ev, hs, hE⟩ => ⟨a, vs, by rw [ev], .inr (ex_t g.in_ hs), by rw [hE.1]; exact q H2 g.ex⟩
theorem e_lenS {xs : List α} (h : EvR K ta σ Hb (pS r) xs) : EvR K (tCB (rLenQ K) (tCons ta tNil)) σ Hb pNat xs.length := Ev.N fun H1 e Q q => h H1 e _ fun v G H2 g hv => by
  rcases hv with ⟨a, vs, ev, hs, hE⟩ | ⟨a, vs, ev, hs, hE⟩
  · exact ⟨a, vs, by rw [ev], .inl (SqL.of (g.in_ _ _ hs)), by rw [hE.1]; exact q H2 g.ex⟩
  · exact ⟨a, vs, by rw [ev], .inr (SqT.of (g.in_ _ _ hs)), by rw [hE.1]; exact q H2 g.ex⟩
theorem e_lenP {x : α × β} (h : EvR K ta σ Hb (pP ra rb) x) : EvR K (tCB (rLenQ K) (tCons ta tNil)) σ Hb pNat 2 := Ev.N fun H1 e Q q => h H1 e _ fun v G H2 g ⟨a, va, vb, ev, hs, _⟩ => ⟨a, _, by rw [ev], .inr (SqT.of (g.in_ _ _ hs)), q H2 g.ex⟩
theorem e_sum {xs : List Int} (h : EvR K ta σ Hb (pL pI) xs) : EvR K (tCB (rSum K) (tCons ta tNil)) σ Hb pI xs.sum := Ev.I fun H1 e Q q => h H1 e _ fun v G H2 g ⟨a, vs, ev, hs, hE⟩ => by
  rw [each_int hE] at hs
  exact ⟨a, xs, by rw [ev], ex_l g.in_ hs, q H2 g.ex⟩
theorem e_all {bs : List Bool} (h : EvR K ta σ Hb (pL pB) bs) : EvR K (tCB (rAll K) (tCons ta tNil)) σ Hb pB (bs.all id) := Ev.B fun H1 e Q q => h H1 e _ fun v G H2 g ⟨a, vs, ev, hs, hE⟩ => by
  rw [each_bl hE] at hs
  exact ⟨a, bs, by rw [ev], ex_l g.in_ hs, q H2 g.ex⟩
def rListQ (K : PySem.W.Frag) : List V → Hp → VK → Prop := fun xs H Q => ∃ p ys, xs = [.ref p] ∧ (SqL K H p ys ∨ SqT K H p ys) ∧ ∀ l, H l = none → Q (.ref l) (upd H l (.lst ys))
theorem c_list {X : Cx} : CallR X (.type "list") (rListQ X.K) := call_list_of
theorem Grow.own2 {ms : List Addr} {H1 G H2 : Hp} {a : Addr} {o : HO} (g : Grow ms Hb H1 G H2) (h : H2 a = none) (hm : ∀ c ∈ ms, H1 c ≠ none → H2 c ≠ none) : Grow ms Hb H1 G (upd H2 a o) ∧ G a = none ∧ H1 a = none := by
  refine ⟨g.then_ (Ex.new h), fresh_back g.in_ h, ?_⟩
  cases q : H1 a with
  | none => rfl
  | some u => exact absurd h (g.there hm a (by rw [q]; exact fun z => nomatch z))
theorem n_listL {xs : List α} (h : EvR K ta σ Hb (pL r) xs) : EvN K (tCB (rListQ K) (tCons ta tNil)) σ Hb r xs := fun H1 e Q q => h H1 e _ fun v G H2 g ⟨a, vs, ev, hs, hE⟩ => ⟨a, vs, by rw [ev], .inl (ex_l g.in_ hs), fun l hl =>
  let ⟨g1, n1, n2⟩ := g.own2 hl (fun _ z => nomatch z)
  q l vs G _ g1 n1 n2 upd_same hE⟩
theorem n_listT {xs : List α} (h : EvR K ta σ Hb (pT r) xs) : EvN K (tCB (rListQ K) (tCons ta tNil)) σ Hb r xs := fun H1 e Q q => h H1 e _ fun v G H2 g ⟨a, vs, ev, hs, hE⟩ => ⟨a, vs, by rw [ev], .inr (ex_t g.in_ hs), fun l hl =>
  let ⟨g1, n1, n2⟩ := g.own2 hl (fun _ z => nomatch z)
  q l vs G _ g1 n1 n2 upd_same hE⟩
def rTupQ (K : PySem.W.Frag) : List V → Hp → VK → Prop := fun xs H Q => ∃ p ys, xs = [.ref p] ∧ ((SqL K H p ys ∧ ∀ l, H l = none → Q (.ref l) (upd H l (.tup ys))) ∨ (SqT K H p ys ∧ Q (.ref p) H))
theorem c_tup {X : Cx} : CallR X (.type "tuple") (rTupQ X.K) := call_tuple_of
/-- a new known object -/
theorem Grow.new2 {ms : List Addr} {H1 G H2 : Hp} {a : Addr} {o : HO} (g : Grow ms Hb H1 G H2) (h : H2 a = none) (hm : ∀ c ∈ ms, H1 c ≠ none → H2 c ≠ none) : Grow ms Hb H1 (upd G a o) (upd H2 a o) :=
  let ⟨g1, n1, n2⟩ := g.own2 (o := o) h hm
  g1.give (.inl n2) n1 upd_same
theorem e_tupL {xs : List α} (h : EvR K ta σ Hb (pL r) xs) : EvR K (tCB (rTupQ K) (tCons ta tNil)) σ Hb (pTn r) xs := fun H1 e Q q => h H1 e _ fun v G H2 g ⟨a, vs, ev, hs, hE⟩ => ⟨a, vs, by rw [ev], .inl ⟨ex_l g.in_ hs, fun l hl =>
  q _ _ _ (g.new2 hl (fun _ z => nomatch z)) ⟨l, vs, rfl, upd_same, hE.mono (Ex.new (fresh_back g.in_ hl))⟩⟩⟩
theorem e_tupS {xs : List α} (h : EvR K ta σ Hb (pS r) xs) : EvR K (tCB (rTupQ K) (tCons ta tNil)) σ Hb (pTn r) xs := fun H1 e Q q => h H1 e _ fun v G H2 g hv => by
  rcases hv with ⟨a, vs, ev, hs, hE⟩ | ⟨a, vs, ev, hs, hE⟩
  · exact ⟨a, vs, by rw [ev], .inl ⟨SqL.of (g.in_ _ _ hs), fun l hl => q _ _ _ (g.new2 hl (fun _ z => nomatch z)) ⟨l, vs, rfl, upd_same, hE.mono (Ex.new (fresh_back g.in_ hl))⟩⟩⟩
  · exact ⟨a, vs, by rw [ev], .inr ⟨SqT.of (g.in_ _ _ hs), q _ G H2 g ⟨a, vs, rfl, hs, hE⟩⟩⟩
/-- tuple(pair) is the pair itself -/
theorem e_tupP {x : α × β} (h : EvR K ta σ Hb (pP ra rb) x) : EvR K (tCB (rTupQ K) (tCons ta tNil)) σ Hb (pP ra rb) x := fun H1 e Q q => h H1 e _ fun v G H2 g ⟨a, va, vb, ev, hs, h3, h4⟩ => ⟨a, _, by rw [ev], .inr ⟨SqT.of (g.in_ _ _ hs), q _ G H2 g ⟨a, va, vb, rfl, hs, h3, h4⟩⟩⟩
/-! int, abs, max, min -/
def rInt1 : List V → Hp → VK → Prop := fun xs H Q => (∃ i, xs = [.int i] ∧ Q (.int i) H) ∨ ∃ k, xs = [.bl k] ∧ Q (.int (if k then 1 else 0)) H
theorem c_int {X : Cx} : CallR X (.type "int") rInt1 := call_int1
theorem e_int1 {x : Int} (h : EvR K ta σ Hb pI x) : EvR K (tCB rInt1 (tCons ta tNil)) σ Hb pI x := Ev.I fun H1 e Q q => h.int H1 e _ fun H2 e2 => .inl ⟨x, rfl, q H2 e2⟩
theorem e_intB {b : Bool} (h : EvR K ta σ Hb pB b) : EvR K (tCB rInt1 (tCons ta tNil)) σ Hb pI (if b then 1 else 0) := Ev.I fun H1 e Q q => h.bl H1 e _ fun H2 e2 => .inr ⟨b, rfl, q H2 e2⟩
def rAbs1 : List V → Hp → VK → Prop := fun xs H Q => ∃ i, xs = [.int i] ∧ Q (.int (if i < 0 then -i else i)) H
theorem c_abs {X : Cx} : CallR X (.builtin "abs") rAbs1 := call_abs
theorem e_abs {x : Int} (h : EvR K ta σ Hb pI x) : EvR K (tCB rAbs1 (tCons ta tNil)) σ Hb pI (if x < 0 then -x else x) := Ev.I fun H1 e Q q => h.int H1 e _ fun H2 e2 => ⟨x, rfl, q H2 e2⟩
theorem c_max2 {X : Cx} (hc : X.calm = true) : CallR X (.builtin "max") rMax2 := call_max2 hc
theorem e_max2 {x y : Int} (h1 : EvR K ta σ Hb pI x) (h2 : EvR K tb σ Hb pI y) : EvR K (tCB rMax2 (tCons ta (tCons tb tNil))) σ Hb pI (if y > x then y else x) := Ev.I (ev_max2 h1.int h2.int)
def rMin2 : List V → Hp → VK → Prop := fun xs H Q => ∃ i j, xs = [.int i, .int j] ∧ Q (.int (if j < i then j else i)) H
theorem c_min2 {X : Cx} (hc : X.calm = true) : CallR X (.builtin "min") rMin2 := call_min2 hc
theorem e_min2 {x y : Int} (h1 : EvR K ta σ Hb pI x) (h2 : EvR K tb σ Hb pI y) : EvR K (tCB rMin2 (tCons ta (tCons tb tNil))) σ Hb pI (if y < x then y else x) := Ev.I fun H1 e Q q =>
  h1.int H1 e _ fun H2 e2 => h2.int H2 (e.trans e2) _ fun H3 e3 => ⟨x, y, rfl, q H3 (e2.trans e3)⟩
/-! argument lists -/
def EvA (K : PySem.W.Frag) (t : TA) (σ : L2.St) (Hb : Hp) (P : List V → Hp → Prop) : Prop := ∀ H1, Ex Hb H1 → ∀ Q : List V → Hp → Prop, (∀ vs G H2, Grow [] Hb H1 G H2 → P vs G → Q vs H2) → t σ H1 Q
theorem a_nil : EvA K tNil σ Hb (fun vs _ => vs = []) := fun H1 e Q q => q [] Hb H1 (Grow.refl e) rfl
def A1 (K : PySem.W.Frag) {α : Type} (r : Rep α) (x : α) : List V → Hp → Prop := fun vs H => ∃ v, vs = [v] ∧ r.is K H v x
theorem a_1 {x : α} (h : EvR K ta σ Hb r x) : EvA K (tCons ta tNil) σ Hb (A1 K r x) := fun H1 e Q q => h H1 e _ fun v G H2 g hv => q [v] G H2 g ⟨v, rfl, hv⟩
def A2 (K : PySem.W.Frag) {α β : Type} (ra : Rep α) (rb : Rep β) (x : α) (y : β) : List V → Hp → Prop := fun vs H => ∃ v u, vs = [v, u] ∧ ra.is K H v x ∧ rb.is K H u y
theorem a_2 {x : α} {y : β} (h : EvR K ta σ Hb ra x) (h2 : EvR K tb σ Hb rb y) : EvA K (tCons ta (tCons tb tNil)) σ Hb (A2 K ra rb x y) := fun H1 e Q q => h H1 e _ fun v G H2 g hv => (h2.up g.base) H2 g.in_ _ fun u G2 H3 g2 hu => q _ G2 H3 (g.trans0 g2) ⟨v, u, rfl, ra.mono g2.base hv, hu⟩
def A3 (K : PySem.W.Frag) {α β γ : Type} (ra : Rep α) (rb : Rep β) (rc : Rep γ) (x : α) (y : β) (z : γ) : List V → Hp → Prop := fun vs H => ∃ v u w, vs = [v, u, w] ∧ ra.is K H v x ∧ rb.is K H u y ∧ rc.is K H w z
theorem a_3 {x : α} {y : β} {z : γ} (h : EvR K ta σ Hb ra x) (h2 : EvR K tb σ Hb rb y) (h3 : EvR K tc σ Hb rc z) : EvA K (tCons ta (tCons tb (tCons tc tNil))) σ Hb (A3 K ra rb rc x y z) := fun H1 e Q q =>
  h H1 e _ fun v G H2 g hv => (h2.up g.base) H2 g.in_ _ fun u G2 H3 g2 hu => (h3.up (g.base.trans g2.base)) H3 g2.in_ _ fun w G3 H4 g3 hw => q _ G3 H4 ((g.trans0 g2).trans0 g3) ⟨v, u, w, rfl, ra.mono (g2.base.trans g3.base) hv, rb.mono g3.base hu, hw⟩
/-- a def's promise: what the arguments stand for, what the answer stands for -/
def PromR (K : PySem.W.Frag) (P : List V → Hp → Prop) {α : Type} (r : Rep α) (x : α) : Sp := fun vs H Q _ => ∃ Hb, Ex Hb H ∧ P vs Hb ∧ ∀ v G H', Grow [] Hb H G H' → r.is K G v x → Q v H'
def PromN (K : PySem.W.Frag) (P : List V → Hp → Prop) {α : Type} (r : Rep α) (xs : List α) : Sp := fun vs H Q _ => ∃ Hb, Ex Hb H ∧ P vs Hb ∧ ∀ a vs' G H', Grow [] Hb H G H' → G a = none → H a = none → H' a = some (.lst vs') → Each K G r vs' xs → Q (.ref a) H'
theorem e_call {P : List V → Hp → Prop} {sp : Sp} {E : XK} {t : TA} {x : α} (hs : ∀ vs H Q E, PromR K P r x vs H Q E → sp vs H Q E) (h : EvA K t σ Hb P) : EvR K (tCall sp [] E t) σ Hb r x := fun H1 e Q q =>
  h H1 e _ fun vs G H2 g hP => by
    rw [List.append_nil]
    exact hs vs H2 Q E ⟨G, g.in_, hP, fun v G2 H3 g2 hv => q v G2 H3 (g.trans0 g2) hv⟩
theorem n_call {P : List V → Hp → Prop} {sp : Sp} {E : XK} {t : TA} {xs : List α} (hs : ∀ vs H Q E, PromN K P r xs vs H Q E → sp vs H Q E) (h : EvA K t σ Hb P) : EvN K (tCall sp [] E t) σ Hb r xs := fun H1 e Q q =>
  h H1 e _ fun vs G H2 g hP => by
    rw [List.append_nil]
    exact hs vs H2 Q E ⟨G, g.in_, hP, fun a vs' G2 H3 g2 n1 n2 h3 h4 => q a vs' G2 H3 (g.trans0 g2) n1 (fresh_back g.ex n2) h3 h4⟩
/-! displays -/
theorem e_pair {x : α} {y : β} (h : EvR K ta σ Hb ra x) (h2 : EvR K tb σ Hb rb y) : EvR K (tTup (tCons ta (tCons tb tNil))) σ Hb (pP ra rb) (x, y) := fun H1 e Q q =>
  h H1 e _ fun v G H2 g hv => (h2.up g.base) H2 g.in_ _ fun u G2 H3 g2 hu => ⟨by show 2 ≤ sizeLine; decide, fun p hp =>
    let n1 := fresh_back g2.in_ hp
    q _ _ _ ((g.trans0 g2).new2 hp (fun _ z => nomatch z)) ⟨p, v, u, rfl, upd_same, ra.mono (g2.base.trans (Ex.new n1)) hv, rb.mono (Ex.new n1) hu⟩⟩
theorem n_nil : EvN K (tLst tNil) σ Hb r [] := fun H1 e Q q => ⟨Nat.zero_le _, fun p hp => q p [] Hb _ (Grow.own e hp) (fresh_back e hp) hp upd_same Each.nil⟩
theorem n_one {x : α} (h : EvR K ta σ Hb r x) : EvN K (tLst (tCons ta tNil)) σ Hb r [x] := fun H1 e Q q =>
  h H1 e _ fun v G H2 g hv => ⟨by show 1 ≤ sizeLine; decide, fun p hp =>
    let ⟨g1, n1, n2⟩ := g.own2 hp (fun _ z => nomatch z)
    q p _ G _ g1 n1 n2 upd_same (Each.cons hv Each.nil)⟩
/-! slices -/
theorem cut_to (vs : List V) (n : Nat) : cutV vs none (some (n : Int)) = vs.take n := by
  unfold cutV
  rw [show HT.sIx vs.length vs.length (some (n : Int)) = min n vs.length from HT.sIx_nat _ _ _, HT.sIx_none, List.drop_zero, Nat.sub_zero]
  by_cases h : n ≤ vs.length
  · rw [Nat.min_eq_left h]
  · rw [Nat.min_eq_right (by omega), List.take_length, List.take_of_length_le (by omega)]
theorem cut_from (vs : List V) (n : Nat) : cutV vs (some (n : Int)) none = vs.drop n := by
  unfold cutV
  rw [show HT.sIx vs.length 0 (some (n : Int)) = min n vs.length from HT.sIx_nat _ _ _, HT.sIx_none]
  by_cases h : n ≤ vs.length
  · rw [Nat.min_eq_left h, List.take_of_length_le (by rw [List.length_drop]; omega)]
  · rw [Nat.min_eq_right (by omega), List.drop_length, List.drop_of_length_le (by omega), List.take_nil]
theorem n_slTo {xs : List α} {n : Nat} (h : EvR K ta σ Hb (pL r) xs) (h2 : EvR K tb σ Hb pI (n : Int)) : EvN K (tSl (rSlL K) ta tNoPart (tPart tb)) σ Hb r (xs.take n) := fun H1 e Q q =>
  h H1 e _ fun v G H2 g ⟨a, vs, ev, hs, hE⟩ => h2.int H2 (e.trans g.ex) _ fun H3 e3 => ⟨n, rfl, a, vs, ev, ex_l (g.in_.trans e3) hs, fun p hp => by
    rw [cut_to]
    have ⟨g1, n1, n2⟩ := (g.then_ e3).own2 (o := .lst (vs.take n)) hp (fun _ z => nomatch z)
    exact q p _ G _ g1 n1 n2 upd_same (hE.take n)⟩
theorem n_slFrom {xs : List α} {n : Nat} (h : EvR K ta σ Hb (pL r) xs) (h2 : EvR K tb σ Hb pI (n : Int)) : EvN K (tSl (rSlL K) ta (tPart tb) tNoPart) σ Hb r (xs.drop n) := fun H1 e Q q =>
  h H1 e _ fun v G H2 g ⟨a, vs, ev, hs, hE⟩ => h2.int H2 (e.trans g.ex) _ fun H3 e3 => ⟨n, rfl, a, vs, ev, ex_l (g.in_.trans e3) hs, fun p hp => by
    rw [cut_from]
    have ⟨g1, n1, n2⟩ := (g.then_ e3).own2 (o := .lst (vs.drop n)) hp (fun _ z => nomatch z)
    exact q p _ G _ g1 n1 n2 upd_same (hE.drop n)⟩
/-! lists put together -/
theorem n_cat {xs ys : List α} (h : EvR K ta σ Hb (pLn r) xs) (h2 : EvR K tb σ Hb (pLn r) ys) (hl : xs.length + ys.length ≤ 100000) : EvN K (tOp rCat ta tb) σ Hb r (xs ++ ys) := fun H1 e Q q =>
  h H1 e _ fun v G H2 g ⟨a, vs, ev, hs, hE⟩ => (h2.up g.base) H2 g.in_ _ fun u G2 H3 g2 ⟨b, ws, eu, hb, hF⟩ => ⟨a, b, vs, ws, ev, eu, g2.in_ a _ (g2.base a _ hs), g2.in_ _ _ hb, sz_of (by rw [hE.1, hF.1]; exact hl), fun p hp =>
    let ⟨g1, n1, n2⟩ := (g.trans0 g2).own2 hp (fun _ z => nomatch z)
    q p _ G2 _ g1 n1 n2 upd_same ((hE.mono g2.base).app hF)⟩
theorem n_rep {xs : List α} {n : Int} (h : EvR K ta σ Hb (pLn r) xs) (h2 : EvR K tb σ Hb pI n) (hn : -100000 ≤ n ∧ n ≤ 100000) (hl : xs.length * n.toNat ≤ 100000) : EvN K (tOp rRep ta tb) σ Hb r (List.replicate n.toNat xs).flatten := fun H1 e Q q =>
  h H1 e _ fun v G H2 g ⟨a, vs, ev, hs, hE⟩ => h2.int H2 (e.trans g.ex) _ fun H3 e3 => ⟨a, n, vs, ev, rfl, e3 a _ (g.in_ _ _ hs), by omega, by omega, sz_of (by rw [hE.1]; exact hl), fun p hp =>
    let ⟨g1, n1, n2⟩ := (g.then_ e3).own2 hp (fun _ z => nomatch z)
    q p _ G _ g1 n1 n2 upd_same (hE.rep _)⟩
end
end Ly

set_option Elab.async false
set_option linter.all false
set_option maxRecDepth 100000
set_option maxHeartbeats 4000000
/-! rules of one word: a callee by its name, a constant by its name, what is walked whatever it is; loops and comprehensions over typed data -/
namespace Ly
open PySem L2 Evl PyProof.Rows
/-- a def of the module as its callers know it -/
def Callee (P : Program) (w : World) (K : PySem.W.Frag) (mg : Str → Option Value) (base : Heap) (x : Str) (k : Nat) (ps : List Str) (sp : Sp) : Prop :=
  ∃ f fd, FnOk P w K mg base CX0 k f fd ps sp ∧ mg x = some (.ref f) ∧ PySem.W.keepIn K (.ref f) = true ∧ Binds K fd ps []
/-- a constant of the module -/
def Const (mg : Str → Option Value) (x : Str) (v : V) : Prop := ∃ u, mg x = some u ∧ RelV v u
section
variable {X : Cx} {x : Str} {p pos : Pos} {e : Expr} {es : List Expr} {t : TA} {k j : Nat} {ps : List Str} {sp : Sp} {v : V}
theorem pe_cal (c : Callee X.prog X.w X.K X.mg X.base x k ps sp) (hr : Room j X.A) (ha : PA X (e :: es) t) (hk : k ≤ j := by decide) (hg : Gl X x := by rfl) (hdb : (x == ("__debug__" : Str)) = false := by decide)
    (he : starEach (e :: es) X.env = (false, eval e X.env) :: starEach es X.env := by rfl) (hpl : (backTo pos (starEach es X.env)).any (·.1) = false := by rfl) : PE X (.Call (.Name x p) (e :: es) [] pos) (tCall sp [] E0 t) := by
  obtain ⟨f, fd, F, hm, hk', hb⟩ := c
  exact pe_call F (hr.mono hk) hg hm hk' hb .nil pass0 ha hdb he hpl
theorem pe_gl (h : Const X.mg x v) (hg : Gl X x := by rfl) (hd : (x == ("__debug__" : Str)) = false := by decide) : PE X (.Name x pos) (tC v) := by
  obtain ⟨u, hm, r⟩ := h
  exact pe_glob hg hm r hd
end
/-! what is walked: a list or a tuple -/
def iSeq (K : PySem.W.Frag) (tl : TE) : TI := fun σ H R => tl σ H fun x H1 => ∃ a, x = .ref a ∧ ((∃ xs, SqL K H1 a xs ∧ R (Itl K a) H1) ∨ (∃ xs, SqT K H1 a xs ∧ R (Itt K a) H1))
theorem pi_seq {X : Cx} {tg l : Expr} {tl : TE} (hl : PE X l tl) : PI X tg l (iSeq X.K tl) := by
  refine ⟨fun pins s σ H R I h => ?_⟩
  refine thn (hl.run pins s σ H _ I h) fun v s1 ⟨x, H1, I1, r1, q1⟩ => ?_
  obtain ⟨a, e, q⟩ := q1
  subst e
  cases r1
  rcases q with ⟨xs, hq, q⟩ | ⟨xs, hq, q⟩
  · obtain ⟨its, rv, p, hz⟩ := I1.list hq
    refine wpAny_pyIter_list p.isList ?_
    refine ⟨s1.heap.objs.size, [s1.heap.objs.size], _, _, H1, rfl, I1.kept (t' := s1.toks) fun b o e => Heap.get?_push_of_some _ e, turn_list a _, ⟨_, Heap.get?_push_size _ rfl, rfl, rfl⟩, fun b hb => ?_, q⟩
    have e : b = s1.heap.objs.size := by simpa using hb
    subst e
    exact I1.fpOk (Nat.le_refl _) (I1.hok.fresh (Nat.le_refl _))
  · obtain ⟨its, rv, p, hz⟩ := I1.tuple hq
    refine wpAny_pyIter_tuple (show s1.heap.IsTuple a its.toArray from p) ?_
    refine ⟨s1.heap.objs.size, [s1.heap.objs.size], _, _, H1, rfl, I1.kept (t' := s1.toks) fun b o e => Heap.get?_push_of_some _ e, turn_tuple a _, ⟨_, Heap.get?_push_size _ rfl, rfl, rfl⟩, fun b hb => ?_, q⟩
    have e : b = s1.heap.objs.size := by simpa using hb
    subst e
    exact I1.fpOk (Nat.le_refl _) (I1.hok.fresh (Nat.le_refl _))
def pQ {α : Type} (r : Rep α) : Rep (List α) := ⟨fun K H v xs => ∃ a vs, v = .ref a ∧ (SqL K H a vs ∨ SqT K H a vs) ∧ Each K H r vs xs, fun e ⟨a, vs, h1, h2, h3⟩ => ⟨a, vs, h1, h2.elim (fun h => .inl (ex_l e h)) (fun h => .inr (ex_t e h)), h3.mono e⟩⟩
section
variable {K : PySem.W.Frag} {σ : L2.St} {H Hb H' : Hp} {te ta tb tc tl : TE} {α β γ δ : Type} {r ra : Rep α} {rb : Rep β} {rc : Rep γ} {D : Ends} {tu tw tz : TS} {g : TG} {t : TT} {v : V} {x : α}
theorem pL_Q {xs : List α} (h : (pL r).is K H v xs) : (pQ r).is K H v xs := let ⟨a, vs, h1, h2, h3⟩ := h; ⟨a, vs, h1, .inl h2, h3⟩
theorem pT_Q {xs : List α} (h : (pT r).is K H v xs) : (pQ r).is K H v xs := let ⟨a, vs, h1, h2, h3⟩ := h; ⟨a, vs, h1, .inr h2, h3⟩
theorem pS_Q {xs : List α} (h : (pS r).is K H v xs) : (pQ r).is K H v xs := h.elim (fun h => pL_Q (pLn_L h)) (fun h => pT_Q (pTn_T h))
theorem EvR.LQ {xs : List α} (h : EvR K te σ Hb (pL r) xs) : EvR K te σ Hb (pQ r) xs := h.to fun _ _ _ q => pL_Q q
theorem EvR.TQ {xs : List α} (h : EvR K te σ Hb (pT r) xs) : EvR K te σ Hb (pQ r) xs := h.to fun _ _ _ q => pT_Q q
theorem EvR.SQ {xs : List α} (h : EvR K te σ Hb (pS r) xs) : EvR K te σ Hb (pQ r) xs := h.to fun _ _ _ q => pS_Q q
/-! statements -/
theorem s_set {i : Nat} (h : EvR K te σ Hb r x) (e : Ex Hb H) (k : ∀ v G H1, Grow [] Hb H G H1 → r.is K G v x → D.nx (σ.set i (some v)) H1) : tAsg te (gName i) D σ H := h H e _ k
theorem q_set {i : Nat} (h : EvR K te σ Hb r x) (e : Ex Hb H) (k : ∀ v G H1, Grow [] Hb H G H1 → r.is K G v x → tz D (σ.set i (some v)) H1) : tSeq (tAsg te (gName i)) tz D σ H := s_set (D := { D with nx := tz D }) h e k
theorem s_setI {i : Nat} {n : Int} (h : EvR K te σ Hb pI n) (e : Ex Hb H) (k : ∀ H1, Ex H H1 → D.nx (σ.set i (some (.int n))) H1) : tAsg te (gName i) D σ H := h.int H e _ k
theorem q_setI {i : Nat} {n : Int} (h : EvR K te σ Hb pI n) (e : Ex Hb H) (k : ∀ H1, Ex H H1 → tz D (σ.set i (some (.int n))) H1) : tSeq (tAsg te (gName i)) tz D σ H := s_setI (D := { D with nx := tz D }) h e k
theorem s_setN {i : Nat} {xs : List α} (h : EvN K te σ Hb r xs) (e : Ex Hb H) (k : ∀ a vs G H1, Grow [] Hb H G H1 → G a = none → H a = none → H1 a = some (.lst vs) → Each K G r vs xs → D.nx (σ.set i (some (.ref a))) H1) : tAsg te (gName i) D σ H := h H e _ k
theorem q_setN {i : Nat} {xs : List α} (h : EvN K te σ Hb r xs) (e : Ex Hb H) (k : ∀ a vs G H1, Grow [] Hb H G H1 → G a = none → H a = none → H1 a = some (.lst vs) → Each K G r vs xs → tz D (σ.set i (some (.ref a))) H1) : tSeq (tAsg te (gName i)) tz D σ H := s_setN (D := { D with nx := tz D }) h e k
theorem s_retR (h : EvR K te σ Hb r x) (e : Ex Hb H) (k : ∀ v G H1, Grow [] Hb H G H1 → r.is K G v x → D.rt v H1) : tRet te D σ H := h H e _ k
theorem s_retN {xs : List α} (h : EvN K te σ Hb r xs) (e : Ex Hb H) (k : ∀ a vs G H1, Grow [] Hb H G H1 → G a = none → H a = none → H1 a = some (.lst vs) → Each K G r vs xs → D.rt (.ref a) H1) : tRet te D σ H := h H e _ k
theorem s_ifT {b : Bool} (h : EvT t σ Hb b) (e : Ex Hb H) (h1 : b = true → ∀ H1, Ex H H1 → tu D σ H1) (h2 : b = false → ∀ H1, Ex H H1 → tw D σ H1) : tIfS t tu tw D σ H := h H e _ fun H1 e1 => by
  cases b with
  | true => show tu D σ H1; exact h1 rfl H1 e1
  | false => show tw D σ H1; exact h2 rfl H1 e1
theorem q_ifT {b : Bool} (h : EvT t σ Hb b) (e : Ex Hb H) (h1 : b = true → ∀ H1, Ex H H1 → tu { D with nx := tz D } σ H1) (h2 : b = false → ∀ H1, Ex H H1 → tw { D with nx := tz D } σ H1) : tSeq (tIfS t tu tw) tz D σ H := s_ifT (D := { D with nx := tz D }) h e h1 h2
/-- a test that fails: the branch is not taken -/
theorem q_no (h : EvT t σ Hb false) (e : Ex Hb H) (h2 : ∀ H1, Ex H H1 → tz D σ H1) : tSeq (tIfS t tu tNext) tz D σ H := q_ifT h e (fun q => nomatch q) fun _ H1 e1 => h2 H1 e1
theorem q_no' {b : Bool} (h : EvT t σ Hb b) (hb : b = false) (e : Ex Hb H) (h2 : ∀ H1, Ex H H1 → tz D σ H1) : tSeq (tIfS t tu tNext) tz D σ H := q_no (hb ▸ h) e h2
/-- l[j] = e, l a list of ours -/
theorem s_setAt {l : Addr} {vs : List V} {i j : Nat} (e : Ex Hb H) (hl : H l = some (.lst vs)) (hb : Hb l = none) (hv : σ[i]? = some (some (.ref l))) (h : EvR K te σ Hb r x) (hi : EvR K tb σ Hb pI (j : Int)) (hj : j < vs.length)
    (k : ∀ v G H1, Grow [] Hb H G H1 → G l = none → H1 l = some (.lst vs) → r.is K G v x → D.nx σ (upd H1 l (.lst (vs.set j v)))) : tAsg te (gSub (tVar i) tb rSetL) D σ H := h H e _ fun v G H1 g hr => ⟨.ref l, hv, hi.int H1 (e.trans g.ex) _ fun H3 e3 =>
  have g3 := g.then_ e3
  ⟨l, vs, (j : Int), j, rfl, rfl, g3.keep hl (by simp), ixN_nat hj, k v G H3 g3 (g3.no hl hb) (g3.keep hl (by simp)) hr⟩⟩
/-- l.append(e), l a list of ours -/
theorem s_appR {l : Addr} {vs : List V} {i : Nat} (e : Ex Hb H) (hl : H l = some (.lst vs)) (hb : Hb l = none) (hv : σ[i]? = some (some (.ref l))) (h : EvR K te σ Hb r x) (hz : vs.length < 100000)
    (k : ∀ v G H1, Grow [] Hb H G H1 → G l = none → r.is K G v x → D.nx σ (upd H1 l (.lst (vs ++ [v])))) : tDrop (tBM K "list" rAppend (tVar i) (tCons te tNil)) D σ H := ⟨.ref l, hv, .inl ⟨rfl, _, SqL.of hl⟩, h H e _ fun v G H1 g hr =>
  ⟨l, vs, v, rfl, rfl, g.keep hl (by simp), sz_lt hz, k v G H1 g (g.no hl hb) hr⟩⟩
/-! what a loop is fed with -/
def sets (us : List (Nat × V)) (σ : L2.St) : L2.St := us.foldl (fun s p => s.set p.1 (some p.2)) σ
structure Feed (g : TG) (J : It) (n : Nat) (Gb : Hp) (Pu : Nat → List (Nat × V) → Prop) : Prop where
  go : ∀ i H, i < n → Ex Gb H → J.go i H
  stop : ∀ H, Ex Gb H → J.stop n H
  yld : ∀ i H x H2, i < n → Ex Gb H → J.yld i H x H2 → Ex H H2 ∧ ∃ us, Pu i us ∧ ∀ σ (Q : L2.St → Hp → Prop), Q (sets us σ) H2 → g x σ H2 Q
/-- what an iterable gives: its iterator, and what that feeds -/
def Gives (wi : TI) (σ : L2.St) (Hb : Hp) (g : TG) (n : Nat) (Pu : Hp → Nat → List (Nat × V) → Prop) : Prop :=
  ∀ H1, Ex Hb H1 → ∀ R : It → Hp → Prop, (∀ J G H2, Grow [] Hb H1 G H2 → Feed g J n G (Pu G) → R J H2) → wi σ H1 R
theorem s_forG {wi : TI} {n : Nat} {Pu : Hp → Nat → List (Nat × V) → Prop} (hi : Gives wi σ Hb g n Pu) (e : Ex Hb H) (Pv : Hp → Nat → L2.St → Hp → Prop) (h0 : ∀ G H2, Grow [] Hb H G H2 → Pv G 0 σ H2) (hb : ∀ G i σ' H', Ex Hb G → Pv G i σ' H' → Ex G H')
    (hup : ∀ G i σ' H' H2, Pv G i σ' H' → Ex H' H2 → Pv G i σ' H2)
    (hs : ∀ G i us σ' H', Ex Hb G → i < n → Pu G i us → Pv G i σ' H' → tu { D with nx := Pv G (i + 1), ct := Pv G (i + 1), bk := D.nx } (sets us σ') H') (hd : ∀ G σ' H', Ex Hb G → Pv G n σ' H' → D.nx σ' H') : tFor wi g tu D σ H := by
  refine hi H e _ fun J G H2 g2 F => ?_
  refine ⟨fun i m σ' H' => m = n - i ∧ i ≤ n ∧ Pv G i σ' H', ⟨n, rfl, Nat.zero_le _, h0 G H2 g2⟩, ?_⟩
  rintro i m σ' H' ⟨rfl, hi, p⟩
  have eb := hb G i σ' H' g2.base p
  by_cases hlt : i < n
  · refine .inr ⟨F.go i H' hlt eb, Pv G (i + 1), fun σ2 H3 p' => ⟨n - (i + 1), by omega, rfl, hlt, p'⟩, fun x H3 y => ?_⟩
    obtain ⟨e3, us, hu, hq⟩ := F.yld i H' x H3 hlt eb y
    exact hq σ' _ (hs G i us σ' H3 g2.base hlt hu (hup G i σ' H' H3 p e3))
  · have e : i = n := by omega
    subst e
    exact .inl ⟨F.stop H' eb, hd G σ' H' g2.base p⟩
/-- a comprehension that changes nothing: p which turns give, f what -/
theorem n_lcG {wi : TI} {vs : List Nat} {n : Nat} {Pu : Hp → Nat → List (Nat × V) → Prop} (p : Nat → Bool) (f : Nat → β) (hi : Gives wi σ Hb g n Pu) (hn : n < 100000) (hw : ∀ G i us, Pu G i us → wipe (sets us (wipe σ vs)) vs = wipe σ vs)
    (ht : ∀ G0 G i us, Ex Hb G0 → Ex G0 G → i < n → Pu G0 i us → EvT t (sets us (wipe σ vs)) G (p i)) (he : ∀ G0 G i us, Ex Hb G0 → Ex G0 G → i < n → Pu G0 i us → p i = true → EvR K te (sets us (wipe σ vs)) G rb (f i)) :
    EvN K (tLc wi g t te vs) σ Hb rb (((List.range n).filter p).map f) := fun H1 e Q q => by
  refine hi H1 e _ fun J G0 H0 g0 F Dl hD => ?_
  refine ⟨fun i m H' => m = n - i ∧ i ≤ n ∧ ∃ G ws, Grow [] G0 H0 G H' ∧ G Dl = none ∧ H' Dl = some (.lst ws) ∧ Each K G rb ws (((List.range i).filter p).map f), ⟨n, rfl, Nat.zero_le _, G0, [], Grow.own g0.in_ hD, fresh_back g0.in_ hD, upd_same, Each.nil⟩, ?_⟩
  rintro i m H' ⟨rfl, hi, G, ws, gr, n1, h1, hE⟩
  by_cases hlt : i < n
  · refine .inr ⟨F.go i H' hlt (gr.base.trans gr.in_), fun H' => i + 1 ≤ n ∧ ∃ G ws, Grow [] G0 H0 G H' ∧ G Dl = none ∧ H' Dl = some (.lst ws) ∧ Each K G rb ws (((List.range (i + 1)).filter p).map f), fun H2 ⟨l, r⟩ => ⟨n - (i + 1), by omega, rfl, l, r⟩, fun x H2 y => ?_⟩
    obtain ⟨e2, us, hu, hq⟩ := F.yld i H' x H2 hlt (gr.base.trans gr.in_) y
    refine hq _ _ ⟨hw G0 i us hu, ?_⟩
    have gr2 := gr.then_ e2
    refine ht G0 G i us g0.base gr.base hlt hu H2 gr2.in_ _ fun H3 e3 => ?_
    have gr3 := gr2.then_ e3
    have h3 : H3 Dl = some (.lst ws) := e3 _ _ (e2 _ _ h1)
    rw [List.range_succ, List.filter_append, List.map_append]
    cases hp : p i with
    | true =>
      show te _ H3 _
      refine he G0 G i us g0.base gr.base hlt hu hp H3 gr3.in_ _ fun v G4 H4 g4 hv => ?_
      have n4 : G4 Dl = none := g4.no h3 n1
      refine ⟨ws, g4.keep h3 (by simp), sz_lt (by
        rw [hE.1, List.length_map]
        have := List.length_filter_le p (List.range i)
        rw [List.length_range] at this
        omega), hlt, G4, ws ++ [v], (gr3.trans0 g4).mut (.inl hD) n4, n4, upd_same, ?_⟩
      have ep : ([i].filter p).map f = [f i] := by simp [hp]
      rw [ep]
      exact (hE.mono g4.base).snoc hv
    | false =>
      show _ ∧ _
      have ep : ([i].filter p).map f = [] := by simp [hp]
      rw [ep, List.append_nil]
      exact ⟨hlt, G, ws, gr3, n1, h3, hE⟩
  · have e : i = n := by omega
    subst e
    exact .inl ⟨F.stop H' (gr.base.trans gr.in_), q Dl ws G H' (g0.trans0 gr) n1 (by
      have := g0.ex
      cases z : H1 Dl with
      | none => rfl
      | some o => rw [this _ _ z] at hD; cases hD) h1 hE⟩
theorem t_yes : EvT tYes σ Hb true := fun H1 _ Q q => q H1 (Ex.refl H1)
/-- .. without a test -/
theorem n_lcM {wi : TI} {vs : List Nat} {n : Nat} {Pu : Hp → Nat → List (Nat × V) → Prop} (f : Nat → β) (hi : Gives wi σ Hb g n Pu) (hn : n < 100000) (hw : ∀ G i us, Pu G i us → wipe (sets us (wipe σ vs)) vs = wipe σ vs)
    (he : ∀ G0 G i us, Ex Hb G0 → Ex G0 G → i < n → Pu G0 i us → EvR K te (sets us (wipe σ vs)) G rb (f i)) : EvN K (tLc wi g tYes te vs) σ Hb rb ((List.range n).map f) := by
  have h := n_lcG (K := K) (rb := rb) (te := te) (t := tYes) (fun _ => true) f hi hn hw (fun _ _ _ _ _ _ _ _ => t_yes) (fun G0 G i us a b c d _ => he G0 G i us a b c d)
  have e : (List.range n).filter (fun _ => true) = List.range n := List.filter_eq_self.mpr fun _ _ => rfl
  rw [e] at h
  exact h
/-! the feeds -/
theorem feed_list {a : Addr} {vs : List V} {j : Nat} {Gb : Hp} (h : SqL K Gb a vs) : Feed (gName j) (Itl K a) vs.length Gb (fun i us => ∃ v, vs[i]? = some v ∧ us = [(j, v)]) where
  go := fun i H hi e => ⟨vs, vs[i], ex_l e h, by simp [hi]⟩
  stop := fun H e => ⟨vs, ex_l e h, Nat.le_refl _⟩
  yld := fun i H x H2 hi e y => by
    obtain ⟨e2, y⟩ := y
    subst e2
    exact ⟨Ex.refl _, [(j, x)], ⟨x, y vs (ex_l e h), rfl⟩, fun σ Q q => q⟩
theorem feed_tup {a : Addr} {vs : List V} {j : Nat} {Gb : Hp} (h : SqT K Gb a vs) : Feed (gName j) (Itt K a) vs.length Gb (fun i us => ∃ v, vs[i]? = some v ∧ us = [(j, v)]) where
  go := fun i H hi e => ⟨vs, vs[i], ex_t e h, by simp [hi]⟩
  stop := fun H e => ⟨vs, ex_t e h, Nat.le_refl _⟩
  yld := fun i H x H2 hi e y => by
    obtain ⟨e2, y⟩ := y
    subst e2
    exact ⟨Ex.refl _, [(j, x)], ⟨x, y vs (ex_t e h), rfl⟩, fun σ Q q => q⟩
theorem feed_range {lo : Int} {n : Nat} {j : Nat} {Gb : Hp} : Feed (gName j) (Itr lo n) n Gb (fun i us => us = [(j, .int (lo + i))]) where
  go := fun i H hi e => hi
  stop := fun H e => Nat.le_refl _
  yld := fun i H x H2 hi e y => by
    obtain ⟨e2, y⟩ := y
    subst e2 y
    exact ⟨Ex.refl _, _, rfl, fun σ Q q => q⟩
/-- over typed data: the items -/
theorem g_seq {j : Nat} {xs : List α} (h : EvR K tl σ Hb (pQ r) xs) : Gives (iSeq K tl) σ Hb (gName j) xs.length (fun G i us => ∃ v x, xs[i]? = some x ∧ r.is K G v x ∧ us = [(j, v)]) := fun H1 e R q => h H1 e _ fun v G H2 g ⟨a, vs, ev, hs, hE⟩ => by
  have conv : ∀ {J : It}, Feed (gName j) J vs.length G (fun i us => ∃ v, vs[i]? = some v ∧ us = [(j, v)]) → Feed (gName j) J xs.length G (fun i us => ∃ v x, xs[i]? = some x ∧ r.is K G v x ∧ us = [(j, v)]) := fun F => by
    rw [← hE.1]
    refine ⟨F.go, F.stop, fun i H x H3 hi e y => ?_⟩
    obtain ⟨e3, us, ⟨u, hu, eu⟩, hq⟩ := F.yld i H x H3 hi e y
    obtain ⟨z, hz, rz⟩ := hE.got hu
    exact ⟨e3, us, ⟨u, z, hz, rz, eu⟩, hq⟩
  refine ⟨a, ev, ?_⟩
  rcases hs with hs | hs
  · exact .inl ⟨vs, ex_l g.in_ hs, q _ G H2 g (conv (feed_list hs))⟩
  · exact .inr ⟨vs, ex_t g.in_ hs, q _ G H2 g (conv (feed_tup hs))⟩
theorem g_range {j : Nat} {n : Nat} (h : EvR K te σ Hb pI (n : Int)) (hn : n ≤ 100000) : Gives (iRng1 (tCons te tNil)) σ Hb (gName j) n (fun _ i us => us = [(j, .int (i : Int))]) := fun H1 e R q => h.int H1 e _ fun H2 e2 => ⟨n, rfl, by omega, by omega, by
  have F := feed_range (lo := 0) (n := n) (j := j) (Gb := Hb)
  have e0 : ∀ i : Nat, (0 : Int) + (i : Int) = (i : Int) := fun i => Int.zero_add _
  simp only [e0] at F
  have en : ((n : Int)).toNat = n := by simp
  rw [en]
  exact q _ Hb H2 ((Grow.refl e).then_ e2) F⟩
theorem g_range2 {j : Nat} {m n : Nat} (h1 : EvR K ta σ Hb pI (m : Int)) (h : EvR K te σ Hb pI (n : Int)) (hm : m ≤ 100000) (hn : n ≤ 100000) : Gives (iRng2 (tCons ta (tCons te tNil))) σ Hb (gName j) (n - m) (fun _ i us => us = [(j, .int ((m + i : Nat) : Int))]) := fun H1 e R q =>
  h1.int H1 e _ fun H2 e2 => h.int H2 (e.trans e2) _ fun H3 e3 => ⟨m, n, rfl, ⟨by omega, by omega, by omega, by omega⟩, by
  have F := feed_range (lo := m) (n := n - m) (j := j) (Gb := Hb)
  have e0 : ∀ i : Nat, (m : Int) + (i : Int) = ((m + i : Nat) : Int) := fun i => by omega
  simp only [e0] at F
  have en : ((n : Int) - (m : Int)).toNat = n - m := by omega
  rw [en]
  exact q _ Hb H3 ((Grow.refl e).then_ (e2.trans e3)) F⟩
end
end Ly

set_option Elab.async false
set_option linter.all false
set_option maxRecDepth 100000
set_option maxHeartbeats 4000000
/-! isinstance; an instance with the fields ties and houses; names by tactics -/
namespace Ly
open PySem L2 Evl PyProof.Rows
section
variable {K : PySem.W.Frag} {σ : L2.St} {H Hb H' : Hp} {te ta tb tc tl : TE} {α β γ δ : Type} {r ra : Rep α} {rb : Rep β} {rc : Rep γ} {x : α}
/-- what kind of object a value is, wherever it is known -/
def IsTy (K : PySem.W.Frag) (r : Rep α) (x : α) (S : String) : Prop := ∀ v H, r.is K H v x → TyX K H v (.type S)
theorem ty_I {n : Int} : IsTy K pI n "int" := fun v H h => by
  have h : v = .int n := h
  subst h
  exact .base (.int n)
theorem ty_N {n : Nat} : IsTy K pNat n "int" := fun v H h => by
  have h : v = .int (n : Int) := h
  subst h
  exact .base (.int n)
theorem ty_L {xs : List α} : IsTy K (pLn r) xs "list" := fun v H ⟨a, vs, e, h, _⟩ => by
  subst e
  exact .base (.lst h)
theorem ty_T {xs : List α} : IsTy K (pTn r) xs "tuple" := fun v H ⟨a, vs, e, h, _⟩ => by
  subst e
  exact .base (.tup h)
theorem ty_P {y : α × β} : IsTy K (pP ra rb) y "tuple" := fun v H ⟨a, va, vb, e, h, _⟩ => by
  subst e
  exact .base (.tup h)
theorem e_isi {S T : String} {b : Bool} (hk : kitB S T = some b) (ty : IsTy K r x S) (h : EvR K ta σ Hb r x) : EvR K (tCB (rIsi K) (tCons ta (tCons (tC (.ty T)) tNil))) σ Hb pB b := Ev.B fun H1 e Q q => h H1 e _ fun v G H2 g hv =>
  ⟨v, .ty T, .type S, .type T, b, rfl, .ty T, ty v H2 (r.mono g.in_ hv), kit_ty hk, q H2 g.ex⟩
theorem e_isiT {S T U : String} {b c : Bool} (hk : kitB S T = some b) (hk2 : kitB S U = some c) (ty : IsTy K r x S) (h : EvR K ta σ Hb r x) :
    EvR K (tCB (rIsiT K) (tCons ta (tCons (tTup (tCons (tC (.ty T)) (tCons (tC (.ty U)) tNil))) tNil))) σ Hb pB (b || c) := Ev.B fun H1 e Q q => h H1 e _ fun v G H2 g hv => ⟨by show 2 ≤ sizeLine; decide, fun p hp => by
  refine ⟨v, p, [.ty T, .ty U], .type S, [.type T, .type U], b || c, rfl, upd_same, .cons (.ty T) (.cons (.ty U) .nil), ty v _ (r.mono (g.in_.trans (Ex.new hp)) hv), ?_, q _ (g.ex.trans (Ex.new hp))⟩
  refine kitAny_cons (kit_ty hk) (fun hb => ?_) (fun hb => by rw [hb, Bool.true_or])
  rw [hb, Bool.false_or]
  exact kitAny_cons (kit_ty hk2) (fun hc => by rw [hc]; exact kitAny_nil) (fun hc => hc)⟩
end
/-! a web: its ties (a tuple of pairs), its houses -/
abbrev WebD := Nat × List (Nat × Nat)
theorem kth : ¬ (("ties" : Str) = "houses") := by decide +kernel
def webF (t h : V) : List (Str × V) := [("ties", t), ("houses", h)]
theorem webF_eq (t h : V) : putF "houses" h (putF "ties" t []) = webF t h := by
  show (if ("ties" : Str) = "houses" then [(("ties" : Str), h)] else (("ties" : Str), t) :: putF "houses" h []) = webF t h
  rw [if_neg kth]
  rfl
theorem webF_ties (t h : V) : (webF t h).lookup ("ties" : Str) = some t := by rw [← webF_eq, lookup_putF, if_neg kth, lookup_putF, if_pos rfl]
theorem webF_houses (t h : V) : (webF t h).lookup ("houses" : Str) = some h := by rw [← webF_eq, lookup_putF, if_pos rfl]
def pWeb (C : Addr) : Rep WebD := ⟨fun K H v w => ∃ a dx t, v = .ref a ∧ H a = some (.ins C dx (webF t (.int (w.1 : Nat)))) ∧ (pTn (pP pNat pNat)).is K H t w.2,
  fun e ⟨a, dx, t, h1, h2, h3⟩ => ⟨a, dx, t, h1, e a _ h2, (pTn (pP pNat pNat)).mono e h3⟩⟩
/-- what is asked of the class -/
structure WebC (K : PySem.W.Frag) (C : Addr) : Prop where
  cl : Cls K C
  nT : NoAttr K C "ties"
  nH : NoAttr K C "houses"
section
variable {K : PySem.W.Frag} {σ : L2.St} {H Hb H' : Hp} {te ta tb tc tl : TE} {C : Addr} {w : WebD}
theorem e_houses (c : WebC K C) (h : EvR K ta σ Hb (pWeb C) w) : EvR K (tFld K ta "houses") σ Hb pNat w.1 := Ev.N fun H1 e Q q => h H1 e _ fun v G H2 g ⟨a, dx, t, ev, ho, ht⟩ =>
  ⟨a, C, dx, _, _, ev, g.in_ _ _ ho, c.cl, c.nH, webF_houses _ _, q H2 g.ex⟩
theorem e_ties (c : WebC K C) (h : EvR K ta σ Hb (pWeb C) w) : EvR K (tFld K ta "ties") σ Hb (pTn (pP pNat pNat)) w.2 := fun H1 e Q q => h H1 e _ fun v G H2 g ⟨a, dx, t, ev, ho, ht⟩ =>
  ⟨a, C, dx, _, _, ev, g.in_ _ _ ho, c.cl, c.nT, webF_ties _ _, q t G H2 g ht⟩
/-- the tie's two houses, given to two names -/
theorem s_unpair {i j : Nat} {α β : Type} {ra : Rep α} {rb : Rep β} {x : α × β} {D : Ends} (h : EvR K te σ Hb (pP ra rb) x) (e : Ex Hb H) (k : ∀ va vb G H1, Grow [] Hb H G H1 → ra.is K G va x.1 → rb.is K G vb x.2 → D.nx ((σ.set i (some va)).set j (some vb)) H1) :
    tAsg te (gTup K 2 (gCons (gName i) (gCons (gName j) gNil))) D σ H := h H e _ fun v G H1 g ⟨a, va, vb, ev, hs, h3, h4⟩ => ⟨a, [va, vb], ev, SqT.of (g.in_ _ _ hs), rfl, va, [vb], rfl, vb, [], rfl, rfl, k va vb G H1 g h3 h4⟩
theorem q_unpair {i j : Nat} {α β : Type} {ra : Rep α} {rb : Rep β} {x : α × β} {D : Ends} {tz : TS} (h : EvR K te σ Hb (pP ra rb) x) (e : Ex Hb H) (k : ∀ va vb G H1, Grow [] Hb H G H1 → ra.is K G va x.1 → rb.is K G vb x.2 → tz D ((σ.set i (some va)).set j (some vb)) H1) :
    tSeq (tAsg te (gTup K 2 (gCons (gName i) (gCons (gName j) gNil)))) tz D σ H := s_unpair (D := { D with nx := tz D }) h e k
/-- .. two numbers -/
theorem q_unpairN {i j : Nat} {x : Nat × Nat} {D : Ends} {tz : TS} (h : EvR K te σ Hb (pP pNat pNat) x) (e : Ex Hb H) (k : ∀ H1, Ex H H1 → tz D ((σ.set i (some (.int (x.1 : Int)))).set j (some (.int (x.2 : Int)))) H1) :
    tSeq (tAsg te (gTup K 2 (gCons (gName i) (gCons (gName j) gNil)))) tz D σ H := q_unpair h e fun va vb G H1 g h3 h4 => by
  have h3 : va = .int (x.1 : Int) := h3
  have h4 : vb = .int (x.2 : Int) := h4
  subst h3 h4
  exact k H1 g.ex
end
/-! ### promises with their readings -/
section
variable {K : PySem.W.Frag} {σ : L2.St} {Hb : Hp} {t : TA} {E : XK} {α β γ δ : Type} {r : Rep α} {x : α}
theorem e_callP {P : List V → Hp → Prop} (h : EvA K t σ Hb P) : EvR K (tCall (PromR K P r x) [] E t) σ Hb r x := e_call (fun _ _ _ _ h => h) h
end
end Ly

set_option Elab.async false
set_option linter.all false
set_option maxRecDepth 100000
set_option maxHeartbeats 4000000
/-! the rules that name K, with K given -/
namespace Ly
open PySem L2 Evl PyProof.Rows
section
variable {X : Cx} (K : PySem.W.Frag)
theorem k_ix (h : X.K = K := by rfl) : IxR X (rIx K) := by subst h; exact ix_seq
theorem k_len (h : X.K = K := by rfl) : CallR X (.builtin "len") (rLenQ K) := by subst h; exact c_len
theorem k_sum (h : X.K = K := by rfl) (hc : X.calm = true := by rfl) : CallR X (.builtin "sum") (rSum K) := by subst h; exact cr_sum hc
theorem k_all (h : X.K = K := by rfl) (hc : X.calm = true := by rfl) : CallR X (.builtin "all") (rAll K) := by subst h; exact cr_all hc
theorem k_any (h : X.K = K := by rfl) (hc : X.calm = true := by rfl) : CallR X (.builtin "any") (rAny K) := by subst h; exact cr_any hc
theorem k_list (h : X.K = K := by rfl) : CallR X (.type "list") (rListQ K) := by subst h; exact c_list
theorem k_tup (h : X.K = K := by rfl) : CallR X (.type "tuple") (rTupQ K) := by subst h; exact c_tup
theorem k_isi (h : X.K = K := by rfl) : CallR X (.builtin "isinstance") (rIsi K) := by subst h; exact call_isi
theorem k_isiT (h : X.K = K := by rfl) : CallR X (.builtin "isinstance") (rIsiT K) := by subst h; exact call_isiT
theorem k_sl (h : X.K = K := by rfl) : SlR X (rSlL K) := by subst h; exact sl_list
theorem k_in (h : X.K = K := by rfl) : OpR X (compareOp .In) (rIn K false) := by subst h; exact op_in_seq
theorem k_notIn (h : X.K = K := by rfl) : OpR X (compareOp .NotIn) (rIn K true) := by subst h; exact op_notIn_seq
theorem k_sortedI (h : X.K = K := by rfl) : CallR X (.builtin "sorted") (rSortedI K) := by subst h; exact cr_sortedI
variable {e o l tg : Expr} {es elts : List Expr} {f name : Str} {pos apos : Pos} {ta tl : TE} {t : TA}
theorem pk_fld (he : PE X e ta) (hb : attributeBase e f X.env (eval e X.env) = eval e X.env := by rfl) (h : X.K = K := by rfl) : PE X (.Attribute e f pos) (tFld K ta f) := by subst h; exact pe_fld he hb
theorem pk_seq (hl : PE X l tl) (h : X.K = K := by rfl) : PI X tg l (iSeq K tl) := by subst h; exact pi_seq hl
theorem pk_tup {k : Nat} {u : TGs} {n : Nat} (hc : X.calm = true) (hs : PGs X es u) (hn : (assignEach es X.env).length = n := by rfl) (hst : (assignEach es X.env).findIdx? (·.1) = none := by rfl) (h : X.K = K := by rfl) : PG X (.Tuple es k pos) (gTup K n u) := by subst h; exact pg_tup hc hs hn hst
end
end Ly

set_option Elab.async false
set_option linter.all false
set_option maxRecDepth 100000
set_option maxHeartbeats 4000000
/-! enumerate and zip over lists and tuples in any mix (after HandS.Iter's turn_enum and HandS.Zip's turn_zipT, the draws by KE) -/
namespace Ly
open PySem PySem.Spec L2 Evl PyProof.Rows
def SqB (K : PySem.W.Frag) (b : Bool) (H : Hp) (a : Addr) (xs : List V) : Prop := if b = true then SqL K H a xs else SqT K H a xs
def ItB (b : Bool) (h : Heap) (it a : Addr) (i : Nat) : Prop := if b = true then h.IsListIter it a i else h.IsTupleIter it a i
def IsB (b : Bool) (h : Heap) (a : Addr) (items : Array Value) : Prop := if b = true then h.IsList a items else h.IsTuple a items
theorem drawB {prog : Program} {w : World} {A : Around} (hh : A.handled = none) (b : Bool) (it a : Addr) (hne : a ≠ it) (items : Array Value) :
    Draws prog w A it [it, a] items.size (fun i v => items[i]? = some v) (fun i h => ItB b h it a i ∧ IsB b h a items) := by
  cases b with
  | true => exact Draws.list hh it a hne items
  | false => exact Draws.tuple hh it a hne items
theorem ItB.at_ {b : Bool} {h h' : Heap} {it a : Addr} {i : Nat} (q : ItB b h it a i) (k : ∀ o, h.get? it = some o → h'.get? it = some o) : ItB b h' it a i := by
  cases b with
  | true => exact Heap.IsListIter.at q k
  | false => exact Heap.IsTupleIter.at q k
theorem ItB.obj {b : Bool} {h : Heap} {it a : Addr} {i : Nat} (q : ItB b h it a i) : ∃ o, h.get? it = some o ∧ ∀ v, o.data ≠ .cell v := by
  cases b with
  | true => obtain ⟨o, e, _, d⟩ := q; exact ⟨o, e, fun v z => by rw [d] at z; cases z⟩
  | false => obtain ⟨o, e, _, d⟩ := q; exact ⟨o, e, fun v z => by rw [d] at z; cases z⟩
theorem ItB.lt {b : Bool} {h : Heap} {it a : Addr} {i : Nat} (q : ItB b h it a i) : it < h.objs.size := let ⟨_, e, _⟩ := q.obj; Heap.lt_size e
theorem SqB.ex {K : PySem.W.Frag} {b : Bool} {H H' : Hp} {a : Addr} {xs : List V} (q : SqB K b H a xs) (e : Ex H H') : SqB K b H' a xs := by
  cases b with
  | true => exact ex_l e q
  | false => exact ex_t e q
section
variable {X : Cx} {pins : List (Addr × Obj)} {σ : L2.St} {H : Hp} {s : Shared} {a : Addr} {xs ys : List V} {b : Bool}
theorem inv_seqB (I : Inv X pins σ H s) (h : SqB X.K b H a xs) : ∃ its : List Value, Vals xs its ∧ IsB b s.heap a its.toArray ∧ a < s.heap.objs.size := by
  cases b with
  | true =>
    obtain ⟨its, rv, p, _⟩ := I.list h
    exact ⟨its, rv, p.isList, p.lt⟩
  | false =>
    obtain ⟨its, rv, p, _⟩ := I.tuple h
    obtain ⟨o, ho, q⟩ := id p
    exact ⟨its, rv, p, Heap.lt_size ho⟩
theorem seqB_inj (I : Inv X pins σ H s) (h : SqB X.K b H a xs) (h' : SqB X.K b H a ys) : xs = ys := by
  cases b with
  | true => exact I.list_inj h h'
  | false => exact I.tuple_inj h h'
end
/-! enumerate -/
def IteB (K : PySem.W.Frag) (b : Bool) (a : Addr) : It :=
  ⟨fun i H => ∃ (xs : List V) (x : V), SqB K b H a xs ∧ xs[i]? = some x, fun i H v H' => ∃ T x, v = .ref T ∧ H T = none ∧ H' = upd H T (.tup [.int (i : Nat), x]) ∧ ∀ xs, SqB K b H a xs → xs[i]? = some x, fun i H => ∃ xs : List V, SqB K b H a xs ∧ xs.length = i⟩
theorem turn_enumB {P : Program} {w : World} {K : PySem.W.Frag} {b : Bool} {elts : List Expr} {kk : Nat} {tpos : Pos} (a e it : Addr) (hei : e ≠ it) (hea : e ≠ a) (hai : a ≠ it) :
    Turn P w K (.Tuple elts kk tpos) (IteB K b a) [e, it] e (fun i h => (∃ old, IsEnum h e it ((i : Nat) : Int) old) ∧ ItB b h it a i) where
  mem := by simp
  obj := fun i h st c hc => by
    obtain ⟨⟨old, he⟩, hit⟩ := st
    have e' : c = e ∨ c = it := by simpa using hc
    rcases e' with z | z
    · rw [z]; exact ⟨_, he, fun v q => nomatch q⟩
    · rw [z]; exact hit.obj
  keep := fun i h h' st k => let ⟨⟨old, he⟩, hi⟩ := st; ⟨⟨old, k e (by simp) _ he⟩, hi.at_ fun o q => k it (by simp) o q⟩
  item := by
    intro X hP hw hK hc i pins s σ H E I hf st hg
    subst hP hw hK
    obtain ⟨⟨old, he⟩, hit⟩ := st
    obtain ⟨xs, x, hq, hx⟩ := hg
    obtain ⟨its, rv, p, hal⟩ := inv_seqB I hq
    obtain ⟨u, hu, ru⟩ := rv.get hx
    have hel : e < s.heap.objs.size := Heap.lt_size he
    have hil := hit.lt
    have hh : X.A.in1.handled = none := I.ok.hd hc
    have hlt : i < its.toArray.size := by
      have := (List.getElem?_eq_some_iff.mp hu).1
      simpa using this
    refine wpAny_pyNext_enum_itemC (drawB hh b it a hai its.toArray) he ⟨hit, p⟩ hlt hei (by simp [hei, hea]) fun y h' tk hy ho st' hT hsz hk => ?_
    have ey : y = u := by
      have h1 : its.toArray[i]? = some u := by simpa using hu
      rw [h1] at hy
      exact (Option.some.inj hy).symm
    subst ey
    refine ⟨_, rfl, wpAny_letOwnedTupleGo_enum (s := { s with heap := h', toks := tk + 1 }) ho fun h'' he' sb => ?_⟩
    have hT2 : h''.get? s.heap.objs.size = some { cls := .type "tuple", data := .seq #[.int i tk, y] } := (sb.2 _ (Nat.ne_of_gt hel)).trans hT
    have new : ObjOk X.prog X.w (upd H s.heap.objs.size (.tup [.int (i : Nat), x])) h'' s.heap.objs.size (.tup [.int (i : Nat), x]) :=
      ⟨by show 2 ≤ sizeLine; decide, [.int i tk, y], .cons ⟨_, rfl⟩ (.cons ru .nil), ⟨_, hT2, rfl, _, rfl⟩⟩
    have I1 : Inv X pins σ (upd H s.heap.objs.size (.tup [.int (i : Nat), x])) { s with heap := h'', toks := tk + 1 } :=
      I.turnedNew (ch := [e, it]) (fun c ob hb q => (sb.2 c (fun z => hb (by simp [z]))).trans (hk c ob (fun z => hb (by simp [z])) (fun z => hb (by simp [z])) q)) hf (Nat.le_refl _) new
    refine ⟨.ref s.heap.objs.size, _, I1, rfl, ⟨_, x, rfl, I.hok.fresh (Nat.le_refl _), rfl, fun zs hz => by rw [seqB_inj I hz hq]; exact hx⟩, ⟨⟨y, ?_⟩, st'.1.at_ fun o q => (sb.2 it (Ne.symm hei)).trans q⟩, fun c hcm => ?_⟩
    · have e1 : ((i + 1 : Nat) : Int) = (i : Int) + 1 := by omega
      rw [e1]; exact he'
    · have hb' : c < s.heap.objs.size := by
        have e' : c = e ∨ c = it := by simpa using hcm
        rcases e' with z | z
        · rw [z]; exact hel
        · rw [z]; exact hil
      rw [upd_ne (Nat.ne_of_lt hb')]
      exact (hf c hcm).1
  done := by
    intro X hP hw hK hc i pins s σ H E I hf st hg
    subst hP hw hK
    obtain ⟨⟨old, he⟩, hit⟩ := st
    obtain ⟨xs, hq, hx⟩ := hg
    obtain ⟨its, rv, p, hal⟩ := inv_seqB I hq
    obtain ⟨f0, f1, f2, f3, f4, f5⟩ := hf it (by simp)
    have hh : X.A.in1.handled = none := I.ok.hd hc
    have hl : i = its.toArray.size := by rw [← hx, rv.length]; simp
    subst hl
    exact wpAny_pyNext_enum_endD (drawB hh b it a hai its.toArray) he ⟨hit, p⟩ fun h' eb => ⟨rfl, I.turned (t' := s.toks) (fun c o hb q => eb c o hb q) f0 f1 f3 f4 f5⟩
  self := fun A i s Q E st h => let ⟨⟨_, he⟩, _⟩ := st; wpAny_pyIter_enum he h
set_option maxHeartbeats 8000000 in
theorem meets_enumerate_newB1 {v : Value} {o : Obj} {H : Heap → Prop} (B : Begins v o H) :
    Meets (Builtin.«enumerate.__new__» ⟨[.type "enumerate", v], []⟩) (fun _ R s => H s.heap ∧
      R (.ok (.ret (.ref (s.heap.push o).objs.size))) { s with heap := (s.heap.push o).push { cls := .type "enumerate", data := .fields #[.none, .bool false, .ref s.heap.objs.size, rawInt 0, .none, .none] } }) :=
  .of_wp fun prog w A R s h => by
    obtain ⟨hp, g, d, tk, os⟩ := s; obtain ⟨h1, h⟩ := h
    have hsub := sub_enumerate
    have q1 : ∀ {A' : Around} {E : Value → Shared → Prop} {Q : Value → Shared → Prop}, Q (.ref hp.objs.size) ⟨hp.push o, g, d, tk, os⟩ → wpAny (model prog w) A' (pyIter v) Q E ⟨hp, g, d, tk, os⟩ :=
      fun q => B.iter prog w _ _ ⟨hp, g, d, tk, os⟩ _ h1 q
    wp_walk using q1
    refine wpAny_stack_any fun st => wpAny_pure ?_
    split
    · rename_i c _ _ _ _ _
      cases (c == Value.type "enumerate")
      · wp_walk using q1
        exact ⟨_, rfl, h⟩
      · wp_walk using q1
        exact ⟨_, rfl, h⟩
    · wp_walk using q1
      exact ⟨_, rfl, h⟩
theorem begB (b : Bool) (a : Addr) (items : Array Value) : ∃ o : Obj, Begins (.ref a) o (fun h => IsB b h a items) ∧ ∀ h : Heap, ∀ it, h.get? it = some o → ItB b h it a 0 := by
  cases b with
  | true => exact ⟨_, begins_list a items, fun h it e => ⟨_, e, rfl, rfl⟩⟩
  | false => exact ⟨_, begins_tuple a items, fun h it e => ⟨_, e, rfl, rfl⟩⟩
theorem call_enumB {prog : Program} {w : World} {A : Around} {E : Value → Shared → Prop} {s : Shared} {b : Bool} {a : Addr} {items : Array Value} {Q : Value → Shared → Prop} (hL : IsB b s.heap a items)
    (h : ∀ h', IsEnum h' (s.heap.objs.size + 1) s.heap.objs.size 0 .none → ItB b h' s.heap.objs.size a 0 → (∀ b o, s.heap.get? b = some o → h'.get? b = some o) → Q (.ref (s.heap.objs.size + 1)) { s with heap := h' }) :
    wpAny (model prog w) A (call (.type "enumerate") [.ref a]) Q E s := by
  obtain ⟨o, B, hb⟩ := begB b a items
  refine callType_new F.called_enumerate (by decide) (F.typeCall_enumerate_1 _) (F.newCall_enumerate_1 _) (fun obj => F.args_object_init_2 obj _) F.entry_enumerate_new
    (meets_enumerate_newB1 B) ⟨hL, ?_⟩
  have hz : (s.heap.push o).objs.size = s.heap.objs.size + 1 := Heap.size_push ..
  show _ ∧ _
  rw [hz]
  have he : IsEnum ((s.heap.push o).push { cls := .type "enumerate", data := .fields #[.none, .bool false, .ref s.heap.objs.size, rawInt 0, .none, .none] }) (s.heap.objs.size + 1) s.heap.objs.size 0 .none := by
    have := Heap.get?_push_size (s.heap.push o) (o := { cls := .type "enumerate", data := .fields #[.none, .bool false, .ref s.heap.objs.size, rawInt 0, .none, .none] }) rfl
    rw [hz] at this; exact this
  exact ⟨⟨_, he, rfl⟩, h _ he (hb _ _ (Heap.get?_push_of_some _ (Heap.get?_push_size _ B.free))) fun c u x => Heap.get?_push_of_some _ (Heap.get?_push_of_some _ x)⟩
def iEnumB (K : PySem.W.Frag) (ta : TA) : TI := fun σ H R => ta σ H fun vs H1 => ∃ a b xs, vs = [.ref a] ∧ SqB K b H1 a xs ∧ R (IteB K b a) H1
theorem pi_enumS {X : Cx} (K : PySem.W.Frag) {e : Expr} {ta : TA} {p pos tpos : Pos} {elts : List Expr} {kk : Nat} (hm : X.mg "enumerate" = none) (ha : PA X [e] ta) (hg : Gl X "enumerate" := by rfl) (hs : starEach [e] X.env = [(false, eval e X.env)] := by rfl) (hK : X.K = K := by rfl) :
    PI X (.Tuple elts kk tpos) (.Call (.Name "enumerate" p) [e] [] pos) (iEnumB K ta) := by
  subst hK
  refine ⟨fun pins s σ H R I h => ?_⟩
  refine Call_ (ld_blt I hg hm boot_enumerate (PyProof.Rows.callWith_type1 (thn (ha.run pos pins s σ H _ I h) fun us s1 ⟨vs, H1, I1, r1, q1⟩ => ?_) hs rfl))
  obtain ⟨a, b, xs, ex, hq, q⟩ := q1
  subst ex
  cases r1 with
  | cons r rr =>
    cases rr
    cases r
    obtain ⟨its, rv, p', hal⟩ := inv_seqB I1 hq
    refine call_enumB p' fun h' he hit hk => wpAny_pyIter_enum he ?_
    have I2 : Inv X pins σ H1 { s1 with heap := h' } := I1.kept (t' := s1.toks) hk
    refine ⟨s1.heap.objs.size + 1, [s1.heap.objs.size + 1, s1.heap.objs.size], _, _, H1, rfl, I2, turn_enumB a (s1.heap.objs.size + 1) s1.heap.objs.size (Nat.succ_ne_self _) (Nat.ne_of_gt (Nat.lt_succ_of_lt hal)) (Nat.ne_of_lt hal), ⟨⟨.none, he⟩, hit⟩, fun c hcm => ?_, q⟩
    have e' : c = s1.heap.objs.size + 1 ∨ c = s1.heap.objs.size := by simpa using hcm
    have hle : s1.heap.objs.size ≤ c := by
      rcases e' with z | z
      · rw [z]; exact Nat.le_succ _
      · rw [z]; exact Nat.le_refl _
    exact I1.fpOk hle (I1.hok.fresh hle)
end Ly

set_option Elab.async false
set_option linter.all false
set_option maxRecDepth 100000
set_option maxHeartbeats 4000000
/-! zip of a list or tuple and a list or tuple -/
namespace Ly
open PySem PySem.Spec L2 Evl PyProof.Rows
def ItzB (K : PySem.W.Frag) (p q : Bool) (a b : Addr) : It :=
  ⟨fun i H => ∃ (xs ys : List V) (x y : V), SqB K p H a xs ∧ SqB K q H b ys ∧ xs[i]? = some x ∧ ys[i]? = some y,
    fun i H v H' => ∃ T x y, v = .ref T ∧ H T = none ∧ H' = upd H T (.tup [x, y]) ∧ (∀ xs, SqB K p H a xs → xs[i]? = some x) ∧ ∀ ys, SqB K q H b ys → ys[i]? = some y,
    fun i H => ∃ xs ys : List V, SqB K p H a xs ∧ SqB K q H b ys ∧ xs.length = i ∧ ys.length = i⟩
theorem turn_zipB {P : Program} {w : World} {K : PySem.W.Frag} {p q : Bool} {elts : List Expr} {kk : Nat} {tpos : Pos} {a b z TI TO i1 i2 : Addr} (S : ZipSep2 z TI TO i1 i2 [i1, a] [i2, b]) (h1a : a ≠ i1) (h2b : b ≠ i2) :
    Turn P w K (.Tuple elts kk tpos) (ItzB K p q a b) [z, TI, TO, i1, i2] z (fun i h => IsZip h z TI TO .none ∧ IsTupOf2 h TI (.ref i1) (.ref i2) ∧ (∃ x y, IsTupOf2 h TO x y) ∧ ItB p h i1 a i ∧ ItB q h i2 b i) where
  mem := by simp
  obj := fun i h st c hc => by
    obtain ⟨hz, hTI, ⟨x, y, hTO⟩, h1, h2⟩ := st
    have e' : c = z ∨ c = TI ∨ c = TO ∨ c = i1 ∨ c = i2 := by simpa using hc
    rcases e' with q | q | q | q | q
    · rw [q]; exact ⟨_, hz, fun v q => nomatch q⟩
    · rw [q]; exact ⟨_, hTI, fun v q => nomatch q⟩
    · rw [q]; exact ⟨_, hTO, fun v q => nomatch q⟩
    · rw [q]; exact h1.obj
    · rw [q]; exact h2.obj
  keep := fun i h h' st k => by
    obtain ⟨hz, hTI, ⟨x, y, hTO⟩, h1, h2⟩ := st
    exact ⟨k z (by simp) _ hz, k TI (by simp) _ hTI, ⟨x, y, k TO (by simp) _ hTO⟩, h1.at_ fun o q => k i1 (by simp) o q, h2.at_ fun o q => k i2 (by simp) o q⟩
  item := by
    intro X hP hw hK hc i pins s σ H E I hf st hg
    subst hP hw hK
    obtain ⟨hz, hTI, ⟨x0, y0, hTO⟩, h1, h2⟩ := st
    obtain ⟨xs, ys, x, y, hqx, hqy, hx, hy⟩ := hg
    obtain ⟨its, rv, pl, _⟩ := inv_seqB I hqx
    obtain ⟨its2, rv2, pl2, _⟩ := inv_seqB I hqy
    obtain ⟨u, hu, ru⟩ := rv.get hx
    obtain ⟨u2, hu2, ru2⟩ := rv2.get hy
    have hzl : z < s.heap.objs.size := Heap.lt_size hz
    have hh : X.A.in1.handled = none := I.ok.hd hc
    have lt1 : i < its.toArray.size := by
      have := (List.getElem?_eq_some_iff.mp hu).1
      simpa using this
    have lt2 : i < its2.toArray.size := by
      have := (List.getElem?_eq_some_iff.mp hu2).1
      simpa using this
    refine wpAny_pyNext_zipD2_item S (drawB hh p i1 a h1a its.toArray) (drawB hh q i2 b h2b its2.toArray) hz hTI hTO ⟨h1, pl⟩ ⟨h2, pl2⟩ lt1 lt2 fun x1 x2 h' tk y1 y2 z' TO' d1 d2 hT hsz hk => ?_
    have e1 : x1 = u := by
      have h0 : its.toArray[i]? = some u := by simpa using hu
      rw [h0] at y1
      exact (Option.some.inj y1).symm
    have e2 : x2 = u2 := by
      have h0 : its2.toArray[i]? = some u2 := by simpa using hu2
      rw [h0] at y2
      exact (Option.some.inj y2).symm
    subst e1 e2
    refine ⟨_, rfl, wpAny_letOwnedTupleGo_zip (s := { s with heap := h', toks := tk }) z' fun h'' z'' sb => ?_⟩
    have hT2 : h''.get? s.heap.objs.size = some { cls := .type "tuple", data := .seq #[x1, x2] } := (sb.2 _ (Nat.ne_of_gt hzl)).trans hT
    have new : ObjOk X.prog X.w (upd H s.heap.objs.size (.tup [x, y])) h'' s.heap.objs.size (.tup [x, y]) :=
      ⟨by show 2 ≤ sizeLine; decide, [x1, x2], .cons ru (.cons ru2 .nil), ⟨_, hT2, rfl, _, rfl⟩⟩
    have I1 : Inv X pins σ (upd H s.heap.objs.size (.tup [x, y])) { s with heap := h'', toks := tk } :=
      I.turnedNew (t' := tk) (ch := [z, TI, TO, i1, i2]) (fun c o hb q => (sb.2 c (fun q' => hb (by simp [q']))).trans (hk c o (fun q' => hb (by simp [q'])) (fun q' => hb (by simp [q'])) (fun q' => hb (by simp [q'])) (fun q' => hb (by simp [q'])) q)) hf (Nat.le_refl _) new
    refine ⟨.ref s.heap.objs.size, _, I1, rfl, ⟨_, x, y, rfl, I.hok.fresh (Nat.le_refl _), rfl, fun l hl => by rw [seqB_inj I hl hqx]; exact hx, fun l hl => by rw [seqB_inj I hl hqy]; exact hy⟩, ⟨z'', ?_, ⟨x1, x2, ?_⟩, ?_, ?_⟩, fun c hcm => ?_⟩
    · exact (sb.2 _ S.TIz).trans (hk _ _ S.TIz S.TITO S.TIi1 S.TIi2 hTI)
    · exact (sb.2 _ S.TOz).trans TO'
    · exact d1.1.at_ fun o q => (sb.2 _ S.zi1.symm).trans q
    · exact d2.1.at_ fun o q => (sb.2 _ S.zi2.symm).trans q
    · have hlt : c < s.heap.objs.size := by
        have e' : c = z ∨ c = TI ∨ c = TO ∨ c = i1 ∨ c = i2 := by simpa using hcm
        rcases e' with q | q | q | q | q
        · rw [q]; exact hzl
        · rw [q]; exact Heap.lt_size hTI
        · rw [q]; exact Heap.lt_size hTO
        · rw [q]; exact h1.lt
        · rw [q]; exact h2.lt
      rw [upd_ne (Nat.ne_of_lt hlt)]
      exact (hf c hcm).1
  done := by
    intro X hP hw hK hc i pins s σ H E I hf st hg
    subst hP hw hK
    obtain ⟨hz, hTI, ⟨x0, y0, hTO⟩, h1, h2⟩ := st
    obtain ⟨xs, ys, hqx, hqy, hx, hy⟩ := hg
    obtain ⟨its, rv, pl, _⟩ := inv_seqB I hqx
    obtain ⟨its2, rv2, pl2, _⟩ := inv_seqB I hqy
    have l1 : i = its.toArray.size := by rw [← hx, rv.length]; simp
    have l2 : i = its2.toArray.size := by rw [← hy, rv2.length]; simp
    have hh : X.A.in1.handled = none := I.ok.hd hc
    exact wpAny_pyNext_zipD2_end S (drawB hh p i1 a h1a its.toArray) (drawB hh q i2 b h2b its2.toArray) hz hTI hTO ⟨h1, pl⟩ ⟨h2, pl2⟩ (Nat.le_of_eq l1) (Nat.le_of_eq l2) (.inl l1) fun h' tk hk => ⟨rfl, I.turnedL (t' := tk) (ch := [z, TI, TO, i1, i2]) (fun c o hb q =>
      hk c o (fun q' => hb (by simp [q'])) (fun q' => hb (by simp [q'])) (fun q' => hb (by simp [q'])) (fun q' => hb (by simp [q'])) q) hf⟩
  self := fun A i s Q E st h => wpAny_pyIter_zip st.1 h
def iZipB (K : PySem.W.Frag) (ta : TA) : TI := fun σ H R => ta σ H fun vs H1 => ∃ a b p q xs ys, vs = [.ref a, .ref b] ∧ SqB K p H1 a xs ∧ SqB K q H1 b ys ∧ R (ItzB K p q a b) H1
theorem pi_zipS {X : Cx} (K : PySem.W.Frag) {e e2 : Expr} {ta : TA} {p pos tpos : Pos} {elts : List Expr} {kk : Nat} (hm : X.mg "zip" = none) (ha : PA X [e, e2] ta) (hg : Gl X "zip" := by rfl)
    (hs : starEach [e, e2] X.env = (false, eval e X.env) :: starEach [e2] X.env := by rfl) (hpl : (backTo pos (starEach [e2] X.env)).any (·.1) = false := by rfl) (hK : X.K = K := by rfl) :
    PI X (.Tuple elts kk tpos) (.Call (.Name "zip" p) [e, e2] [] pos) (iZipB K ta) := by
  subst hK
  refine ⟨fun pins s σ H R I h => ?_⟩
  refine Call_ (ld_blt I hg hm PyProof.Rows.boot_zip (PyProof.Rows.callWith_type1 (thn (ha.run pos pins s σ H _ I h) fun us s1 ⟨vs, H1, I1, r1, q1⟩ => ?_) hs hpl))
  obtain ⟨a, b, pb, qb, xs, ys, ex, hqx, hqy, q⟩ := q1
  subst ex
  cases r1 with
  | cons r rr =>
    cases rr with
    | cons r' rr =>
      cases rr
      cases r
      cases r'
      have fresh5 : ∀ c, c ∈ [s1.heap.objs.size + 4, s1.heap.objs.size + 2, s1.heap.objs.size + 3, s1.heap.objs.size, s1.heap.objs.size + 1] → FpOk X pins H1 c := fun c hcm => by
        have e' : c = s1.heap.objs.size + 4 ∨ c = s1.heap.objs.size + 2 ∨ c = s1.heap.objs.size + 3 ∨ c = s1.heap.objs.size ∨ c = s1.heap.objs.size + 1 := by simpa using hcm
        have hle : s1.heap.objs.size ≤ c := by
          rcases e' with z | z | z | z | z
          · rw [z]; exact Nat.le_add_right _ _
          · rw [z]; exact Nat.le_add_right _ _
          · rw [z]; exact Nat.le_add_right _ _
          · rw [z]; exact Nat.le_refl _
          · rw [z]; exact Nat.le_add_right _ _
        exact I1.fpOk hle (I1.hok.fresh hle)
      obtain ⟨its, rv, p1, l1⟩ := inv_seqB I1 hqx
      obtain ⟨its2, rv2, p2, l2⟩ := inv_seqB I1 hqy
      obtain ⟨o1, B1, b1⟩ := begB pb a its.toArray
      obtain ⟨o2, B2, b2⟩ := begB qb b its2.toArray
      refine zip_begins2 B1 B2 p1 p2 fun h' hz hTI hTO h1 h2 hsz hk => wpAny_pyIter_zip hz ?_
      have I2 : Inv X pins σ H1 { s1 with heap := h' } := I1.kept (t' := s1.toks) hk
      have S := zip_sep2 (N := s1.heap.objs.size) (fp1 := [a]) (fp2 := [b]) (fun c hc => by rw [List.mem_singleton.mp hc]; exact l1) (fun c hc => by rw [List.mem_singleton.mp hc]; exact l2)
      exact ⟨s1.heap.objs.size + 4, [s1.heap.objs.size + 4, s1.heap.objs.size + 2, s1.heap.objs.size + 3, s1.heap.objs.size, s1.heap.objs.size + 1], _, _, H1, rfl, I2, turn_zipB S (Nat.ne_of_lt l1) (Nat.ne_of_lt (Nat.lt_succ_of_lt l2)), ⟨hz, hTI, ⟨_, _, hTO⟩, b1 _ _ h1, b2 _ _ h2⟩, fresh5, q⟩
end Ly

set_option Elab.async false
set_option linter.all false
set_option maxRecDepth 100000
set_option maxHeartbeats 4000000
namespace Ly
open PySem PySem.Spec L2 Evl PyProof.Rows
/-! zip over n lists -/
def znIts (N n : Nat) : List Value := (List.range n).map fun j => Value.ref (N + j)
def znCol (rows : Nat → List Value) (n i : Nat) : List Value := (List.range n).map fun j => (rows j).getD i .none
structure ZK (h : Heap) (N n : Nat) (ls : Nat → Addr) (rows : Nat → List Value) (i k : Nat) : Prop where
  TI : h.get? (N + n) = some { cls := .type "tuple", data := .seq (znIts N n).toArray }
  it : ∀ j, j < n → h.IsListIter (N + j) (ls j) (if j < k then i + 1 else i)
  src : ∀ j, j < n → h.IsList (ls j) (rows j).toArray
section
variable {h h' : Heap} {N n i k : Nat} {ls : Nat → Addr} {rows : Nat → List Value}
theorem ZK.keep (z : ZK h N n ls rows i k) (hl : ∀ j, j < n → ls j < N) (hk : ∀ c o, c ≤ N + n → h.get? c = some o → h'.get? c = some o) : ZK h' N n ls rows i k :=
  ⟨hk _ _ (Nat.le_refl _) z.TI, fun j hj => (z.it j hj).at fun o e => hk _ o (Nat.add_le_add_left (Nat.le_of_lt hj) N) e, fun j hj => (z.src j hj).at fun o e => hk _ o (Nat.le_trans (Nat.le_of_lt (hl j hj)) (Nat.le_add_right N n)) e⟩
theorem ZK.step (z : ZK h N n ls rows i k) (hl : ∀ j, j < n → ls j < N) (hk : k < n) (hi : h'.IsListIter (N + k) (ls k) (i + 1)) (e : Heap.SameBut (N + k) h h') : ZK h' N n ls rows i (k + 1) := by
  refine ⟨e.extBut _ _ (fun q => Nat.ne_of_gt hk (Nat.add_left_cancel q)) z.TI, fun j hj => ?_, fun j hj => ?_⟩
  · by_cases q : j = k
    · subst q
      rw [if_pos (Nat.lt_succ_self _)]
      exact hi
    · have h1 := z.it j hj
      have h2 : (if j < k + 1 then i + 1 else i) = if j < k then i + 1 else i := by
        by_cases p : j < k
        · rw [if_pos p, if_pos (by omega)]
        · rw [if_neg p, if_neg (by omega)]
      rw [h2]
      exact h1.extBut e.extBut (fun p => q (Nat.add_left_cancel p))
  · exact (z.src j hj).extBut e.extBut (Nat.ne_of_lt (Nat.lt_of_lt_of_le (hl j hj) (Nat.le_add_right N k)))
theorem ZK.full (z : ZK h N n ls rows i n) : ZK h N n ls rows (i + 1) 0 := ⟨z.TI, fun j hj => by
  have := z.it j hj
  rw [if_pos hj] at this
  rw [if_neg (Nat.not_lt_zero _)]
  exact this, z.src⟩
theorem znIts_drop (hk : k < n) : (znIts N n).drop k = .ref (N + k) :: (znIts N n).drop (k + 1) := by
  have hl : k < (znIts N n).length := by simp [znIts, hk]
  rw [List.drop_eq_getElem_cons hl]
  simp [znIts]
theorem znCol_take (hk : k < n) : (znCol rows n i).take (k + 1) = (znCol rows n i).take k ++ [(rows k).getD i .none] := by
  rw [List.take_add_one]
  simp [znCol, hk]
end
section
variable {prog : Program} {w : World} {A : Around} {E : Value → Shared → Prop} {s : Shared} {N n i m : Nat} {ls : Nat → Addr} {rows : Nat → List Value} {T : Addr} {f : Bool} {oT : Obj}
theorem zn_next_held {Q : Value → Shared → Prop} (hl : ∀ j, j < n → ls j < N) (hm : ∀ j, j < n → (rows j).length = m) (hi : i < m) (hn0 : 0 < n) (hn : n ≤ sizeLine) (hz : IsZipHeld s.heap (N + n + 2) (N + n) (N + n + 1) T f) (hT : s.heap.get? T = some oT) (z : ZK s.heap N n ls rows i 0)
    (hQ : ∀ h', IsZipHeld h' (N + n + 2) (N + n) (N + n + 1) T true → ZK h' N n ls rows (i + 1) 0 → h'.get? s.heap.objs.size = some { cls := .type "tuple", data := .seq (znCol rows n i).toArray } → h'.objs.size = s.heap.objs.size + 1 →
      (∀ c o, (c < N ∨ N + n + 3 ≤ c) → s.heap.get? c = some o → h'.get? c = some o) → Q (.ref s.heap.objs.size) { s with heap := h' }) :
    wpAny (model prog w) A (Builtin.«zip.__next__» ⟨[.ref (N + n + 2)], []⟩) (fun fin s' => ∃ v, fin = .done (.ret v) ∧ Q v s') E s := by
  show wpAny _ _ (field (.ref (N + n + 2)) 2 >>= _) _ _ _
  refine wpAny_bind (wpAny_field hz rfl (x := .bool false) rfl ?_)
  show wpAny _ _ (field (.ref (N + n + 2)) 3 >>= _) _ _ _
  refine wpAny_bind (wpAny_field hz rfl (x := .ref (N + n)) rfl ?_)
  refine wpAny_bind (wpAny_seqItems z.TI rfl ?_)
  have he : (znIts N n).toArray.isEmpty = false := by
    cases n with
    | zero => omega
    | succ n => simp [znIts, List.range_succ]
  simp only [he, Bool.false_eq_true, if_false]
  show wpAny _ _ (Builtin.SmallTypes.ownedTupleIsFree (.ref (N + n + 2)) >>= _) _ _ _
  refine wpAny_bind (wpAny_tupleHeld_zip hz hT fun h₁ hz₁ hs₁ => ?_)
  simp only [Bool.false_eq_true, if_false]
  refine wpAny_bind ?_
  rw [← Array.forIn_toList]
  have Z1 : ZK h₁ N n ls rows i 0 := z.keep hl fun c o hc e => hs₁.extBut c o (Nat.ne_of_lt (Nat.lt_of_le_of_lt hc (by show N + n < N + n + 2; omega))) e
  refine wpAny_forIn_list _ (fun rest b s' => ∃ k h, k ≤ n ∧ rest = (znIts N n).drop k ∧ b = ⟨none, ((znCol rows n i).take k).toArray⟩ ∧ s' = { s with heap := h } ∧ ZK h N n ls rows i k ∧ h.objs.size = s.heap.objs.size ∧
    IsZipHeld h (N + n + 2) (N + n) (N + n + 1) T true ∧ ∀ c o, (c < N ∨ N + n + 3 ≤ c) → s.heap.get? c = some o → h.get? c = some o) _ ?_ ?_ _ _ ⟨0, h₁, Nat.zero_le _, rfl, rfl, rfl, Z1, hs₁.1, hz₁, fun c o hc e => hs₁.extBut c o ?_ e⟩
  · rintro x rest b s' ⟨k, h, hk, hr, rfl, rfl, Z, hs, hzh, kp⟩
    have hkn : k < n := by
      rcases Nat.lt_or_ge k n with q | q
      · exact q
      · rw [List.drop_of_length_le (by simp [znIts]; exact q)] at hr
        cases hr
    rw [znIts_drop hkn] at hr
    injection hr with hx hr
    subst hx
    have hget : (rows k).toArray[i]? = some ((rows k).getD i .none) := by
      have : i < (rows k).length := by rw [hm k hkn]; exact hi
      simp [this]
    have hit := Z.it k hkn
    rw [if_neg (Nat.lt_irrefl k)] at hit
    refine wpAny_bind (wpAny_holding ?_)
    show wpAny _ _ (Builtin.SmallTypes.nextOf (.ref (N + k)) >>= _) _ _ _
    refine wpAny_bind (wpAny_nextOf_list_item (s := { s with heap := h }) hit (Z.src k hkn) hget fun h2 hi2 hs2 => wpAny_pure (wpAny_pure ?_))
    refine ⟨k + 1, h2, hkn, hr, ?_, rfl, Z.step hl hkn hi2 hs2, hs2.1.trans hs, hs2.extBut _ _ ?_ hzh, fun c o hc e => hs2.extBut c o ?_ (kp c o hc e)⟩
    · rw [znCol_take hkn]
      simp
    · exact fun q => by
        have : (N + n + 2 : Nat) = N + k := q
        omega
    · intro q
      have q : c = N + k := q
      omega
  · rintro b s' ⟨k, h, hk, hr, rfl, rfl, Z, hs, hzh, kp⟩
    have hkn : k = n := by
      rcases Nat.lt_or_ge k n with q | q
      · rw [znIts_drop q] at hr
        cases hr
      · omega
    subst hkn
    have hfull : (znCol rows k i).take k = znCol rows k i := List.take_of_length_le (by simp [znCol])
    show wpAny _ _ (newTuple ((znCol rows k i).take k).toArray.toList >>= _) _ _ _
    rw [hfull]
    refine wpAny_bind (wpAny_newTuple ?_ (by simp [znCol]; exact hn))
    refine wpAny_pure ⟨_, rfl, ?_⟩
    show Q (.ref h.objs.size) _
    have hp := Heap.get?_push_size h (o := { cls := .type "tuple", data := .seq (znCol rows k i).toArray }) rfl
    have hz4 : (h.push { cls := .type "tuple", data := .seq (znCol rows k i).toArray }).objs.size = h.objs.size + 1 := Heap.size_push ..
    rw [hs] at hp hz4 ⊢
    exact hQ _ (Heap.get?_push_of_some _ hzh) (Z.full.keep hl fun c o _ e => Heap.get?_push_of_some _ e) hp hz4 fun c o hc e => Heap.get?_push_of_some _ (kp c o hc e)
  · intro q
    have q : c = N + n + 2 := q
    omega
theorem zn_end_held {Q : PySem.Fin → Shared → Prop} (hh : A.handled = none) (hm : (rows 0).length = i) (hn0 : 0 < n) (hz : IsZipHeld s.heap (N + n + 2) (N + n) (N + n + 1) T f) (hT : s.heap.get? T = some oT) (hl : ∀ j, j < n → ls j < N) (z : ZK s.heap N n ls rows i 0)
    (hE : ∀ h' e, (∀ c o, (c < N ∨ N + n + 3 ≤ c) → s.heap.get? c = some o → h'.get? c = some o) → (∃ o, h'.get? e = some o ∧ o.cls = .type "StopIteration") → E (.ref e) { s with heap := h' }) :
    wpAny (model prog w) A (Builtin.«zip.__next__» ⟨[.ref (N + n + 2)], []⟩) Q E s := by
  show wpAny _ _ (field (.ref (N + n + 2)) 2 >>= _) _ _ _
  refine wpAny_bind (wpAny_field hz rfl (x := .bool false) rfl ?_)
  show wpAny _ _ (field (.ref (N + n + 2)) 3 >>= _) _ _ _
  refine wpAny_bind (wpAny_field hz rfl (x := .ref (N + n)) rfl ?_)
  refine wpAny_bind (wpAny_seqItems z.TI rfl ?_)
  obtain ⟨n, rfl⟩ : ∃ k, n = k + 1 := ⟨n - 1, by omega⟩
  have he : (znIts N (n + 1)).toArray.isEmpty = false := by simp [znIts, List.range_succ]
  simp only [he, Bool.false_eq_true, if_false]
  show wpAny _ _ (Builtin.SmallTypes.ownedTupleIsFree (.ref (N + (n + 1) + 2)) >>= _) _ _ _
  refine wpAny_bind (wpAny_tupleHeld_zip hz hT fun h₁ hz₁ hs₁ => ?_)
  simp only [Bool.false_eq_true, if_false]
  refine wpAny_bind ?_
  rw [← Array.forIn_toList]
  have Z1 : ZK h₁ N (n + 1) ls rows i 0 := z.keep hl fun c o hc e => hs₁.extBut c o (Nat.ne_of_lt (Nat.lt_of_le_of_lt hc (by show N + (n + 1) < N + (n + 1) + 2; omega))) e
  have hd : (znIts N (n + 1)).toArray.toList = .ref N :: (znIts N (n + 1)).drop 1 := by
    have := znIts_drop (N := N) (n := n + 1) (k := 0) (Nat.succ_pos n)
    simpa using this
  rw [hd]
  simp only [List.forIn_cons]
  refine wpAny_bind (wpAny_bind (wpAny_holding ?_))
  show wpAny _ _ (Builtin.SmallTypes.nextOf (.ref N) >>= _) _ _ _
  have hit := Z1.it 0 (Nat.succ_pos n)
  rw [if_neg (Nat.lt_irrefl 0)] at hit
  refine wpAny_bind (wpAny_nextOf_list_end (s := { s with heap := h₁ }) hh hit (Z1.src 0 (Nat.succ_pos n)) (by simp; omega) fun h₂ e hs₂ he => ?_)
  refine hE h₂ e (fun c o hc x => hs₂ _ _ ?_ (hs₁.extBut _ _ ?_ x)) he
  · intro q
    have q : c = N := q
    omega
  · intro q
    have q : c = N + (n + 1) + 2 := q
    omega
theorem zn_next_free {Q : Value → Shared → Prop} (hl : ∀ j, j < n → ls j < N) (hm : ∀ j, j < n → (rows j).length = m) (hi : i < m) (hn0 : 0 < n) (hn : n ≤ sizeLine) (hz : IsZip s.heap (N + n + 2) (N + n) (N + n + 1) .none)
    (hTO : ∃ arr : Array Value, arr.size = n ∧ s.heap.get? (N + n + 1) = some { cls := .type "tuple", data := .seq arr }) (z : ZK s.heap N n ls rows i 0)
    (hQ : ∀ h', IsZipHeld h' (N + n + 2) (N + n) (N + n + 1) s.heap.objs.size false → ZK h' N n ls rows (i + 1) 0 → h'.get? s.heap.objs.size = some { cls := .type "tuple", data := .seq (znCol rows n i).toArray } → h'.objs.size = s.heap.objs.size + 1 →
      (∀ c o, (c < N ∨ N + n + 3 ≤ c) → s.heap.get? c = some o → h'.get? c = some o) → Q (.ref s.heap.objs.size) { s with heap := h' }) :
    wpAny (model prog w) A (Builtin.«zip.__next__» ⟨[.ref (N + n + 2)], []⟩) (fun fin s' => ∃ v, fin = .done (.ret v) ∧ Q v s') E s := by
  obtain ⟨arr, harr, hTO⟩ := hTO
  show wpAny _ _ (field (.ref (N + n + 2)) 2 >>= _) _ _ _
  refine wpAny_bind (wpAny_field hz rfl (x := .bool false) rfl ?_)
  show wpAny _ _ (field (.ref (N + n + 2)) 3 >>= _) _ _ _
  refine wpAny_bind (wpAny_field hz rfl (x := .ref (N + n)) rfl ?_)
  refine wpAny_bind (wpAny_seqItems z.TI rfl ?_)
  have he : (znIts N n).toArray.isEmpty = false := by
    cases n with
    | zero => omega
    | succ n => simp [znIts, List.range_succ]
  simp only [he, Bool.false_eq_true, if_false]
  show wpAny _ _ (Builtin.SmallTypes.ownedTupleIsFree (.ref (N + n + 2)) >>= _) _ _ _
  refine wpAny_bind ?_
  unfold Builtin.SmallTypes.ownedTupleIsFree
  refine wpAny_bind (wpAny_field hz rfl (x := .none) rfl (wpAny_pure ?_))
  simp only [if_true]
  refine wpAny_bind (wpAny_rule ?_)
  refine wpAny_bind (wpAny_field hz rfl (x := .ref (N + n + 1)) rfl ?_)
  refine wpAny_bind (wpAny_setField_rec hz (by simp) fun h₁ hz₁ hs₁ => ?_)
  replace hz₁ : IsZip h₁ (N + n + 2) (N + n) (N + n + 1) .ellipsis := hz₁
  refine wpAny_bind ?_
  have Z1 : ZK h₁ N n ls rows i 0 := z.keep hl fun c o hc e => hs₁.extBut c o (Nat.ne_of_lt (Nat.lt_of_le_of_lt hc (by show N + n < N + n + 2; omega))) e
  have hTO1 : h₁.get? (N + n + 1) = some { cls := .type "tuple", data := .seq arr } := hs₁.extBut _ _ (Nat.ne_of_lt (Nat.lt_succ_self _)) hTO
  refine wpAny_forIn_list _ (fun rest b s' => ∃ k h, ∃ ak : Array Value, k ≤ n ∧ rest = (znIts N n).zipIdx.drop k ∧ b = ⟨none, ()⟩ ∧ s' = { s with heap := h } ∧ ZK h N n ls rows i k ∧ h.objs.size = s.heap.objs.size ∧
    IsZip h (N + n + 2) (N + n) (N + n + 1) .ellipsis ∧ h.get? (N + n + 1) = some { cls := .type "tuple", data := .seq ak } ∧ ak.size = n ∧ ak.toList.take k = (znCol rows n i).take k ∧ ∀ c o, (c < N ∨ N + n + 3 ≤ c) → s.heap.get? c = some o → h.get? c = some o) _ ?_ ?_ _ _ ⟨0, h₁, arr, Nat.zero_le _, rfl, rfl, rfl, Z1, hs₁.1, hz₁, hTO1, harr, rfl, fun c o hc e => hs₁.extBut c o ?_ e⟩
  · rintro x rest b s' ⟨k, h, ak, hk, hr, rfl, rfl, Z, hs, hzh, hto, hak, htk, kp⟩
    have hkn : k < n := by
      rcases Nat.lt_or_ge k n with q | q
      · exact q
      · rw [List.drop_of_length_le (by simp [znIts]; exact q)] at hr
        cases hr
    have hd : (znIts N n).zipIdx.drop k = (.ref (N + k), k) :: (znIts N n).zipIdx.drop (k + 1) := by
      have hl : k < (znIts N n).zipIdx.length := by simp [znIts, hkn]
      rw [List.drop_eq_getElem_cons hl]
      simp [znIts]
    rw [hd] at hr
    injection hr with hx hr
    subst hx
    have hget : (rows k).toArray[i]? = some ((rows k).getD i .none) := by
      have : i < (rows k).length := by rw [hm k hkn]; exact hi
      simp [this]
    have hit := Z.it k hkn
    rw [if_neg (Nat.lt_irrefl k)] at hit
    refine wpAny_bind (wpAny_onRaise ?_)
    show wpAny _ _ (Builtin.SmallTypes.nextOf (.ref (N + k)) >>= _) _ _ _
    refine wpAny_bind (wpAny_nextOf_list_item (s := { s with heap := h }) hit (Z.src k hkn) hget fun h2 hi2 hs2 => wpAny_pure ?_)
    have hto2 := hs2.extBut _ _ (fun q => by
      have q : N + n + 1 = N + k := q
      omega) hto
    refine wpAny_bind (wpAny_seqItems hto2 rfl ?_)
    refine wpAny_bind (wpAny_updateSeq hto2 rfl ?_ (by rw [hak]; exact hn) (by
      show (ak.setIfInBounds k _).size ≤ sizeLine + 1
      rw [Array.size_setIfInBounds, hak]; omega))
    refine wpAny_bind (wpAny_letGo (wpAny_pure ?_))
    have hto3 : (h2.update (N + n + 1) (Obj.mapSeq (·.setIfInBounds k ((rows k).getD i .none)))).get? (N + n + 1) = some { cls := .type "tuple", data := .seq (ak.setIfInBounds k ((rows k).getD i .none)) } := by
      rw [Heap.get?_update_self _ hto2 rfl]
      simp [Obj.mapSeq]
    have hs3 : Heap.SameBut (N + n + 1) h2 (h2.update (N + n + 1) (Obj.mapSeq (·.setIfInBounds k ((rows k).getD i .none)))) := Heap.SameBut.update ..
    generalize h2.update (N + n + 1) (Obj.mapSeq (·.setIfInBounds k ((rows k).getD i .none))) = h3 at hto3 hs3 ⊢
    have n3 : ∀ j, (N + j : Nat) = N + n + 1 → j < n → False := fun j q => by omega
    have Z2 := Z.step hl hkn hi2 hs2
    have Z3 : ZK h3 N n ls rows i (k + 1) := Z2.keep hl fun c o hc e => hs3.extBut c o (fun q => by
      have q : c = N + n + 1 := q
      have hc : c ≤ N + n := hc
      omega) e
    refine ⟨k + 1, h3, ak.setIfInBounds k ((rows k).getD i .none), hkn, hr, rfl, rfl, Z3, hs3.1.trans (hs2.1.trans hs), hs3.extBut _ _ ?_ (hs2.extBut _ _ ?_ hzh), hto3, by rw [Array.size_setIfInBounds, hak], ?_, fun c o hc e => hs3.extBut c o ?_ (hs2.extBut c o ?_ (kp c o hc e))⟩
    · exact fun q => by
        have : (N + n + 2 : Nat) = N + n + 1 := q
        omega
    · exact fun q => by
        have : (N + n + 2 : Nat) = N + k := q
        omega
    · rw [znCol_take hkn, ← htk]
      have hkl : k < ak.toList.length := by simpa [hak] using hkn
      generalize (rows k).getD i .none = v
      have e1 : (ak.toList.set k v).take k = ak.toList.take k := by
        rw [List.take_set]
        exact List.set_eq_of_length_le (by simp; omega)
      have e2 : (ak.toList.set k v)[k]? = some v := by
        rw [List.getElem?_set]
        simp [hkn, hak]
      rw [Array.toList_setIfInBounds, List.take_add_one, e1, e2]
      rfl
    · intro q
      have q : c = N + n + 1 := q
      omega
    · intro q
      have q : c = N + k := q
      omega
  · rintro b s' ⟨k, h, ak, hk, hr, rfl, rfl, Z, hs, hzh, hto, hak, htk, kp⟩
    have hkn : k = n := by
      rcases Nat.lt_or_ge k n with q | q
      · have hl : k < (znIts N n).zipIdx.length := by simp [znIts, q]
        rw [List.drop_eq_getElem_cons hl] at hr
        cases hr
      · omega
    subst hkn
    have hfull : (znCol rows k i).take k = znCol rows k i := List.take_of_length_le (by simp [znCol])
    have haf : ak.toList.take k = ak.toList := List.take_of_length_le (by simp [hak])
    have hae : ak.toList = znCol rows k i := by rw [← haf, htk, hfull]
    have hae2 : ak = (znCol rows k i).toArray := by rw [← hae]
    subst hae2
    show wpAny _ _ (seqItems? (.ref (N + k + 1)) >>= _) _ _ _
    refine wpAny_bind (wpAny_seqItems hto rfl ?_)
    show wpAny _ _ (newTuple (znCol rows k i).toArray.toList >>= _) _ _ _
    refine wpAny_bind (wpAny_newTuple ?_ (by simp [znCol]; exact hn))
    show wpAny _ _ (Builtin.SmallTypes.ownedTupleHandOut (.ref (N + k + 2)) (.ref h.objs.size) >>= _) _ _ _
    refine wpAny_bind ?_
    unfold Builtin.SmallTypes.ownedTupleHandOut
    have hz₆ : IsZip (h.push { cls := .type "tuple", data := .seq (znCol rows k i).toArray.toList.toArray }) (N + k + 2) (N + k) (N + k + 1) .ellipsis := Heap.get?_push_of_some _ hzh
    refine wpAny_bind (wpAny_setField_rec hz₆ (by simp) fun h₇ hz₇ hs₇ => ?_)
    replace hz₇ : IsZip h₇ (N + k + 2) (N + k) (N + k + 1) (rawInt h.objs.size) := hz₇
    refine wpAny_setField_rec hz₇ (by simp) fun h₈ hz₈ hs₈ => ?_
    replace hz₈ : IsZipHeld h₈ (N + k + 2) (N + k) (N + k + 1) h.objs.size false := hz₈
    have up : ∀ c o, c ≠ N + k + 2 → h.get? c = some o → h₈.get? c = some o := fun c o c1 e => hs₈.extBut _ _ c1 (hs₇.extBut _ _ c1 (Heap.get?_push_of_some _ e))
    have hzlt : N + k + 2 < h.objs.size := Heap.lt_size hzh
    have hT₈ : h₈.get? h.objs.size = some { cls := .type "tuple", data := .seq (znCol rows k i).toArray } := hs₈.extBut _ _ (Nat.ne_of_gt hzlt) (hs₇.extBut _ _ (Nat.ne_of_gt hzlt) (Heap.get?_push_size _ rfl))
    have hz8 : h₈.objs.size = h.objs.size + 1 := by rw [hs₈.1, hs₇.1, Heap.size_push]
    refine wpAny_pure ⟨_, rfl, ?_⟩
    show Q (.ref h.objs.size) _
    rw [hs] at hz₈ hT₈ hz8 ⊢
    refine hQ h₈ hz₈ (Z.full.keep hl fun c o hc e => up c o (Nat.ne_of_lt (Nat.lt_of_le_of_lt hc (by show N + k < N + k + 2; omega))) e) hT₈ hz8 fun c o hc e => up c o ?_ (kp c o hc e)
    intro q
    have q : c = N + k + 2 := q
    omega
  · intro q
    have q : c = N + n + 2 := q
    omega
/-! zip(*lists) begins -/
theorem zn_iterAll {Q : List Value → Shared → Prop} (hl : ∀ j, j < n → s.heap.IsList (ls j) (rows j).toArray)
    (hQ : ∀ h', h'.objs.size = s.heap.objs.size + n → (∀ j, j < n → h'.IsListIter (s.heap.objs.size + j) (ls j) 0) → (∀ c o, s.heap.get? c = some o → h'.get? c = some o) → Q (znIts s.heap.objs.size n) { s with heap := h' }) :
    wpAny (model prog w) A (Builtin.SmallTypes.iterAll ((List.range n).map fun j => Value.ref (ls j))) Q E s := by
  unfold Builtin.SmallTypes.iterAll
  refine wpAny_bind ?_
  refine wpAny_forIn_list _ (fun rest b s' => ∃ k h, k ≤ n ∧ rest = ((List.range n).map fun j => Value.ref (ls j)).drop k ∧ b = (znIts s.heap.objs.size k).toArray ∧ s' = { s with heap := h } ∧ h.objs.size = s.heap.objs.size + k ∧ (∀ j, j < k → h.IsListIter (s.heap.objs.size + j) (ls j) 0) ∧
    (∀ c o, s.heap.get? c = some o → h.get? c = some o)) _ ?_ ?_ _ _ ⟨0, s.heap, Nat.zero_le _, rfl, rfl, rfl, rfl, fun _ h => absurd h (Nat.not_lt_zero _), fun _ _ e => e⟩
  · rintro x rest b s' ⟨k, h, hk, hr, rfl, rfl, hs, hit, kp⟩
    have hkn : k < n := by
      rcases Nat.lt_or_ge k n with q | q
      · exact q
      · rw [List.drop_of_length_le (by simp; exact q)] at hr
        cases hr
    have hd : ((List.range n).map fun j => Value.ref (ls j)).drop k = .ref (ls k) :: ((List.range n).map fun j => Value.ref (ls j)).drop (k + 1) := by
      have hl : k < ((List.range n).map fun j => Value.ref (ls j)).length := by simp [hkn]
      rw [List.drop_eq_getElem_cons hl]
      simp
    rw [hd] at hr
    injection hr with hx hr
    subst hx
    refine wpAny_bind (wpAny_holding ?_)
    refine wpAny_pyIter_list (s := { s with heap := h }) ((hl k hkn).at fun o e => kp _ o e) ?_
    refine wpAny_pure ?_
    have hp := Heap.get?_push_size h (o := { cls := .type "list_iterator", data := .fields #[.ref (ls k), .int 0 0] }) rfl
    refine ⟨k + 1, h.push { cls := .type "list_iterator", data := .fields #[.ref (ls k), .int 0 0] }, hkn, hr, ?_, rfl, ?_, fun j hj => ?_, fun c o e => Heap.get?_push_of_some _ (kp c o e)⟩
    · show (znIts s.heap.objs.size k).toArray.push (.ref h.objs.size) = _
      rw [hs]
      simp [znIts, List.range_succ]
    · rw [Heap.size_push, hs]; rfl
    · by_cases q : j = k
      · subst q
        rw [hs] at hp
        exact ⟨_, hp, rfl, rfl⟩
      · exact (hit j (by omega)).at fun o e => Heap.get?_push_of_some _ e
  · rintro b s' ⟨k, h, hk, hr, rfl, rfl, hs, hit, kp⟩
    have hkn : k = n := by
      rcases Nat.lt_or_ge k n with q | q
      · have hl : k < ((List.range n).map fun j => Value.ref (ls j)).length := by simp [q]
        rw [List.drop_eq_getElem_cons hl] at hr
        cases hr
      · omega
    subst hkn
    exact wpAny_pure (hQ h hs hit kp)
theorem zn_oi (o : Value) (as : List Value) : argsOk "object.__init__" ⟨o :: as, []⟩ := by
  unfold argsOk; rw [signature?_of (id := "object.__init__") (n := ['_', '_', 't', 'i', 'n', 'i', '_', '_']) (o := ['t', 'c', 'e', 'j', 'b', 'o']) (by kernel_rfl) F.owner_object]; kernel_rfl
theorem zn_tc (as : List Value) : checkTypeCall "zip" ⟨as, []⟩ = pure () := by kernel_rfl
theorem zn_nc (a : Value) (as : List Value) : checkBuiltinCall "zip.__new__" ⟨.type "zip" :: a :: as, []⟩ = pure () := by kernel_rfl
theorem zn_newClass (as : List Value) : Builtin.SmallTypes.newClass "zip" ⟨.type "zip" :: as, []⟩ = pure (.type "zip", as) := by
  unfold Builtin.SmallTypes.newClass
  simp only [isType, sub_zip, pure_bind, Bool.not_true, Bool.false_eq_true, if_false]
def znArgs (ls : Nat → Addr) (n : Nat) : List Value := (List.range n).map fun j => Value.ref (ls j)
theorem zn_new (hn : n ≤ sizeLine) : Meets (Builtin.«zip.__new__» ⟨.type "zip" :: znArgs ls n, []⟩) (fun _ R s => (∀ j, j < n → s.heap.IsList (ls j) (rows j).toArray) ∧ ∀ h', IsZip h' (s.heap.objs.size + n + 2) (s.heap.objs.size + n) (s.heap.objs.size + n + 1) .none →
    h'.get? (s.heap.objs.size + n + 1) = some { cls := .type "tuple", data := .seq ((znIts s.heap.objs.size n).map fun _ => Value.none).toArray } → h'.objs.size = s.heap.objs.size + n + 3 →
    ZK h' s.heap.objs.size n ls rows 0 0 → (∀ c o, s.heap.get? c = some o → h'.get? c = some o) → R (.ok (.ret (.ref (s.heap.objs.size + n + 2)))) { s with heap := h' }) :=
  .of_wp fun prog w A R s h => by
    obtain ⟨hl, h⟩ := h
    unfold Builtin.«zip.__new__»
    refine wpAny_bind (wpAny_of_eq (zn_newClass _) ?_)
    try dsimp only
    show wpAny _ _ (Builtin.SmallTypes.iterAll (znArgs ls n) >>= _) _ _ _
    refine wpAny_bind (zn_iterAll (rows := rows) hl fun h1 hs1 hit1 kp1 => ?_)
    have hN : (znIts s.heap.objs.size n).length = n := by simp [znIts]
    show wpAny _ _ (newTuple (znIts s.heap.objs.size n) >>= _) _ _ _
    refine wpAny_bind (wpAny_newTuple ?_ (by rw [hN]; exact hn))
    show wpAny _ _ (newTuple ((znIts s.heap.objs.size n).map fun _ => Value.none) >>= _) _ _ _
    refine wpAny_bind (wpAny_newTuple ?_ (by rw [List.length_map, hN]; exact hn))
    show wpAny _ _ (newObj (.type "zip") (.fields #[.none, .bool false, .bool false, .ref h1.objs.size, .ref (h1.push { cls := .type "tuple", data := .seq (znIts s.heap.objs.size n).toArray }).objs.size]) >>= _) _ _ _
    refine wpAny_bind (wpAny_newObj_type ?_)
    refine wpAny_pure ⟨_, rfl, ?_⟩
    have z1 : (h1.push { cls := .type "tuple", data := .seq (znIts s.heap.objs.size n).toArray }).objs.size = s.heap.objs.size + n + 1 := by rw [Heap.size_push, hs1]
    have z2 : ((h1.push { cls := .type "tuple", data := .seq (znIts s.heap.objs.size n).toArray }).push { cls := .type "tuple", data := .seq ((znIts s.heap.objs.size n).map fun _ => Value.none).toArray }).objs.size = s.heap.objs.size + n + 2 := by rw [Heap.size_push, z1]
    have g1 : (h1.push { cls := .type "tuple", data := .seq (znIts s.heap.objs.size n).toArray }).get? h1.objs.size = some { cls := .type "tuple", data := .seq (znIts s.heap.objs.size n).toArray } := Heap.get?_push_size _ rfl
    have g2 : ((h1.push { cls := .type "tuple", data := .seq (znIts s.heap.objs.size n).toArray }).push { cls := .type "tuple", data := .seq ((znIts s.heap.objs.size n).map fun _ => Value.none).toArray }).get? (h1.push { cls := .type "tuple", data := .seq (znIts s.heap.objs.size n).toArray }).objs.size = some { cls := .type "tuple", data := .seq ((znIts s.heap.objs.size n).map fun _ => Value.none).toArray } := Heap.get?_push_size _ rfl
    have g3 := Heap.get?_push_size ((h1.push { cls := .type "tuple", data := .seq (znIts s.heap.objs.size n).toArray }).push { cls := .type "tuple", data := .seq ((znIts s.heap.objs.size n).map fun _ => Value.none).toArray }) (o := { cls := .type "zip", dict := none, data := .fields #[.none, .bool false, .bool false, .ref h1.objs.size, .ref (h1.push { cls := .type "tuple", data := .seq (znIts s.heap.objs.size n).toArray }).objs.size] }) rfl
    rw [hs1] at g1 g3
    rw [z1] at g2 g3
    rw [z2] at g3
    rw [hs1, z1] at *
    show R (.ok (.ret (.ref ((h1.push { cls := .type "tuple", data := .seq (znIts s.heap.objs.size n).toArray }).push { cls := .type "tuple", data := .seq ((znIts s.heap.objs.size n).map fun _ => Value.none).toArray }).objs.size))) _
    rw [z2]
    refine h _ g3 (Heap.get?_push_of_some _ g2) (by rw [Heap.size_push, z2]) ⟨Heap.get?_push_of_some _ (Heap.get?_push_of_some _ g1), fun j hj => ?_, fun j hj => (hl j hj).at fun o e => Heap.get?_push_of_some _ (Heap.get?_push_of_some _ (Heap.get?_push_of_some _ (kp1 _ _ e)))⟩ fun c o e => Heap.get?_push_of_some _ (Heap.get?_push_of_some _ (Heap.get?_push_of_some _ (kp1 _ _ e)))
    rw [if_neg (Nat.not_lt_zero _)]
    exact (hit1 j hj).at fun o e => Heap.get?_push_of_some _ (Heap.get?_push_of_some _ (Heap.get?_push_of_some _ e))
theorem call_zipN {Q : Value → Shared → Prop} (hn0 : 0 < n) (hn : n ≤ sizeLine) (hl : ∀ j, j < n → s.heap.IsList (ls j) (rows j).toArray)
    (h : ∀ h', IsZip h' (s.heap.objs.size + n + 2) (s.heap.objs.size + n) (s.heap.objs.size + n + 1) .none →
    h'.get? (s.heap.objs.size + n + 1) = some { cls := .type "tuple", data := .seq ((znIts s.heap.objs.size n).map fun _ => Value.none).toArray } → h'.objs.size = s.heap.objs.size + n + 3 →
    ZK h' s.heap.objs.size n ls rows 0 0 → (∀ c o, s.heap.get? c = some o → h'.get? c = some o) → Q (.ref (s.heap.objs.size + n + 2)) { s with heap := h' }) :
    wpAny (model prog w) A (call (.type "zip") (znArgs ls n)) Q E s := by
  have he : ∃ a as, znArgs ls n = a :: as := by
    obtain ⟨k, rfl⟩ : ∃ k, n = k + 1 := ⟨n - 1, by omega⟩
    exact ⟨.ref (ls 0), ((List.range k).map fun j => Value.ref (ls (j + 1))), by simp [znArgs, List.range_succ_eq_map, List.map_map, Function.comp]⟩
  obtain ⟨a, as, e⟩ := he
  have nc := zn_nc a as
  rw [← e] at nc
  exact callType_new F.called_zip (by decide) (zn_tc _) nc (fun obj => zn_oi obj _) F.entry_zip_new (zn_new hn) ⟨hl, fun h' g1 g2 g3 g4 g5 => ⟨⟨_, g1, rfl⟩, h h' g1 g2 g3 g4 g5⟩⟩
/-! what is drawn from it, one turn -/
def ZM (h : Heap) (N n i : Nat) : Prop := (i = 0 ∧ IsZip h (N + n + 2) (N + n) (N + n + 1) .none ∧ ∃ arr : Array Value, arr.size = n ∧ h.get? (N + n + 1) = some { cls := .type "tuple", data := .seq arr }) ∨
  (0 < i ∧ ∃ T f oT, IsZipHeld h (N + n + 2) (N + n) (N + n + 1) T f ∧ N + n + 3 < T ∧ h.get? T = some oT)
theorem ZM.typeIs (z : ZM s.heap N n i) : s.TypeIs (.ref (N + n + 2)) "zip" := by
  rcases z with ⟨_, hz, _⟩ | ⟨_, T, f, oT, hz, _⟩
  · exact ⟨_, hz, rfl⟩
  · exact ⟨_, hz, rfl⟩
theorem zn_pyNext {Q : Option Value → Shared → Prop} (hl : ∀ j, j < n → ls j < N) (hm : ∀ j, j < n → (rows j).length = m) (hi : i < m) (hn0 : 0 < n) (hn : n ≤ sizeLine) (hM : ZM s.heap N n i) (z : ZK s.heap N n ls rows i 0) (hsz : N + n + 3 < s.heap.objs.size)
    (hQ : ∀ h', ZM h' N n (i + 1) → ZK h' N n ls rows (i + 1) 0 → h'.get? s.heap.objs.size = some { cls := .type "tuple", data := .seq (znCol rows n i).toArray } → h'.objs.size = s.heap.objs.size + 1 →
      (∀ c o, (c < N ∨ N + n + 3 ≤ c) → s.heap.get? c = some o → h'.get? c = some o) → Q (some (.ref s.heap.objs.size)) { s with heap := h' }) :
    wpAny (model prog w) A (pyNext (.ref (N + n + 2))) Q E s := by
  have hT := hM.typeIs
  unfold pyNext
  refine wpAny_bind (wpAny_attempt (wpAny_callSpecial?_slot (name := Str.ofString "__next__") hT F.slot_zip_next (wpAny_call_entry F.slot_zip_next hT F.entry_zip_next ?_ (F.args_zip_next_1 _))))
  rcases hM with ⟨rfl, hz, hto⟩ | ⟨h0, T, f, oT, hz, hT1, hT2⟩
  · exact zn_next_free hl hm hi hn0 hn hz hto z fun h' a1 a2 a3 a4 a5 => wpAny_pure (hQ h' (.inr ⟨Nat.succ_pos _, _, _, _, a1, hsz, a3⟩) a2 a3 a4 a5)
  · exact zn_next_held hl hm hi hn0 hn hz hT2 z fun h' a1 a2 a3 a4 a5 => wpAny_pure (hQ h' (.inr ⟨Nat.succ_pos _, _, _, _, a1, hT1, a5 T oT (.inr (by show N + n + 3 ≤ T; exact Nat.le_of_lt hT1)) hT2⟩) a2 a3 a4 a5)
theorem zn_pyEnd {Q : Option Value → Shared → Prop} (hh : A.handled = none) (hl : ∀ j, j < n → ls j < N) (hm : (rows 0).length = i) (hi : 0 < i) (hn0 : 0 < n) (hM : ZM s.heap N n i) (z : ZK s.heap N n ls rows i 0)
    (hQ : ∀ h', (∀ c o, (c < N ∨ N + n + 3 ≤ c) → s.heap.get? c = some o → h'.get? c = some o) → Q none { s with heap := h' }) : wpAny (model prog w) A (pyNext (.ref (N + n + 2))) Q E s := by
  have hT := hM.typeIs
  rcases hM with ⟨rfl, _⟩ | ⟨h0, T, f, oT, hz, hT1, hT2⟩
  · omega
  unfold pyNext
  refine wpAny_bind (wpAny_attempt (wpAny_callSpecial?_slot (name := Str.ofString "__next__") hT F.slot_zip_next (wpAny_call_entry F.slot_zip_next hT F.entry_zip_next (zn_end_held hh hm hn0 hz hT2 hl z fun h' e hk he => ?_) (F.args_zip_next_1 _))))
  obtain ⟨o, ho, hc⟩ := he
  refine wpAny_bind (wpAny_isInstance (T := "StopIteration") (b := true) ⟨o, ho, hc⟩ isSubtype_stop ?_)
  exact wpAny_pure (hQ _ hk)
end
end Ly

set_option Elab.async false
set_option linter.all false
set_option maxRecDepth 100000
set_option maxHeartbeats 4000000
namespace Ly
open PySem PySem.Spec PySem.Calls L2 Evl PyProof.Rows
structure ZG (rows : Nat → List Value) (n m : Nat) (lo : Addr) (h : Heap) (as : List Addr) : Prop where
  rise : as.Pairwise (· < ·)
  above : ∀ a ∈ as, lo < a
  tups : ∀ (j : Nat) (a : Addr), as[j]? = some a → j < m ∧ h.get? a = some { cls := .type "tuple", data := .seq (znCol rows n j).toArray }
theorem ZG.there {rows : Nat → List Value} {n m : Nat} {lo : Addr} {h : Heap} {as : List Addr} (g : ZG rows n m lo h as) {a : Addr} (ha : a ∈ as) : a < h.objs.size := by
  obtain ⟨j, hj⟩ := List.mem_iff_getElem?.mp ha
  obtain ⟨_, e⟩ := g.tups j a hj
  exact Heap.lt_size e
section
variable {prog : Program} {w : World} {A : Around} {s : Shared} {R : Result → Shared → Prop} {N n m : Nat} {ls : Nat → Addr} {rows : Nat → List Value} {S : Nat}
theorem ZM.keep {h h' : Heap} {i : Nat} (z : ZM h N n i) (hS : S = N + n + 3) (hk : ∀ c o, c ≠ S → h.get? c = some o → h'.get? c = some o) : ZM h' N n i := by
  have n2 : (N + n + 2 : Addr) ≠ S := fun q => by
    have q : N + n + 2 = S := q
    omega
  have n1 : (N + n + 1 : Addr) ≠ S := fun q => by
    have q : N + n + 1 = S := q
    omega
  rcases z with ⟨e, hz, arr, ha, hto⟩ | ⟨h0, T, f, oT, hz, hT1, hT2⟩
  · exact .inl ⟨e, hk _ _ n2 hz, arr, ha, hk _ _ n1 hto⟩
  · exact .inr ⟨h0, T, f, oT, hk _ _ n2 hz, hT1, hk _ _ (fun q => by
      have q : T = S := q
      omega) hT2⟩
theorem zn_loop (hh : A.handled = none) (hSN : S = N + n + 3) (hl : ∀ j, j < n → ls j < N) (hm : ∀ j, j < n → (rows j).length = m) (hm0 : 0 < m) (hms : m ≤ sizeLine) (hn0 : 0 < n) (hn : n ≤ sizeLine) (res : Value) {h₁ : Heap}
    (hR : ∀ h' tk acc c as, (∀ b o, b < N → h₁.get? b = some o → h'.get? b = some o) → h'.get? S = some { cls := .type "list", dict := none, data := .seq acc c, slots := #[] } → as.length = m → ZG rows n m S h' as →
      acc.toList = as.map Value.ref → R (.ok (.ret res)) { s with heap := h', toks := tk }) :
    ∀ (k i : Nat) (h : Heap) (tk c : Nat) (acc : Array Value) (as : List Addr), m - i = k → i ≤ m → ZM h N n i → ZK h N n ls rows i 0 → (∀ b o, b < N → h₁.get? b = some o → h.get? b = some o) →
      h.get? S = some { cls := .type "list", dict := none, data := .seq acc c, slots := #[] } → acc.toList = as.map Value.ref → as.length = i → ZG rows n m S h as → S < h.objs.size →
      codeAny (model prog w) A (.builtin "list.extend.loop" ⟨[.ref S, .ref (N + n + 2), res], []⟩) R { s with heap := h, toks := tk } := by
  intro k
  induction k with
  | zero =>
    intro i h tk c acc as hk hi hM hK hkeep hS hacc hal hG hIs
    have hin : i = m := by omega
    refine codeAny_builtin PySem.F.entry_extend_loop ?_
    rw [Around.under_plainId PySem.F.plain_extend_loop _]
    show wpAny _ A.in1 (pyNext (.ref (N + n + 2)) >>= _) _ _ _
    refine wpAny_bind (zn_pyEnd (s := { s with heap := h, toks := tk }) (A := A.in1) (rows := rows) hh hl (by rw [hm 0 hn0, hin]) (by omega) hn0 hM hK fun h' he => ?_)
    refine wpAny_pure (hR h' tk acc c as (fun b o h1 e => he b o (.inl h1) (hkeep b o h1 e)) (he S _ (.inr (by show N + n + 3 ≤ S; omega)) hS) (by omega) ⟨hG.rise, hG.above, fun j a hj => ?_⟩ hacc)
    obtain ⟨hj', e3⟩ := hG.tups j a hj
    refine ⟨hj', he a _ (.inr ?_) e3⟩
    have : S < a := hG.above a (List.mem_of_getElem? hj)
    show N + n + 3 ≤ a
    omega
  | succ k ih =>
    intro i h tk c acc as hk hi hM hK hkeep hS hacc hal hG hIs
    have hlt : i < m := by omega
    have hsz : acc.size = i := by rw [← Array.length_toList, hacc, List.length_map, hal]
    refine codeAny_builtin PySem.F.entry_extend_loop ?_
    rw [Around.under_plainId PySem.F.plain_extend_loop _]
    show wpAny _ A.in1 (pyNext (.ref (N + n + 2)) >>= _) _ _ _
    refine wpAny_bind (zn_pyNext (s := { s with heap := h, toks := tk }) (A := A.in1) hl hm hlt hn0 hn hM hK (by show N + n + 3 < h.objs.size; rw [← hSN]; exact hIs) fun h' hM' hK' ht hz hkp => ?_)
    dsimp only at ht hz hkp ⊢
    have hS' := hkp S _ (.inr (by show N + n + 3 ≤ S; omega)) hS
    have up : ∀ b o, b ≠ S → h'.get? b = some o → (h'.update S (Obj.mapSeq (·.push (Value.ref h.objs.size)))).get? b = some o := fun b o hb e => (Heap.get?_update_other _ _ (Ne.symm hb)).trans e
    have hSl : S < h.objs.size := Heap.lt_size hS
    show wpAny _ A.in1 (updateSeq S (·.push (Value.ref h.objs.size)) >>= _) _ _ _
    refine wpAny_bind ?_
    have hlS : ∀ c : Nat, c ≤ N + n → c ≠ S := by
      intro c hc
      omega
    refine wpAny_updateSeq hS' rfl (wpAny_pure ⟨plainId_quiet PySem.F.plain_extend_loop _, ih (i + 1) _ tk _ (acc.push (Value.ref h.objs.size)) (as ++ [h.objs.size]) (by omega) hlt (hM'.keep hSN fun c o hc e => up c o hc e) (hK'.keep hl fun c o hc e => up c o (hlS c hc) e)
      (fun b o h1 e => up b o (Nat.ne_of_lt (Nat.lt_of_lt_of_le h1 (by omega : N ≤ S))) (hkp b o (.inl h1) (hkeep b o h1 e))) (Heap.get?_update_self _ hS' rfl) (by rw [Array.toList_push, hacc, List.map_append]; rfl) (by rw [List.length_append, hal]; rfl) ⟨?_, ?_, ?_⟩ ?_⟩) (by rw [hsz]; omega) (by show (acc.push (Value.ref h.objs.size)).size ≤ sizeLine + 1; rw [Array.size_push, hsz]; omega)
    · refine List.pairwise_append.mpr ⟨hG.rise, List.pairwise_singleton _ _, fun a ha b hb => ?_⟩
      rw [List.mem_singleton.mp hb]
      exact hG.there ha
    · intro a ha
      rcases List.mem_append.mp ha with ha | ha
      · exact hG.above a ha
      · rw [List.mem_singleton.mp ha]; exact hIs
    · intro j b hj
      rcases Nat.lt_trichotomy j as.length with h1 | h1 | h1
      · rw [List.getElem?_append_left h1] at hj
        obtain ⟨hj', e3⟩ := hG.tups j b hj
        have hb := hG.above b (List.mem_of_getElem? hj)
        refine ⟨hj', up b _ (Nat.ne_of_gt hb) (hkp b _ (.inr ?_) e3)⟩
        have : S < b := hb
        show N + n + 3 ≤ b
        omega
      · subst h1
        have hb : h.objs.size = b := by simpa using hj
        subst hb
        exact ⟨by omega, by subst hal; exact up _ _ (Nat.ne_of_gt hSl) ht⟩
      · have hnone : (as ++ [h.objs.size])[j]? = none := List.getElem?_eq_none (by rw [List.length_append, List.length_singleton]; omega)
        rw [hnone] at hj; cases hj
    · have e : (h'.update S (Obj.mapSeq (·.push (Value.ref h.objs.size)))).get? h.objs.size = _ := up _ _ (Nat.ne_of_gt hSl) ht
      exact Nat.lt_trans hIs (Heap.lt_size e)
theorem zn_no_len : typeLookup (.type "zip") "__len__" = pure none := by rw [typeLookup_type, builtinLookup_eq_fast]; kernel_rfl
theorem zn_no_hint : typeLookup (.type "zip") "__length_hint__" = pure none := by rw [typeLookup_type, builtinLookup_eq_fast]; kernel_rfl
/-- list(it), it such a zip not yet begun -/
theorem zn_extend {i : Nat} (hh : A.handled = none) (hSN : S = N + n + 3) (hl : ∀ j, j < n → ls j < N) (hm : ∀ j, j < n → (rows j).length = m) (hm0 : 0 < m) (hms : m ≤ sizeLine) (hn0 : 0 < n) (hn : n ≤ sizeLine) (res : Value)
    (hz : IsZip s.heap (N + n + 2) (N + n) (N + n + 1) .none) (hto : ∃ arr : Array Value, arr.size = n ∧ s.heap.get? (N + n + 1) = some { cls := .type "tuple", data := .seq arr }) (hK : ZK s.heap N n ls rows 0 0) (c₀ : Nat) (hS : s.heap.get? S = some { cls := .type "list", data := .seq #[] c₀ })
    (hR : ∀ h' tk acc c as, (∀ b o, b < N → s.heap.get? b = some o → h'.get? b = some o) → h'.get? S = some { cls := .type "list", dict := none, data := .seq acc c, slots := #[] } → as.length = m → ZG rows n m S h' as →
      acc.toList = as.map Value.ref → R (.ok (.ret res)) { s with heap := h', toks := tk }) :
    wpAny (model prog w) A.in1 (Builtin.List.listExtendWith (.ref S) (.ref (N + n + 2)) res)
      (fun fin s' => match fin with | .done f => R (.ok f) s' | .again c' => c'.quiet = true ∧ codeAny (model prog w) A c' R s') (fun e s' => R (.error e) s') s := by
  have hT : s.TypeIs (.ref (N + n + 2)) "zip" := ⟨_, hz, rfl⟩
  have hSI : S < s.heap.objs.size := Heap.lt_size hS
  unfold Builtin.List.listExtendWith
  refine wpAny_bind (wpAny_typeOf (T := "zip") hT ?_)
  have h1 : Builtin.List.listSameRef (.ref S) (.ref (N + n + 2)) = false := by
    have : ¬ (S = N + n + 2) := by omega
    simp [Builtin.List.listSameRef, this]
  have h2 : (Value.type "zip" == Value.type "list") = false := by decide
  have h3 : (Value.type "zip" == Value.type "tuple") = false := by decide
  simp only [h1, h2, h3, Bool.or_false, Bool.false_eq_true, if_false]
  refine wpAny_bind (wpAny_pyIter_zip hz ?_)
  refine wpAny_bind (wpAny_holding ?_)
  unfold Builtin.List.listLengthHint
  refine wpAny_bind (wpAny_specialOf hT zn_no_len ?_)
  show wpAny _ A.in1 (specialOf (Value.ref (N + n + 2)) (Str.ofString "__length_hint__") >>= _) _ _ _
  refine wpAny_bind (wpAny_specialOf hT zn_no_hint ?_)
  refine wpAny_pure ?_
  show wpAny _ A.in1 (rule "list.extend.makes-room" >>= fun _ => Builtin.List.listTouch (.ref S) >>= fun _ =>
    again (.builtin "list.extend.loop" ⟨[.ref S, .ref (N + n + 2), res], []⟩)) _ _ _
  refine wpAny_bind (wpAny_rule ?_)
  refine wpAny_bind ?_
  show wpAny _ A.in1 (updateSeq S (·.push .none) >>= fun _ => updateSeq S (·.pop)) _ _ _
  refine wpAny_bind (wpAny_updateSeq hS rfl ?_)
  have hS₂ := Heap.get?_update_self (Obj.mapSeq (·.push Value.none)) hS rfl
  refine wpAny_updateSeq (hz := by seq_fits) hS₂ rfl ?_
  have hS₃ := Heap.get?_update_self (Obj.mapSeq (·.pop)) hS₂ rfl
  have oth : ∀ b o, b ≠ S → s.heap.get? b = some o → ((s.heap.update S (Obj.mapSeq (·.push Value.none))).update S (Obj.mapSeq (·.pop))).get? b = some o := fun b o hb e => (Heap.get?_update_other _ _ (Ne.symm hb)).trans ((Heap.get?_update_other _ _ (Ne.symm hb)).trans e)
  have hM : ZM s.heap N n 0 := .inl ⟨rfl, hz, hto⟩
  refine wpAny_pure ⟨plainId_quiet PySem.F.plain_extend_loop _, zn_loop (s := s) (h₁ := s.heap) hh hSN hl hm hm0 hms hn0 hn res hR m 0 _ s.toks _ #[] [] (Nat.sub_zero _) (Nat.zero_le _) (hM.keep hSN oth) (hK.keep hl fun c o hc e => oth c o (fun q => by
    have q : c = S := q
    have hc : c ≤ N + n := hc
    omega) e) (fun b o hb e => oth b o (fun q => by
    have q : b = S := q
    omega) e) hS₃ rfl rfl ⟨List.Pairwise.nil, (fun _ ha => nomatch ha), (fun j a hj => by simp at hj)⟩ (Heap.lt_size hS₃)⟩
theorem zn_init (hh : A.handled = none) (hSN : S = N + n + 3) (hl : ∀ j, j < n → ls j < N) (hm : ∀ j, j < n → (rows j).length = m) (hm0 : 0 < m) (hms : m ≤ sizeLine) (hn0 : 0 < n) (hn : n ≤ sizeLine)
    (hz : IsZip s.heap (N + n + 2) (N + n) (N + n + 1) .none) (hto : ∃ arr : Array Value, arr.size = n ∧ s.heap.get? (N + n + 1) = some { cls := .type "tuple", data := .seq arr }) (hK : ZK s.heap N n ls rows 0 0) (hS : s.heap.get? S = some { cls := .type "list", data := .seq #[] })
    (hR : ∀ h' tk acc c as, (∀ b o, b < N → s.heap.get? b = some o → h'.get? b = some o) → h'.get? S = some { cls := .type "list", dict := none, data := .seq acc c, slots := #[] } → as.length = m → ZG rows n m S h' as →
      acc.toList = as.map Value.ref → R (.ok (.ret .none)) { s with heap := h', toks := tk }) :
    wpAny (model prog w) A.in1 (Builtin.«list.__init__» ⟨[.ref S, .ref (N + n + 2)], []⟩)
      (fun fin s' => match fin with | .done f => R (.ok f) s' | .again c' => c'.quiet = true ∧ codeAny (model prog w) A c' R s') (fun e s' => R (.error e) s') s := by
  show wpAny _ _ (do let old ← Builtin.List.listItems (.ref S); Builtin.List.listUpdate (.ref S) (fun _ => #[]); letGo old.toList.reverse; Builtin.List.listExtendWith (.ref S) (.ref (N + n + 2)) .none) _ _ s
  refine wpAny_bind ?_
  unfold Builtin.List.listItems
  refine wpAny_bind (wpAny_seqItems hS rfl (wpAny_pure ?_))
  show wpAny _ _ (updateSeq S (fun _ => #[]) >>= fun _ => letGo (#[] : Array Value).toList.reverse >>= fun _ => Builtin.List.listExtendWith (.ref S) (.ref (N + n + 2)) .none) _ _ s
  refine wpAny_bind (wpAny_updateSeq hS rfl ?_)
  have hS₂ := Heap.get?_update_self (Obj.mapSeq (fun _ => (#[] : Array Value))) hS rfl
  have oth : ∀ b o, b ≠ S → s.heap.get? b = some o → (s.heap.update S (Obj.mapSeq (fun _ => (#[] : Array Value)))).get? b = some o :=
    fun b o hb e => (Heap.get?_update_other _ _ (Ne.symm hb)).trans e
  refine wpAny_bind (wpAny_letGo ?_)
  have n2 : (N + n + 2 : Addr) ≠ S := fun q => by
    have q : N + n + 2 = S := q
    omega
  have n1 : (N + n + 1 : Addr) ≠ S := fun q => by
    have q : N + n + 1 = S := q
    omega
  refine zn_extend (i := 0) hh hSN hl hm hm0 hms hn0 hn .none (oth _ _ n2 hz) (let ⟨arr, ha, q⟩ := hto; ⟨arr, ha, oth _ _ n1 q⟩) (hK.keep hl fun c o hc e => oth c o (fun q => by
    have q : c = S := q
    have hc : c ≤ N + n := hc
    omega) e) _ hS₂ (fun h' tk acc c as hk hS' hl hG hacc => ?_)
  exact hR h' tk acc c as (fun b o hb e => hk b o hb (oth b o (fun q => by
    have q : b = S := q
    omega) e)) hS' hl hG hacc
theorem zn_call {E : Value → Shared → Prop} {Q : Value → Shared → Prop} (hh : A.handled = none) (hl : ∀ j, j < n → ls j < N) (hm : ∀ j, j < n → (rows j).length = m) (hm0 : 0 < m) (hms : m ≤ sizeLine) (hn0 : 0 < n) (hn : n ≤ sizeLine)
    (hz : IsZip s.heap (N + n + 2) (N + n) (N + n + 1) .none) (hto : ∃ arr : Array Value, arr.size = n ∧ s.heap.get? (N + n + 1) = some { cls := .type "tuple", data := .seq arr }) (hK : ZK s.heap N n ls rows 0 0) (hsz : s.heap.objs.size = N + n + 3)
    (hQ : ∀ h' tk acc c as, (∀ b o, b < N → s.heap.get? b = some o → h'.get? b = some o) → h'.get? s.heap.objs.size = some { cls := .type "list", dict := none, data := .seq acc c, slots := #[] } → as.length = m → ZG rows n m s.heap.objs.size h' as →
      acc.toList = as.map Value.ref → Q (.ref s.heap.objs.size) { s with heap := h', toks := tk }) :
    wpAny (model prog w) A (call (.type "list") [.ref (N + n + 2)]) Q E s := by
  refine callType_codes (Q₁ := fun obj s₁ => obj = .ref s.heap.objs.size ∧ s₁ = { s with heap := s.heap.push { cls := .type "list", data := .seq #[] } }) PySem.F.called_list (PySem.F.typeCall_list_1 _) PySem.F.entry_list_init
    (code_list_new _ ⟨rfl, rfl⟩) fun obj s₁ h₁ => ?_
  obtain ⟨rfl, rfl⟩ := h₁
  have hS : (s.heap.push { cls := .type "list", data := .seq #[] }).get? s.heap.objs.size = some { cls := .type "list", data := .seq #[] } := Heap.get?_push_size _ rfl
  refine ⟨⟨_, hS, rfl⟩, PySem.F.args_list_init_2 _ _, zn_init (A := A.in1) hh hsz hl hm hm0 hms hn0 hn (Heap.get?_push_of_some _ hz) (let ⟨arr, ha, q⟩ := hto; ⟨arr, ha, Heap.get?_push_of_some _ q⟩) (hK.keep hl fun c o hc e => Heap.get?_push_of_some _ e) hS (fun h' tk acc c as hk hS' hl hG hacc => ?_)⟩
  exact ⟨rfl, hQ h' tk acc c as (fun b o hb e => hk b o hb (Heap.get?_push_of_some _ e)) hS' hl hG hacc⟩
end
end Ly

set_option Elab.async false
set_option linter.all false
set_option maxRecDepth 100000
set_option maxHeartbeats 4000000
namespace Ly
open PySem PySem.Spec PySem.Calls L2 Evl PyProof.Rows
theorem vals_range {f : Nat → V} {g : Nat → Value} : ∀ n : Nat, (∀ j, j < n → RelV (f j) (g j)) → Vals ((List.range n).map f) ((List.range n).map g)
  | 0, _ => .nil
  | n + 1, h => by
    rw [List.range_succ, List.map_append, List.map_append]
    exact (vals_range n fun j hj => h j (Nat.lt_succ_of_lt hj)).append (.cons (h n (Nat.lt_succ_self n)) .nil)
theorem vals_refs {f : Nat → Addr} : ∀ {ns : List Nat} {us : List Value}, Vals (ns.map fun j => V.ref (f j)) us → us = ns.map fun j => Value.ref (f j)
  | [], _, .nil => rfl
  | n :: ns, _, .cons r t => by
    have r : _ = Value.ref (f n) := r
    subst r
    rw [vals_refs t]
    rfl
theorem vals_refs2 : ∀ ts : List Addr, Vals (ts.map V.ref) (ts.map Value.ref)
  | [] => .nil
  | t :: ts => .cons rfl (vals_refs2 ts)
section
variable {X : Cx} {pins : List (Addr × Obj)} {σ : L2.St} {H : Hp} {s : Shared}
theorem Inv.laidMany {N : Hp} {h' : Heap} {t' : Nat} (I : Inv X pins σ H s) (k : ∀ b u, s.heap.get? b = some u → h'.get? b = some u) (hp : ∀ a o, N a = some o → s.heap.objs.size ≤ a) (new : ∀ a o, N a = some o → ObjOk X.prog X.w (un N H) h' a o) :
    Inv X pins σ (un N H) { s with heap := h', toks := t' } := by
  have hN : ∀ a o, H a = some o → N a = none := fun a o e => by
    cases q : N a with
    | none => rfl
    | some u =>
      have := I.hok.fresh (hp a u q)
      rw [this] at e
      cases e
  have old : ∀ a o, H a = some o → un N H a = some o := fun a o e => by
    unfold un
    rw [hN a o e]
    exact e
  refine I.un (t' := t') (h' := h') ⟨fun b u q _ _ _ => k b u q, fun b u q _ _ _ => ⟨u.slots, k b u q⟩, fun b u q n _ => ?_, fun b u q _ => ⟨u, k b u q⟩, fun b xs q => old b _ q, fun b u xs q => old b _ q, fun b ps q => ⟨#[], by rw [old b _ q]; simp⟩⟩ fun b u e => ?_
  · unfold un
    cases q2 : N b with
    | none => exact n
    | some o => exact absurd (Nat.lt_of_lt_of_le (Heap.lt_size q) (hp b o q2)) (Nat.lt_irrefl _)
  · cases q : N b with
    | some o =>
      unfold un at e
      rw [q] at e
      cases e
      exact new b _ q
    | none =>
      unfold un at e
      rw [q] at e
      exact (I.hok b u e).stay (fun c v _ q => k c v q) (fun c q => old c _ q) fun c xs q => old c _ q
end
/-- list(zip(*e)), e a list of lists of one length -/
def tLZ (K : PySem.W.Frag) (te : TE) : TE := fun σ H Q => te σ H fun v H1 => ∃ (a : Addr) (n m : Nat) (bs : Nat → Addr) (ws : Nat → List V), v = .ref a ∧ (SqT K H1 a ((List.range n).map fun j => V.ref (bs j)) ∨ SqL K H1 a ((List.range n).map fun j => V.ref (bs j))) ∧ 0 < n ∧ 0 < m ∧ n ≤ sizeLine ∧ m ≤ sizeLine ∧
  (∀ j, j < n → SqL K H1 (bs j) (ws j) ∧ (ws j).length = m) ∧ ∀ (S : Addr) (ts : List Addr) (H2 : Hp), Ex H1 H2 → H1 S = none → H2 S = some (.lst (ts.map V.ref)) → ts.length = m →
    (∀ i t, ts[i]? = some t → H1 t = none ∧ H2 t = some (.tup ((List.range n).map fun j => (ws j).getD i .non))) → Q (.ref S) H2
theorem callWith_Sm {M : Model} {A : Around} {E : Value → Shared → Prop} {s : Shared} {env : Env} {pos p : Pos} {T : String} {Q : Value → Shared → Prop} {e : Expr}
    (h : wpAny M A (eval e env) (fun v s₁ => PySem.W.StarOf M A E v (fun vs s₂ => wpAny M A (call (.type T) vs) Q E s₂) s₁) E s)
    (he : starEach [.Starred e p] env = [(true, eval e env)] := by rfl) :
    wpAny M A (callWith pos (.type T) [] (backTo pos (starEach [.Starred e p] env)) []) Q E s := by
  rw [he]
  refine PySem.W.ks_call (P := fun _ => True) rfl (fun h _ => ⟨.machine, .inr (.inl rfl), PySem.W.Looks.of_pure rfl⟩) (PySem.W.ks_lone (wpAny_mono h (fun v s1 hs => ?_) fun _ _ z => z))
  unfold PySem.W.StarOf at hs ⊢
  refine wpAny_mono hs (fun b s2 ⟨hb, h2⟩ => ⟨hb, ?_⟩) fun _ _ z => z
  exact wpAny_mono h2 (fun vs s3 h3 => ⟨trivial, h3⟩) fun _ _ z => z
theorem pe_listZipS {X : Cx} (K : PySem.W.Frag) {e : Expr} {te : TE} {p p2 p3 q pos : Pos} (hm : X.mg "list" = none) (hm2 : X.mg "zip" = none) (ha : PE X e te) (hg : Gl X "list" := by rfl) (hg2 : Gl X "zip" := by rfl)
    (hst : starEach [.Starred e p3] X.env = [(true, eval e X.env)] := by rfl)
    (na : starEach [.Call (.Name "zip" p2) [.Starred e p3] [] q] X.env = (false, eval (.Call (.Name "zip" p2) [.Starred e p3] [] q) X.env) :: starEach [] X.env := by rfl) (hK : X.K = K := by rfl) (hc : X.calm = true := by rfl) :
    PE X (.Call (.Name "list" p) [.Call (.Name "zip" p2) [.Starred e p3] [] q] [] pos) (tLZ K te) := by
  subst hK
  refine ⟨fun pins s σ H Q I h => ?_⟩
  refine Call_ (ld_blt I hg hm boot_list ?_)
  refine PyProof.Rows.callWith_type1 (PyProof.Rows.args_cons ?_ na) na rfl
  refine Call_ (ld_blt I hg2 hm2 boot_zip ?_)
  refine callWith_Sm (thn (ha.run pins s σ H _ I h) fun v s1 ⟨x, H1, I1, r1, q1⟩ => ?_) hst
  obtain ⟨a, n, m, bs, ws, rfl, hx, hn0, hm0, hn, hms, hrow, k⟩ := q1
  cases r1
  refine StX.star_any I1 hx fun us s2 I2 rv => ?_
  have eus := vals_refs rv
  subst eus
  have hits : ∀ j, ∃ its : List Value, j < n → Vals (ws j) its ∧ s2.heap.IsList (bs j) its.toArray ∧ bs j < s2.heap.objs.size := fun j => by
    by_cases hj : j < n
    · obtain ⟨its, r, p, _⟩ := I2.list (hrow j hj).1
      exact ⟨its, fun _ => ⟨r, p.isList, p.lt⟩⟩
    · exact ⟨[], fun h => absurd h hj⟩
  obtain ⟨rows, hrows⟩ := Classical.axiomOfChoice hits
  refine call_zipN (ls := bs) (rows := rows) hn0 hn (fun j hj => (hrows j hj).2.1) fun h' hz hto hsz hK hkp => ?_
  refine PyProof.Rows.args_nil ?_
  have hlen : ∀ j, j < n → (rows j).length = m := fun j hj => by rw [← (hrows j hj).1.length, (hrow j hj).2]
  refine zn_call (s := { s2 with heap := h' }) (N := s2.heap.objs.size) (rows := rows) (ls := bs) (I2.ok.hd hc) (fun j hj => (hrows j hj).2.2) hlen hm0 hms hn0 hn hz ⟨_, by simp [znIts], hto⟩ hK hsz fun h2 tk acc cnt ts hk2 hS hl hG hacc => ?_
  have uniq : ∀ (i j : Nat) t, ts[i]? = some t → ts[j]? = some t → i = j := fun i j t hi hj => by
    obtain ⟨li, ei⟩ := List.getElem?_eq_some_iff.mp hi
    obtain ⟨lj, ej⟩ := List.getElem?_eq_some_iff.mp hj
    have pw := List.pairwise_iff_getElem.mp hG.rise
    rcases Nat.lt_trichotomy i j with q | q | q
    · have := pw i j li lj q
      rw [ei, ej] at this
      exact absurd this (Nat.lt_irrefl _)
    · exact q
    · have := pw j i lj li q
      rw [ei, ej] at this
      exact absurd this (Nat.lt_irrefl _)
  generalize hSe : h'.objs.size = S at hS hG
  let N : Hp := fun c => if c = S then some (.lst (ts.map V.ref)) else open Classical in if h : ∃ i : Nat, ts[i]? = some c then some (.tup ((List.range n).map fun j => (ws j).getD (Classical.choose h) .non)) else none
  have hsz2 : s2.heap.objs.size ≤ S := by rw [← hSe, hsz]; omega
  have hmem : ∀ (i : Nat) t, ts[i]? = some t → S < t := fun i t e => hG.above t (List.mem_of_getElem? e)
  have hNS : N S = some (.lst (ts.map V.ref)) := if_pos rfl
  have hNt : ∀ (i : Nat) t, ts[i]? = some t → N t = some (.tup ((List.range n).map fun j => (ws j).getD i .non)) := fun i t e => by
    show (if t = S then _ else _) = _
    have hex : ∃ i : Nat, ts[i]? = some t := ⟨i, e⟩
    rw [if_neg (Nat.ne_of_gt (hmem i t e)), dif_pos hex]
    rw [uniq _ _ t (Classical.choose_spec hex) e]
  have hNo : ∀ c o, N c = some o → (c = S ∧ o = .lst (ts.map V.ref)) ∨ ∃ i : Nat, ts[i]? = some c ∧ o = .tup ((List.range n).map fun j => (ws j).getD i .non) := fun c o e => by
    by_cases q : c = S
    · subst q
      rw [hNS] at e
      cases e
      exact .inl ⟨rfl, rfl⟩
    · by_cases hex : ∃ i : Nat, ts[i]? = some c
      · obtain ⟨i, ei⟩ := hex
        rw [hNt i c ei] at e
        cases e
        exact .inr ⟨i, ei, rfl⟩
      · have e2 : N c = none := by
          show (if c = S then _ else _) = _
          rw [if_neg q, dif_neg hex]
        rw [e2] at e
        cases e
  have hacc2 : acc = (ts.map Value.ref).toArray := by rw [← hacc]
  have I3 : Inv X pins σ (un N H1) { s2 with heap := h2, toks := tk } := by
    refine Inv.laidMany I2 (fun b u e => hk2 b u (Heap.lt_size e) (hkp b u e)) (fun c o e => ?_) (fun c o e => ?_)
    · rcases hNo c o e with ⟨rfl, _⟩ | ⟨i, ei, _⟩
      · exact hsz2
      · exact Nat.le_trans hsz2 (Nat.le_of_lt (hmem i c ei))
    · rcases hNo c o e with ⟨rfl, rfl⟩ | ⟨i, ei, rfl⟩
      · refine ⟨by rw [List.length_map, hl]; exact hms, ts.map Value.ref, cnt, vals_refs2 ts, ?_⟩
        rw [← hacc2]
        exact hS
      · obtain ⟨him, ht⟩ := hG.tups i c ei
        refine ⟨by rw [List.length_map, List.length_range]; exact hn, znCol rows n i, vals_range n fun j hj => ?_, ⟨_, ht, rfl, _, rfl⟩⟩
        have r := (hrows j hj).1
        have hil : i < (ws j).length := by rw [(hrow j hj).2]; exact him
        obtain ⟨u, hu, ru⟩ := r.get (List.getElem?_eq_getElem hil)
        rw [List.getD_eq_getElem?_getD, List.getD_eq_getElem?_getD, List.getElem?_eq_getElem hil, hu]
        exact ru
  have hnone : ∀ c, s2.heap.objs.size ≤ c → H1 c = none := fun c hc => I2.hok.fresh hc
  have hold : Ex H1 (un N H1) := fun c o e => by
    unfold un
    cases q : N c with
    | none => exact e
    | some u =>
      have : s2.heap.objs.size ≤ c := by
        rcases hNo c u q with ⟨rfl, _⟩ | ⟨i, ei, _⟩
        · exact hsz2
        · exact Nat.le_trans hsz2 (Nat.le_of_lt (hmem i c ei))
      rw [hnone c this] at e
      cases e
  refine ⟨.ref S, un N H1, I3, rfl, k S ts _ hold (hnone S hsz2) ?_ hl fun i t e => ⟨hnone t (Nat.le_trans hsz2 (Nat.le_of_lt (hmem i t e))), ?_⟩⟩
  · unfold un
    rw [hNS]
  · unfold un
    rw [hNt i t e]
end Ly

set_option Elab.async false
set_option linter.all false
set_option maxRecDepth 100000
set_option maxHeartbeats 4000000
/-! what enumerate, zip and list(zip(*..)) give -/
namespace Ly
open PySem L2 Evl PyProof.Rows
section
variable {K : PySem.W.Frag} {σ : L2.St} {H Hb H' : Hp} {te ta tb tc tl : TE} {α β γ δ : Type} {r ra : Rep α} {rb : Rep β} {rc : Rep γ} {x : α}
theorem sqB_of {G : Hp} {a : Addr} {vs : List V} (h : SqL K G a vs ∨ SqT K G a vs) : ∃ b, SqB K b G a vs := h.elim (fun h => ⟨true, h⟩) (fun h => ⟨false, h⟩)
theorem feed_enum {a : Addr} {vs : List V} {b : Bool} {i j : Nat} {Gb : Hp} (h : SqB K b Gb a vs) : Feed (gTup K 2 (gCons (gName i) (gCons (gName j) gNil))) (IteB K b a) vs.length Gb (fun k us => ∃ v, vs[k]? = some v ∧ us = [(i, .int (k : Int)), (j, v)]) where
  go := fun k H hk e => ⟨vs, vs[k], h.ex e, by simp [hk]⟩
  stop := fun H e => ⟨vs, h.ex e, rfl⟩
  yld := fun k H x H2 hk e y => by
    obtain ⟨T, y, rfl, hT, rfl, hx⟩ := y
    exact ⟨Ex.new hT, [(i, .int (k : Int)), (j, y)], ⟨y, hx vs (h.ex e), rfl⟩, fun σ Q q => ⟨T, [.int (k : Int), y], rfl, SqT.of upd_same, rfl, _, [y], rfl, y, [], rfl, rfl, q⟩⟩
theorem g_enum {i j : Nat} {xs : List α} (h : EvR K tl σ Hb (pQ r) xs) : Gives (iEnumB K (tCons tl tNil)) σ Hb (gTup K 2 (gCons (gName i) (gCons (gName j) gNil))) xs.length (fun G k us => ∃ v x, xs[k]? = some x ∧ r.is K G v x ∧ us = [(i, .int (k : Int)), (j, v)]) := fun H1 e R q => h H1 e _ fun v G H2 g ⟨a, vs, ev, hs, hE⟩ => by
  obtain ⟨b, hb⟩ := sqB_of hs
  refine ⟨a, b, vs, by rw [ev], hb.ex g.in_, q _ G H2 g ?_⟩
  have F := feed_enum (i := i) (j := j) hb
  rw [← hE.1]
  refine ⟨F.go, F.stop, fun k H x H3 hk e y => ?_⟩
  obtain ⟨e3, us, ⟨u, hu, eu⟩, hq⟩ := F.yld k H x H3 hk e y
  obtain ⟨z, hz, rz⟩ := hE.got hu
  exact ⟨e3, us, ⟨u, z, hz, rz, eu⟩, hq⟩
theorem feed_zip {a b : Addr} {vs ws : List V} {p q : Bool} {i j : Nat} {Gb : Hp} (h : SqB K p Gb a vs) (h2 : SqB K q Gb b ws) (hl : vs.length = ws.length) : Feed (gTup K 2 (gCons (gName i) (gCons (gName j) gNil))) (ItzB K p q a b) vs.length Gb (fun k us => ∃ v w, vs[k]? = some v ∧ ws[k]? = some w ∧ us = [(i, v), (j, w)]) where
  go := fun k H hk e => ⟨vs, ws, vs[k], ws[k], h.ex e, h2.ex e, by simp [hk], by simp⟩
  stop := fun H e => ⟨vs, ws, h.ex e, h2.ex e, rfl, hl.symm⟩
  yld := fun k H x H2 hk e y => by
    obtain ⟨T, x, y, rfl, hT, rfl, hx, hy⟩ := y
    exact ⟨Ex.new hT, [(i, x), (j, y)], ⟨x, y, hx vs (h.ex e), hy ws (h2.ex e), rfl⟩, fun σ Q q => ⟨T, [x, y], rfl, SqT.of upd_same, rfl, _, [y], rfl, y, [], rfl, rfl, q⟩⟩
theorem g_zip {i j : Nat} {xs : List α} {ys : List β} (h : EvR K ta σ Hb (pQ ra) xs) (h2 : EvR K tb σ Hb (pQ rb) ys) (hl : xs.length = ys.length) :
    Gives (iZipB K (tCons ta (tCons tb tNil))) σ Hb (gTup K 2 (gCons (gName i) (gCons (gName j) gNil))) xs.length (fun G k us => ∃ v x w y, xs[k]? = some x ∧ ys[k]? = some y ∧ ra.is K G v x ∧ rb.is K G w y ∧ us = [(i, v), (j, w)]) := fun H1 e R q =>
  h H1 e _ fun v G H2 g ⟨a, vs, ev, hs, hE⟩ => (h2.up g.base) H2 g.in_ _ fun u G2 H3 g2 ⟨b, ws, eu, ht, hF⟩ => by
  obtain ⟨p, hp⟩ := sqB_of hs
  obtain ⟨q', hq'⟩ := sqB_of ht
  have hp2 := hp.ex g2.base
  have hE2 := hE.mono g2.base
  have hlv : vs.length = ws.length := by rw [hE.1, hF.1, hl]
  refine ⟨a, b, p, q', vs, ws, by rw [ev, eu], hp2.ex g2.in_, hq'.ex g2.in_, q _ G2 H3 (g.trans0 g2) ?_⟩
  have F := feed_zip (i := i) (j := j) hp2 hq' hlv
  rw [← hE.1]
  refine ⟨F.go, F.stop, fun k H x H3 hk e y => ?_⟩
  obtain ⟨e3, us, ⟨u, w, hu, hw, eu⟩, hq⟩ := F.yld k H x H3 hk e y
  obtain ⟨z, hz, rz⟩ := hE2.got hu
  obtain ⟨z2, hz2, rz2⟩ := hF.got hw
  exact ⟨e3, us, ⟨u, z, w, z2, hz, hz2, rz, rz2, eu⟩, hq⟩
theorem each_ofn {f : Nat → V} {g : Nat → α} {n : Nat} (h : ∀ j, j < n → r.is K H (f j) (g j)) : Each K H r ((List.range n).map f) ((List.range n).map g) := Each.map fun y hy => h y (List.mem_range.mp hy)
/-- the columns of a table -/
theorem n_listZip {rows : List (List α)} {d : α} {m : Nat} (h : EvR K te σ Hb (pL (pL r)) rows) (hm : ∀ row ∈ rows, row.length = m) (h0 : 0 < rows.length) (hm0 : 0 < m) (hn : rows.length ≤ 100000) (hms : m ≤ 100000) :
    EvN K (tLZ K te) σ Hb (pTn r) ((List.range m).map fun i => rows.map fun row => row.getD i d) := fun H1 e Q q => h H1 e _ fun v G H2 g ⟨a, vs, ev, hs, hE⟩ => by
  have hex : ∀ j, ∃ (b : Addr) (ws : List V), j < rows.length → vs[j]? = some (.ref b) ∧ SqL K G b ws ∧ Each K G r ws (rows.getD j []) := fun j => by
    by_cases hj : j < rows.length
    · obtain ⟨u, hu, b, ws, eb, hb, hw⟩ := hE.get (List.getElem?_eq_getElem hj)
      subst eb
      refine ⟨b, ws, fun _ => ⟨hu, hb, ?_⟩⟩
      rw [List.getD_eq_getElem?_getD, List.getElem?_eq_getElem hj]
      exact hw
    · exact ⟨0, [], fun h => absurd h hj⟩
  obtain ⟨bs, hbs⟩ := Classical.axiomOfChoice hex
  obtain ⟨ws, hbw⟩ := Classical.axiomOfChoice hbs
  have evs : vs = (List.range rows.length).map fun j => V.ref (bs j) := by
    refine List.ext_getElem? fun j => ?_
    by_cases hj : j < rows.length
    · rw [(hbw j hj).1]
      simp [hj]
    · rw [List.getElem?_eq_none (by rw [hE.1]; omega), List.getElem?_eq_none (by simp; omega)]
  have hlen : ∀ j, j < rows.length → (rows.getD j []).length = m := fun j hj => by
    rw [List.getD_eq_getElem?_getD, List.getElem?_eq_getElem hj]
    exact hm _ (List.getElem_mem hj)
  refine ⟨a, rows.length, m, bs, ws, ev, .inr (by rw [← evs]; exact ex_l g.in_ hs), h0, hm0, Nat.le_trans hn (by decide), Nat.le_trans hms (by decide), fun j hj => ⟨ex_l g.in_ (hbw j hj).2.1, by rw [(hbw j hj).2.2.1, hlen j hj]⟩, fun S ts H3 e3 hS hS3 hlt hts => ?_⟩
  have hdec : ∀ c : Addr, c ∈ ts ↔ ∃ i : Nat, ts[i]? = some c := fun c => List.mem_iff_getElem?
  have hfresh : ∀ c, c ∈ ts → H2 c = none := fun c hc => by
    obtain ⟨i, hi⟩ := (hdec c).mp hc
    exact (hts i c hi).1
  let G' : Hp := fun c => open Classical in if c ∈ ts then H3 c else G c
  have hG1 : ∀ c, c ∈ ts → G' c = H3 c := fun c hc => if_pos hc
  have hG2 : ∀ c, c ∉ ts → G' c = G c := fun c hc => if_neg hc
  have hGG : Ex G G' := fun c o h => by
    rw [hG2 c fun hc => by
      have h1 := g.in_ c o h
      rw [hfresh c hc] at h1
      cases h1]
    exact h
  have hSn : S ∉ ts := fun hc => by
    obtain ⟨i, hi⟩ := (hdec S).mp hc
    have := (hts i S hi).2
    rw [hS3] at this
    cases this
  have hH1 : ∀ c, H2 c = none → H1 c = none := fun c hc => by
    cases z : H1 c with
    | none => rfl
    | some o =>
      rw [g.ex c o z] at hc
      cases hc
  refine q S (ts.map V.ref) G' H3 ⟨fun c o hc h => e3 c o (g.run c o hc h), g.base.trans hGG, fun c o h => ?_, fun c h1 h2 => ?_⟩ ?_ (hH1 S hS) hS3 ⟨by simp [hlt], fun i v x hv hx => ?_⟩
  · by_cases hc : c ∈ ts
    · rw [hG1 c hc] at h
      exact h
    · rw [hG2 c hc] at h
      exact e3 c o (g.in_ c o h)
  · rw [hG2 c fun hc => h1 (hH1 c (hfresh c hc))]
    exact g.off c h1 h2
  · rw [hG2 S hSn]
    exact fresh_back g.in_ hS
  · have him : i < m := by
      have := (List.getElem?_eq_some_iff.mp hx).1
      simpa using this
    have hx2 : x = rows.map fun row => row.getD i d := by
      simp [him] at hx
      exact hx.symm
    subst hx2
    have hit : i < ts.length := by omega
    have ev2 : v = V.ref ts[i] := by
      simp [hit] at hv
      exact hv.symm
    subst ev2
    have htt := (hts i ts[i] (List.getElem?_eq_getElem hit)).2
    refine ⟨ts[i], _, rfl, by rw [hG1 _ (List.getElem_mem hit)]; exact htt, ?_⟩
    have er : (rows.map fun row => row.getD i d) = (List.range rows.length).map fun j => (rows.getD j []).getD i d := by
      refine List.ext_getElem (by simp) fun j h1 h2 => ?_
      have hj : j < rows.length := by simpa using h1
      simp [hj]
    rw [er]
    refine (each_ofn (K := K) (H := G) fun j hj => ?_).mono hGG
    obtain ⟨_, _, hw⟩ := hbw j hj
    have hiw : i < (ws j).length := by rw [hw.1, hlen j hj]; exact him
    have hir : i < (rows.getD j []).length := by rw [hlen j hj]; exact him
    have := hw.2 i _ _ (List.getElem?_eq_getElem hiw) (List.getElem?_eq_getElem hir)
    have e1 : (ws j).getD i .non = (ws j)[i] := by rw [List.getD_eq_getElem?_getD, List.getElem?_eq_getElem hiw]; rfl
    have e2 : (rows.getD j []).getD i d = (rows.getD j [])[i] := by
      generalize rows.getD j [] = l at hir
      rw [List.getD_eq_getElem?_getD, List.getElem?_eq_getElem hir]; rfl
    rw [e1, e2]
    exact this
end
end Ly

set_option Elab.async false
set_option linter.all false
set_option maxRecDepth 100000
set_option maxHeartbeats 4000000
/-! sorted(set(l)), l a list of ints -/
namespace Ly
open PySem PySem.Spec PySem.Calls L2 Evl PyProof.Rows
section
variable {P : Program} {w : World} {A : Around} {E : Value → Shared → Prop} {s : Shared}
set_option maxHeartbeats 8000000 in
theorem set_of_list {l : Addr} {items : Array Value} (ns : List Int) {Q : Value → Shared → Prop} (hh : A.handled = none) (hl : s.heap.IsList l items) (hit : IntsAre items.toList ns) (hb : ns.length + 1 < scanBound)
    (h : ∀ (h' : Heap) (tk c : Nat), SetR w h' s.heap.objs.size (fun j => decide (j ∈ ns)) c → c ≤ ns.length → (∀ b o, s.heap.get? b = some o → h'.get? b = some o) → Q (.ref s.heap.objs.size) { s with heap := h', toks := tk }) :
    wpAny (model P w) A (call (.type "set") [.ref l]) Q E s := by
  have hsz : items.size = ns.length := by rw [← Array.length_toList]; exact IntsAre.length hit
  obtain ⟨c0, tl0, hmro⟩ := F.called_set.mro
  have hmade := F.called_set.made
  have hsub := F.called_set.sub
  have q1 := F.called_set.notType
  have q2 := F.called_set.canCreate
  have q3 := F.typeCall_set_1 (.ref l)
  refine wpAny_call (codeAny_of_tree ?_)
  show wpAny _ _ (callAny (.type "set") _) _ _ _
  refine wpAny_pure ⟨Code.quiet_builtin _ (by decide +kernel), codeAny_builtin F.entry_type_call ?_⟩
  rw [Around.under_plain (weight_type_call_type "set" [.ref l] []) rfl]
  repeat (any_goals (first | assumption | wp_step))
  refine codeAny_mono (code_set_led1 (.ref l) (E := E) (Q₁ := fun obj s₁ => obj = .ref s.heap.objs.size ∧ s₁ = { s with heap := s.heap.push { cls := .type "set", dict := none, data := .set #[] 0 (.fresh 0 0 (!w.params.followText "set-order")) } }) ⟨rfl, rfl⟩) fun r s₁ hr => ?_
  match r, hr with
  | .error e, hr => exact hr
  | .ok (.ret obj), hr => ?_
  obtain ⟨rfl, rfl⟩ := hr
  have hS : (s.heap.push { cls := .type "set", dict := none, data := .set #[] 0 (.fresh 0 0 (!w.params.followText "set-order")) }).get? s.heap.objs.size = some { cls := .type "set", dict := none, data := .set #[] 0 (.fresh 0 0 (!w.params.followText "set-order")) } := Heap.get?_push_size _ rfl
  have hT : Shared.TypeIs { s with heap := s.heap.push { cls := .type "set", dict := none, data := .set #[] 0 (.fresh 0 0 (!w.params.followText "set-order")) } } (.ref s.heap.objs.size) "set" := ⟨_, hS, rfl⟩
  have hli := F.called_set.init.lookup
  have hbi := F.called_set.init.bind (.ref s.heap.objs.size)
  repeat (any_goals (first | assumption | wp_step))
  refine codeAny_mono (codeAny_call_builtin (R := wants (fun r s₂ => r = .none ∧ ∃ h' tk c, s₂ = { s with heap := h', toks := tk } ∧ SetR w h' s.heap.objs.size (fun j => decide (j ∈ ns)) c ∧ c ≤ ns.length ∧
      (∀ b o, s.heap.get? b = some o → h'.get? b = some o)) E) F.called_set.init.plain F.entry_set_init (check_set_init_1 hT ?_)) fun r₂ s₂ hr₂ => ?_
  · obtain ⟨ol, hol, hcl, nl, hdl⟩ := hl
    obtain ⟨ocls, odict, odata, oslots⟩ := ol
    simp only at hcl hdl
    subst hcl; subst hdl
    have hlS : l < s.heap.objs.size := Heap.lt_size hol
    have hol' : (s.heap.push { cls := .type "set", dict := none, data := .set #[] 0 (.fresh 0 0 (!w.params.followText "set-order")) }).get? l = some { cls := .type "list", dict := odict, data := .seq items nl, slots := oslots } := Heap.get?_push_of_some _ hol
    have hls : (s.heap.push { cls := .type "set", dict := none, data := .set #[] 0 (.fresh 0 0 (!w.params.followText "set-order")) }).IsList l items := ⟨_, hol', rfl, nl, rfl⟩
    have n1 := F.sub_list_set
    have n2 := F.sub_list_frozenset
    have n3 : (Value.type "list" == Value.type "dict") = false := by decide
    unfold Builtin.«set.__init__» noKeywords Builtin.Frozenset.updateFrom
    generalize hIt : pyIter = it0
    wp_walk
    subst hIt
    refine wpAny_pyIter_list hls ?_
    refine wpAny_bind (wpAny_runValue ?_)
    have hh3 : A.in1.in1.in1.handled = none := by simp [hh]
    have hz1 : (s.heap.push { cls := .type "set", dict := none, data := .set #[] 0 (.fresh 0 0 (!w.params.followText "set-order")) }).objs.size = s.heap.objs.size + 1 := Heap.size_push ..
    have e1 : l ≠ (s.heap.push { cls := .type "set", dict := none, data := .set #[] 0 (.fresh 0 0 (!w.params.followText "set-order")) }).objs.size := by
      rw [hz1]
      exact Nat.ne_of_lt (Nat.lt_succ_of_lt hlS)
    have e2 : s.heap.objs.size ∉ [(s.heap.push { cls := .type "set", dict := none, data := .set #[] 0 (.fresh 0 0 (!w.params.followText "set-order")) }).objs.size, l] := by
      rw [hz1]
      intro q
      rcases List.mem_cons.mp q with q | q
      · exact Nat.ne_of_lt (Nat.lt_succ_self _) q
      · exact Nat.ne_of_gt hlS (List.mem_singleton.mp q)
    have hval : ∀ (i : Nat) (v : Value), items[i]? = some v → ∃ k t, ns[i]? = some k ∧ v = .int k t := fun i v hv => by
      have hi : i < ns.length := by
        rw [← hsz]
        exact (Array.getElem?_eq_some_iff.mp hv).1
      obtain ⟨t, e⟩ := IntsAre.int_at hit i v (by rw [Array.getElem?_toList]; exact hv)
      exact ⟨ns[i], t, List.getElem?_eq_getElem hi, by rw [e, List.getD_eq_getElem?_getD, List.getElem?_eq_getElem hi]; rfl⟩
    refine set_update_ints ((Walks.list hh3 _ l e1 items).toS) s.heap.objs.size e2 ns hsz hb hval (items.size - 0) 0 _ rfl (Nat.zero_le _) ⟨⟨_, Heap.get?_push_size _ rfl, rfl, rfl⟩, (hls.push _)⟩ ⟨0, Nat.le_refl 0, setR_new_at (Heap.get?_push_of_some _ hS)⟩ fun s' c' hm hc' hS' => ?_
    obtain ⟨h', g2, d', tk', os'⟩ := s'
    have eg : g2 = s.gens := hm.gens
    have ed : d' = s.drawn := hm.drawn
    have eo : os' = s.os := hm.os
    subst eg ed eo
    show wpAny _ _ _ _ _ _
    refine wpAny_pure ?_
    show wpAny _ _ (ret Value.none) _ _ _
    refine wpAny_pure ⟨rfl, h', tk', c', rfl, hS', by rw [← hsz]; exact hc', fun b o e => hm.heap b o (fun q => ?_) (Heap.get?_push_of_some _ (Heap.get?_push_of_some _ e))⟩
    have hb0 : b < s.heap.objs.size := Heap.lt_size e
    rcases List.mem_cons.mp q with q | q
    · exact Nat.ne_of_lt hb0 q
    · have q := List.mem_singleton.mp q
      rw [hz1] at q
      exact Nat.ne_of_lt (Nat.lt_succ_of_lt hb0) q
  · match r₂, hr₂ with
    | .error e, hr₂ => exact hr₂
    | .ok (.ret r), hr₂ =>
      obtain ⟨rfl, h', tk, c, rfl, hS', hc, hk'⟩ := hr₂
      repeat (any_goals (first | assumption | wp_step))
      exact h _ _ _ hS' hc hk'
end
end Ly

set_option Elab.async false
set_option linter.all false
set_option maxRecDepth 100000
set_option maxHeartbeats 4000000
namespace Ly
open PySem PySem.Spec PySem.Calls L2 Evl PyProof.Rows
def tSortSet (K : PySem.W.Frag) (te : TE) : TE := fun σ H Q => te σ H fun v H1 => ∃ (a : Addr) (ns : List Int), v = .ref a ∧ SqL K H1 a (ns.map V.int) ∧ ns.length ≤ 60 ∧ ∀ (out : List Int) (p : Addr), out.Pairwise (· < ·) → (∀ k : Int, k ∈ out ↔ k ∈ ns) → H1 p = none → Q (.ref p) (upd H1 p (.lst (out.map V.int)))
theorem pe_sortedSet {X : Cx} (K : PySem.W.Frag) {e : Expr} {te : TE} {p p2 q pos : Pos} (hm : X.mg "sorted" = none) (hm2 : X.mg "set" = none) (ha : PE X e te) (hg : Gl X "sorted" := by rfl) (hg2 : Gl X "set" := by rfl)
    (na : starEach [e] X.env = (false, eval e X.env) :: starEach [] X.env := by rfl) (hK : X.K = K := by rfl) (hc : X.calm = true := by rfl) :
    PE X (.Call (.Name "sorted" p) [.Call (.Name "set" p2) [e] [] q] [] pos) (tSortSet K te) := by
  subst hK
  refine ⟨fun pins s σ H Q I h => ?_⟩
  refine Call_ (ld_blt I hg hm boot_sorted ?_)
  refine PyProof.Rows.callWith_builtin1 (PyProof.Rows.args_cons ?_ rfl) rfl rfl
  refine Call_ (ld_blt I hg2 hm2 boot_set ?_)
  refine PyProof.Rows.callWith_type1 (PyProof.Rows.args_cons (thn (ha.run pins s σ H _ I h) fun v s1 ⟨x, H1, I1, r1, q1⟩ => PyProof.Rows.args_nil ?_) na) na rfl
  obtain ⟨l, ns, rfl, hq, hl, q1⟩ := q1
  cases r1
  obtain ⟨its, r, pl, hz⟩ := I1.list hq
  refine set_of_list ns (I1.ok.hd hc) pl.isList (by simpa using r.ints) (by unfold scanBound; omega) fun h' tk c hS hcn hk => ?_
  refine PyProof.Rows.args_nil ?_
  have hd := I1.ok.hd hc
  refine sorted_set (s := { s1 with heap := h', toks := tk }) hS hd (by omega) fun s' p0 out cc ms k g o hp hgt hi hs hmm hll => ?_
  have hlen : (ms.map V.int).length ≤ sizeLine := by rw [List.length_map, hll, sizeLine_eq]; omega
  have hkk : ∀ b u, s1.heap.get? b = some u → s'.heap.get? b = some u := fun b u e => k b u (hk b u e)
  have hle : s1.heap.objs.size ≤ p0 := by
    obtain ⟨o0, _, _, _, e0, _⟩ := hS
    exact Nat.le_trans (Nat.le_of_lt (Heap.lt_size e0)) hp
  have hn : H1 p0 = none := I1.hok.fresh hle
  have J : Inv X pins σ (upd H1 p0 (.lst (ms.map V.int))) { s1 with heap := s'.heap, gens := s'.gens, drawn := s'.drawn, toks := s'.toks } :=
    I1.call (ch := []) (Un.laid hkk hle hn) (I1.hok.laid hkk hle ⟨hlen, out.toList, cc, vals_of_ints hi, hgt⟩) (by rw [g]; exact I1.bare) (fun _ z => nomatch z)
  have e : s' = { s1 with heap := s'.heap, gens := s'.gens, drawn := s'.drawn, toks := s'.toks } := by
    cases s'
    cases s1
    cases o
    rfl
  rw [e]
  exact ⟨.ref p0, _, J, rfl, q1 ms p0 hs (fun j => by rw [hmm j, decide_eq_true_eq]) hn⟩
section
variable {K : PySem.W.Frag} {σ : L2.St} {Hb : Hp} {te : TE}
/-- two strictly rising lists of the same members are one -/
theorem rising_eq : ∀ {xs ys : List Int}, xs.Pairwise (· < ·) → ys.Pairwise (· < ·) → (∀ k, k ∈ xs ↔ k ∈ ys) → xs = ys
  | [], [], _, _, _ => rfl
  | [], y :: ys, _, _, h => absurd ((h y).mpr List.mem_cons_self) (by simp)
  | x :: xs, [], _, _, h => absurd ((h x).mp List.mem_cons_self) (by simp)
  | x :: xs, y :: ys, hx, hy, h => by
    obtain ⟨x1, x2⟩ := List.pairwise_cons.mp hx
    obtain ⟨y1, y2⟩ := List.pairwise_cons.mp hy
    have e : x = y := by
      rcases List.mem_cons.mp ((h x).mp List.mem_cons_self) with q | q
      · exact q
      · rcases List.mem_cons.mp ((h y).mpr List.mem_cons_self) with z | z
        · exact z.symm
        · have := y1 x q
          have := x1 y z
          omega
    subst e
    rw [rising_eq x2 y2 fun k => ?_]
    constructor
    · intro q
      rcases List.mem_cons.mp ((h k).mp (List.mem_cons_of_mem _ q)) with z | z
      · have := x1 k q
        omega
      · exact z
    · intro q
      rcases List.mem_cons.mp ((h k).mpr (List.mem_cons_of_mem _ q)) with z | z
      · have := y1 k q
        omega
      · exact z
/-- sorted(set(e)): the rising list of e's members -/
theorem n_sortSet {xs out : List Int} (h : EvR K te σ Hb (pL pI) xs) (hl : xs.length ≤ 60) (hs : out.Pairwise (· < ·)) (hm : ∀ k, k ∈ out ↔ k ∈ xs) : EvN K (tSortSet K te) σ Hb pI out := fun H1 e Q q => h H1 e _ fun v G H2 g ⟨a, vs, ev, hq, hE⟩ => by
  have evs := each_int hE
  subst evs
  refine ⟨a, xs, ev, ex_l g.in_ hq, hl, fun out2 p h1 h2 hp => ?_⟩
  have eo : out2 = out := rising_eq h1 hs fun k => by rw [h2 k, hm k]
  subst eo
  have ⟨g1, n1, n2⟩ := g.own2 (o := .lst (out2.map V.int)) hp (fun _ z => nomatch z)
  exact q p _ G _ g1 n1 n2 upd_same (int_each _)
/-- the rising list of some members -/
def rising (xs : List Int) : List Int := (xs.mergeSort fun a b => decide (a ≤ b)).eraseReps
end
end Ly

set_option Elab.async false
set_option linter.all false
set_option maxRecDepth 100000
set_option maxHeartbeats 4000000
/-! dicts whose keys are ints and whose values are all True -/
namespace Ly
open PySem L2 Evl PyProof.Rows
def insE (ks : List Int) (i : Int) : List Int := if i ∈ ks then ks else ks ++ [i]
def dks (ks : List Int) : List (Key × V) := ks.map fun i => ((Sum.inl i : Key), V.bl true)
theorem mem_insE {ks : List Int} {i j : Int} : j ∈ insE ks i ↔ j = i ∨ j ∈ ks := by
  unfold insE
  split
  · rename_i h
    exact ⟨.inr, fun q => q.elim (fun e => e ▸ h) id⟩
  · rw [List.mem_append, List.mem_singleton]
    exact Or.comm
theorem insE_nodup {ks : List Int} {i : Int} (h : ks.Nodup) : (insE ks i).Nodup := by
  unfold insE
  split
  · exact h
  · rename_i q
    refine List.nodup_append.mpr ⟨h, by simp, fun a ha b hb => ?_⟩
    rw [List.mem_singleton.mp hb]
    rintro rfl
    exact q ha
theorem insE_len {ks : List Int} {i : Int} : (insE ks i).length ≤ ks.length + 1 := by
  unfold insE
  split
  · omega
  · simp
theorem any_dks {ks : List Int} {i : Int} : (dks ks).any (fun kv => decide (kv.1 = (Sum.inl i : Key))) = decide (i ∈ ks) := by
  induction ks with
  | nil => rfl
  | cons k ks ih =>
    show (decide ((Sum.inl k : Key) = Sum.inl i) || (dks ks).any _) = _
    rw [ih]
    by_cases h : k = i
    · subst h; simp
    · have h1 : ¬ ((Sum.inl k : Key) = Sum.inl i) := fun q => h (Sum.inl.inj q)
      have h2 : ¬ (i = k) := fun q => h q.symm
      simp [h1, h2]
theorem put_dks {ks : List Int} {i : Int} : putK (dks ks) (Sum.inl i : Key) (V.bl true) = dks (insE ks i) := by
  unfold putK insE
  rw [any_dks]
  by_cases h : i ∈ ks
  · rw [if_pos (decide_eq_true h), if_pos h]
    unfold dks
    rw [List.map_map]
    refine List.map_congr_left fun k _ => ?_
    show (if (Sum.inl k : Key) = Sum.inl i then ((Sum.inl k : Key), V.bl true) else (Sum.inl k, V.bl true)) = _
    split <;> rfl
  · rw [if_neg (fun q => h (of_decide_eq_true q)), if_neg h]
    unfold dks
    rw [List.map_append]
    rfl
theorem val_dks {ks : List Int} {i : Int} : (valV (dks ks) (Sum.inl i : Key)).isSome = decide (i ∈ ks) := by
  induction ks with
  | nil => rfl
  | cons k ks ih =>
    by_cases h : k = i
    · subst h
      rw [show dks (k :: ks) = ((Sum.inl k : Key), V.bl true) :: dks ks from rfl, valV_pos rfl]
      simp
    · rw [show dks (k :: ks) = ((Sum.inl k : Key), V.bl true) :: dks ks from rfl, valV_neg (fun q => h (Sum.inl.inj q)), ih]
      have h2 : ¬ (i = k) := fun q => h q.symm
      simp [h2]
def pD : Rep (List Int) := ⟨fun _ H v ks => ∃ a, v = .ref a ∧ H a = some (.dK (dks ks)), fun e ⟨a, h1, h2⟩ => ⟨a, h1, e a _ h2⟩⟩
section
variable {K : PySem.W.Frag} {σ : L2.St} {H Hb H' : Hp} {te ta tb tc tl : TE} {D : Ends} {tz : TS}
theorem e_din {x : Int} {ks : List Int} (h : EvR K ta σ Hb pI x) (h2 : EvR K tb σ Hb pD ks) : EvR K (tDIn ta tb) σ Hb pB (decide (x ∈ ks)) := Ev.B fun H1 e Q q => h.int H1 e _ fun H2 e2 => h2 H2 (e.trans e2) _ fun v G H3 g ⟨a, ev, ha⟩ =>
  ⟨a, _, ev, DGet.k (k := .inl x) (g.in_ _ _ ha), by rw [val_dks]; exact q H3 (e2.trans g.ex)⟩
theorem s_dput {a : Addr} {ks : List Int} {i : Nat} {x : Int} (e : Ex Hb H) (ha : H a = some (.dK (dks ks))) (hb : Hb a = none) (hv : σ[i]? = some (some (.ref a))) (h : EvR K te σ Hb pI x) (hl : ks.length < 100000)
    (k : ∀ H1, Ex H H1 → D.nx σ (upd H1 a (.dK (dks (insE ks x))))) : sDPut (tVar i) te (tC (.bl true)) D σ H := ⟨.ref a, hv, h.int H e _ fun H1 e1 => ⟨a, _, rfl, DPut.k (k := .inl x) (e1 _ _ ha) (by unfold dks; rw [List.length_map]; exact Nat.lt_of_lt_of_le hl (by decide)), by rw [put_dks]; exact k H1 e1⟩⟩
theorem q_dput {a : Addr} {ks : List Int} {i : Nat} {x : Int} (e : Ex Hb H) (ha : H a = some (.dK (dks ks))) (hb : Hb a = none) (hv : σ[i]? = some (some (.ref a))) (h : EvR K te σ Hb pI x) (hl : ks.length < 100000)
    (k : ∀ H1, Ex H H1 → tz D σ (upd H1 a (.dK (dks (insE ks x))))) : tSeq (sDPut (tVar i) te (tC (.bl true))) tz D σ H := s_dput (D := { D with nx := tz D }) e ha hb hv h hl k
/-- {x: True}, ours -/
theorem q_dnew {i : Nat} {x : Int} (h : EvR K te σ Hb pI x) (e : Ex Hb H) (k : ∀ a H1, Grow [] Hb H Hb H1 → Hb a = none → H a = none → H1 a = some (.dK (dks [x])) → tz D (σ.set i (some (.ref a))) H1) :
    tSeq (tAsg (tDisp [(te, tC (.bl true))]) (gName i)) tz D σ H := fun p hp => by
  refine h.int _ (e.trans (Ex.new hp)) _ fun H2 e2 => ?_
  refine ⟨e2 _ _ upd_same, [((Sum.inl x : Key), V.bl true)], rfl, by show 1 ≤ 15; decide, ?_⟩
  refine k p _ ?_ (fresh_back e hp) hp upd_same
  exact ((Grow.own e hp).then_ e2).mut (.inl hp) (fresh_back e hp)
/-- {x: True for x in xs} -/
theorem e_dc {j : Nat} {xs : List Nat} {wi : TI} (hi : Gives wi σ Hb (gName j) xs.length (fun G i us => ∃ v x, xs[i]? = some x ∧ pNat.is K G v x ∧ us = [(j, v)])) (hn : xs.length < 100000)
    (hw : ∀ v, wipe (sets [(j, v)] (wipe σ [j])) [j] = wipe σ [j]) (hj : ∀ v, (sets [(j, v)] (wipe σ [j]))[j]? = some (some v)) : EvR K (tDc wi (gName j) tYes (tVar j) (tC (.bl true)) [j]) σ Hb pD ((xs.map fun (n : Nat) => (n : Int)).foldl insE []) := fun H1 e Q q => by
  refine hi H1 e _ fun J G0 H0 g0 F Dl hD => ?_
  refine ⟨fun i m H' => m = xs.length - i ∧ i ≤ xs.length ∧ Grow [] G0 H0 G0 H' ∧ H' Dl = some (.dK (dks (((xs.map fun (n : Nat) => (n : Int)).take i).foldl insE []))) ∧ (((xs.map fun (n : Nat) => (n : Int)).take i).foldl insE []).length ≤ i, ⟨xs.length, rfl, Nat.zero_le _, Grow.own g0.in_ hD, upd_same, Nat.le_refl _⟩, ?_⟩
  rintro i m H' ⟨rfl, hi, gr, h1, hle⟩
  by_cases hlt : i < xs.length
  · refine .inr ⟨F.go i H' hlt gr.in_, fun H' => i + 1 ≤ xs.length ∧ Grow [] G0 H0 G0 H' ∧ H' Dl = some (.dK (dks (((xs.map fun (n : Nat) => (n : Int)).take (i + 1)).foldl insE []))) ∧ (((xs.map fun (n : Nat) => (n : Int)).take (i + 1)).foldl insE []).length ≤ i + 1, fun H2 ⟨l, r⟩ => ⟨xs.length - (i + 1), by omega, rfl, l, r⟩, fun x H2 y => ?_⟩
    obtain ⟨e2, us, ⟨v, n, hn2, hv, rfl⟩, hq⟩ := F.yld i H' x H2 hlt gr.in_ y
    have hv : v = .int (n : Int) := hv
    subst hv
    have et : ((xs.map fun (n : Nat) => (n : Int)).take (i + 1)).foldl insE [] = insE (((xs.map fun (n : Nat) => (n : Int)).take i).foldl insE []) n := by
      have : (xs.map fun (n : Nat) => (n : Int))[i]? = some (n : Int) := by rw [List.getElem?_map, hn2]; rfl
      rw [List.take_add_one, this, List.foldl_append]
      rfl
    refine hq _ _ ⟨hw _, ⟨.int n, hj _, _, Sum.inl (n : Int), rfl, e2 _ _ h1, ?_, hlt, ?_, ?_, ?_⟩⟩
    · unfold dks
      rw [List.length_map]
      exact Nat.lt_of_le_of_lt hle (Nat.lt_of_lt_of_le (Nat.lt_trans hlt hn) (by decide))
    · exact (gr.then_ e2).mut (.inl hD) (fresh_back g0.in_ hD)
    · rw [upd_same, put_dks, et]
    · rw [et]
      exact Nat.le_trans insE_len (Nat.succ_le_succ hle)
  · have e : i = xs.length := by omega
    subst e
    have hfull : (xs.map fun (n : Nat) => (n : Int)).take xs.length = xs.map fun (n : Nat) => (n : Int) := List.take_of_length_le (by simp)
    rw [hfull] at h1
    have n2 : H1 Dl = none := by
      cases z : H1 Dl with
      | none => rfl
      | some o => rw [g0.ex _ _ z] at hD; cases hD
    exact .inl ⟨F.stop H' gr.in_, q (.ref Dl) _ H' ((g0.trans0 gr).give (.inl n2) (fresh_back g0.in_ hD) h1) ⟨Dl, rfl, upd_same⟩⟩
/-- list(d) -/
theorem n_listD {ks : List Int} (h : EvR K ta σ Hb pD ks) : EvN K (tCB rListD (tCons ta tNil)) σ Hb pI ks := fun H1 e Q q => h H1 e _ fun v G H2 g ⟨a, ev, ha⟩ => ⟨a, dks ks, by rw [ev], g.in_ _ _ ha, fun l hl => by
  have ⟨g1, n1, n2⟩ := g.own2 (o := .lst (ks.map V.int)) hl (fun _ z => nomatch z)
  have e : (dks ks).map (fun kv => kV kv.1) = ks.map V.int := by unfold dks; rw [List.map_map]; rfl
  rw [e]
  exact q l _ G _ g1 n1 n2 upd_same (int_each _)⟩
/-- sorted(l), l of different ints: the rising list -/
theorem n_sortI {xs out : List Int} (h : EvR K te σ Hb (pL pI) xs) (hnd : xs.Nodup) (hs : out.Pairwise (· < ·)) (hm : ∀ k, k ∈ out ↔ k ∈ xs) : EvN K (tCB (rSortedI K) (tCons te tNil)) σ Hb pI out := fun H1 e Q q => h H1 e _ fun v G H2 g ⟨a, vs, ev, hq, hE⟩ => by
  have evs := each_int hE
  subst evs
  refine ⟨a, xs, by rw [ev], ex_l g.in_ hq, fun out2 p h1 h2 hp => ?_⟩
  have nd2 : out2.Nodup := h1.nodup_iff.mpr hnd
  have hs2 : out2.Pairwise (· < ·) := by
    have := h2.and nd2
    exact this.imp fun {a b} ⟨x, y⟩ => by
      have y : a ≠ b := y
      omega
  have eo : out2 = out := rising_eq hs2 hs fun k => by rw [h1.mem_iff, hm k]
  subst eo
  have ⟨g1, n1, n2⟩ := g.own2 (o := .lst (out2.map V.int)) hp (fun _ z => nomatch z)
  exact q p _ G _ g1 n1 n2 upd_same (int_each _)
end
/-- len(d) -/
def rLenDi : List V → Hp → VK → Prop := fun xs H Q => ∃ p ks, xs = [.ref p] ∧ H p = some (.dK (dks ks)) ∧ Q (.int (ks.length : Nat)) H
theorem c_lenDi {X : Cx} : CallR X (.builtin "len") rLenDi := by
  intro pins s σ H xs us Q I r h
  obtain ⟨p, ks, e, hk, q⟩ := h
  subst e
  rw [Vals.ref1 r]
  refine d_len I (.inl hk) fun t s' I' => ⟨.int (ks.length : Nat), H, I', ⟨t, ?_⟩, q⟩
  unfold dks
  rw [List.length_map]
theorem e_lenD {K : PySem.W.Frag} {σ : L2.St} {Hb : Hp} {te : TE} {ks : List Int} (h : EvR K te σ Hb pD ks) : EvR K (tCB rLenDi (tCons te tNil)) σ Hb pNat ks.length := Ev.N fun H1 e Q q => h H1 e _ fun v G H2 g ⟨a, ev, ha⟩ => ⟨a, ks, by rw [ev], g.in_ _ _ ha, q H2 g.ex⟩
/-! the rising list of some members -/
def insR (k : Int) : List Int → List Int
  | [] => [k]
  | x :: xs => if k < x then k :: x :: xs else if k = x then x :: xs else x :: insR k xs
def rise (xs : List Int) : List Int := xs.foldr insR []
theorem mem_insR {k j : Int} : ∀ {xs : List Int}, j ∈ insR k xs ↔ j = k ∨ j ∈ xs
  | [] => by simp [insR]
  | x :: xs => by
    unfold insR
    split
    · simp
    · split
      · rename_i h
        subst h
        simp
      · rw [List.mem_cons, mem_insR, List.mem_cons]
        exact or_left_comm
theorem rising_insR {k : Int} : ∀ {xs : List Int}, xs.Pairwise (· < ·) → (insR k xs).Pairwise (· < ·)
  | [], _ => by simp [insR]
  | x :: xs, h => by
    obtain ⟨h1, h2⟩ := List.pairwise_cons.mp h
    unfold insR
    split
    · rename_i q
      refine List.pairwise_cons.mpr ⟨fun y hy => ?_, h⟩
      rcases List.mem_cons.mp hy with z | z
      · rw [z]; exact q
      · have := h1 y z; omega
    · split
      · exact h
      · rename_i q1 q2
        refine List.pairwise_cons.mpr ⟨fun y hy => ?_, rising_insR h2⟩
        rcases mem_insR.mp hy with z | z
        · omega
        · exact h1 y z
theorem mem_rise {j : Int} : ∀ {xs : List Int}, j ∈ rise xs ↔ j ∈ xs
  | [] => Iff.rfl
  | x :: xs => by
    show j ∈ insR x (rise xs) ↔ _
    rw [mem_insR, mem_rise, List.mem_cons]
theorem rise_rising : ∀ xs : List Int, (rise xs).Pairwise (· < ·)
  | [] => List.Pairwise.nil
  | _ :: xs => rising_insR (rise_rising xs)
theorem rise_nodup (xs : List Int) : (rise xs).Nodup := (rise_rising xs).imp fun {a b} h => by
  show a ≠ b
  omega
theorem foldE_mem {j : Int} : ∀ {xs ks : List Int}, j ∈ xs.foldl insE ks ↔ j ∈ ks ∨ j ∈ xs
  | [], ks => by simp
  | x :: xs, ks => by
    show j ∈ xs.foldl insE (insE ks x) ↔ _
    rw [foldE_mem, mem_insE, List.mem_cons]
    constructor
    · rintro ((h | h) | h)
      · exact .inr (.inl h)
      · exact .inl h
      · exact .inr (.inr h)
    · rintro (h | h | h)
      · exact .inl (.inr h)
      · exact .inl (.inl h)
      · exact .inr h
theorem foldE_nodup : ∀ {xs ks : List Int}, ks.Nodup → (xs.foldl insE ks).Nodup
  | [], _, h => h
  | x :: xs, _, h => foldE_nodup (xs := xs) (insE_nodup h)
end Ly

set_option Elab.async false
set_option linter.all false
set_option maxRecDepth 100000
/-! the rings, as the program counts them and as the law does -/
namespace HM
open Ly
def pa (ties : Ties) (t : Int) : Int := ((tie ties t.toNat).1 : Int)
def pb (ties : Ties) (t : Int) : Int := ((tie ties t.toNat).2 : Int)
def stepP (ties : Ties) (J : List Int) (t : Int) : List Int := if pa ties t ∈ J ∨ pb ties t ∈ J then insE (insE J (pa ties t)) (pb ties t) else J
def stepL (ties : Ties) (J : List Int) (t : Int) : List Int := if pa ties t ∈ J ∨ pb ties t ∈ J then rise (J ++ [pa ties t, pb ties t]) else J
def turns (step : List Int → Int → List Int) (sm : List Int) (n : Nat) (J : List Int) : List Int := iter (fun J => sm.foldl step J) n J
def some_ (order : List Nat) : List Int := rise (order.map fun (n : Nat) => (n : Int))
def tally (ties : Ties) (sm J : List Int) : Int := ((sm.filter fun t => decide (pa ties t ∈ J)).length : Nat) - (J.length : Nat) + 1
def ringsP (h : Nat) (ties : Ties) (house : Nat) (order : List Nat) : Int := tally ties (some_ order) (turns (stepP ties) (some_ order) h [(house : Int)])
def ringsL (h : Nat) (ties : Ties) (house : Nat) (order : List Nat) : Int := tally ties (some_ order) (turns (stepL ties) (some_ order) h [(house : Int)])
def Same (J L : List Int) : Prop := J.Nodup ∧ L.Nodup ∧ ∀ k, k ∈ J ↔ k ∈ L
theorem Same.step {ties : Ties} {J L : List Int} (s : Same J L) (t : Int) : Same (stepP ties J t) (stepL ties L t) := by
  obtain ⟨h1, h2, h3⟩ := s
  unfold stepP stepL
  by_cases q : pa ties t ∈ J ∨ pb ties t ∈ J
  · rw [if_pos q, if_pos (by rw [← h3, ← h3]; exact q)]
    refine ⟨insE_nodup (insE_nodup h1), rise_nodup _, fun k => ?_⟩
    rw [mem_insE, mem_insE, mem_rise, List.mem_append, ← h3]
    simp
    constructor
    · rintro (h | h | h)
      · exact .inr (.inr h)
      · exact .inr (.inl h)
      · exact .inl h
    · rintro (h | h | h)
      · exact .inr (.inr h)
      · exact .inr (.inl h)
      · exact .inl h
  · rw [if_neg q, if_neg (by rw [← h3, ← h3]; exact q)]
    exact ⟨h1, h2, h3⟩
theorem Same.fold {ties : Ties} : ∀ {sm J L : List Int}, Same J L → Same (sm.foldl (stepP ties) J) (sm.foldl (stepL ties) L)
  | [], _, _, s => s
  | t :: sm, _, _, s => Same.fold (sm := sm) (s.step t)
theorem Same.turns {ties : Ties} {sm : List Int} : ∀ {n : Nat} {J L : List Int}, Same J L → Same (turns (stepP ties) sm n J) (turns (stepL ties) sm n L)
  | 0, _, _, s => s
  | n + 1, _, _, s => Same.turns (n := n) s.fold
theorem rings_same (h : Nat) (ties : Ties) (house : Nat) (order : List Nat) : ringsP h ties house order = ringsL h ties house order := by
  have s : Same [(house : Int)] [(house : Int)] := ⟨by simp, by simp, fun _ => Iff.rfl⟩
  obtain ⟨h1, h2, h3⟩ := Same.turns (ties := ties) (sm := some_ order) (n := h) s
  unfold ringsP ringsL tally
  have e1 : (turns (stepP ties) (some_ order) h [(house : Int)]).length = (turns (stepL ties) (some_ order) h [(house : Int)]).length := (nodup_perm h1 h2 h3).length_eq
  have e2 : (some_ order).filter (fun t => decide (pa ties t ∈ turns (stepP ties) (some_ order) h [(house : Int)])) = (some_ order).filter (fun t => decide (pa ties t ∈ turns (stepL ties) (some_ order) h [(house : Int)])) := List.filter_congr fun t _ => by
    exact decide_eq_decide.mpr (h3 _)
  rw [e1, e2]
theorem iter_succ {α : Type} (F : α → α) : ∀ (n : Nat) (c : α), iter F (n + 1) c = F (iter F n c)
  | 0, _ => rfl
  | n + 1, c => iter_succ F n (F c)
end HM

set_option Elab.async false
set_option linter.all false
set_option maxRecDepth 100000
set_option maxHeartbeats 4000000
/-! draws from the box: it is written at each draw -/
namespace Ly
open PySem L2 Evl PyProof.Rows
def ExB (b : Addr) (H H' : Hp) : Prop := ∀ c o, c ≠ b → H c = some o → H' c = some o
def Bx (H : Hp) (b : Addr) : Prop := ∃ g r : Int, H b = some (.lst [.int g, .int r])
section
variable {b : Addr} {H H1 H2 H3 Hb G : Hp}
theorem ExB.of (e : Ex H1 H2) : ExB b H1 H2 := fun c o _ h => e c o h
theorem ExB.refl : ExB b H H := fun _ _ _ h => h
theorem ExB.trans (h : ExB b H1 H2) (k : ExB b H2 H3) : ExB b H1 H3 := fun c o hc q => k c o hc (h c o hc q)
theorem ExB.ex (h : ExB b H1 H2) (e : Ex Hb H1) (hb : Hb b = none) : Ex Hb H2 := fun c o q => h c o (ne_of_none q hb) (e c o q)
theorem ExB.upd {o : HO} : ExB b H (upd H b o) := fun c u hc q => by rw [upd_ne hc]; exact q
theorem Bx.ex (x : Bx H1 b) (e : Ex H1 H2) : Bx H2 b := let ⟨g, r, h⟩ := x; ⟨g, r, e _ _ h⟩
theorem Grow.box {ms : List Addr} (g : Grow ms Hb H1 G H2) (hm : b ∈ ms) (hG : G b = none) (k : ExB b H2 H3) : Grow ms Hb H1 G H3 := ⟨fun c o hc h => k c o (fun e => hc (e ▸ hm)) (g.run c o hc h), g.base, k.ex g.in_ hG, g.off⟩
theorem Bx.has (x : Bx H b) : H b ≠ none := let ⟨_, _, h⟩ := x; by rw [h]; exact fun z => nomatch z
end
/-- an int, by draws -/
def XI (te : TE) (σ : L2.St) (b : Addr) (Hb : Hp) (P : Int → Prop) : Prop := ∀ H1, Ex Hb H1 → Bx H1 b → ∀ Q : VK, (∀ n H2, P n → ExB b H1 H2 → Bx H2 b → Q (.int n) H2) → te σ H1 Q
def XT (t : TT) (σ : L2.St) (b : Addr) (Hb : Hp) (P : Bool → Prop) : Prop := ∀ H1, Ex Hb H1 → Bx H1 b → ∀ Q : Bool → Hp → Prop, (∀ c H2, P c → ExB b H1 H2 → Bx H2 b → Q c H2) → t σ H1 Q
def XA (t : TA) (σ : L2.St) (b : Addr) (Hb : Hp) (P : Int → Prop) (n : Nat) : Prop := ∀ H1, Ex Hb H1 → Bx H1 b → ∀ Q : List V → Hp → Prop, (∀ (ns : List Int) H2, ns.length = n → (∀ x ∈ ns, P x) → ExB b H1 H2 → Bx H2 b → Q (ns.map V.int) H2) → t σ H1 Q
section
variable {K : PySem.W.Frag} {σ : L2.St} {b : Addr} {H Hb H' : Hp} {te ta tb tc tl : TE} {t : TA} {tt : TT} {P P1 P2 P3 : Int → Prop} {D : Ends} {tu tw tz : TS}
theorem x_pure {n : Int} (h : EvR K te σ Hb pI n) (hp : P n) : XI te σ b Hb P := fun H1 e x Q q => h.int H1 e _ fun H2 e2 => q n H2 hp (ExB.of e2) (x.ex e2)
theorem x_to (h : XI te σ b Hb P1) (hp : ∀ n, P1 n → P n) : XI te σ b Hb P := fun H1 e x Q q => h H1 e x Q fun n H2 p => q n H2 (hp n p)
theorem x_op {C : Int → Int → Prop} {g : Int → Int → Int} (hb : Hb b = none) (h1 : XI ta σ b Hb P1) (h2 : XI tb σ b Hb P2) (hc : ∀ x y, P1 x → P2 y → C x y) (hp : ∀ x y, P1 x → P2 y → P (g x y)) : XI (tOp (rI C fun i j => .int (g i j)) ta tb) σ b Hb P := fun H1 e x Q q =>
  h1 H1 e x _ fun n H2 p e2 x2 => h2 H2 (e2.ex e hb) x2 _ fun m H3 p2 e3 x3 => ⟨n, m, rfl, rfl, hc n m p p2, q _ H3 (hp n m p p2) (e2.trans e3) x3⟩
theorem x_op0 {g : Int → Int → Int} (hb : Hb b = none) (h1 : XI ta σ b Hb P1) (h2 : XI tb σ b Hb P2) (hp : ∀ x y, P1 x → P2 y → P (g x y)) : XI (tOp (rI0 fun i j => .int (g i j)) ta tb) σ b Hb P := fun H1 e x Q q =>
  h1 H1 e x _ fun n H2 p e2 x2 => h2 H2 (e2.ex e hb) x2 _ fun m H3 p2 e3 x3 => ⟨n, m, rfl, rfl, q _ H3 (hp n m p p2) (e2.trans e3) x3⟩
theorem x_int1 (h1 : XI ta σ b Hb P) : XI (tCB rInt1 (tCons ta tNil)) σ b Hb P := fun H1 e x Q q => h1 H1 e x _ fun n H2 p e2 x2 => .inl ⟨n, rfl, q n H2 p e2 x2⟩
theorem x_if {B : Bool → Prop} (hb : Hb b = none) (ht : XT tt σ b Hb B) (h1 : B true → XI ta σ b Hb P) (h2 : B false → XI tb σ b Hb P) : XI (tIf tt ta tb) σ b Hb P := fun H1 e x Q q => ht H1 e x _ fun c H2 hB e2 x2 => by
  cases c with
  | true =>
    show ta σ H2 Q
    exact h1 hB H2 (e2.ex e hb) x2 Q fun n H3 p e3 x3 => q n H3 p (e2.trans e3) x3
  | false =>
    show tb σ H2 Q
    exact h2 hB H2 (e2.ex e hb) x2 Q fun n H3 p e3 x3 => q n H3 p (e2.trans e3) x3
theorem xt_cmp {g : Int → Int → Bool} (hb : Hb b = none) (h1 : XI ta σ b Hb P1) (h2 : XI tb σ b Hb P2) : XT (tTest (tOp (rI0 fun i j => .bl (g i j)) ta tb)) σ b Hb (fun _ => True) := fun H1 e x Q q =>
  h1 H1 e x _ fun n H2 p e2 x2 => h2 H2 (e2.ex e hb) x2 _ fun m H3 p2 e3 x3 => ⟨n, m, rfl, rfl, _, rfl, q _ H3 trivial (e2.trans e3) x3⟩
theorem xt_eq (hb : Hb b = none) (h1 : XI ta σ b Hb P1) (h2 : XI tb σ b Hb P2) : XT (tTest (tOp rEq ta tb)) σ b Hb (fun _ => True) := fun H1 e x Q q =>
  h1 H1 e x _ fun n H2 p e2 x2 => h2 H2 (e2.ex e hb) x2 _ fun m H3 p2 e3 x3 => ⟨rfl, _, rfl, q _ H3 trivial (e2.trans e3) x3⟩
theorem xt_pure {c : Bool} (h : EvT tt σ Hb c) : XT tt σ b Hb (fun d => d = c) := fun H1 e x Q q => h H1 e Q fun H2 e2 => q c H2 rfl (ExB.of e2) (x.ex e2)
theorem xa_nil : XA tNil σ b Hb P 0 := fun H1 e x Q q => q [] H1 rfl (by simp) ExB.refl x
theorem xa_cons {n : Nat} (hb : Hb b = none) (h : XI te σ b Hb P) (r : XA t σ b Hb P n) : XA (tCons te t) σ b Hb P (n + 1) := fun H1 e x Q q =>
  h H1 e x _ fun m H2 p e2 x2 => r H2 (e2.ex e hb) x2 _ fun ns H3 hl ha e3 x3 => q (m :: ns) H3 (by rw [List.length_cons, hl]) (fun y hy => (List.mem_cons.mp hy).elim (fun z => z ▸ p) (ha y)) (e2.trans e3) x3
/-! statements -/
theorem s_setX {i : Nat} (h : XI te σ b Hb P) (e : Ex Hb H) (x : Bx H b) (k : ∀ n H1, P n → ExB b H H1 → Bx H1 b → D.nx (σ.set i (some (.int n))) H1) : tAsg te (gName i) D σ H := h H e x _ k
theorem q_setX {i : Nat} (h : XI te σ b Hb P) (e : Ex Hb H) (x : Bx H b) (k : ∀ n H1, P n → ExB b H H1 → Bx H1 b → tz D (σ.set i (some (.int n))) H1) : tSeq (tAsg te (gName i)) tz D σ H := s_setX (D := { D with nx := tz D }) h e x k
theorem s_ifX {B : Bool → Prop} (h : XT tt σ b Hb B) (e : Ex Hb H) (x : Bx H b) (h1 : B true → ∀ H1, ExB b H H1 → Bx H1 b → tu D σ H1) (h2 : B false → ∀ H1, ExB b H H1 → Bx H1 b → tw D σ H1) : tIfS tt tu tw D σ H := h H e x _ fun c H1 hB e1 x1 => by
  cases c with
  | true => show tu D σ H1; exact h1 hB H1 e1 x1
  | false => show tw D σ H1; exact h2 hB H1 e1 x1
theorem q_ifX {B : Bool → Prop} (h : XT tt σ b Hb B) (e : Ex Hb H) (x : Bx H b) (h1 : B true → ∀ H1, ExB b H H1 → Bx H1 b → tu { D with nx := tz D } σ H1) (h2 : B false → ∀ H1, ExB b H H1 → Bx H1 b → tw { D with nx := tz D } σ H1) : tSeq (tIfS tt tu tw) tz D σ H := s_ifX (D := { D with nx := tz D }) h e x h1 h2
/-- l[j] = an int, l any tracked list -/
theorem q_setBox {l : Addr} {vs : List V} {i j : Nat} {n : Int} (e : Ex Hb H) (hl : H l = some (.lst vs)) (hv : σ[i]? = some (some (.ref l))) (h : EvR K te σ Hb pI n) (hi : EvR K tb σ Hb pI (j : Int)) (hj : j < vs.length)
    (k : ∀ H1, Ex H H1 → tz D σ (upd H1 l (.lst (vs.set j (.int n))))) : tSeq (tAsg te (gSub (tVar i) tb rSetL)) tz D σ H := h.int H e _ fun H1 e1 => ⟨.ref l, hv, hi.int H1 (e.trans e1) _ fun H3 e3 =>
  ⟨l, vs, (j : Int), j, rfl, rfl, e3 _ _ (e1 _ _ hl), ixN_nat hj, k H3 (e1.trans e3)⟩⟩
/-- [x, y], ours -/
theorem n_two {α : Type} {r : Rep α} {x y : α} (h : EvR K ta σ Hb r x) (h2 : EvR K tb σ Hb r y) : EvN K (tLst (tCons ta (tCons tb tNil))) σ Hb r [x, y] := fun H1 e Q q =>
  h H1 e _ fun v G H2 g hv => (h2.up g.base) H2 g.in_ _ fun u G2 H3 g2 hu => ⟨by show 2 ≤ sizeLine; decide, fun p hp =>
    let ⟨g1, n1, n2⟩ := (g.trans0 g2).own2 hp (fun _ z => nomatch z)
    q p _ G2 _ g1 n1 n2 upd_same (Each.cons (r.mono g2.base hv) (Each.cons hu Each.nil))⟩
end
end Ly

set_option Elab.async false
set_option linter.all false
set_option maxRecDepth 100000
set_option maxHeartbeats 4000000
namespace Ly
open PySem L2 Evl PyProof.Rows
/-- n turns with the numbers from lo on -/
def LoopR (lo : Int) (n j : Nat) (tu : TS) (D : Ends) (σ : L2.St) (H : Hp) : Prop := ∃ Pv : Nat → L2.St → Hp → Prop, Pv 0 σ H ∧ (∀ i σ' H', i < n → Pv i σ' H' → tu { D with nx := Pv (i + 1), ct := Pv (i + 1), bk := D.nx } (σ'.set j (some (.int (lo + (i : Nat))))) H') ∧ ∀ σ' H', Pv n σ' H' → D.nx σ' H'
section
variable {K : PySem.W.Frag} {σ : L2.St} {b : Addr} {H Hb H' : Hp} {te ta tb tc tl : TE} {D : Ends} {tu tw tz : TS} {j : Nat}
theorem loop_run {lo : Int} {n : Nat} (h : LoopR lo n j tu D σ H) : ∃ W : Nat → Nat → L2.St → Hp → Prop, (∃ m, W 0 m σ H) ∧ ∀ i m σ H, W i m σ H →
    ((Itr lo n).stop i H ∧ D.nx σ H) ∨ ((Itr lo n).go i H ∧ ∃ N : L2.St → Hp → Prop, (∀ σ' H', N σ' H' → ∃ m', m' < m ∧ W (i + 1) m' σ' H') ∧ ∀ x H', (Itr lo n).yld i H x H' → gName j x σ H' fun σ2 H2 => tu { D with nx := N, ct := N, bk := D.nx } σ2 H2) := by
  obtain ⟨Pv, h0, hs, hd⟩ := h
  refine ⟨fun i m σ' H' => m = n - i ∧ i ≤ n ∧ Pv i σ' H', ⟨n, rfl, Nat.zero_le _, h0⟩, ?_⟩
  rintro i m σ' H' ⟨rfl, hi, p⟩
  by_cases hlt : i < n
  · refine .inr ⟨hlt, Pv (i + 1), fun σ2 H3 p' => ⟨n - (i + 1), by omega, rfl, hlt, p'⟩, fun x H3 y => ?_⟩
    obtain ⟨e1, e2⟩ := y
    subst e1 e2
    exact hs i σ' _ hlt p
  · have e : i = n := by omega
    subst e
    exact .inl ⟨Nat.le_refl _, hd σ' H' p⟩
theorem s_for1X {P : Int → Prop} (h : XI te σ b Hb P) (e : Ex Hb H) (x : Bx H b) (hp : ∀ n, P n → -100000 ≤ n ∧ n ≤ 100000) (k : ∀ n H1, P n → ExB b H H1 → Bx H1 b → LoopR 0 n.toNat j tu D σ H1) : tFor (iRng1 (tCons te tNil)) (gName j) tu D σ H :=
  h H e x _ fun n H1 p e1 x1 => ⟨n, rfl, by have := hp n p; omega, by have := hp n p; omega, loop_run (k n H1 p e1 x1)⟩
theorem s_for1R {n : Nat} (h : EvR K te σ Hb pI (n : Int)) (e : Ex Hb H) (hn : n ≤ 100000) (k : ∀ H1, Ex H H1 → LoopR 0 n j tu D σ H1) : tFor (iRng1 (tCons te tNil)) (gName j) tu D σ H :=
  h.int H e _ fun H1 e1 => ⟨n, rfl, by omega, by omega, by
    have en : ((n : Nat) : Int).toNat = n := by simp
    rw [en]
    exact loop_run (k H1 e1)⟩
theorem s_for2R {m n : Nat} (h1 : EvR K ta σ Hb pI (m : Int)) (h2 : EvR K tb σ Hb pI (n : Int)) (e : Ex Hb H) (hm : m ≤ 100000) (hn : n ≤ 100000) (k : ∀ H1, Ex H H1 → LoopR m (n - m) j tu D σ H1) : tFor (iRng2 (tCons ta (tCons tb tNil))) (gName j) tu D σ H :=
  h1.int H e _ fun H1 e1 => h2.int H1 (e.trans e1) _ fun H2 e2 => ⟨m, n, rfl, ⟨by omega, by omega, by omega, by omega⟩, by
    have en : ((n : Int) - (m : Int)).toNat = n - m := by omega
    rw [en]
    exact loop_run (k H2 (e1.trans e2))⟩
/-- list(range(n)) -/
theorem n_listRg {n : Nat} (h : EvR K te σ Hb pI (n : Int)) (hn : n ≤ 100000) : EvN K (tLstRg (tRg1 te)) σ Hb pNat (List.range n) := fun H1 e Q q => h.int H1 e _ fun H2 e2 => ⟨(n : Int), rfl, ⟨by decide, by decide, by omega, by omega, by omega⟩, fun p hp => by
  have ⟨g1, n1, n2⟩ := ((Grow.refl (ms := []) e).then_ e2).own2 (o := .lst (rgV 0 (n : Int))) hp (fun _ z => nomatch z)
  refine q p _ Hb _ g1 n1 n2 upd_same ?_
  unfold rgV
  have en : ((n : Int) - 0).toNat = n := by omega
  rw [en]
  have := Each.map (K := K) (H := Hb) (r := pNat) (f := fun i : Nat => V.int (0 + (i : Nat))) (g := id) (ys := List.range n) fun y _ => by
    show V.int (0 + (y : Nat)) = .int (y : Nat)
    rw [Int.zero_add]
  rw [List.map_id] at this
  exact this⟩
/-- a comprehension of draws over range(n) -/
theorem x_lcX {P R : Int → Prop} {v : Nat} (hb : Hb b = none) (h : XI te σ b Hb P) (hp : ∀ n, P n → -100000 ≤ n ∧ n ≤ 100000) (hw : ∀ w, wipe ((wipe σ [v]).set v (some w)) [v] = wipe σ [v]) (he : ∀ w, XI ta ((wipe σ [v]).set v (some w)) b Hb R)
    (e : Ex Hb H) (x : Bx H b) {Q : VK} (q : ∀ n D (ns : List Int) H1, P n → ns.length = n.toNat → (∀ m ∈ ns, R m) → Grow [b] Hb H Hb H1 → Hb D = none → H D = none → H1 D = some (.lst (ns.map V.int)) → Bx H1 b → Q (.ref D) H1) : tLc (iRng1 (tCons te tNil)) (gName v) tYes ta [v] σ H Q :=
  h H e x _ fun n H1 p e1 x1 => ⟨n, rfl, by have := hp n p; omega, by have := hp n p; omega, fun Dl hD => by
    have hbn : Dl ≠ b := fun z => x1.has (z ▸ hD)
    have g1 : Grow [b] Hb H Hb H1 := (Grow.refl e).box (by simp) hb e1
    have hDH : H Dl = none := by
      cases z : H Dl with
      | none => rfl
      | some o => rw [e1 _ _ hbn z] at hD; cases hD
    have hbs : ∀ c ∈ [b], H c ≠ none → H1 c ≠ none := fun c hc _ => by
      rw [List.mem_singleton.mp hc]
      exact x1.has
    have hDb : Hb Dl = none := fresh_back (e1.ex e hb) hD
    refine ⟨fun i m H' => m = n.toNat - i ∧ i ≤ n.toNat ∧ ∃ ns : List Int, ns.length = i ∧ (∀ m ∈ ns, R m) ∧ Grow [b] Hb H Hb H' ∧ H' Dl = some (.lst (ns.map V.int)) ∧ Bx H' b, ⟨n.toNat, rfl, Nat.zero_le _, [], rfl, by simp, g1.then_ (Ex.new hD), upd_same, x1.ex (Ex.new hD)⟩, ?_⟩
    rintro i m H' ⟨rfl, hi, ns, hl, ha, gr, hDl, x'⟩
    by_cases hlt : i < n.toNat
    · refine .inr ⟨hlt, fun H' => i + 1 ≤ n.toNat ∧ ∃ ns : List Int, ns.length = i + 1 ∧ (∀ m ∈ ns, R m) ∧ Grow [b] Hb H Hb H' ∧ H' Dl = some (.lst (ns.map V.int)) ∧ Bx H' b, fun H2 ⟨l, r⟩ => ⟨n.toNat - (i + 1), by omega, rfl, l, r⟩, fun y H2 yy => ?_⟩
      obtain ⟨e3, e4⟩ := yy
      subst e3 e4
      refine ⟨hw _, ?_⟩
      show ta _ _ _
      refine he _ _ gr.in_ x' _ fun m H3 hm e3 x3 => ?_
      refine ⟨ns.map V.int, e3 _ _ hbn hDl, sz_lt (by rw [List.length_map, hl]; have := hp n p; omega), hlt, ns ++ [m], by simp [hl], fun y hy => ?_, ((gr.box (by simp) hb e3).mut (.inl hDH) hDb), by rw [upd_same, List.map_append]; rfl, ?_⟩
      · rcases List.mem_append.mp hy with hy | hy
        · exact ha y hy
        · rw [List.mem_singleton.mp hy]
          exact hm
      · obtain ⟨g, r, hx⟩ := x3
        exact ⟨g, r, by rw [upd_ne (Ne.symm hbn)]; exact hx⟩
    · have ei : i = n.toNat := by omega
      exact .inl ⟨by show n.toNat ≤ i; omega, q n Dl ns H' p (by omega) ha gr hDb hDH hDl x'⟩⟩
/-- two names, two new lists -/
theorem q_parNN {α β : Type} {r : Rep α} {r2 : Rep β} {xs : List α} {ys : List β} {i j : Nat} (h : EvN K ta σ Hb r xs) (h2 : ∀ G, Ex Hb G → EvN K tb σ G r2 ys) (e : Ex Hb H)
    (k : ∀ a vs G1 H1 a2 vs2 G2 H2, Grow [] Hb H G1 H1 → G1 a = none → H a = none → H1 a = some (.lst vs) → Each K G1 r vs xs → Grow [] G1 H1 G2 H2 → G2 a2 = none → H1 a2 = none → H2 a2 = some (.lst vs2) → Each K G2 r2 vs2 ys → tz D ((σ.set i (some (.ref a))).set j (some (.ref a2))) H2) :
    tSeq (tPar i j (tCons ta (tCons tb tNil))) tz D σ H :=
  h H e (fun x H1 => tCons tb tNil σ H1 fun xs H2 => ∃ v w, x :: xs = [v, w] ∧ tz D ((σ.set i (some v)).set j (some w)) H2) fun a vs G1 H1 g1 n1 n2 h1 hE =>
    h2 G1 g1.base H1 g1.in_ (fun y H2 => ∃ v w, .ref a :: [y] = [v, w] ∧ tz D ((σ.set i (some v)).set j (some w)) H2) fun a2 vs2 G2 H2 g2 m1 m2 h3 hE2 => ⟨_, _, rfl, k a vs G1 H1 a2 vs2 G2 H2 g1 n1 n2 h1 hE g2 m1 m2 h3 hE2⟩
end
end Ly

set_option Elab.async false
set_option linter.all false
set_option maxRecDepth 100000
set_option maxHeartbeats 4000000
namespace Ly
open PySem L2 Evl PyProof.Rows
/-- a new pair of ints, by draws -/
def XP (te : TE) (σ : L2.St) (b : Addr) (Hb : Hp) (P : Int → Int → Prop) : Prop := ∀ H1, Ex Hb H1 → Bx H1 b → ∀ Q : VK, (∀ n m p H2, P n m → ExB b H1 H2 → Bx H2 b → H2 p = none → Q (.ref p) (upd H2 p (.tup [.int n, .int m]))) → te σ H1 Q
section
variable {K : PySem.W.Frag} {σ : L2.St} {b : Addr} {H Hb H' G : Hp} {te ta tb tc tl : TE} {D : Ends} {tu tw tz : TS} {tt : TT} {j : Nat} {P1 P2 : Int → Prop} {P : Int → Int → Prop}
theorem x_pair (hb : Hb b = none) (h1 : XI ta σ b Hb P1) (h2 : XI tb σ b Hb P2) (hp : ∀ x y, P1 x → P2 y → P x y) : XP (tTup (tCons ta (tCons tb tNil))) σ b Hb P := fun H1 e x Q q =>
  h1 H1 e x _ fun n H2 p1 e2 x2 => h2 H2 (e2.ex e hb) x2 _ fun m H3 p2 e3 x3 => ⟨by show 2 ≤ sizeLine; decide, fun p hpn => q n m p H3 (hp n m p1 p2) (e2.trans e3) x3 hpn⟩
theorem x_ifP {B : Bool → Prop} (hb : Hb b = none) (ht : XT tt σ b Hb B) (h1 : B true → XP ta σ b Hb P) (h2 : B false → XP tb σ b Hb P) : XP (tIf tt ta tb) σ b Hb P := fun H1 e x Q q => ht H1 e x _ fun c H2 hB e2 x2 => by
  cases c with
  | true =>
    show ta σ H2 Q
    exact h1 hB H2 (e2.ex e hb) x2 Q fun n m p H3 pp e3 x3 => q n m p H3 pp (e2.trans e3) x3
  | false =>
    show tb σ H2 Q
    exact h2 hB H2 (e2.ex e hb) x2 Q fun n m p H3 pp e3 x3 => q n m p H3 pp (e2.trans e3) x3
/-- l.append(a drawn pair), l ours: what is known grows by the pair -/
theorem s_appXP {t : Addr} {vs : List V} {ts : List (Nat × Nat)} {i : Nat} {R : Nat × Nat → Prop} {H0 : Hp} (g : Grow [b] Hb H0 G H) (x0 : Bx H0 b) (hb : Hb b = none) (x : Bx H b) (ht0 : H0 t = none) (hG : G t = none) (ht : H t = some (.lst vs)) (hE : Each K G (pP pNat pNat) vs ts) (hv : σ[i]? = some (some (.ref t))) (h : XP te σ b G P)
    (hR : ∀ n m, P n m → 0 ≤ n ∧ 0 ≤ m ∧ R (n.toNat, m.toNat)) (hz : vs.length < 100000)
    (k : ∀ (p : Nat × Nat) v G2 H2, R p → Grow [b] Hb H0 G2 H2 → Ex G G2 → Bx H2 b → G2 t = none → H2 t = some (.lst (vs ++ [v])) → Each K G2 (pP pNat pNat) (vs ++ [v]) (ts ++ [p]) → D.nx σ H2) : tDrop (tBM K "list" rAppend (tVar i) (tCons te tNil)) D σ H := ⟨.ref t, hv, .inl ⟨rfl, _, SqL.of ht⟩, h H g.in_ x _ fun n m p H2 pp e2 x2 hp => by
  have htb : t ≠ b := fun z => x0.has (z ▸ ht0)
  have hpt : p ≠ t := fun z => by
    have := e2 t _ htb ht
    rw [z, this] at hp
    cases hp
  have hpb : p ≠ b := fun z => x2.has (z ▸ hp)
  obtain ⟨h0, h1, r⟩ := hR n m pp
  have hGb : G b = none := g.off b x0.has hb
  have g2 := g.box (by simp) hGb e2
  have hGp : G p = none := fresh_back g2.in_ hp
  have g3 := g2.new2 (o := .tup [.int n, .int m]) hp (fun c hc _ => by rw [List.mem_singleton.mp hc]; exact x2.has)
  have hGt : upd G p (.tup [.int n, .int m]) t = none := by rw [upd_ne (Ne.symm hpt)]; exact hG
  have g4 := g3.mut (a := t) (o := .lst (vs ++ [.ref p])) (.inl ht0) hGt
  have x4 : Bx (upd (upd H2 p (.tup [.int n, .int m])) t (.lst (vs ++ [.ref p]))) b := by
    obtain ⟨q1, q2, q3⟩ := x2
    exact ⟨q1, q2, by rw [upd_ne (Ne.symm htb), upd_ne (Ne.symm hpb)]; exact q3⟩
  have hpair : (pP pNat pNat).is K (upd G p (.tup [.int n, .int m])) (.ref p) (n.toNat, m.toNat) := ⟨p, .int n, .int m, rfl, upd_same, by show V.int n = .int ((n.toNat : Nat) : Int); rw [Int.toNat_of_nonneg h0], by show V.int m = .int ((m.toNat : Nat) : Int); rw [Int.toNat_of_nonneg h1]⟩
  refine ⟨t, vs, .ref p, rfl, rfl, by rw [upd_ne (Ne.symm hpt)]; exact e2 t _ htb ht, sz_lt hz, ?_⟩
  exact k (n.toNat, m.toNat) (.ref p) _ _ r g4 (Ex.new hGp) x4 hGt upd_same ((hE.mono (Ex.new hGp)).snoc hpair)⟩
/-- a loop, once what feeds it is there -/
theorem feed_loop {g : TG} {J : It} {n : Nat} {Pu : Nat → List (Nat × V) → Prop} (F : Feed g J n G Pu) (Pv : Nat → L2.St → Hp → Prop) (h0 : Pv 0 σ H) (hb : ∀ i σ' H', Pv i σ' H' → Ex G H')
    (hup : ∀ i σ' H' H2, Pv i σ' H' → Ex H' H2 → Pv i σ' H2) (hs : ∀ i us σ' H', i < n → Pu i us → Pv i σ' H' → tu { D with nx := Pv (i + 1), ct := Pv (i + 1), bk := D.nx } (sets us σ') H') (hd : ∀ σ' H', Pv n σ' H' → D.nx σ' H') :
    ∃ W : Nat → Nat → L2.St → Hp → Prop, (∃ m, W 0 m σ H) ∧ ∀ i m σ H, W i m σ H →
      (J.stop i H ∧ D.nx σ H) ∨ (J.go i H ∧ ∃ N : L2.St → Hp → Prop, (∀ σ' H', N σ' H' → ∃ m', m' < m ∧ W (i + 1) m' σ' H') ∧ ∀ x H', J.yld i H x H' → g x σ H' fun σ2 H2 => tu { D with nx := N, ct := N, bk := D.nx } σ2 H2) := by
  refine ⟨fun i m σ' H' => m = n - i ∧ i ≤ n ∧ Pv i σ' H', ⟨n, rfl, Nat.zero_le _, h0⟩, ?_⟩
  rintro i m σ' H' ⟨rfl, hi, p⟩
  have eb := hb i σ' H' p
  by_cases hlt : i < n
  · refine .inr ⟨F.go i H' hlt eb, Pv (i + 1), fun σ2 H3 p' => ⟨n - (i + 1), by omega, rfl, hlt, p'⟩, fun x H3 y => ?_⟩
    obtain ⟨e3, us, hu, hq⟩ := F.yld i H' x H3 hlt eb y
    exact hq σ' _ (hs i us σ' H3 hlt hu (hup i σ' H' H3 p e3))
  · have e : i = n := by omega
    subst e
    exact .inl ⟨F.stop H' eb, hd σ' H' p⟩
/-- a list of pairs, unpacked -/
theorem feed_pairs {a : Addr} {vs : List V} {ps : List (Nat × Nat)} {i j : Nat} (h : SqL K G a vs) (hE : Each K G (pP pNat pNat) vs ps) : Feed (gTup K 2 (gCons (gName i) (gCons (gName j) gNil))) (Itl K a) ps.length G (fun k us => ∃ p : Nat × Nat, ps[k]? = some p ∧ us = [(i, .int (p.1 : Int)), (j, .int (p.2 : Int))]) where
  go := fun k H hk e => ⟨vs, vs[k]'(by rw [hE.1]; exact hk), ex_l e h, by simp [hE.1, hk]⟩
  stop := fun H e => ⟨vs, ex_l e h, Nat.le_of_eq hE.1⟩
  yld := fun k H x H2 hk e y => by
    obtain ⟨e2, y⟩ := y
    subst e2
    have hx := y vs (ex_l e h)
    obtain ⟨p, hp, a2, va, vb, ex, ha2, h3, h4⟩ := hE.got hx
    have h3 : va = .int (p.1 : Int) := h3
    have h4 : vb = .int (p.2 : Int) := h4
    subst ex h3 h4
    exact ⟨Ex.refl _, _, ⟨p, hp, rfl⟩, fun σ Q q => ⟨a2, _, rfl, SqT.of (e _ _ ha2), rfl, _, _, rfl, _, _, rfl, rfl, q⟩⟩
theorem e_intN {n : Nat} : EvR K (tC (.int (n : Int))) σ Hb pNat n := Ev.N ev_c
end
end Ly

set_option Elab.async false
set_option linter.all false
set_option maxRecDepth 100000
set_option maxHeartbeats 4000000
namespace Ly
open PySem L2 Evl PyProof.Rows
section
variable {K : PySem.W.Frag} {σ : L2.St} {Hb H : Hp} {te ta tb tc td tf : TE} {D : Ends} {tz : TS}
theorem Grow.wr {ms : List Addr} {H1 G H2 H3 : Hp} {l : Addr} (g : Grow ms Hb H1 G H2) (h : H1 l = none) (hG : G l = none) (k : ExB l H2 H3) : Grow ms Hb H1 G H3 := ⟨fun c o hc q => k c o (ne_of_none q h) (g.run c o hc q), g.base, k.ex g.in_ hG, g.off⟩
/-- l[a], l[b], l[c] = (n, n, n), l ours -/
theorem s_set3 {l : Addr} {vs : List V} {n : Int} {i a b c : Nat} (e : Ex Hb H) (hl : H l = some (.lst vs)) (hb : Hb l = none) (hv : σ[i]? = some (some (.ref l))) (h : EvR K te σ Hb pI n) (ha : EvR K ta σ Hb pI (a : Int)) (hb2 : EvR K tb σ Hb pI (b : Int)) (hc : EvR K tc σ Hb pI (c : Int))
    (la : a < vs.length) (lb : b < vs.length) (lc : c < vs.length) (k : ∀ H3, ExB l H H3 → H3 l = some (.lst (((vs.set a (.int n)).set b (.int n)).set c (.int n))) → D.nx σ H3) :
    tAsg (tTup (tCons te (tCons te (tCons te tNil)))) (gTup K 3 (gCons (gSub (tVar i) ta rSetL) (gCons (gSub (tVar i) tb rSetL) (gCons (gSub (tVar i) tc rSetL) gNil)))) D σ H :=
  h.int H e _ fun H1 e1 => h.int H1 (e.trans e1) _ fun H2 e2 => h.int H2 ((e.trans e1).trans e2) _ fun H3 e3 => ⟨by show 3 ≤ sizeLine; decide, fun p hp => by
    have e13 := (e1.trans e2).trans e3
    have hpl : p ≠ l := fun z => by
      rw [z, e13 _ _ hl] at hp
      cases hp
    have eB : Ex Hb (upd H3 p (.tup [.int n, .int n, .int n])) := (e.trans e13).trans (Ex.new hp)
    refine ⟨p, [.int n, .int n, .int n], rfl, SqT.of upd_same, rfl, .int n, [.int n, .int n], rfl, .ref l, hv, ha.int _ eB _ fun H4 e4 => ?_⟩
    have h4 : H4 l = some (.lst vs) := e4 _ _ (by rw [upd_ne (Ne.symm hpl)]; exact e13 _ _ hl)
    have k4 : ExB l H H4 := ExB.of ((e13.trans (Ex.new hp)).trans e4)
    refine ⟨l, vs, (a : Int), a, rfl, rfl, h4, ixN_nat la, .int n, [.int n], rfl, .ref l, hv, hb2.int _ ((k4.trans ExB.upd).ex e hb) _ fun H5 e5 => ?_⟩
    have h5 := e5 _ _ (upd_same (H := H4) (a := l) (o := .lst (vs.set a (.int n))))
    have k5 := (k4.trans (ExB.upd (o := .lst (vs.set a (.int n))))).trans (ExB.of e5)
    refine ⟨l, _, (b : Int), b, rfl, rfl, h5, ixN_nat (by rw [List.length_set]; exact lb), .int n, [], rfl, .ref l, hv, hc.int _ ((k5.trans ExB.upd).ex e hb) _ fun H6 e6 => ?_⟩
    have h6 := e6 _ _ (upd_same (H := H5) (a := l) (o := .lst ((vs.set a (.int n)).set b (.int n))))
    have k6 := (k5.trans (ExB.upd (o := .lst ((vs.set a (.int n)).set b (.int n))))).trans (ExB.of e6)
    exact ⟨l, _, (c : Int), c, rfl, rfl, h6, ixN_nat (by rw [List.length_set, List.length_set]; exact lc), rfl, k _ (k6.trans ExB.upd) upd_same⟩⟩
def A4 (K : PySem.W.Frag) {α β γ δ : Type} (ra : Rep α) (rb : Rep β) (rc : Rep γ) (rd : Rep δ) (x : α) (y : β) (z : γ) (u : δ) : List V → Hp → Prop := fun vs H => ∃ v1 v2 v3 v4, vs = [v1, v2, v3, v4] ∧ ra.is K H v1 x ∧ rb.is K H v2 y ∧ rc.is K H v3 z ∧ rd.is K H v4 u
def A5 (K : PySem.W.Frag) {α β γ δ ε : Type} (ra : Rep α) (rb : Rep β) (rc : Rep γ) (rd : Rep δ) (re : Rep ε) (x : α) (y : β) (z : γ) (u : δ) (t : ε) : List V → Hp → Prop := fun vs H => ∃ v1 v2 v3 v4 v5, vs = [v1, v2, v3, v4, v5] ∧ ra.is K H v1 x ∧ rb.is K H v2 y ∧ rc.is K H v3 z ∧ rd.is K H v4 u ∧ re.is K H v5 t
theorem a_cons {α : Type} {ra : Rep α} {x : α} {t : TA} {P : List V → Hp → Prop} (h : EvR K te σ Hb ra x) (r : EvA K t σ Hb P) (hP : ∀ vs G G2, Ex G G2 → P vs G → P vs G2) : EvA K (tCons te t) σ Hb (fun vs H => ∃ v us, vs = v :: us ∧ ra.is K H v x ∧ P us H) := fun H1 e Q q => h H1 e _ fun v G H2 g hv => by
  refine r H2 (g.base.trans g.in_) _ fun us G2 H3 g2 hu => ?_
  have eG : Ex G (un G G2) := un_l
  have e3 : Ex G H3 := g.in_.trans g2.ex
  refine q (v :: us) (un G G2) H3 ⟨fun c o hc h => g2.ex c o (g.ex c o h), g.base.trans eG, un_in e3 g2.in_, fun c h1 h2 => ?_⟩ ⟨v, us, rfl, ra.mono eG hv, hP us G2 _ (un_r e3 g2.in_) hu⟩
  have n1 := g.off c h1 h2
  unfold un
  rw [n1]
  refine g2.off c ?_ h2
  cases z : H1 c with
  | none => exact absurd z h1
  | some o => rw [g.ex c o z]; exact fun z => nomatch z
theorem a_4 {α β γ δ : Type} {ra : Rep α} {rb : Rep β} {rc : Rep γ} {rd : Rep δ} {x : α} {y : β} {z : γ} {u : δ} (h1 : EvR K ta σ Hb ra x) (h2 : EvR K tb σ Hb rb y) (h3 : EvR K tc σ Hb rc z) (h4 : EvR K td σ Hb rd u) : EvA K (tCons ta (tCons tb (tCons tc (tCons td tNil)))) σ Hb (A4 K ra rb rc rd x y z u) := fun H1 e Q q =>
  a_cons h1 (a_3 h2 h3 h4) (fun vs G G2 eG ⟨v, u, w, e, p1, p2, p3⟩ => ⟨v, u, w, e, rb.mono eG p1, rc.mono eG p2, rd.mono eG p3⟩) H1 e Q fun vs G H2 g ⟨v, us, ev, p, v2, v3, v4, eu, p2, p3, p4⟩ => q vs G H2 g ⟨v, v2, v3, v4, by rw [ev, eu], p, p2, p3, p4⟩
theorem a_5 {α β γ δ ε : Type} {ra : Rep α} {rb : Rep β} {rc : Rep γ} {rd : Rep δ} {re : Rep ε} {x : α} {y : β} {z : γ} {u : δ} {t : ε} (h1 : EvR K ta σ Hb ra x) (h2 : EvR K tb σ Hb rb y) (h3 : EvR K tc σ Hb rc z) (h4 : EvR K td σ Hb rd u) (h5 : EvR K tf σ Hb re t) : EvA K (tCons ta (tCons tb (tCons tc (tCons td (tCons tf tNil))))) σ Hb (A5 K ra rb rc rd re x y z u t) := fun H1 e Q q =>
  a_cons h1 (a_4 h2 h3 h4 h5) (fun vs G G2 eG ⟨v, u, w, w2, e, p1, p2, p3, p4⟩ => ⟨v, u, w, w2, e, rb.mono eG p1, rc.mono eG p2, rd.mono eG p3, re.mono eG p4⟩) H1 e Q fun vs G H2 g ⟨v, us, ev, p, v2, v3, v4, v5, eu, p2, p3, p4, p5⟩ => q vs G H2 g ⟨v, v2, v3, v4, v5, by rw [ev, eu], p, p2, p3, p4, p5⟩
end
end Ly

set_option Elab.async false
set_option linter.all false
set_option maxRecDepth 100000
set_option maxHeartbeats 4000000
/-! instances made; calls with keywords -/
namespace Ly
open PySem L2 Evl PyProof.Rows
def MakeC (P : Program) (w : World) (K : PySem.W.Frag) (mg : Str → Option Value) (base : Heap) (x : Str) (C : Addr) (k : Nat) (ps : List Str) (sp : Sp) : Prop :=
  ∃ f fd, Mk K C f ∧ FnOk P w K mg base CX0 k f fd ps sp ∧ mg x = some (.ref C) ∧ Binds K fd ps []
def KwCal (P : Program) (w : World) (K : PySem.W.Frag) (mg : Str → Option Value) (base : Heap) (x : Str) (k : Nat) (ps : List Str) (n : Nat) (ks : List Str) (gV : List V → List V → List V) (sp : Sp) : Prop :=
  ∃ f fd g, FnOk P w K mg base CX0 k f fd ps sp ∧ mg x = some (.ref f) ∧ PySem.W.keepIn K (.ref f) = true ∧ KBn K fd ps n ks g gV
section
variable {X : Cx} {x : Str} {p pos : Pos} {e : Expr} {es : List Expr} {kws : List Keyword} {t tk : TA} {k j n : Nat} {ps ks : List Str} {sp : Sp} {C : Addr} {gV : List V → List V → List V}
theorem pe_mkc (c : MakeC X.prog X.w X.K X.mg X.base x C k ps sp) (hr : Room j X.A) (ha : PA X (e :: es) t) (hk : k + 1 ≤ j := by decide) (hg : Gl X x := by rfl) (hdb : (x == ("__debug__" : Str)) = false := by decide)
    (he : starEach (e :: es) X.env = (false, eval e X.env) :: starEach es X.env := by rfl) (hpl : (backTo pos (starEach es X.env)).any (·.1) = false := by rfl) : PE X (.Call (.Name x p) (e :: es) [] pos) (tMake C sp [] E0 t) := by
  obtain ⟨f, fd, M, F, hm, hb⟩ := c
  exact pe_make M F (hr.mono hk) hg hm hb .nil pass0 ha hdb he hpl
theorem pe_kwc (c : KwCal X.prog X.w X.K X.mg X.base x k ps n ks gV sp) (hr : Room j X.A) (ha : PA X (e :: es) t) (hkw : PK X kws tk) (hk : k ≤ j := by decide) (hg : Gl X x := by rfl) (hall : (backToKw pos (keywordEach kws X.env)).all (·.1.isSome) = true := by rfl) (hks : (backToKw pos (keywordEach kws X.env)).filterMap (·.1) = ks := by rfl)
    (hdb : (x == ("__debug__" : Str)) = false := by decide) (he : starEach (e :: es) X.env = (false, eval e X.env) :: starEach es X.env := by rfl)
    (hpl : ((backTo pos (starEach (e :: es) X.env)).any (·.1) || (backToKw pos (keywordEach kws X.env)).any (·.1.isNone)) = false := by rfl) : PE X (.Call (.Name x p) (e :: es) kws pos) (tCallN n ks.length sp gV E0 t tk) := by
  obtain ⟨f, fd, g, F, hm, hk', hb⟩ := c
  exact pe_callN F (hr.mono hk) hg hm hk' hb pass0 ha hkw hall hks hdb he hpl
theorem pe_kwc0 (c : KwCal X.prog X.w X.K X.mg X.base x k ps 0 ks gV sp) (hr : Room j X.A) (hkw : PK X kws tk) (hk : k ≤ j := by decide) (hg : Gl X x := by rfl) (hall : (backToKw pos (keywordEach kws X.env)).all (·.1.isSome) = true := by rfl) (hks : (backToKw pos (keywordEach kws X.env)).filterMap (·.1) = ks := by rfl)
    (hdb : (x == ("__debug__" : Str)) = false := by decide) (hpl : ((backTo pos (starEach [] X.env)).any (·.1) || (backToKw pos (keywordEach kws X.env)).any (·.1.isNone)) = false := by rfl) : PE X (.Call (.Name x p) [] kws pos) (tCallN 0 ks.length sp gV E0 tNil tk) := by
  obtain ⟨f, fd, g, F, hm, hk', hb⟩ := c
  refine ⟨fun pins s σ H Q I h => ?_⟩
  refine wpAny_Call_Name_kw (ld_glob I hg hm ?_ hdb)
  refine PySem.W.callWith_KW0 (h₀ := X.base) I.ok.mod.kin hk' hall ?_ hpl
  refine thn (hkw.run pos pins s σ H _ I h) fun ws s2 ⟨zs, H2, I2, rz, l1, l2, q2⟩ => ⟨I2.kIn, ?_⟩
  rw [hks]
  exact run_fnN (us := []) (vs := []) F (hr.mono hk) hb pass0 I2 .nil rz rfl l2 q2
end
section
variable {K : PySem.W.Frag} {σ : L2.St} {Hb H : Hp} {ta tb tc td tf : TE} {α β γ δ ε ζ : Type} {ra : Rep α} {rb : Rep β} {rc : Rep γ} {rd : Rep δ} {re : Rep ε} {r : Rep ζ} {x : α} {y : β} {z : γ} {u : δ} {t : ε} {o : ζ} {sp : Sp}
theorem e_kw41 (hs : ∀ vs H Q E, PromR K (A5 K ra rb rc rd re x y z u t) r o vs H Q E → sp vs H Q E) (h1 : EvR K ta σ Hb ra x) (h2 : EvR K tb σ Hb rb y) (h3 : EvR K tc σ Hb rc z) (h4 : EvR K td σ Hb rd u) (h5 : EvR K tf σ Hb re t) :
    EvR K (tCallN 4 1 sp (fun us zs => us ++ zs) E0 (tCons ta (tCons tb (tCons tc (tCons td tNil)))) (tCons tf tNil)) σ Hb r o := fun H1 e Q q =>
  a_5 h1 h2 h3 h4 h5 H1 e (fun vs H2 => (vs.take 4).length = 4 ∧ (vs.drop 4).length = 1 ∧ sp (vs.take 4 ++ vs.drop 4) H2 Q E0) fun vs G H2 g ⟨v1, v2, v3, v4, v5, ev, p⟩ => by
    subst ev
    exact ⟨rfl, rfl, hs _ H2 Q E0 ⟨G, g.in_, ⟨v1, v2, v3, v4, v5, rfl, p⟩, fun v G2 H3 g2 hv => q v G2 H3 (g.trans0 g2) hv⟩⟩
theorem e_kw05 (hs : ∀ vs H Q E, PromR K (A5 K ra rb rc rd re x y z u t) r o vs H Q E → sp vs H Q E) (h1 : EvR K ta σ Hb ra x) (h2 : EvR K tb σ Hb rb y) (h3 : EvR K tc σ Hb rc z) (h4 : EvR K td σ Hb rd u) (h5 : EvR K tf σ Hb re t) :
    EvR K (tCallN 0 5 sp (fun us zs => us ++ zs.reverse) E0 tNil (tCons tf (tCons td (tCons tc (tCons tb (tCons ta tNil)))))) σ Hb r o := fun H1 e Q q =>
  a_5 h5 h4 h3 h2 h1 H1 e (fun vs H2 => ([] : List V).length = 0 ∧ vs.length = 5 ∧ sp ([] ++ vs.reverse) H2 Q E0) fun vs G H2 g ⟨v5, v4, v3, v2, v1, ev, p5, p4, p3, p2, p1⟩ => by
    subst ev
    exact ⟨rfl, rfl, hs _ H2 Q E0 ⟨G, g.in_, ⟨v1, v2, v3, v4, v5, rfl, p1, p2, p3, p4, p5⟩, fun v G2 H3 g2 hv => q v G2 H3 (g.trans0 g2) hv⟩⟩
end
end Ly

set_option Elab.async false
set_option linter.all false
set_option maxRecDepth 100000
set_option maxHeartbeats 4000000
namespace K62
open PySem L2 Evl Ly
def top (i : Nat) : Stmt := PySem.Challenge.pw_houseslessties_k62_whole_far_rounds_of_m.main.body.getD i (.Pass ⟨0, 0, 0, 0⟩)
abbrev s_is_integer : Stmt := top 11
theorem sc_is_integer : FnScope ["value"] ["value"] (defScope s_is_integer) := ⟨rfl, rfl, rfl, by decide +kernel, rfl, by decide +kernel, by decide +kernel⟩
abbrev s_is_number : Stmt := top 12
theorem sc_is_number : FnScope ["value"] ["value"] (defScope s_is_number) := ⟨rfl, rfl, rfl, by decide +kernel, rfl, by decide +kernel, by decide +kernel⟩
abbrev s_is_below : Stmt := top 13
theorem sc_is_below : FnScope ["value", "most"] ["value", "most"] (defScope s_is_below) := ⟨rfl, rfl, rfl, by decide +kernel, rfl, by decide +kernel, by decide +kernel⟩
abbrev s_is_within : Stmt := top 14
theorem sc_is_within : FnScope ["value", "least", "most"] ["value", "least", "most"] (defScope s_is_within) := ⟨rfl, rfl, rfl, by decide +kernel, rfl, by decide +kernel, by decide +kernel⟩
abbrev s_is_sequence : Stmt := top 15
theorem sc_is_sequence : FnScope ["value"] ["value"] (defScope s_is_sequence) := ⟨rfl, rfl, rfl, by decide +kernel, rfl, by decide +kernel, by decide +kernel⟩
abbrev s_is_pair : Stmt := top 17
theorem sc_is_pair : FnScope ["value", "houses", "house"] ["value", "houses"] (defScope s_is_pair) := ⟨rfl, rfl, rfl, by decide +kernel, rfl, by decide +kernel, by decide +kernel⟩
abbrev s_check_ties : Stmt := top 18
theorem sc_check_ties : FnScope ["houses", "ties", "at", "tie"] ["houses", "ties"] (defScope s_check_ties) := ⟨rfl, rfl, rfl, by decide +kernel, rfl, by decide +kernel, by decide +kernel⟩
abbrev s_Web_init : Stmt := inClass (top 19) 0
theorem sc_Web_init : FnScope ["self", "houses", "ties"] ["self", "houses", "ties"] (defScope s_Web_init) := ⟨rfl, rfl, rfl, by decide +kernel, rfl, by decide +kernel, by decide +kernel⟩
abbrev s_need_house : Stmt := top 20
theorem sc_need_house : FnScope ["web", "house"] ["web", "house"] (defScope s_need_house) := ⟨rfl, rfl, rfl, by decide +kernel, rfl, by decide +kernel, by decide +kernel⟩
abbrev s_check_meetings : Stmt := top 25
theorem sc_check_meetings : FnScope ["web", "value", "at", "tie"] ["web", "value"] (defScope s_check_meetings) := ⟨rfl, rfl, rfl, by decide +kernel, rfl, by decide +kernel, by decide +kernel⟩
abbrev s_begun : Stmt := top 26
theorem sc_begun : FnScope ["web", "house", "one"] ["web", "house"] (defScope s_begun) := ⟨rfl, rfl, rfl, by decide +kernel, rfl, by decide +kernel, by decide +kernel⟩
abbrev s_met : Stmt := top 27
theorem sc_met : FnScope ["web", "counts", "meetings", "found", "tie", "here", "there", "both"] ["web", "counts", "meetings"] (defScope s_met) := ⟨rfl, rfl, rfl, by decide +kernel, rfl, by decide +kernel, by decide +kernel⟩
abbrev s_split : Stmt := top 28
theorem sc_split : FnScope ["web", "counts"] ["web", "counts"] (defScope s_split) := ⟨rfl, rfl, rfl, by decide +kernel, rfl, by decide +kernel, by decide +kernel⟩
abbrev s_round_table : Stmt := top 29
theorem sc_round_table : FnScope ["web", "order", "size", "images", "at", "one", "image"] ["web", "order"] (defScope s_round_table) := ⟨rfl, rfl, rfl, by decide +kernel, rfl, by decide +kernel, by decide +kernel⟩
abbrev s_reduced : Stmt := top 30
theorem sc_reduced : FnScope ["number", "modulus"] ["number", "modulus"] (defScope s_reduced) := ⟨rfl, rfl, rfl, by decide +kernel, rfl, by decide +kernel, by decide +kernel⟩
abbrev s_applied : Stmt := top 31
theorem sc_applied : FnScope ["table", "counts", "modulus", "row", "part", "count"] ["table", "counts", "modulus"] (defScope s_applied) := ⟨rfl, rfl, rfl, by decide +kernel, rfl, by decide +kernel, by decide +kernel⟩
abbrev s_doubled : Stmt := top 32
theorem sc_doubled : FnScope ["table", "modulus", "columns", "found", "row", "column", "part", "more"] ["table", "modulus"] (defScope s_doubled) := ⟨rfl, rfl, rfl, by decide +kernel, rfl, by decide +kernel, by decide +kernel⟩
abbrev s_round_counts : Stmt := top 33
theorem sc_round_counts : FnScope ["web", "house", "order", "rounds", "modulus", "told", "counts", "table", "count"] ["web", "house", "order", "rounds", "modulus"] (defScope s_round_counts) := ⟨rfl, rfl, rfl, by decide +kernel, rfl, by decide +kernel, by decide +kernel⟩
abbrev s_rings_met : Stmt := top 34
theorem sc_rings_met : FnScope ["web", "house", "order", "ties", "joined", "turn", "tie", "here", "there"] ["web", "house", "order"] (defScope s_rings_met) := ⟨rfl, rfl, rfl, by decide +kernel, rfl, by decide +kernel, by decide +kernel⟩
abbrev s_pace_of : Stmt := top 35
theorem sc_pace_of : FnScope ["web", "house", "order", "told", "counts", "seen", "growths", "later", "growth", "index", "gains", "more", "less", "at"] ["web", "house", "order"] (defScope s_pace_of) := ⟨rfl, rfl, rfl, by decide +kernel, rfl, by decide +kernel, by decide +kernel⟩
abbrev s_law_box : Stmt := top 37
theorem sc_law_box : FnScope ["script", "k", "cell", "great"] ["script", "k"] (defScope s_law_box) := ⟨rfl, rfl, rfl, by decide +kernel, rfl, by decide +kernel, by decide +kernel⟩
abbrev s_law_take : Stmt := top 38
theorem sc_law_take : FnScope ["box", "many", "digit", "raw"] ["box", "many"] (defScope s_law_take) := ⟨rfl, rfl, rfl, by decide +kernel, rfl, by decide +kernel, by decide +kernel⟩
abbrev s_law_pick : Stmt := top 39
theorem sc_law_pick : FnScope ["box", "some"] ["box", "some"] (defScope s_law_pick) := ⟨rfl, rfl, rfl, by decide +kernel, rfl, by decide +kernel, by decide +kernel⟩
abbrev s_law_same : Stmt := top 40
theorem sc_law_same : FnScope ["told", "due", "is_kind", "one", "other"] ["told", "due"] (defScope s_law_same) := ⟨rfl, rfl, rfl, by decide +kernel, rfl, by decide +kernel, by decide +kernel⟩
abbrev s_law_mixed : Stmt := top 41
theorem sc_law_mixed : FnScope ["box", "some", "found", "left", "turn"] ["box", "some"] (defScope s_law_mixed) := ⟨rfl, rfl, rfl, by decide +kernel, rfl, by decide +kernel, by decide +kernel⟩
abbrev s_law_web : Stmt := top 42
theorem sc_law_web : FnScope ["box", "houses", "most", "ties", "house", "turn", "one", "names", "found", "other"] ["box"] (defScope s_law_web) := ⟨rfl, rfl, rfl, by decide +kernel, rfl, by decide +kernel, by decide +kernel⟩
abbrev s_law_met : Stmt := top 43
theorem sc_law_met : FnScope ["web", "counts", "meetings", "modulus", "houses", "ties", "found", "tie", "here", "there", "both"] ["web", "counts", "meetings", "modulus"] (defScope s_law_met) := ⟨rfl, rfl, rfl, by decide +kernel, rfl, by decide +kernel, by decide +kernel⟩
abbrev s_law_table : Stmt := top 44
theorem sc_law_table : FnScope ["web", "order", "modulus", "size", "columns", "one", "at", "column"] ["web", "order", "modulus"] (defScope s_law_table) := ⟨rfl, rfl, rfl, by decide +kernel, rfl, by decide +kernel, by decide +kernel⟩
abbrev s_law_led : Stmt := top 45
theorem sc_law_led : FnScope ["table", "counts", "modulus", "row", "part", "count"] ["table", "counts", "modulus"] (defScope s_law_led) := ⟨rfl, rfl, rfl, by decide +kernel, rfl, by decide +kernel, by decide +kernel⟩
abbrev s_law_far : Stmt := top 46
theorem sc_law_far : FnScope ["web", "house", "order", "rounds", "modulus", "table", "counts", "turn", "columns", "at", "column", "row"] ["web", "house", "order", "rounds", "modulus"] (defScope s_law_far) := ⟨rfl, rfl, rfl, by decide +kernel, rfl, by decide +kernel, by decide +kernel⟩
abbrev s_law_split : Stmt := top 47
theorem sc_law_split : FnScope ["web", "counts"] ["web", "counts"] (defScope s_law_split) := ⟨rfl, rfl, rfl, by decide +kernel, rfl, by decide +kernel, by decide +kernel⟩
abbrev s_law_rings : Stmt := top 48
theorem sc_law_rings : FnScope ["web", "house", "order", "some", "joined", "turn", "tie"] ["web", "house", "order"] (defScope s_law_rings) := ⟨rfl, rfl, rfl, by decide +kernel, rfl, by decide +kernel, by decide +kernel⟩
abbrev s_law_right : Stmt := top 49
theorem sc_law_right : FnScope ["box", "web", "house", "order", "is_far", "made", "modulus", "rounds", "due", "counts", "near", "turn", "at"] ["box", "web", "house", "order", "is_far"] (defScope s_law_right) := ⟨rfl, rfl, rfl, by decide +kernel, rfl, by decide +kernel, by decide +kernel⟩
abbrev s_law : Stmt := top 50
theorem sc_law : FnScope ["script", "k", "box", "web", "house", "many", "order", "turn"] ["script"] (defScope s_law) := ⟨rfl, rfl, rfl, by decide +kernel, rfl, by decide +kernel, by decide +kernel⟩

structure Blt (mg : Str → Option Value) : Prop where
  abs : mg "abs" = none
  all : mg "all" = none
  bool : mg "bool" = none
  enumerate : mg "enumerate" = none
  int : mg "int" = none
  isinstance : mg "isinstance" = none
  len : mg "len" = none
  list : mg "list" = none
  max : mg "max" = none
  min : mg "min" = none
  range : mg "range" = none
  set : mg "set" = none
  sorted : mg "sorted" = none
  str : mg "str" = none
  sum : mg "sum" = none
  tuple : mg "tuple" = none
  zip : mg "zip" = none
  FAR_ROUNDS : Const mg "FAR_ROUNDS" (.int 1000000000000000000)
  MOST_HOUSES : Const mg "MOST_HOUSES" (.int 12)
  MOST_MODULUS : Const mg "MOST_MODULUS" (.int 1000000)
  MOST_ROUNDS : Const mg "MOST_ROUNDS" (.int 400)
  MOST_ROW : Const mg "MOST_ROW" (.int 10000)
  MOST_TIES : Const mg "MOST_TIES" (.int 20)
/-! ### what stands, one rule a shape -/
local macro_rules | `(tactic| walk_at "up") => `(tactic| first
  | assumption
  | exact Ex.refl _
  | (refine Ex.trans ?_ (Grow.base (by assumption)); walk_at "up")
  | (refine Ex.trans ?_ (Grow.in_ (by assumption)); walk_at "up")
  | (refine Ex.trans ?_ (Grow.ex (by assumption)); walk_at "up")
  | (refine Ex.trans ?_ (by assumption); walk_at "up"))
section
variable {P : Program} {w : World} {K : PySem.W.Frag} {mg : Str → Option Value} {base : Heap}
def spIntB (K : PySem.W.Frag) (g : Int → Bool) : Sp := fun vs H Q E => ∃ n : Int, PromR K (A1 K pI n) pB (g n) vs H Q E
theorem ok_is_integer {f : Addr} {fd : FuncData} (B : Blt mg) (F : Fun K "is_integer" "is_integer" s_is_integer f fd) : FnOk P w K mg base CX0 1 f fd ["value"] (spIntB K fun _ => true) := by
  refine F.ok sc_is_integer (fun vs H Q E h => ?_) (fun cdv A outer s H vs Q E hr h => ?_)
  · obtain ⟨n, Hb, _, ⟨v, rfl, _⟩, _⟩ := h
    rfl
  · obtain ⟨n, Hb, e, ⟨v, rfl, rfl⟩, k⟩ := h
    have nd := sc_is_integer.nd
    refine ⟨_, (pss_one (ps_ret (pe_and (pe_callB (k_isi K) (by rfl) B.isinstance (by decide +kernel) (pa_cons (pv 0) (pa_cons (pe_bltn (v := .ty "int") (u := .type "int") (by rfl) B.int (by decide +kernel) rfl) pa_nil))) (pe_one (pe_not (pe_callB (k_isi K) (by rfl) B.isinstance (by decide +kernel) (pa_cons (pv 0) (pa_cons (pe_bltn (v := .ty "bool") (u := .type "bool") (by rfl) B.bool (by decide +kernel) rfl) pa_nil)))))))), ?_⟩
    refine s_retR (K := K) (Hb := Hb) (r := pB) (x := true && !false) ?_ e fun v G H1 g hv => k v G H1 g hv
    exact e_and (e_isi (by decide +kernel) ty_I (e_varI rfl)) fun _ => e_not (e_isi (by decide +kernel) ty_I (e_varI rfl))
theorem ok_is_number {f : Addr} {fd : FuncData} (B : Blt mg) (C_is_integer : Callee P w K mg base "is_integer" 1 ["value"] (spIntB K fun _ => true)) (F : Fun K "is_number" "is_number" s_is_number f fd) : FnOk P w K mg base CX0 2 f fd ["value"] (spIntB K fun n => decide (0 ≤ n)) := by
  refine F.ok sc_is_number (fun vs H Q E h => ?_) (fun cdv A outer s H vs Q E hr h => ?_)
  · obtain ⟨n, Hb, _, ⟨v, rfl, _⟩, _⟩ := h
    rfl
  · obtain ⟨n, Hb, e, ⟨v, rfl, rfl⟩, k⟩ := h
    have nd := sc_is_number.nd
    refine ⟨_, (pss_one (ps_ret (pe_and (pe_cal C_is_integer hr (pa_cons (pv 0) pa_nil)) (pe_one (pe_cmpR op_ge (pv 0) pe_int (nomark _)))))), ?_⟩
    refine s_retR (K := K) (Hb := Hb) (r := pB) (x := true && decide (0 ≤ n)) ?_ e fun v G H1 g hv => k v G H1 g hv
    exact e_and (e_call (fun _ _ _ _ h => ⟨n, h⟩) (a_1 (e_varI rfl))) fun _ => e_ge (e_varI rfl) e_int
def spBelow (K : PySem.W.Frag) : Sp := fun vs H Q E => ∃ n m : Int, PromR K (A2 K pI pI n m) pB (decide (0 ≤ n) && decide (n < m)) vs H Q E
theorem ok_is_below {f : Addr} {fd : FuncData} (B : Blt mg) (C_is_number : Callee P w K mg base "is_number" 2 ["value"] (spIntB K fun n => decide (0 ≤ n))) (F : Fun K "is_below" "is_below" s_is_below f fd) : FnOk P w K mg base CX0 3 f fd ["value", "most"] (spBelow K) := by
  refine F.ok sc_is_below (fun vs H Q E h => ?_) (fun cdv A outer s H vs Q E hr h => ?_)
  · obtain ⟨n, m, Hb, _, ⟨v, u, rfl, _⟩, _⟩ := h
    rfl
  · obtain ⟨n, m, Hb, e, ⟨v, u, rfl, rfl, rfl⟩, k⟩ := h
    have nd := sc_is_below.nd
    refine ⟨_, (pss_one (ps_ret (pe_and (pe_cal C_is_number hr (pa_cons (pv 0) pa_nil)) (pe_one (pe_cmpR op_lt (pv 0) (pv 1) (nomark _)))))), ?_⟩
    refine s_retR (K := K) (Hb := Hb) ?_ e fun v G H1 g hv => k v G H1 g hv
    exact e_and (e_call (fun _ _ _ _ h => ⟨n, h⟩) (a_1 (e_varI rfl))) fun _ => e_lt (e_varI rfl) (e_varI rfl)
end
end K62

set_option Elab.async false
set_option linter.all false
set_option maxRecDepth 100000
set_option maxHeartbeats 4000000
namespace K62
open PySem L2 Evl Ly
section
variable {P : Program} {w : World} {K : PySem.W.Frag} {mg : Str → Option Value} {base : Heap}
def spWithin (K : PySem.W.Frag) : Sp := fun vs H Q E => ∃ n a b : Int, PromR K (A3 K pI pI pI n a b) pB (decide (a ≤ n) && decide (n ≤ b)) vs H Q E
theorem ok_is_within {f : Addr} {fd : FuncData} (B : Blt mg) (C_is_integer : Callee P w K mg base "is_integer" 1 ["value"] (spIntB K fun _ => true)) (F : Fun K "is_within" "is_within" s_is_within f fd) : FnOk P w K mg base CX0 2 f fd ["value", "least", "most"] (spWithin K) := by
  refine F.ok sc_is_within (fun vs H Q E h => ?_) (fun cdv A outer s H vs Q E hr h => ?_)
  · obtain ⟨n, a, b, Hb, _, ⟨v, u, z, rfl, _⟩, _⟩ := h
    rfl
  · obtain ⟨n, a, b, Hb, e, ⟨v, u, z, rfl, rfl, rfl, rfl⟩, k⟩ := h
    have nd := sc_is_within.nd
    refine ⟨_, (pss_one (ps_ret (pe_and (pe_cal C_is_integer hr (pa_cons (pv 0) pa_nil)) (pe_one (pe_chain op_le op_le (pv 1) (pv 0) (pv 2)))))), ?_⟩
    refine s_retR (K := K) (Hb := Hb) (r := pB) (x := true && (decide (a ≤ n) && decide (n ≤ b))) ?_ e fun v G H1 g hv => k v G H1 g hv
    exact e_and (e_call (fun _ _ _ _ h => ⟨n, h⟩) (a_1 (e_varI rfl))) fun _ => e_chain (g1 := fun i j => decide (i ≤ j)) (g2 := fun i j => decide (i ≤ j)) (e_varI rfl) (e_varI rfl) (e_varI rfl)
/-- of a list or of a tuple: True -/
def spSeq (K : PySem.W.Frag) : Sp := fun vs H Q E => ∃ (α : Type) (r : Rep α) (x : α) (S : String), (S = "list" ∨ S = "tuple") ∧ IsTy K r x S ∧ PromR K (A1 K r x) pB true vs H Q E
theorem ok_is_sequence {f : Addr} {fd : FuncData} (B : Blt mg) (F : Fun K "is_sequence" "is_sequence" s_is_sequence f fd) : FnOk P w K mg base CX0 1 f fd ["value"] (spSeq K) := by
  refine F.ok sc_is_sequence (fun vs H Q E h => ?_) (fun cdv A outer s H vs Q E hr h => ?_)
  · obtain ⟨α, r, x, S, _, _, Hb, _, ⟨v, rfl, _⟩, _⟩ := h
    rfl
  · obtain ⟨α, r, x, S, hS, ty, Hb, e, ⟨v, rfl, hx⟩, k⟩ := h
    have nd := sc_is_sequence.nd
    refine ⟨_, (pss_one (ps_ret (pe_callB (k_isiT K) (by rfl) B.isinstance (by decide +kernel) (pa_cons (pv 0) (pa_cons (pe_tup (pa_cons (pe_bltn (v := .ty "list") (u := .type "list") (by rfl) B.list (by decide +kernel) rfl) (pa_cons (pe_bltn (v := .ty "tuple") (u := .type "tuple") (by rfl) B.tuple (by decide +kernel) rfl) pa_nil))) pa_nil))))), ?_⟩
    refine s_retR (K := K) (Hb := Hb) (r := pB) (x := true) ?_ e fun v G H1 g hv => k v G H1 g hv
    rcases hS with rfl | rfl
    · exact e_isiT (b := true) (c := false) (by decide +kernel) (by decide +kernel) ty (e_var rfl hx)
    · exact e_isiT (b := false) (c := true) (by decide +kernel) (by decide +kernel) ty (e_var rfl hx)
def spPair (K : PySem.W.Frag) : Sp := fun vs H Q E => ∃ (h : Nat) (p : Nat × Nat), p.1 < h ∧ p.2 < h ∧ p.1 ≠ p.2 ∧ PromR K (A2 K (pP pNat pNat) pNat p h) pB true vs H Q E
theorem ok_is_pair {f : Addr} {fd : FuncData} (B : Blt mg) (C_is_sequence : Callee P w K mg base "is_sequence" 1 ["value"] (spSeq K)) (C_is_below : Callee P w K mg base "is_below" 3 ["value", "most"] (spBelow K)) (F : Fun K "is_pair" "is_pair" s_is_pair f fd) : FnOk P w K mg base CX0 4 f fd ["value", "houses"] (spPair K) := by
  refine F.ok sc_is_pair (fun vs H Q E h => ?_) (fun cdv A outer s H vs Q E hr h => ?_)
  · obtain ⟨n, p, _, _, _, Hb, _, ⟨v, u, rfl, _⟩, _⟩ := h
    rfl
  · obtain ⟨n, p, h1, h2, h3, Hb, e, ⟨v, u, rfl, hp, rfl⟩, k⟩ := h
    have nd := sc_is_pair.nd
    refine ⟨_, (pss_cons (ps_if (PW.pt (pw_or (pt_not (pt_val (pe_cal C_is_sequence hr (pa_cons (pv 0) pa_nil)))) (pw_or (pt_cmpR op_ne (pe_callB (k_len K) (by rfl) B.len (by decide +kernel) (pa_cons (pv 0) pa_nil)) pe_int (nomark _)) (pw_or1 (pt_not (pt_val (pe_callB (k_all K) (by rfl) B.all (by decide +kernel) (pa_cons (pe_lc (own := [("house", 2)]) rfl nd (pk_seq K (pv 0)) (blkOk_by (own := [("house", 2)]) (N := ["value", "houses", "house"]) (sc := defScope s_is_pair) (by decide +kernel)) (fun _ _ _ _ _ => (pg_name (i := 2) nd rfl (Or.inl rfl))) (fun _ _ _ _ _ => pts_nil) (fun _ _ _ _ _ => (pe_cal C_is_below hr (pa_cons (pv 2) (pa_cons (pv 1) pa_nil))))) pa_nil)))))))) (pss_one (ps_ret pe_bl)) pss_nil)
      (pss_one (ps_ret (pe_cmpR op_ne (pe_ix (k_ix K) (pv 0) pe_int (fun _ _ => rfl)) (pe_ix (k_ix K) (pv 0) pe_int (fun _ _ => rfl)) (nomark _))))), ?_⟩
    have hv : EvR K (tVar 0) [some v, some (.int (n : Int)), none] Hb (pP pNat pNat) p := e_var rfl hp
    refine q_no' (b := (!true || (!decide ((2 : Int) = 2) || !true))) ?_ rfl e fun H1 e1 => ?_
    · refine et_or (et_not (t_B (e_call (fun _ _ _ _ h => ⟨_, _, p, "tuple", .inr rfl, ty_P, h⟩) (a_1 hv)))) fun _ => et_or (t_test (e_ne (e_lenP hv).nat e_int)) fun _ => et_not (t_B (K := K) ?_)
      have hl : EvR K (tVar 0) [some v, some (.int (n : Int)), none] Hb (pQ pNat) [p.1, p.2] := hv.to fun v G _ ⟨a, va, vb, ev, hs, h4, h5⟩ => ⟨a, [va, vb], ev, .inr (SqT.of hs), .cons h4 (.cons h5 .nil)⟩
      have hc := n_lcM (K := K) (rb := pB) (fun i => decide (((([p.1, p.2]).getD i 0 : Nat) : Int) ≥ 0) && decide (((([p.1, p.2]).getD i 0 : Nat) : Int) < n)) (g_seq (j := 2) hl) (by show 2 < 100000; decide) (vs := [2]) (te := tCall (spBelow K) [] E0 (tCons (tVar 2) (tCons (tVar 1) tNil)))
        (fun G i us ⟨v, x, _, _, e⟩ => by rw [e]; rfl) (fun G0 G i us eb e0 hi ⟨v, x, hx, hv, eu⟩ => by
          have hv : v = .int (x : Int) := hv
          subst hv eu
          have ex : ([p.1, p.2]).getD i 0 = x := by rw [List.getD_eq_getElem?_getD, hx]; rfl
          rw [ex]
          exact e_call (fun _ _ _ _ h => ⟨_, _, h⟩) (a_2 (e_varI rfl) (e_varI rfl)))
      refine (e_all hc.R.L).eq ?_
      have d1 : decide (((p.1 : Nat) : Int) ≥ 0) = true := decide_eq_true (by omega)
      have d2 : decide (((p.1 : Nat) : Int) < n) = true := decide_eq_true (by omega)
      have d3 : decide (((p.2 : Nat) : Int) ≥ 0) = true := decide_eq_true (by omega)
      have d4 : decide (((p.2 : Nat) : Int) < n) = true := decide_eq_true (by omega)
      show ((decide (((p.1 : Nat) : Int) ≥ 0) && decide (((p.1 : Nat) : Int) < n)) && ((decide (((p.2 : Nat) : Int) ≥ 0) && decide (((p.2 : Nat) : Int) < n)) && true)) = true
      rw [d1, d2, d3, d4]
      rfl
    · refine s_retR (K := K) (Hb := Hb) ?_ (e.trans e1) fun v G H2 g hv => k v G H2 (((Grow.refl e).then_ e1).trans0 g) hv
      have d : (!decide (((p.1 : Nat) : Int) = p.2)) = true := by rw [decide_eq_false (by omega)]; rfl
      exact (e_ne (e_fst hv).nat (e_snd hv).nat).eq d
def spNeedHouse (K : PySem.W.Frag) (C : Addr) : Sp := fun vs H Q E => ∃ (w : WebD) (h : Nat), h < w.1 ∧ PromR K (A2 K (pWeb C) pNat w h) pNat h vs H Q E
theorem ok_need_house {f C : Addr} {fd : FuncData} (B : Blt mg) (W : WebC K C) (C_is_below : Callee P w K mg base "is_below" 3 ["value", "most"] (spBelow K)) (F : Fun K "need_house" "need_house" s_need_house f fd) : FnOk P w K mg base CX0 4 f fd ["web", "house"] (spNeedHouse K C) := by
  refine F.ok sc_need_house (fun vs H Q E h => ?_) (fun cdv A outer s H vs Q E hr h => ?_)
  · obtain ⟨n, p, _, Hb, _, ⟨v, u, rfl, _⟩, _⟩ := h
    rfl
  · obtain ⟨w, h, hh, Hb, e, ⟨v, u, rfl, hw, rfl⟩, k⟩ := h
    have nd := sc_need_house.nd
    refine ⟨_, (pss_cons (ps_if (pt_not (pt_val (pe_cal C_is_below hr (pa_cons (pv 1) (pa_cons (pk_fld K (pv 0)) pa_nil))))) (pss_one ps_never) pss_nil)
      (pss_one (ps_ret (pv 1)))), ?_⟩
    have hv : EvR K (tVar 0) [some v, some (.int (h : Int))] Hb (pWeb C) w := e_var rfl hw
    refine q_no' (b := !(decide ((0 : Int) ≤ h) && decide ((h : Int) < w.1))) ?_ (by rw [decide_eq_true (by omega), decide_eq_true (by omega)]; rfl) e fun H1 e1 => ?_
    · exact et_not (t_B (e_call (fun _ _ _ _ h => ⟨_, _, h⟩) (a_2 (e_varI rfl) (e_houses W hv).nat)))
    · exact s_retR (K := K) (Hb := Hb) (e_varN rfl) (e.trans e1) fun v G H2 g hv => k v G H2 (((Grow.refl e).then_ e1).trans0 g) hv
end
end K62

set_option Elab.async false
set_option linter.all false
set_option maxRecDepth 100000
set_option maxHeartbeats 4000000
namespace K62
open PySem L2 Evl Ly
theorem Ex.own {G H : Hp} {a : Addr} {o : HO} (e : Ex G H) (h : H a = some o) : Ex (upd G a o) H := fun c u q => by
  by_cases z : c = a
  · subst z; rw [upd_same] at q; rw [h]; exact q
  · rw [upd_ne z] at q; exact e c u q
theorem q_setAt {K : PySem.W.Frag} {σ : L2.St} {Hb H : Hp} {te tb : TE} {α : Type} {r : Rep α} {x : α} {D : Ends} {tz : TS} {l : Addr} {vs : List V} {i j : Nat} (e : Ex Hb H) (hl : H l = some (.lst vs)) (hb : Hb l = none) (hv : σ[i]? = some (some (.ref l))) (h : EvR K te σ Hb r x) (hi : EvR K tb σ Hb pI (j : Int)) (hj : j < vs.length)
    (k : ∀ v G H1, Grow [] Hb H G H1 → G l = none → H1 l = some (.lst vs) → r.is K G v x → tz D σ (upd H1 l (.lst (vs.set j v)))) : tSeq (tAsg te (gSub (tVar i) tb rSetL)) tz D σ H := s_setAt (D := { D with nx := tz D }) e hl hb hv h hi hj k
theorem q_setAtI {K : PySem.W.Frag} {σ : L2.St} {Hb H : Hp} {te tb : TE} {n : Int} {D : Ends} {tz : TS} {l : Addr} {vs : List V} {i j : Nat} (e : Ex Hb H) (hl : H l = some (.lst vs)) (hb : Hb l = none) (hv : σ[i]? = some (some (.ref l))) (h : EvR K te σ Hb pI n) (hi : EvR K tb σ Hb pI (j : Int)) (hj : j < vs.length)
    (k : ∀ H1, Ex H H1 → tz D σ (upd H1 l (.lst (vs.set j (.int n))))) : tSeq (tAsg te (gSub (tVar i) tb rSetL)) tz D σ H := q_setAt e hl hb hv h hi hj fun v G H1 g _ _ hv => by
  have hv : v = .int n := hv
  subst hv
  exact k H1 g.ex
theorem s_setAtI {K : PySem.W.Frag} {σ : L2.St} {Hb H : Hp} {te tb : TE} {n : Int} {D : Ends} {l : Addr} {vs : List V} {i j : Nat} (e : Ex Hb H) (hl : H l = some (.lst vs)) (hb : Hb l = none) (hv : σ[i]? = some (some (.ref l))) (h : EvR K te σ Hb pI n) (hi : EvR K tb σ Hb pI (j : Int)) (hj : j < vs.length)
    (k : ∀ H1, Ex H H1 → D.nx σ (upd H1 l (.lst (vs.set j (.int n))))) : tAsg te (gSub (tVar i) tb rSetL) D σ H := s_setAt e hl hb hv h hi hj fun v G H1 g _ _ hv => by
  have hv : v = .int n := hv
  subst hv
  exact k H1 g.ex
section
variable {P : Program} {w : World} {K : PySem.W.Frag} {mg : Str → Option Value} {base : Heap}
theorem getD_some {α : Type} {xs : List α} {i : Nat} {d : α} (h : i < xs.length) : xs[i]? = some (xs.getD i d) := by
  rw [List.getD_eq_getElem?_getD, List.getElem?_eq_getElem h]; rfl
theorem tie_at {ties : HM.Ties} {t : Nat} (h : t < ties.length) : ties[t]? = some (HM.tie ties t) := getD_some h
theorem take_succ {α : Type} {xs : List α} {i : Nat} {x : α} (h : xs[i]? = some x) : xs.take (i + 1) = xs.take i ++ [x] := by rw [List.take_add_one, h]; rfl
theorem met_snoc (h : Nat) (ties : HM.Ties) (o : List Nat) (t : Nat) (c : List Int) : HM.met h ties (o ++ [t]) c = HM.mstep h ties (HM.met h ties o c) t := by unfold HM.met; rw [List.foldl_append]; rfl
def spMet (K : PySem.W.Frag) (C : Addr) : Sp := fun vs H Q E => ∃ (w : WebD) (counts : List Int) (order : List Nat), HM.OkW w.1 w.2 ∧ HM.OkO w.2 order ∧ counts.length = w.1 + w.2.length ∧ PromN K (A3 K (pWeb C) (pL pI) (pT pNat) w counts order) pI (HM.met w.1 w.2 order counts) vs H Q E
theorem ok_met {f C : Addr} {fd : FuncData} (B : Blt mg) (W : WebC K C) (F : Fun K "met" "met" s_met f fd) : FnOk P w K mg base CX0 1 f fd ["web", "counts", "meetings"] (spMet K C) := by
  refine F.ok sc_met (fun vs H Q E h => ?_) (fun cdv A outer s H vs Q E hr h => ?_)
  · obtain ⟨_, _, _, _, _, _, Hb, _, ⟨v, u, z, rfl, _⟩, _⟩ := h
    rfl
  · obtain ⟨w, counts, order, okw, oko, hl, Hb, e, ⟨v, u, z, rfl, hw, hc, ho⟩, k⟩ := h
    have nd := sc_met.nd
    refine ⟨_, (pss_cons (ps_set (i := 3) nd rfl (Or.inl rfl) (pe_callTy (k_list K) (by rfl) B.list (by decide +kernel) (pa_cons (pv 1) pa_nil)))
      (pss_cons (ps_for PassesOwn.never rfl (pk_seq K (pv 2)) (pg_name (i := 4) nd rfl (Or.inl rfl))
      (pss_cons (ps_asg (pe_ix (k_ix K) (pk_fld K (pv 0)) (pv 4) (fun _ _ => rfl)) (pk_tup K rfl (pgs_cons (pg_name (i := 5) nd rfl (Or.inl rfl)) (pgs_cons (pg_name (i := 6) nd rfl (Or.inl rfl)) pgs_nil))))
      (pss_cons (ps_set (i := 7) nd rfl (Or.inl rfl) (pe_op op_sub (pe_op op_add (pe_ix (k_ix K) (pv 3) (pv 5) (fun _ _ => rfl)) (pe_ix (k_ix K) (pv 3) (pv 6) (fun _ _ => rfl))) (pe_ix (k_ix K) (pv 3) (pe_op op_add (pk_fld K (pv 0)) (pv 4)) (fun _ _ => rfl))))
      (pss_cons (ps_asg (pv 7) (pg_sub (pv 3) (pv 5) set_list))
      (pss_cons (ps_asg (pv 7) (pg_sub (pv 3) (pv 6) set_list))
      (pss_one (ps_asg (pv 7) (pg_sub (pv 3) (pe_op op_add (pk_fld K (pv 0)) (pv 4)) set_list))))))))
      (pss_one (ps_ret (pv 3))))), ?_⟩
    refine q_setN (K := K) (Hb := Hb) (n_listL (e_var rfl hc)) e fun a vs G1 H1 g1 n1 n2 h1 hE => ?_
    refine s_forG (Hb := G1) (g_seq (K := K) (r := pNat) (j := 4) (xs := order) ((e_var (r := pT pNat) rfl (Rep.lift (r := pT pNat) ho g1.base)).TQ)) g1.in_
      (fun G i σ' H' => ∃ y4 y5 y6 y7, σ' = [some v, some u, some z, some (.ref a), y4, y5, y6, y7] ∧ Grow [] Hb H G H' ∧ G a = none ∧ H' a = some (.lst ((HM.met w.1 w.2 (order.take i) counts).map V.int))) ?_ ?_ ?_ ?_ ?_
    · intro G H2 g2
      exact ⟨none, none, none, none, rfl, g1.trans0 g2, g2.no h1 n1, by rw [g2.keep h1 (by simp), each_int hE]; rfl⟩
    · rintro G i σ' H' _ ⟨_, _, _, _, _, g, _⟩
      exact g.in_
    · rintro G i σ' H' H2 ⟨y4, y5, y6, y7, rfl, g, n, h⟩ e2
      exact ⟨y4, y5, y6, y7, rfl, g.then_ e2, n, e2 _ _ h⟩
    · rintro G i us σ' H' eG hi ⟨tv, t, ht, htv, rfl⟩ ⟨y4, y5, y6, y7, rfl, g, n, h⟩
      have htv : tv = .int (t : Int) := htv
      subst htv
      have htl : t < w.2.length := oko t (List.mem_of_getElem? ht)
      obtain ⟨w1, w2, w3⟩ := okw.at htl
      generalize hcs : HM.met w.1 w.2 (order.take i) counts = cs at h
      have hcl : cs.length = w.1 + w.2.length := by rw [← hcs, HM.met_len, hl]
      have hww := Rep.lift (r := pWeb C) hw g.base
      refine q_unpairN (K := K) (Hb := G) (e_ixT (e_ties W (e_var rfl hww)).T (e_varI rfl) (tie_at htl)) g.in_ fun H2 e2 => ?_
      have g2 := g.then_ e2
      have h2 := e2 _ _ h
      generalize hp : HM.tie w.2 t = p at w1 w2 w3
      have ef : (pL pI).is K (upd G a (.lst (cs.map V.int))) (.ref a) cs := ⟨a, _, rfl, SqL.of upd_same, int_each cs⟩
      have eW : (pWeb C).is K (upd G a (.lst (cs.map V.int))) v w := Rep.lift (r := pWeb C) hww (Ex.new n)
      refine q_setI (K := K) (Hb := upd G a (.lst (cs.map V.int))) (n := cs.getD p.1 0 + cs.getD p.2 0 - cs.getD (w.1 + t) 0) ?_ (Ex.own g2.in_ h2) fun H3 e3 => ?_
      · refine e_sub (e_add (e_ixL (e_var rfl ef) (e_varI rfl) (getD_some (by omega))) (e_ixL (e_var rfl ef) (e_varI rfl) (getD_some (by omega)))) (e_ixL (i := w.1 + t) (e_var rfl ef) ?_ (getD_some (by omega)))
        exact (e_add (e_houses W (e_var rfl eW)).nat (e_varI rfl)).eq (by omega)
      · have g3 := g2.then_ e3
        have h3 := e3 _ _ h2
        generalize hb : cs.getD p.1 0 + cs.getD p.2 0 - cs.getD (w.1 + t) 0 = both
        refine q_setAtI (K := K) (Hb := G) (j := p.1) g3.in_ h3 n rfl (e_varI rfl) (e_varI rfl) (by rw [List.length_map]; omega) fun H4 e4 => ?_
        have g4 := (g3.then_ e4).mut (a := a) (o := .lst ((cs.map V.int).set p.1 (.int both))) (.inl n2) n
        refine q_setAtI (K := K) (Hb := G) (j := p.2) g4.in_ upd_same n rfl (e_varI rfl) (e_varI rfl) (by rw [List.length_set, List.length_map]; omega) fun H5 e5 => ?_
        have g5 := (g4.then_ e5).mut (a := a) (o := .lst (((cs.map V.int).set p.1 (.int both)).set p.2 (.int both))) (.inl n2) n
        refine s_setAtI (K := K) (Hb := G) (j := w.1 + t) g5.in_ upd_same n rfl (e_varI rfl) ((e_add (e_houses W (e_var rfl hww)).nat (e_varI rfl)).eq (by omega)) (by rw [List.length_set, List.length_set, List.length_map]; omega) fun H6 e6 => ?_
        have g6 := (g5.then_ e6).mut (a := a) (o := .lst ((((cs.map V.int).set p.1 (.int both)).set p.2 (.int both)).set (w.1 + t) (.int both))) (.inl n2) n
        refine ⟨_, _, _, _, rfl, g6, n, ?_⟩
        rw [upd_same, take_succ ht, met_snoc, hcs]
        have em : HM.mstep w.1 w.2 cs t = ((cs.set p.1 both).set p.2 both).set (w.1 + t) both := by
          unfold HM.mstep
          simp only [hp, hb]
        rw [em, List.map_set, List.map_set, List.map_set]
    · rintro G σ' H' eG ⟨y4, y5, y6, y7, rfl, g, n, h⟩
      rw [List.take_length] at h
      exact ⟨_, rfl, k a _ G H' g n n2 h (int_each _)⟩
end
end K62

set_option Elab.async false
set_option linter.all false
set_option maxRecDepth 100000
set_option maxHeartbeats 4000000
namespace K62
open PySem L2 Evl Ly
section
variable {P : Program} {w : World} {K : PySem.W.Frag} {mg : Str → Option Value} {base : Heap}
theorem unit_cat {h n j : Nat} (hj : j < h) : ((List.range h).map fun i => if i = j then (1 : Int) else 0) ++ (List.replicate n [(0 : Int)]).flatten = HM.unit (h + n) j := by
  unfold HM.unit
  rw [List.range_add, List.map_append]
  congr 1
  rw [List.map_map]
  refine List.ext_getElem (by simp) fun i h1 h2 => ?_
  have hi : i < n := by simpa using h2
  simp only [List.getElem_map, List.getElem_range, Function.comp]
  rw [if_neg (by omega)]
  have : ∀ x ∈ (List.replicate n [(0 : Int)]).flatten, x = 0 := fun x hx => by
    obtain ⟨l, hl, hx⟩ := List.mem_flatten.mp hx
    rw [List.eq_of_mem_replicate hl] at hx
    simpa using hx
  exact this _ (List.getElem_mem h1)
def spBegun (K : PySem.W.Frag) (C : Addr) : Sp := fun vs H Q E => ∃ (w : WebD) (h : Nat), h < w.1 ∧ w.1 ≤ 100 ∧ w.2.length ≤ 100 ∧ PromN K (A2 K (pWeb C) pNat w h) pI (HM.unit (w.1 + w.2.length) h) vs H Q E
theorem ok_begun {f C : Addr} {fd : FuncData} (B : Blt mg) (W : WebC K C) (F : Fun K "begun" "begun" s_begun f fd) : FnOk P w K mg base CX0 1 f fd ["web", "house"] (spBegun K C) := by
  refine F.ok sc_begun (fun vs H Q E h => ?_) (fun cdv A outer s H vs Q E hr h => ?_)
  · obtain ⟨_, _, _, _, _, Hb, _, ⟨v, u, rfl, _⟩, _⟩ := h
    rfl
  · obtain ⟨w, h, hh, hw1, hw2, Hb, e, ⟨v, u, rfl, hw, rfl⟩, k⟩ := h
    have nd := sc_begun.nd
    refine ⟨_, (pss_one (ps_ret (pe_op op_cat (pe_lc (own := [("one", 2)]) rfl nd (pi_range1 (by rfl) B.range (pa_cons (pk_fld K (pv 0)) pa_nil)) (blkOk_by (own := [("one", 2)]) (N := ["web", "house", "one"]) (sc := defScope s_begun) (by decide +kernel)) (fun _ _ _ _ _ => (pg_name (i := 2) nd rfl (Or.inl rfl))) (fun _ _ _ _ _ => pts_nil) (fun _ _ _ _ _ => (pe_ifExp (pt_cmpR op_eq (pv 2) (pv 1) (nomark _)) pe_int pe_int))) (pe_op op_rep (pe_lst (pa_cons pe_int pa_nil)) (pe_callB (k_len K) (by rfl) B.len (by decide +kernel) (pa_cons (pk_fld K (pv 0)) pa_nil)))))), ?_⟩
    have hv : EvR K (tVar 0) [some v, some (.int (h : Int)), none] Hb (pWeb C) w := e_var rfl hw
    refine s_retN (K := K) (Hb := Hb) ?_ e fun a vs G H1 g n1 n2 h1 hE => k a vs G H1 g n1 n2 h1 hE
    have hc := n_lcM (K := K) (rb := pI) (te := tIf (tTest (tOp rEq (tVar 2) (tVar 1))) (tC (.int 1)) (tC (.int 0))) (fun i => if i = h then (1 : Int) else 0) (g_range (K := K) (j := 2) (n := w.1) (e_houses W hv).nat (by omega)) (by omega) (vs := [2])
      (fun G i us e => by rw [e]; rfl) (fun G0 G i us eb e0 hi eu => by
        subst eu
        refine e_if (t_test (K := K) (e_eq (e_varI rfl) (e_varI rfl))) (fun hb => ?_) (fun hb => ?_)
        · have : ((i : Nat) : Int) = h := of_decide_eq_true hb
          rw [if_pos (by omega)]
          exact e_int
        · have : ¬ ((i : Nat) : Int) = h := of_decide_eq_false hb
          rw [if_neg (by omega)]
          exact e_int)
    have hr := n_rep (K := K) (n_one (K := K) (σ := [some v, some (.int (h : Int)), none]) (Hb := Hb) (e_int (n := 0))).R (e_lenT (e_ties W hv).T).nat ⟨by omega, by omega⟩ (by simp; omega)
    refine (n_cat hc.R hr.R (by simp; omega)).eq ?_
    rw [show ((w.2.length : Nat) : Int).toNat = w.2.length by simp]
    exact unit_cat hh
def spSplit (K : PySem.W.Frag) (C : Addr) : Sp := fun vs H Q E => ∃ (w : WebD) (c : List Int), PromR K (A2 K (pWeb C) (pL pI) w c) (pP (pTn pI) (pTn pI)) (c.take w.1, c.drop w.1) vs H Q E
theorem ok_split {f C : Addr} {fd : FuncData} (B : Blt mg) (W : WebC K C) (F : Fun K "split" "split" s_split f fd) : FnOk P w K mg base CX0 1 f fd ["web", "counts"] (spSplit K C) := by
  refine F.ok sc_split (fun vs H Q E h => ?_) (fun cdv A outer s H vs Q E hr h => ?_)
  · obtain ⟨_, _, Hb, _, ⟨v, u, rfl, _⟩, _⟩ := h
    rfl
  · obtain ⟨w, c, Hb, e, ⟨v, u, rfl, hw, hc⟩, k⟩ := h
    have nd := sc_split.nd
    refine ⟨_, (pss_one (ps_ret (pe_tup (pa_cons (pe_callTy (k_tup K) (by rfl) B.tuple (by decide +kernel) (pa_cons (pe_slice (k_sl K) (pv 1) po_none (po_some (pk_fld K (pv 0)))) pa_nil)) (pa_cons (pe_callTy (k_tup K) (by rfl) B.tuple (by decide +kernel) (pa_cons (pe_slice (k_sl K) (pv 1) (po_some (pk_fld K (pv 0))) po_none) pa_nil)) pa_nil))))), ?_⟩
    have hv : EvR K (tVar 0) [some v, some u] Hb (pWeb C) w := e_var rfl hw
    have hu : EvR K (tVar 1) [some v, some u] Hb (pL pI) c := e_var rfl hc
    refine s_retR (K := K) (Hb := Hb) (e_pair (e_tupL (n_slTo hu (e_houses W hv).nat).R.L) (e_tupL (n_slFrom hu (e_houses W hv).nat).R.L)) e fun v G H1 g hv => k v G H1 g hv
def spReduced (K : PySem.W.Frag) : Sp := fun vs H Q E => ∃ n m : Int, 0 < m ∧ PromR K (A2 K pI pI n m) pI (n % m) vs H Q E
theorem ok_reduced {f : Addr} {fd : FuncData} (B : Blt mg) (F : Fun K "reduced" "reduced" s_reduced f fd) : FnOk P w K mg base CX0 1 f fd ["number", "modulus"] (spReduced K) := by
  refine F.ok sc_reduced (fun vs H Q E h => ?_) (fun cdv A outer s H vs Q E hr h => ?_)
  · obtain ⟨_, _, _, Hb, _, ⟨v, u, rfl, _⟩, _⟩ := h
    rfl
  · obtain ⟨n, m, hm, Hb, e, ⟨v, u, rfl, rfl, rfl⟩, k⟩ := h
    have nd := sc_reduced.nd
    refine ⟨_, (pss_one (ps_ret (pe_ifExp (pt_cmpR op_gt (pv 1) pe_int (nomark _)) (pe_op op_mod (pv 0) (pv 1)) (pv 0)))), ?_⟩
    refine s_retR (K := K) (Hb := Hb) (e_if (t_test (K := K) (e_gt (e_varI rfl) e_int)) (fun _ => e_mod hm (e_varI rfl) (e_varI rfl)) fun q => ?_) e fun v G H1 g hv => k v G H1 g hv
    have : ¬ (0 : Int) < m := of_decide_eq_false q
    omega
def spRoundTable (K : PySem.W.Frag) (C : Addr) : Sp := fun vs H Q E => ∃ (w : WebD) (order : List Nat), HM.OkW w.1 w.2 ∧ HM.OkO w.2 order ∧ w.1 ≤ 100 ∧ w.2.length ≤ 100 ∧
  PromR K (A2 K (pWeb C) (pT pNat) w order) (pLn (pLn pI)) (HM.tab (HM.met w.1 w.2 order) (w.1 + w.2.length)) vs H Q E
theorem ok_round_table {f C : Addr} {fd : FuncData} (B : Blt mg) (W : WebC K C) (C_met : Callee P w K mg base "met" 1 ["web", "counts", "meetings"] (spMet K C)) (F : Fun K "round_table" "round_table" s_round_table f fd) : FnOk P w K mg base CX0 2 f fd ["web", "order"] (spRoundTable K C) := by
  refine F.ok sc_round_table (fun vs H Q E h => ?_) (fun cdv A outer s H vs Q E hr h => ?_)
  · obtain ⟨_, _, _, _, _, _, Hb, _, ⟨v, u, rfl, _⟩, _⟩ := h
    rfl
  · obtain ⟨w, order, okw, oko, hw1, hw2, Hb, e, ⟨v, u, rfl, hw, ho⟩, k⟩ := h
    have nd := sc_round_table.nd
    refine ⟨_, (pss_cons (ps_set (i := 2) nd rfl (Or.inr rfl) (pe_op op_add (pk_fld K (pv 0)) (pe_callB (k_len K) (by rfl) B.len (by decide +kernel) (pa_cons (pk_fld K (pv 0)) pa_nil))))
      (pss_cons (ps_set (i := 3) nd rfl (Or.inr rfl) (pe_lc (own := [("at", 4)]) rfl nd (pi_range1 (by rfl) B.range (pa_cons (pv 2) pa_nil)) (blkOk_by (own := [("at", 4)]) (N := ["web", "order", "size", "images", "at", "one", "image"]) (sc := defScope s_round_table) (by decide +kernel)) (fun _ _ _ _ _ => (pg_name (i := 4) nd rfl (Or.inr rfl) (by first | exact .inl rfl | exact .inr rfl))) (fun _ _ _ _ _ => pts_nil) (fun _ _ _ _ _ => (pe_cal C_met hr (pa_cons (pv 0) (pa_cons (pe_lc (own := [("one", 5)]) rfl nd (pi_range1 (by rfl) B.range (pa_cons (pv 2) pa_nil)) (blkOk_by (own := [("one", 5)]) (by kernel_rfl)) (fun _ _ _ _ _ => (pg_name (i := 5) nd rfl (Or.inl rfl))) (fun _ _ _ _ _ => pts_nil) (fun _ _ _ _ _ => (pe_ifExp (pt_cmpR op_eq (pv 5) (pv 4) (nomark _)) pe_int pe_int))) (pa_cons (pv 1) pa_nil)))))))
      (pss_one (ps_ret (pe_lc (own := [("at", 4)]) rfl nd (pi_range1 (by rfl) B.range (pa_cons (pv 2) pa_nil)) (blkOk_by (own := [("at", 4)]) (N := ["web", "order", "size", "images", "at", "one", "image"]) (sc := defScope s_round_table) (by decide +kernel)) (fun _ _ _ _ _ => (pg_name (i := 4) nd rfl (Or.inr rfl) (by first | exact .inl rfl | exact .inr rfl))) (fun _ _ _ _ _ => pts_nil) (fun _ _ _ _ _ => (pe_lc (own := [("image", 6)]) rfl nd (pk_seq K (pv 3)) (blkOk_by (own := [("image", 6)]) (by kernel_rfl)) (fun _ _ _ _ _ => (pg_name (i := 6) nd rfl (Or.inl rfl))) (fun _ _ _ _ _ => pts_nil) (fun _ _ _ _ _ => (pe_ix (k_ix K) (pv 6) (pv 4) (fun _ _ => rfl)))))))))), ?_⟩
    have hv : EvR K (tVar 0) [some v, some u, none, none, none, none, none] Hb (pWeb C) w := e_var rfl hw
    refine q_setI (K := K) (Hb := Hb) (n := ((w.1 + w.2.length : Nat) : Int)) ((e_add (e_houses W hv).nat (e_lenT (e_ties W hv).T).nat).eq (by omega)) e fun H1 e1 => ?_
    generalize hn : w.1 + w.2.length = n
    -- images
    have him := fun (σ : L2.St) (y3 y4 y5 y6 : Option V) (Hc : Hp) (hw' : (pWeb C).is K Hc v w) (ho' : (pT pNat).is K Hc u order) => n_lcM (K := K) (rb := pLn pI) (σ := [some v, some u, some (.int (n : Int)), y3, y4, y5, y6]) (Hb := Hc) (vs := [4])
      (te := tCall (spMet K C) [] E0 (tCons (tVar 0) (tCons (tLc (iRng1 (tCons (tVar 2) tNil)) (gName 5) tYes (tIf (tTest (tOp rEq (tVar 5) (tVar 4))) (tC (.int 1)) (tC (.int 0))) [5]) (tCons (tVar 1) tNil))))
      (fun j => HM.met w.1 w.2 order (HM.unit n j)) (g_range (K := K) (j := 4) (n := n) (e_varI (i := 2) rfl) (by omega)) (by omega) (fun G i us e => by rw [e]; rfl) (fun G0 G i us eb e0 hi eu => by
        subst eu
        have hc := n_lcM (K := K) (rb := pI) (σ := [some v, some u, some (.int (n : Int)), y3, some (.int (i : Int)), y5, y6]) (Hb := G) (vs := [5]) (te := tIf (tTest (tOp rEq (tVar 5) (tVar 4))) (tC (.int 1)) (tC (.int 0))) (fun a => if a = i then (1 : Int) else 0) (g_range (K := K) (j := 5) (n := n) (e_varI (i := 2) rfl) (by omega)) (by omega)
          (fun G i us e => by rw [e]; rfl) (fun G0 G a us eb e0 hi eu => by
            subst eu
            refine e_if (t_test (K := K) (e_eq (e_varI rfl) (e_varI rfl))) (fun hb => ?_) (fun hb => ?_)
            · have : ((a : Nat) : Int) = i := of_decide_eq_true hb
              rw [if_pos (by omega)]
              exact e_int
            · have : ¬ ((a : Nat) : Int) = i := of_decide_eq_false hb
              rw [if_neg (by omega)]
              exact e_int)
        refine (n_call (K := K) (P := A3 K (pWeb C) (pL pI) (pT pNat) w (HM.unit n i) order) (fun _ _ _ _ h => ⟨w, HM.unit n i, order, okw, oko, by rw [HM.unit_len, hn], h⟩) ?_).R
        exact a_3 (e_var rfl (Rep.lift (r := pWeb C) hw' (eb.trans e0))) hc.R.L (e_var rfl (Rep.lift (r := pT pNat) ho' (eb.trans e0))))
    refine q_setN (K := K) (Hb := Hb) (him [] _ _ _ _ Hb hw ho) (e.trans e1) fun a vs G2 H2 g2 n1 n2 h1 hE => ?_
    have g3 := (((Grow.refl e).then_ e1).trans0 g2).give (.inl (fresh_back e1 n2)) n1 h1
    have him2 : (pL (pLn pI)).is K (upd G2 a (.lst vs)) (.ref a) ((List.range n).map fun j => HM.met w.1 w.2 order (HM.unit n j)) := ⟨a, vs, rfl, SqL.of upd_same, hE.mono (Ex.new n1)⟩
    refine s_retR (K := K) (Hb := upd G2 a (.lst vs)) (r := pLn (pLn pI)) (x := HM.tab (HM.met w.1 w.2 order) (w.1 + w.2.length)) ?_ g3.in_ fun v G H4 g4 hv => k v G H4 (g3.trans0 g4) hv
    rw [hn]
    unfold HM.tab
    refine (n_lcM (K := K) (rb := pLn pI) (vs := [4]) _ (g_range (K := K) (j := 4) (n := n) (e_varI rfl) (by omega)) (by omega) (fun G i us e => by rw [e]; rfl) (fun G0 G i us eb e0 hi eu => ?_)).R
    subst eu
    have hc := n_lcM (K := K) (rb := pI) (σ := [some v, some u, some (.int (n : Int)), some (.ref a), some (.int (i : Int)), none, none]) (Hb := G) (vs := [6]) (te := tOp (rIx K) (tVar 6) (tVar 4)) (fun j => (HM.met w.1 w.2 order (HM.unit n j)).getD i 0) (g_seq (r := pLn pI) (j := 6) ((e_var (i := 3) (r := pL (pLn pI)) rfl (Rep.lift (r := pL (pLn pI)) him2 (eb.trans e0))).LQ)) (by simp; omega)
      (fun G i us ⟨_, _, _, _, e⟩ => by rw [e]; rfl) (fun G0 G j us eb e0 hj ⟨xv, x, hx, hxv, eu⟩ => by
        subst eu
        have hj' : j < n := by simpa using hj
        have ex : HM.met w.1 w.2 order (HM.unit n j) = x := by simpa [hj'] using hx
        rw [ex]
        exact e_ixL (e_var rfl (pLn_L (Rep.lift (r := pLn pI) hxv e0))) (e_varI rfl) (getD_some (by rw [← ex, HM.met_len, HM.unit_len]; exact hi)))
    refine hc.R.eq ?_
    rw [List.length_map, List.length_range, List.map_map]
    rfl
end
end K62

set_option Elab.async false
set_option linter.all false
set_option maxRecDepth 100000
set_option maxHeartbeats 4000000
namespace K62
open PySem L2 Evl Ly
def Sm (c : List Int) : Prop := ∀ x ∈ c, -(2 ^ 64) < x ∧ x < 2 ^ 64
theorem dot_tab {a b : List Int} {n : Nat} (ha : a.length = n) (hb : b.length = n) : ((List.range n).map fun k => a.getD k 0 * b.getD k 0).sum = HM.dot a b := by rw [HM.sum_range_map, HM.dot_S ha hb]
theorem getD_of {α : Type} {xs : List α} {k : Nat} {x d : α} (h : xs[k]? = some x) : xs.getD k d = x := by rw [List.getD_eq_getElem?_getD, h]; rfl
theorem e_dot {K : PySem.W.Frag} {σ : L2.St} {Hb : Hp} {ta tb : TE} {a b : List Int} {n i j : Nat} (h1 : EvR K ta σ Hb (pQ pI) a) (h2 : EvR K tb σ Hb (pQ pI) b) (ha : a.length = n) (hb : b.length = n) (sm : Sm b) (hn : n < 100000)
    (hw : ∀ va vb, wipe (sets [(i, va), (j, vb)] (wipe σ [i, j])) [i, j] = wipe σ [i, j]) (hi : ∀ va vb, (sets [(i, va), (j, vb)] (wipe σ [i, j]))[i]? = some (some va)) (hj : ∀ va vb, (sets [(i, va), (j, vb)] (wipe σ [i, j]))[j]? = some (some vb)) :
    EvR K (tCB (rSum K) (tCons (tLc (iZipB K (tCons ta (tCons tb tNil))) (gTup K 2 (gCons (gName i) (gCons (gName j) gNil))) tYes (tOp (rI CMul fun i j => .int (i * j)) (tVar i) (tVar j)) [i, j]) tNil)) σ Hb pI (HM.dot a b) := by
  have hc := n_lcM (K := K) (rb := pI) (te := tOp (rI CMul fun i j => .int (i * j)) (tVar i) (tVar j)) (vs := [i, j]) (fun k => a.getD k 0 * b.getD k 0) (g_zip (K := K) (i := i) (j := j) h1 h2 (by rw [ha, hb])) (by rw [ha]; exact hn)
    (fun G k us ⟨v, x, w, y, _, _, _, _, e⟩ => by rw [e]; exact hw v w) (fun G0 G k us eb e0 hk ⟨v, x, w, y, hx, hy, hv, hv2, eu⟩ => by
      have hv : v = .int x := hv
      have hv2 : w = .int y := hv2
      subst eu hv hv2
      rw [getD_of hx, getD_of hy]
      exact e_mul (.inr (sm y (List.mem_of_getElem? hy))) (e_varI (hi _ _)) (e_varI (hj _ _)))
  rw [ha] at hc
  exact (e_sum hc.R.L).eq (dot_tab ha hb)
section
variable {P : Program} {w : World} {K : PySem.W.Frag} {mg : Str → Option Value} {base : Heap}
def spApplied (K : PySem.W.Frag) : Sp := fun vs H Q E => ∃ (T : List (List Int)) (c : List Int) (m : Int) (n : Nat), 0 < m ∧ HM.Sq n T ∧ c.length = n ∧ n ≤ 1000 ∧ Sm c ∧ PromN K (A3 K (pL (pL pI)) (pL pI) pI T c m) pI (HM.app m T c) vs H Q E
theorem ok_applied {f : Addr} {fd : FuncData} (B : Blt mg) (C_reduced : Callee P w K mg base "reduced" 1 ["number", "modulus"] (spReduced K)) (F : Fun K "applied" "applied" s_applied f fd) : FnOk P w K mg base CX0 2 f fd ["table", "counts", "modulus"] (spApplied K) := by
  refine F.ok sc_applied (fun vs H Q E h => ?_) (fun cdv A outer s H vs Q E hr h => ?_)
  · obtain ⟨_, _, _, _, _, _, _, _, _, Hb, _, ⟨v, u, z, rfl, _⟩, _⟩ := h
    rfl
  · obtain ⟨T, c, m, n, hm, sq, hc, hn, sm, Hb, e, ⟨v, u, z, rfl, hT, hcv, rfl⟩, k⟩ := h
    have nd := sc_applied.nd
    refine ⟨_, (pss_one (ps_ret (pe_lc (own := [("row", 3)]) rfl nd (pk_seq K (pv 0)) (blkOk_by (own := [("row", 3)]) (N := ["table", "counts", "modulus", "row", "part", "count"]) (sc := defScope s_applied) (by decide +kernel)) (fun _ _ _ _ _ => (pg_name (i := 3) nd rfl (Or.inl rfl))) (fun _ _ _ _ _ => pts_nil) (fun _ _ _ _ _ => (pe_cal C_reduced hr (pa_cons (pe_callB (k_sum K) (by rfl) B.sum (by decide +kernel) (pa_cons (pe_lc (own := [("part", 4), ("count", 5)]) rfl nd (pi_zipS K B.zip (pa_cons (pv 3) (pa_cons (pv 1) pa_nil))) (blkOk_by (own := [("part", 4), ("count", 5)]) (by kernel_rfl)) (fun _ _ _ _ _ => (pk_tup K (n := 2) rfl (pgs_cons (pg_name (i := 4) nd rfl (Or.inl rfl)) (pgs_cons (pg_name (i := 5) nd rfl (Or.inl rfl)) pgs_nil)))) (fun _ _ _ _ _ => pts_nil) (fun _ _ _ _ _ => (pe_op op_mul (pv 4) (pv 5)))) pa_nil)) (pa_cons (pv 2) pa_nil))))))), ?_⟩
    refine s_retN (K := K) (Hb := Hb) (r := pI) (xs := HM.app m T c) ?_ e fun a vs G H1 g n1 n2 h1 hE => k a vs G H1 g n1 n2 h1 hE
    have hl := n_lcM (K := K) (rb := pI) (vs := [3]) (σ := [some v, some u, some (.int m), none, none, none]) (Hb := Hb) (te := tCall (spReduced K) [] E0 (tCons (tCB (rSum K) (tCons (tLc (iZipB K (tCons (tVar 3) (tCons (tVar 1) tNil))) (gTup K 2 (gCons (gName 4) (gCons (gName 5) gNil))) tYes (tOp (rI CMul fun i j => .int (i * j)) (tVar 4) (tVar 5)) [4, 5]) tNil)) (tCons (tVar 2) tNil)))
      (fun k => HM.dot (T.getD k []) c % m) (g_seq (K := K) (r := pL pI) (j := 3) ((e_var (i := 0) (r := pL (pL pI)) rfl hT).LQ)) (by rw [sq.1]; omega) (fun G i us ⟨_, _, _, _, e⟩ => by rw [e]; rfl) (fun G0 G i us eb e0 hi ⟨xv, x, hx, hxv, eu⟩ => by
        subst eu
        rw [getD_of hx]
        refine e_call (K := K) (P := A2 K pI pI (HM.dot x c) m) (fun _ _ _ _ h => ⟨_, _, hm, h⟩) (a_2 ?_ (e_varI rfl))
        exact e_dot (n := n) ((e_var (r := pL pI) rfl (Rep.lift (r := pL pI) hxv e0)).LQ) ((e_var (r := pL pI) rfl (Rep.lift (r := pL pI) hcv (eb.trans e0))).LQ) (sq.2 x (List.mem_of_getElem? hx)) hc sm (by omega) (fun _ _ => rfl) (fun _ _ => rfl) (fun _ _ => rfl))
    refine hl.eq ?_
    unfold HM.app
    refine List.ext_getElem (by simp) fun i h1 h2 => ?_
    have hi : i < T.length := by simpa using h1
    simp [hi]
def spDoubled (K : PySem.W.Frag) : Sp := fun vs H Q E => ∃ (T : List (List Int)) (m : Int) (n : Nat), 0 < m ∧ HM.Sq n T ∧ 0 < n ∧ n ≤ 1000 ∧ (∀ row ∈ T, Sm row) ∧ PromR K (A2 K (pL (pL pI)) pI T m) (pLn (pLn pI)) (HM.dbl m n T) vs H Q E
theorem ok_doubled {f : Addr} {fd : FuncData} (B : Blt mg) (C_reduced : Callee P w K mg base "reduced" 1 ["number", "modulus"] (spReduced K)) (F : Fun K "doubled" "doubled" s_doubled f fd) : FnOk P w K mg base CX0 2 f fd ["table", "modulus"] (spDoubled K) := by
  refine F.ok sc_doubled (fun vs H Q E h => ?_) (fun cdv A outer s H vs Q E hr h => ?_)
  · obtain ⟨_, _, _, _, _, _, _, _, Hb, _, ⟨v, u, rfl, _⟩, _⟩ := h
    rfl
  · obtain ⟨T, m, n, hm, sq, hn0, hn, sm, Hb, e, ⟨v, u, rfl, hT, rfl⟩, k⟩ := h
    have nd := sc_doubled.nd
    refine ⟨_, (pss_cons (ps_set (i := 2) nd rfl (Or.inl rfl) (pe_listZipS K B.list B.zip (pv 0)))
      (pss_cons (ps_set (i := 3) nd rfl (Or.inl rfl) (pe_lst pa_nil))
      (pss_cons (ps_for PassesOwn.never rfl (pk_seq K (pv 0)) (pg_name (i := 4) nd rfl (Or.inr rfl))
      (pss_one (ps_expr (pe_bm PySem.F.plainAttrs_list PySem.F.slot_list_append PySem.F.type_list_append mt_append (pv 3) (pa_cons (pe_lc (own := [("column", 5)]) rfl nd (pk_seq K (pv 2)) (blkOk_by (own := [("column", 5)]) (N := ["table", "modulus", "columns", "found", "row", "column", "part", "more"]) (sc := defScope s_doubled) (by decide +kernel)) (fun _ _ _ _ _ => (pg_name (i := 5) nd rfl (Or.inl rfl))) (fun _ _ _ _ _ => pts_nil) (fun _ _ _ _ _ => (pe_cal C_reduced hr (pa_cons (pe_callB (k_sum K) (by rfl) B.sum (by decide +kernel) (pa_cons (pe_lc (own := [("part", 6), ("more", 7)]) rfl nd (pi_zipS K B.zip (pa_cons (pv 4) (pa_cons (pv 5) pa_nil))) (blkOk_by (own := [("part", 6), ("more", 7)]) (by kernel_rfl)) (fun _ _ _ _ _ => (pk_tup K (n := 2) rfl (pgs_cons (pg_name (i := 6) nd rfl (Or.inl rfl)) (pgs_cons (pg_name (i := 7) nd rfl (Or.inl rfl)) pgs_nil)))) (fun _ _ _ _ _ => pts_nil) (fun _ _ _ _ _ => (pe_op op_mul (pv 6) (pv 7)))) pa_nil)) (pa_cons (pv 1) pa_nil))))) pa_nil)))))
      (pss_one (ps_ret (pv 3)))))), ?_⟩
    have hcol := n_listZip (K := K) (d := (0 : Int)) (m := n) (e_var (i := 0) (σ := [some v, some (.int m), none, none, none, none, none, none]) (r := pL (pL pI)) rfl hT) sq.2 (by rw [sq.1]; exact hn0) hn0 (by rw [sq.1]; omega) (by omega)
    refine q_setN (K := K) (Hb := Hb) hcol e fun a vs G1 H1 g1 n1 n2 h1 hE => ?_
    have g1 := g1.give (.inl n2) n1 h1
    have hC : (pL (pTn pI)).is K (upd G1 a (.lst vs)) (.ref a) (HM.cols n T) := ⟨a, vs, rfl, SqL.of upd_same, hE.mono (Ex.new n1)⟩
    generalize upd G1 a (.lst vs) = G1' at g1 hC
    refine q_setN (K := K) (Hb := G1') (r := pLn pI) (n_nil) g1.in_ fun fa fvs G2 H2 g2 m1 m2 h2 hE2 => ?_
    have g12 := g1.trans0 g2
    have hT2 : (pL (pL pI)).is K G2 v T := Rep.lift (r := pL (pL pI)) hT g12.base
    refine s_forG (Hb := G2) (g_seq (K := K) (r := pL pI) (j := 4) (xs := T) ((e_var (i := 0) (r := pL (pL pI)) rfl hT2).LQ)) g2.in_
      (fun G i σ' H' => ∃ y4 y5 y6 y7, σ' = [some v, some (.int m), some (.ref a), some (.ref fa), y4, y5, y6, y7] ∧ ∃ G' ws, Grow [] Hb H G' H' ∧ Ex G G' ∧ G' fa = none ∧ H' fa = some (.lst ws) ∧ Each K G' (pLn pI) ws ((T.take i).map fun row => (HM.cols n T).map fun col => HM.dot row col % m)) ?_ ?_ ?_ ?_ ?_
    · intro G H3 g3
      refine ⟨_, _, _, _, rfl, G, fvs, g12.trans0 g3, Ex.refl _, g3.no h2 m1, g3.keep h2 (by simp), ?_⟩
      rw [List.take_zero]
      exact hE2.mono g3.base
    · rintro G i σ' H' _ ⟨_, _, _, _, _, G', ws, g, eg, _⟩
      exact eg.trans g.in_
    · rintro G i σ' H' H3 ⟨y4, y5, y6, y7, rfl, G', ws, g, eg, n3, h3, hE3⟩ e3
      exact ⟨y4, y5, y6, y7, rfl, G', ws, g.then_ e3, eg, n3, e3 _ _ h3, hE3⟩
    · rintro G i us σ' H' eG hi ⟨rv, row, hrow, hrv, rfl⟩ ⟨y4, y5, y6, y7, rfl, G', ws, g, eg, n3, h3, hE3⟩
      have hl := n_lcM (K := K) (rb := pI) (vs := [5]) (σ := [some v, some (.int m), some (.ref a), some (.ref fa), some rv, y5, y6, y7]) (Hb := G')
        (te := tCall (spReduced K) [] E0 (tCons (tCB (rSum K) (tCons (tLc (iZipB K (tCons (tVar 4) (tCons (tVar 5) tNil))) (gTup K 2 (gCons (gName 6) (gCons (gName 7) gNil))) tYes (tOp (rI CMul fun i j => .int (i * j)) (tVar 6) (tVar 7)) [6, 7]) tNil)) (tCons (tVar 1) tNil)))
        (fun k => HM.dot row ((HM.cols n T).getD k []) % m) (g_seq (K := K) (r := pTn pI) (j := 5) ((e_var (i := 2) (r := pL (pTn pI)) rfl (Rep.lift (r := pL (pTn pI)) hC (g2.base.trans (eG.trans eg)))).LQ)) (by simp [HM.cols]; omega) (fun G i us ⟨_, _, _, _, e⟩ => by rw [e]; rfl) (fun G0 G3 i us eb e0 hi ⟨xv, x, hx, hxv, eu⟩ => by
          subst eu
          rw [getD_of hx]
          refine e_call (K := K) (P := A2 K pI pI (HM.dot row x) m) (fun _ _ _ _ h => ⟨_, _, hm, h⟩) (a_2 ?_ (e_varI rfl))
          have hx2 : x.length = n ∧ Sm x := by
            obtain ⟨k, hk, rfl⟩ := List.mem_map.mp (List.mem_of_getElem? hx)
            refine ⟨by simp [sq.1], fun y hy => ?_⟩
            obtain ⟨r, hr, rfl⟩ := List.mem_map.mp hy
            have hkr : k < r.length := by rw [sq.2 r hr]; exact List.mem_range.mp hk
            refine sm r hr _ ?_
            rw [List.getD_eq_getElem?_getD, List.getElem?_eq_getElem hkr]
            exact List.getElem_mem hkr
          exact e_dot (n := n) ((e_var (r := pL pI) rfl (Rep.lift (r := pL pI) hrv (eg.trans (eb.trans e0)))).LQ) ((e_var (r := pTn pI) rfl (Rep.lift (r := pTn pI) hxv e0)).T.TQ) (sq.2 row (List.mem_of_getElem? hrow)) hx2.1 hx2.2 (by omega) (fun _ _ => rfl) (fun _ _ => rfl) (fun _ _ => rfl))
      refine s_appR (K := K) (Hb := G') (r := pLn pI) g.in_ h3 n3 rfl hl.R (by
        rw [hE3.1, List.length_map]
        have := List.length_take_le i T
        have := sq.1
        omega) fun lv G4 H4 g4 n4 hlv => ?_
      have g5 := (g.trans0 g4).mut (a := fa) (o := .lst (ws ++ [lv])) (.inl (fresh_back g1.ex m2)) n4
      refine ⟨_, _, _, _, rfl, G4, ws ++ [lv], g5, eg.trans g4.base, n4, upd_same, ?_⟩
      rw [take_succ hrow, List.map_append]
      refine (hE3.mono g4.base).snoc ?_
      have el : ((HM.cols n T).map fun col => HM.dot row col % m) = (List.range (HM.cols n T).length).map fun k => HM.dot row ((HM.cols n T).getD k []) % m := by
        refine List.ext_getElem (by simp) fun k h1 h2 => ?_
        have hk : k < (HM.cols n T).length := by simpa using h1
        simp [hk]
      show (pLn pI).is K G4 lv ((HM.cols n T).map fun col => HM.dot row col % m)
      rw [el]
      exact hlv
    · rintro G σ' H' eG ⟨y4, y5, y6, y7, rfl, G', ws, g, eg, n3, h3, hE3⟩
      rw [List.take_length] at hE3
      have g6 := g.give (.inl (fresh_back g1.ex m2)) n3 h3
      exact ⟨_, rfl, k (.ref fa) _ H' g6 ⟨fa, ws, rfl, upd_same, hE3.mono (Ex.new n3)⟩⟩
end
end K62

set_option Elab.async false
set_option linter.all false
set_option maxRecDepth 100000
set_option maxHeartbeats 4000000
namespace K62
open PySem L2 Evl Ly
section
variable {P : Program} {w : World} {K : PySem.W.Frag} {mg : Str → Option Value} {base : Heap}
def spCheckTies (K : PySem.W.Frag) : Sp := fun vs H Q E => ∃ (h : Nat) (ties : List (Nat × Nat)), 1 ≤ h ∧ h ≤ 12 ∧ HM.OkW h ties ∧ ties.length ≤ 20 ∧ PromR K (A2 K pNat (pTn (pP pNat pNat)) h ties) (pTn (pP pNat pNat)) ties vs H Q E
theorem ok_check_ties {f : Addr} {fd : FuncData} (B : Blt mg) (C_is_within : Callee P w K mg base "is_within" 2 ["value", "least", "most"] (spWithin K)) (C_is_sequence : Callee P w K mg base "is_sequence" 1 ["value"] (spSeq K))
    (C_is_pair : Callee P w K mg base "is_pair" 4 ["value", "houses"] (spPair K)) (F : Fun K "check_ties" "check_ties" s_check_ties f fd) : FnOk P w K mg base CX0 5 f fd ["houses", "ties"] (spCheckTies K) := by
  refine F.ok sc_check_ties (fun vs H Q E h => ?_) (fun cdv A outer s H vs Q E hr h => ?_)
  · obtain ⟨_, _, _, _, _, _, Hb, _, ⟨v, u, rfl, _⟩, _⟩ := h
    rfl
  · obtain ⟨h, ties, h1, h12, okw, hl, Hb, e, ⟨v, u, rfl, rfl, ht⟩, k⟩ := h
    have nd := sc_check_ties.nd
    refine ⟨_, (pss_cons (ps_if (PW.pt (pw_or (pt_not (pt_val (pe_cal C_is_within hr (pa_cons (pv 0) (pa_cons pe_int (pa_cons (pe_gl B.MOST_HOUSES) pa_nil)))))) (pw_or (pt_not (pt_val (pe_cal C_is_sequence hr (pa_cons (pv 1) pa_nil)))) (pw_or1 (pt_cmpR op_gt (pe_callB (k_len K) (by rfl) B.len (by decide +kernel) (pa_cons (pv 1) pa_nil)) (pe_gl B.MOST_TIES) (nomark _)))))) (pss_one ps_never) pss_nil)
      (pss_cons (ps_for PassesOwn.never rfl (pi_enumS K B.enumerate (pa_cons (pv 1) pa_nil)) (pk_tup K (n := 2) rfl (pgs_cons (pg_name (i := 2) nd rfl (Or.inl rfl)) (pgs_cons (pg_name (i := 3) nd rfl (Or.inl rfl)) pgs_nil)))
      (pss_one (ps_if (pt_not (pt_val (pe_cal C_is_pair hr (pa_cons (pv 3) (pa_cons (pv 0) pa_nil))))) (pss_one ps_never) pss_nil)))
      (pss_one (ps_ret (pe_callTy (k_tup K) (by rfl) B.tuple (by decide +kernel) (pa_cons (pe_lc (own := [("tie", 3)]) rfl nd (pk_seq K (pv 1)) (blkOk_by (own := [("tie", 3)]) (N := ["houses", "ties", "at", "tie"]) (sc := defScope s_check_ties) (by decide +kernel)) (fun _ _ _ _ _ => (pg_name (i := 3) nd rfl (Or.inl rfl))) (fun _ _ _ _ _ => pts_nil) (fun _ _ _ _ _ => (pe_callTy (k_tup K) (by rfl) B.tuple (by decide +kernel) (pa_cons (pv 3) pa_nil)))) pa_nil)))))), ?_⟩
    have hv : EvR K (tVar 1) [some (.int (h : Int)), some u, none, none] Hb (pTn (pP pNat pNat)) ties := e_var rfl ht
    refine q_no' (b := (!(decide ((1 : Int) ≤ h) && decide ((h : Int) ≤ 12)) || (!true || decide ((20 : Int) < (ties.length : Nat))))) ?_ ?_ e fun H1 e1 => ?_
    · refine et_or (et_not (t_B (e_call (fun _ _ _ _ h => ⟨_, _, _, h⟩) (a_3 (e_varI rfl) e_int e_int)))) fun _ => et_or (et_not (t_B (e_call (fun _ _ _ _ h => ⟨_, _, ties, "tuple", .inr rfl, ty_T, h⟩) (a_1 hv)))) fun _ => t_test (e_gt (e_lenT hv.T).nat e_int)
    · rw [decide_eq_true (by omega), decide_eq_true (by omega), decide_eq_false (by omega)]
      rfl
    · refine s_forG (Hb := Hb) (g_enum (K := K) (i := 2) (j := 3) hv.T.TQ) (e.trans e1) (fun G i σ' H' => ∃ y2 y3, σ' = [some (.int (h : Int)), some u, y2, y3] ∧ Ex H H' ∧ Ex G H') ?_ ?_ ?_ ?_ ?_
      · intro G H2 g2
        exact ⟨_, _, rfl, e1.trans g2.ex, g2.in_⟩
      · rintro G i σ' H' _ ⟨_, _, _, _, eH⟩
        exact eH
      · rintro G i σ' H' H2 ⟨y2, y3, rfl, eH, eG⟩ e2
        exact ⟨y2, y3, rfl, eH.trans e2, eG.trans e2⟩
      · rintro G i us σ' H' eG hi ⟨tv, t, ht2, htv, rfl⟩ ⟨y2, y3, rfl, eH, eG2⟩
        have hok := okw t (List.mem_of_getElem? ht2)
        refine s_ifT (b := !true) (Hb := G) (et_not (t_B (K := K) (e_call (K := K) (P := A2 K (pP pNat pNat) pNat t h) (fun _ _ _ _ q => ⟨h, t, hok.1, hok.2.1, hok.2.2, q⟩) (a_2 (e_var (r := pP pNat pNat) rfl htv) (e_varN rfl))))) eG2 (fun q => nomatch q) fun _ H3 e3 => ⟨_, _, rfl, eH.trans e3, eG2.trans e3⟩
      · rintro G σ' H' eG ⟨y2, y3, rfl, eH, eG2⟩
        have hv2 : EvR K (tVar 1) [some (.int (h : Int)), some u, y2, y3] Hb (pTn (pP pNat pNat)) ties := e_var rfl ht
        have hl := n_lcM (K := K) (rb := pP pNat pNat) (vs := [3]) (σ := [some (.int (h : Int)), some u, y2, y3]) (Hb := Hb) (te := tCB (rTupQ K) (tCons (tVar 3) tNil))
          (fun k => ties.getD k (0, 0)) (g_seq (K := K) (r := pP pNat pNat) (j := 3) hv2.T.TQ) (by omega) (fun G i us ⟨_, _, _, _, e⟩ => by rw [e]; rfl) (fun G0 G i us eb e0 hi ⟨xv, x, hx, hxv, eu⟩ => by
            subst eu
            rw [getD_of hx]
            exact e_tupP (e_var (r := pP pNat pNat) rfl (Rep.lift (r := pP pNat pNat) hxv e0)))
        have el : (List.range ties.length).map (fun k => ties.getD k (0, 0)) = ties := by
          refine List.ext_getElem (by simp) fun i h1 h2 => ?_
          simp [h2]
        rw [el] at hl
        exact s_retR (K := K) (Hb := Hb) (r := pTn (pP pNat pNat)) (x := ties) (e_tupL (K := K) hl.R.L) (e.trans eH) fun v G H1 g hv => k v G H1 (((Grow.refl e).then_ eH).trans0 g) hv
def spCheckMeetings (K : PySem.W.Frag) (C : Addr) : Sp := fun vs H Q E => ∃ (w : WebD) (order : List Nat), HM.OkO w.2 order ∧ order.length ≤ 10000 ∧ PromR K (A2 K (pWeb C) (pS pNat) w order) (pTn pNat) order vs H Q E
theorem ok_check_meetings {f C : Addr} {fd : FuncData} (B : Blt mg) (W : WebC K C) (C_is_sequence : Callee P w K mg base "is_sequence" 1 ["value"] (spSeq K)) (C_is_below : Callee P w K mg base "is_below" 3 ["value", "most"] (spBelow K))
    (F : Fun K "check_meetings" "check_meetings" s_check_meetings f fd) : FnOk P w K mg base CX0 4 f fd ["web", "value"] (spCheckMeetings K C) := by
  refine F.ok sc_check_meetings (fun vs H Q E h => ?_) (fun cdv A outer s H vs Q E hr h => ?_)
  · obtain ⟨_, _, _, _, Hb, _, ⟨v, u, rfl, _⟩, _⟩ := h
    rfl
  · obtain ⟨w, order, oko, hl, Hb, e, ⟨v, u, rfl, hw, ho⟩, k⟩ := h
    have nd := sc_check_meetings.nd
    refine ⟨_, (pss_cons (ps_if (PW.pt (pw_or (pt_not (pt_val (pe_cal C_is_sequence hr (pa_cons (pv 1) pa_nil)))) (pw_or1 (pt_cmpR op_gt (pe_callB (k_len K) (by rfl) B.len (by decide +kernel) (pa_cons (pv 1) pa_nil)) (pe_gl B.MOST_ROW) (nomark _))))) (pss_one ps_never) pss_nil)
      (pss_cons (ps_for PassesOwn.never rfl (pi_enumS K B.enumerate (pa_cons (pv 1) pa_nil)) (pk_tup K (n := 2) rfl (pgs_cons (pg_name (i := 2) nd rfl (Or.inl rfl)) (pgs_cons (pg_name (i := 3) nd rfl (Or.inl rfl)) pgs_nil)))
      (pss_one (ps_if (pt_not (pt_val (pe_cal C_is_below hr (pa_cons (pv 3) (pa_cons (pe_callB (k_len K) (by rfl) B.len (by decide +kernel) (pa_cons (pk_fld K (pv 0)) pa_nil)) pa_nil))))) (pss_one ps_never) pss_nil)))
      (pss_one (ps_ret (pe_callTy (k_tup K) (by rfl) B.tuple (by decide +kernel) (pa_cons (pv 1) pa_nil)))))), ?_⟩
    have hv : EvR K (tVar 0) [some v, some u, none, none] Hb (pWeb C) w := e_var rfl hw
    have hu : EvR K (tVar 1) [some v, some u, none, none] Hb (pS pNat) order := e_var rfl ho
    refine q_no' (b := (!true || decide ((10000 : Int) < (order.length : Nat)))) ?_ ?_ e fun H1 e1 => ?_
    · refine et_or (et_not (t_B (K := K) ?_)) fun _ => t_test (e_gt (e_lenS hu).nat e_int)
      rcases ho with ho | ho
      · exact e_call (K := K) (P := A1 K (pLn pNat) order) (fun _ _ _ _ h => ⟨_, _, order, "list", .inl rfl, ty_L, h⟩) (a_1 (e_var rfl ho))
      · exact e_call (K := K) (P := A1 K (pTn pNat) order) (fun _ _ _ _ h => ⟨_, _, order, "tuple", .inr rfl, ty_T, h⟩) (a_1 (e_var rfl ho))
    · rw [decide_eq_false (by omega)]
      rfl
    · refine s_forG (Hb := Hb) (g_enum (K := K) (i := 2) (j := 3) hu.SQ) (e.trans e1) (fun G i σ' H' => ∃ y2 y3, σ' = [some v, some u, y2, y3] ∧ Ex H H' ∧ Ex G H') ?_ ?_ ?_ ?_ ?_
      · intro G H2 g2
        exact ⟨_, _, rfl, e1.trans g2.ex, g2.in_⟩
      · rintro G i σ' H' _ ⟨_, _, _, _, eH⟩
        exact eH
      · rintro G i σ' H' H2 ⟨y2, y3, rfl, eH, eG⟩ e2
        exact ⟨y2, y3, rfl, eH.trans e2, eG.trans e2⟩
      · rintro G i us σ' H' eG hi ⟨tv, t, ht2, htv, rfl⟩ ⟨y2, y3, rfl, eH, eG2⟩
        have htv : tv = .int (t : Int) := htv
        subst htv
        have hok := oko t (List.mem_of_getElem? ht2)
        refine s_ifT (b := !(decide ((0 : Int) ≤ t) && decide ((t : Int) < w.2.length))) (Hb := G) (et_not (t_B (K := K) (e_call (K := K) (P := A2 K pI pI (t : Int) (w.2.length : Nat)) (fun _ _ _ _ q => ⟨_, _, q⟩) (a_2 (e_varI rfl) (e_lenT (e_ties W (e_var (r := pWeb C) rfl (Rep.lift (r := pWeb C) hw eG))).T).nat)))) eG2 (fun q => ?_) fun _ H3 e3 => ⟨_, _, rfl, eH.trans e3, eG2.trans e3⟩
        rw [decide_eq_true (by omega), decide_eq_true (by omega)] at q
        cases q
      · rintro G σ' H' eG ⟨y2, y3, rfl, eH, eG2⟩
        refine s_retR (K := K) (Hb := Hb) (r := pTn pNat) (x := order) (e_tupS (e_var rfl ho)) (e.trans eH) fun v G H1 g hv => k v G H1 (((Grow.refl e).then_ eH).trans0 g) hv
/-- Web(houses, ties): the instance stands -/
def spWebInit (K : PySem.W.Frag) (C : Addr) : Sp := fun vs H Q E => ∃ (h : Nat) (ties : List (Nat × Nat)) (x dx : Addr) (Hb : Hp) (t : V), 1 ≤ h ∧ h ≤ 12 ∧ HM.OkW h ties ∧ ties.length ≤ 20 ∧ vs = [.ref x, .int (h : Int), t] ∧ (pTn (pP pNat pNat)).is K Hb t ties ∧ Ex Hb H ∧ Hb x = none ∧ H x = some (.ins C dx []) ∧
  ∀ t2 G H1, Grow [] Hb H G H1 → G x = none → (pTn (pP pNat pNat)).is K G t2 ties → Q .non (upd H1 x (.ins C dx (webF t2 (.int (h : Int)))))
theorem ok_Web_init {f C : Addr} {fd : FuncData} (B : Blt mg) (W : WebC K C) (C_check_ties : Callee P w K mg base "check_ties" 5 ["houses", "ties"] (spCheckTies K)) (F : Fun K "__init__" "Web.__init__" s_Web_init f fd) : FnOk P w K mg base CX0 6 f fd ["self", "houses", "ties"] (spWebInit K C) := by
  refine F.ok sc_Web_init (fun vs H Q E h => ?_) (fun cdv A outer s H vs Q E hr h => ?_)
  · obtain ⟨_, _, _, _, _, _, _, _, _, _, rfl, _⟩ := h
    rfl
  · obtain ⟨h, ties, x, dx, Hb, t, h1, h12, okw, hl, rfl, ht, e, hx0, hx, k⟩ := h
    have nd := sc_Web_init.nd
    refine ⟨_, (pss_cons (ps_fld (pv 0) (pe_cal C_check_ties hr (pa_cons (pv 1) (pa_cons (pv 2) pa_nil))) rfl)
      (pss_one (ps_fld (pv 0) (pv 1) rfl))), ?_⟩
    have hc : EvR K (tCall (spCheckTies K) [] E0 (tCons (tVar 1) (tCons (tVar 2) tNil))) [some (.ref x), some (.int (h : Int)), some t] Hb (pTn (pP pNat pNat)) ties := e_call (K := K) (P := A2 K pNat (pTn (pP pNat pNat)) h ties) (fun _ _ _ _ q => ⟨h, ties, h1, h12, okw, hl, q⟩) (a_2 (e_varN rfl) (e_var rfl ht))
    refine hc H e _ fun t2 G H1 g ht2 => ⟨.ref x, rfl, x, C, dx, [], rfl, g.keep hx (by simp), W.cl, W.nT, by decide, ?_⟩
    have z := k t2 G H1 g (g.no hx hx0) ht2
    refine ⟨.int (h : Int), rfl, .ref x, rfl, x, C, dx, _, rfl, upd_same, W.cl, W.nH, by show 1 < 1000; decide, ?_⟩
    show Q .non (upd (upd H1 x _) x _)
    rw [upd_upd]
    exact z
end
end K62

set_option Elab.async false
set_option linter.all false
set_option maxRecDepth 100000
set_option maxHeartbeats 4000000
namespace K62
open PySem L2 Evl Ly
theorem nn_LL {K : PySem.W.Frag} {H : Hp} {α : Type} {r : Rep α} {v : V} {xs : List (List α)} (h : (pLn (pLn r)).is K H v xs) : (pL (pL r)).is K H v xs := let ⟨a, vs, h1, h2, h3⟩ := h; ⟨a, vs, h1, SqL.of h2, h3.1, fun i v x a b => pLn_L (h3.2 i v x a b)⟩
theorem red_sm {m : Int} {c : List Int} (hm : m ≤ 1000000) (r : HM.Red m c) : Sm c := fun x hx => by
  have := r x hx
  have : (1000000 : Int) < 2 ^ 64 := by decide
  omega
theorem dbl_sm {m : Int} {n : Nat} {T : List (List Int)} (h0 : 0 < m) (hm : m ≤ 1000000) : ∀ row ∈ HM.dbl m n T, Sm row := fun row hr => by
  obtain ⟨r, _, rfl⟩ := List.mem_map.mp hr
  refine red_sm hm fun x hx => ?_
  obtain ⟨y, _, rfl⟩ := List.mem_map.mp hx
  exact ⟨Int.emod_nonneg _ (by omega), Int.emod_lt_of_pos _ h0⟩
theorem app_red {m : Int} {T : List (List Int)} {c : List Int} (h0 : 0 < m) : HM.Red m (HM.app m T c) := fun x hx => by
  obtain ⟨y, _, rfl⟩ := List.mem_map.mp hx
  exact ⟨Int.emod_nonneg _ (by omega), Int.emod_lt_of_pos _ h0⟩
theorem tab_sm {h : Nat} {ties : HM.Ties} {order : List Nat} {n : Nat} (ho : order.length ≤ 40) : ∀ row ∈ HM.tab (HM.met h ties order) n, Sm row := fun row hr => by
  obtain ⟨i, _, rfl⟩ := List.mem_map.mp hr
  intro x hx
  obtain ⟨im, him, rfl⟩ := List.mem_map.mp hx
  obtain ⟨j, _, rfl⟩ := List.mem_map.mp him
  rw [List.getD_eq_getElem?_getD]
  by_cases hi : i < (HM.met h ties order (HM.unit n j)).length
  · rw [List.getElem?_eq_getElem hi]
    exact HM.met_small ho _ (List.getElem_mem hi)
  · rw [List.getElem?_eq_none (by omega)]
    show -(2 ^ 64) < (0 : Int) ∧ (0 : Int) < 2 ^ 64
    decide
/-- what round_counts gives -/
def farC (w : WebD) (h : Nat) (order : List Nat) (r : Nat) (m : Int) : List Int := HM.iter (HM.F0 m w.1 w.2 order) r ((HM.unit (w.1 + w.2.length) h).map (· % m))
section
variable {P : Program} {w : World} {K : PySem.W.Frag} {mg : Str → Option Value} {base : Heap}
def spRoundCounts (K : PySem.W.Frag) (C : Addr) : Sp := fun vs H Q E => ∃ (w : WebD) (h : Nat) (order : List Nat) (r : Nat) (m : Int), 0 < m ∧ m ≤ 1000000 ∧ (r : Int) ≤ 1000000000000000000 ∧ HM.OkW w.1 w.2 ∧ HM.OkO w.2 order ∧ order.length ≤ 40 ∧ h < w.1 ∧ w.1 ≤ 100 ∧ w.2.length ≤ 100 ∧
  PromR K (A5 K (pWeb C) pNat (pS pNat) pI pI w h order (r : Int) m) (pP (pTn pI) (pTn pI)) ((farC w h order r m).take w.1, (farC w h order r m).drop w.1) vs H Q E
set_option maxHeartbeats 16000000 in
theorem ok_round_counts {f C : Addr} {fd : FuncData} (B : Blt mg) (W : WebC K C) (C_need_house : Callee P w K mg base "need_house" 4 ["web", "house"] (spNeedHouse K C)) (C_check_meetings : Callee P w K mg base "check_meetings" 4 ["web", "value"] (spCheckMeetings K C))
    (C_is_number : Callee P w K mg base "is_number" 2 ["value"] (spIntB K fun n => decide (0 ≤ n))) (C_begun : Callee P w K mg base "begun" 1 ["web", "house"] (spBegun K C)) (C_reduced : Callee P w K mg base "reduced" 1 ["number", "modulus"] (spReduced K))
    (C_round_table : Callee P w K mg base "round_table" 2 ["web", "order"] (spRoundTable K C)) (C_applied : Callee P w K mg base "applied" 2 ["table", "counts", "modulus"] (spApplied K)) (C_doubled : Callee P w K mg base "doubled" 2 ["table", "modulus"] (spDoubled K))
    (C_split : Callee P w K mg base "split" 1 ["web", "counts"] (spSplit K C)) (F : Fun K "round_counts" "round_counts" s_round_counts f fd) : FnOk P w K mg base CX0 5 f fd ["web", "house", "order", "rounds", "modulus"] (spRoundCounts K C) := by
  refine F.ok sc_round_counts (fun vs H Q E h => ?_) (fun cdv A outer s H vs Q E hr h => ?_)
  · obtain ⟨_, _, _, _, _, _, _, _, _, _, _, _, _, _, Hb, _, ⟨v1, v2, v3, v4, v5, rfl, _⟩, _⟩ := h
    rfl
  · obtain ⟨w, h, order, r, m, hm, hm6, hr18, okw, oko, ho40, hh, hw1, hw2, Hb, e, ⟨v1, v2, v3, v4, v5, rfl, hw, rfl, ho, rfl, rfl⟩, k⟩ := h
    have nd := sc_round_counts.nd
    refine ⟨_, (pss_cons (ps_expr (pe_cal C_need_house hr (pa_cons (pv 0) (pa_cons (pv 1) pa_nil))))
      (pss_cons (ps_set (i := 5) nd rfl (Or.inl rfl) (pe_cal C_check_meetings hr (pa_cons (pv 0) (pa_cons (pv 2) pa_nil))))
      (pss_cons (ps_if (PW.pt (pw_or (pt_not (pt_val (pe_cal C_is_number hr (pa_cons (pv 3) pa_nil)))) (pw_or1 (pt_cmpR op_gt (pv 3) (pe_gl B.FAR_ROUNDS) (nomark _))))) (pss_one ps_never) pss_nil)
      (pss_cons (ps_if (PW.pt (pw_or (pt_not (pt_val (pe_cal C_is_number hr (pa_cons (pv 4) pa_nil)))) (pw_or1 (pt_cmpR op_gt (pv 4) (pe_gl B.MOST_MODULUS) (nomark _))))) (pss_one ps_never) pss_nil)
      (pss_cons (ps_if (PW.pt (pw_and (pt_cmpR op_eq (pv 4) pe_int (nomark _)) (pw_and1 (pt_cmpR op_gt (pv 3) (pe_gl B.MOST_ROUNDS) (nomark _))))) (pss_one ps_never) pss_nil)
      (pss_cons (ps_setLc (i := 6) rfl nd rfl rfl (sw_true rfl rfl rfl (by decide +kernel)) (own := [("count", 8)]) (pk_seq K (pe_cal C_begun hr (pa_cons (pv 0) (pa_cons (pv 1) pa_nil)))) (blkOk_by (own := [("count", 8)]) (N := ["web", "house", "order", "rounds", "modulus", "told", "counts", "table", "count"]) (sc := defScope s_round_counts) (by decide +kernel)) (fun _ _ _ _ _ => (pg_name (i := 8) nd rfl (Or.inl rfl))) (fun _ _ _ _ _ => pts_nil) (fun _ _ _ _ _ => (pe_cal C_reduced hr (pa_cons (pv 8) (pa_cons (pv 4) pa_nil)))))
      (pss_cons (ps_set (i := 7) nd rfl (Or.inl rfl) (pe_cal C_round_table hr (pa_cons (pv 0) (pa_cons (pv 5) pa_nil))))
      (pss_cons (ps_while PassesOwn.never (pt_cmpR op_gt (pv 3) pe_int (nomark _)) (pss_cons (ps_if (pt_cmpR op_eq (pe_op op_mod (pv 3) pe_int) pe_int (nomark _)) (pss_one (ps_set (i := 6) nd rfl (Or.inl rfl) (pe_cal C_applied hr (pa_cons (pv 7) (pa_cons (pv 6) (pa_cons (pv 4) pa_nil)))))) pss_nil)
      (pss_cons (ps_set (i := 7) nd rfl (Or.inl rfl) (pe_ifExp (pt_cmpR op_gt (pv 3) pe_int (nomark _)) (pe_cal C_doubled hr (pa_cons (pv 7) (pa_cons (pv 4) pa_nil))) (pv 7)))
      (pss_one (ps_aug (i := 3) nd rfl (Or.inl rfl) pe_int iop_fdiv)))))
      (pss_one (ps_ret (pe_cal C_split hr (pa_cons (pv 0) (pa_cons (pv 6) pa_nil))))))))))))), ?_⟩
    have eW : ∀ (G : Hp) (eG : Ex Hb G) (y : L2.St) (hy : y[0]? = some (some v1)), EvR K (tVar 0) y G (pWeb C) w := fun G eG y hy => e_var hy (Rep.lift (r := pWeb C) hw eG)
    -- need_house
    refine (e_call (K := K) (P := A2 K (pWeb C) pNat w h) (r := pNat) (x := h) (σ := [some v1, some (.int (h : Int)), some v3, some (.int (r : Int)), some (.int m), none, none, none, none]) (Hb := Hb) (fun _ _ _ _ q => ⟨w, h, hh, q⟩) (a_2 (eW Hb (Ex.refl _) _ rfl) (e_varN rfl))) H e _ fun v G1 H1 g1 _ => ?_
    -- told
    have hchk : EvR K (tCall (spCheckMeetings K C) [] E0 (tCons (tVar 0) (tCons (tVar 2) tNil))) [some v1, some (.int (h : Int)), some v3, some (.int (r : Int)), some (.int m), none, none, none, none] G1 (pTn pNat) order :=
      e_call (K := K) (P := A2 K (pWeb C) (pS pNat) w order) (fun _ _ _ _ q => ⟨w, order, oko, by omega, q⟩) (a_2 (eW G1 g1.base _ rfl) (e_var rfl (Rep.lift (r := pS pNat) ho g1.base)))
    refine q_set (K := K) (Hb := G1) hchk g1.in_ fun tv G2 H2 g2 htv => ?_
    have g12 := g1.trans0 g2
    -- the tests
    refine q_no' (Hb := G2) (b := (!decide (0 ≤ (r : Int)) || decide ((1000000000000000000 : Int) < r))) ?t1 ?t2 g12.in_ fun H3 e3 => ?_
    case t1 => exact et_or (et_not (t_B (e_call (K := K) (P := A1 K pI (r : Int)) (fun _ _ _ _ q => ⟨_, q⟩) (a_1 (e_varI rfl))))) fun _ => t_test (K := K) (e_gt (e_varI rfl) e_int)
    case t2 => rw [decide_eq_true (by omega), decide_eq_false (by omega)]; rfl
    refine q_no' (Hb := G2) (b := (!decide (0 ≤ m) || decide ((1000000 : Int) < m))) ?t1 ?t2 (g12.in_.trans e3) fun H4 e4 => ?_
    case t1 => exact et_or (et_not (t_B (e_call (K := K) (P := A1 K pI m) (fun _ _ _ _ q => ⟨_, q⟩) (a_1 (e_varI rfl))))) fun _ => t_test (K := K) (e_gt (e_varI rfl) e_int)
    case t2 => rw [decide_eq_true (by omega), decide_eq_false (by omega)]; rfl
    refine q_no' (Hb := G2) (b := (decide (m = 0) && decide ((400 : Int) < r))) ?t1 ?t2 ((g12.in_.trans e3).trans e4) fun H5 e5 => ?_
    case t1 => exact et_and (t_test (K := K) (e_eq (e_varI rfl) e_int)) fun _ => t_test (K := K) (e_gt (e_varI rfl) e_int)
    case t2 => rw [decide_eq_false (by omega)]; rfl
    have g5 := g12.then_ ((e3.trans e4).trans e5)
    -- counts
    generalize hn : w.1 + w.2.length = n
    have hcnt := n_lcM (K := K) (rb := pI) (vs := [8]) (σ := [some v1, some (.int (h : Int)), some v3, some (.int (r : Int)), some (.int m), some tv, none, none, none]) (Hb := G2) (te := tCall (spReduced K) [] E0 (tCons (tVar 8) (tCons (tVar 4) tNil)))
      (fun k => (HM.unit n h).getD k 0 % m) (g_seq (K := K) (r := pI) (j := 8) (n_call (K := K) (P := A2 K (pWeb C) pNat w h) (r := pI) (xs := HM.unit n h) (sp := spBegun K C) (E := E0) (t := tCons (tVar 0) (tCons (tVar 1) tNil)) (fun _ _ _ _ q => ⟨w, h, hh, hw1, hw2, by rw [hn]; exact q⟩) (a_2 (eW G2 g12.base _ rfl) (e_varN rfl))).R.L.LQ) (by rw [HM.unit_len]; omega) (fun G i us ⟨_, _, _, _, e⟩ => by rw [e]; rfl) (fun G0 G i us eb e0 hi ⟨xv, x, hx, hxv, eu⟩ => by
        have hxv : xv = .int x := hxv
        subst eu hxv
        rw [getD_of hx]
        exact e_call (K := K) (P := A2 K pI pI x m) (fun _ _ _ _ q => ⟨x, m, hm, q⟩) (a_2 (e_varI rfl) (e_varI rfl)))
    have ecnt : ((List.range (HM.unit n h).length).map fun k => (HM.unit n h).getD k 0 % m) = (HM.unit n h).map (· % m) := by
      refine List.ext_getElem (by simp) fun k h1 h2 => ?_
      have hk : k < (HM.unit n h).length := by simpa using h1
      simp [hk]
    rw [ecnt] at hcnt
    refine q_set (K := K) (Hb := G2) hcnt.R g5.in_ fun cv G6 H6 g6 hcv => ?_
    have g16 := g5.trans0 g6
    -- table
    have htab : EvR K (tCall (spRoundTable K C) [] E0 (tCons (tVar 0) (tCons (tVar 5) tNil))) [some v1, some (.int (h : Int)), some v3, some (.int (r : Int)), some (.int m), some tv, some cv, none, none] G6 (pLn (pLn pI)) (HM.tab (HM.met w.1 w.2 order) n) :=
      e_call (K := K) (P := A2 K (pWeb C) (pT pNat) w order) (fun _ _ _ _ q => ⟨w, order, okw, oko, hw1, hw2, by rw [hn]; exact q⟩) (a_2 (eW G6 g16.base _ rfl) (e_var rfl (pTn_T (Rep.lift (r := pTn pNat) htv g6.base))))
    refine q_set (K := K) (Hb := G6) htab g16.in_ fun bv G7 H7 g7 hbv => ?_
    have g17 := g16.trans0 g7
    have hcv7 := Rep.lift (r := pLn pI) hcv g7.base
    -- the loop
    show tSeq (tWhile _ _) _ _ _ _
    refine ⟨fun mm σ' H' => ∃ (r' : Nat) (cv tbv : V) (c : List Int) (T : List (List Int)) (Fc : List Int → List Int) (G : Hp), mm = r' ∧ σ' = [some v1, some (.int (h : Int)), some v3, some (.int (r' : Int)), some (.int m), some tv, some cv, some tbv, none] ∧ Grow [] Hb H G H' ∧
      (pL pI).is K G cv c ∧ (pL (pL pI)).is K G tbv T ∧ HM.Acts m n T Fc ∧ (0 < r' → ∀ row ∈ T, Sm row) ∧ c.length = n ∧ HM.Red m c ∧ HM.iter Fc r' c = farC w h order r m, ?_, ?_⟩
    · refine ⟨r, r, cv, bv, _, _, HM.F0 m w.1 w.2 order, G7, rfl, rfl, g17, pLn_L hcv7, nn_LL hbv, HM.tab_acts okw oko hn.symm (fun _ _ _ _ => rfl), fun _ => tab_sm ho40, by simp [HM.unit], fun x hx => ?_, ?_⟩
      · obtain ⟨y, _, rfl⟩ := List.mem_map.mp hx
        exact ⟨Int.emod_nonneg _ (by omega), Int.emod_lt_of_pos _ hm⟩
      · unfold farC
        rw [hn]
    · rintro r' σ' H' ⟨_, cv, tbv, c, T, Fc, G, rfl, rfl, g, hc, hT, act, sm, hcl, red, hit⟩
      refine (t_test (K := K) (a := decide ((0 : Int) < (r' : Int))) (σ := [some v1, some (.int (h : Int)), some v3, some (.int (r' : Int)), some (.int m), some tv, some cv, some tbv, none]) (Hb := G) (e_gt (e_varI rfl) e_int)) H' g.in_ _ fun H8 e8 => ?_
      have g8 := g.then_ e8
      by_cases hr0 : 0 < r'
      · rw [if_pos (decide_eq_true (by omega))]
        refine ⟨fun σ2 H2 => ∃ (cv tbv : V) (c : List Int) (T : List (List Int)) (Fc : List Int → List Int) (G : Hp), σ2 = [some v1, some (.int (h : Int)), some v3, some (.int ((r' / 2 : Nat) : Int)), some (.int m), some tv, some cv, some tbv, none] ∧ Grow [] Hb H G H2 ∧
          (pL pI).is K G cv c ∧ (pL (pL pI)).is K G tbv T ∧ HM.Acts m n T Fc ∧ (0 < r' / 2 → ∀ row ∈ T, Sm row) ∧ c.length = n ∧ HM.Red m c ∧ HM.iter Fc (r' / 2) c = farC w h order r m, fun σ2 H2 ⟨cv, tbv, c, T, Fc, G, q⟩ => ⟨r' / 2, Nat.div_lt_self hr0 (by decide), r' / 2, cv, tbv, c, T, Fc, G, rfl, q⟩, ?_⟩
        -- what follows the first half of a turn
        have rest : ∀ (cv2 : V) (c2 : List Int) (G2 H2 : Hp), Grow [] Hb H G2 H2 → Ex G G2 → (pL pI).is K G2 cv2 c2 → c2.length = n → HM.Red m c2 → HM.iter (fun x => Fc (Fc x)) (r' / 2) c2 = farC w h order r m →
            tSeq (tAsg (tIf (tTest (tOp (rI0 fun i j => .bl (decide (j < i))) (tVar 3) (tC (.int 1)))) (tCall (spDoubled K) [] E0 (tCons (tVar 7) (tCons (tVar 4) tNil))) (tVar 7)) (gName 7)) (tAug 3 (tC (.int 2)) (rI CDiv fun i j => .int (i / j)))
              { nx := fun σ2 H2 => ∃ (cv tbv : V) (c : List Int) (T : List (List Int)) (Fc : List Int → List Int) (G : Hp), σ2 = [some v1, some (.int (h : Int)), some v3, some (.int ((r' / 2 : Nat) : Int)), some (.int m), some tv, some cv, some tbv, none] ∧ Grow [] Hb H G H2 ∧
                (pL pI).is K G cv c ∧ (pL (pL pI)).is K G tbv T ∧ HM.Acts m n T Fc ∧ (0 < r' / 2 → ∀ row ∈ T, Sm row) ∧ c.length = n ∧ HM.Red m c ∧ HM.iter Fc (r' / 2) c = farC w h order r m, rt := fun _ _ => False }
              [some v1, some (.int (h : Int)), some v3, some (.int (r' : Int)), some (.int m), some tv, some cv2, some tbv, none] H2 := by
          intro cv2 c2 G2 H2 gg eg hc2 hcl2 red2 hit2
          have ediv : (r' : Int) / 2 = ((r' / 2 : Nat) : Int) := by omega
          by_cases h1 : 1 < r'
          · have hd : EvR K (tIf (tTest (tOp (rI0 fun i j => .bl (decide (j < i))) (tVar 3) (tC (.int 1)))) (tCall (spDoubled K) [] E0 (tCons (tVar 7) (tCons (tVar 4) tNil))) (tVar 7)) [some v1, some (.int (h : Int)), some v3, some (.int (r' : Int)), some (.int m), some tv, some cv2, some tbv, none] G2 (pL (pL pI)) (HM.dbl m n T) :=
              e_if (b := decide ((1 : Int) < (r' : Int))) (t_test (K := K) (e_gt (e_varI rfl) e_int)) (fun _ => (e_call (K := K) (P := A2 K (pL (pL pI)) pI T m) (fun _ _ _ _ q => ⟨T, m, n, hm, act.sq, by omega, by omega, sm hr0, q⟩) (a_2 (e_var rfl (Rep.lift (r := pL (pL pI)) hT eg)) (e_varI rfl))).to fun _ _ _ q => nn_LL q) (fun q => by have := of_decide_eq_false q; omega)
            refine q_set (K := K) (Hb := G2) hd gg.in_ fun tv2 G3 H3 g3 htv2 => ⟨.int (r' : Int), rfl, (r' : Int), 2, rfl, rfl, ⟨by decide, by decide⟩, cv2, tv2, c2, HM.dbl m n T, fun x => Fc (Fc x), G3, ?_, gg.trans0 g3, Rep.lift (r := pL pI) hc2 g3.base, htv2, act.dbl, fun _ => dbl_sm hm hm6, hcl2, red2, hit2⟩
            rw [← ediv]
            rfl
          · have hr1 : r' = 1 := by omega
            subst hr1
            have hd : EvR K (tIf (tTest (tOp (rI0 fun i j => .bl (decide (j < i))) (tVar 3) (tC (.int 1)))) (tCall (spDoubled K) [] E0 (tCons (tVar 7) (tCons (tVar 4) tNil))) (tVar 7)) [some v1, some (.int (h : Int)), some v3, some (.int ((1 : Nat) : Int)), some (.int m), some tv, some cv2, some tbv, none] G2 (pL (pL pI)) T :=
              e_if (b := decide ((1 : Int) < ((1 : Nat) : Int))) (t_test (K := K) (e_gt (e_varI rfl) e_int)) (fun q => by have := of_decide_eq_true q; omega) (fun _ => e_var rfl (Rep.lift (r := pL (pL pI)) hT eg))
            refine q_set (K := K) (Hb := G2) hd gg.in_ fun tv2 G3 H3 g3 htv2 => ⟨.int ((1 : Nat) : Int), rfl, ((1 : Nat) : Int), 2, rfl, rfl, ⟨by decide, by decide⟩, cv2, tv2, c2, T, Fc, G3, ?_, gg.trans0 g3, Rep.lift (r := pL pI) hc2 g3.base, htv2, act, fun q => absurd q (by decide), hcl2, red2, hit2⟩
            rw [← ediv]
            rfl
        by_cases hodd : r' % 2 = 1
        · have emod : decide ((r' : Int) % 2 = 1) = true := decide_eq_true (by omega)
          have hap : EvN K (tCall (spApplied K) [] E0 (tCons (tVar 7) (tCons (tVar 6) (tCons (tVar 4) tNil)))) [some v1, some (.int (h : Int)), some v3, some (.int (r' : Int)), some (.int m), some tv, some cv, some tbv, none] G pI (HM.app m T c) :=
            n_call (K := K) (P := A3 K (pL (pL pI)) (pL pI) pI T c m) (fun _ _ _ _ q => ⟨T, c, m, n, hm, act.sq, hcl, by omega, red_sm hm6 red, q⟩) (a_3 (e_var rfl hT) (e_var rfl hc) (e_varI rfl))
          refine q_ifT (b := decide ((r' : Int) % 2 = 1)) (Hb := G) (t_test (K := K) (e_eq (e_mod (by decide) (e_varI rfl) e_int) e_int)) g8.in_ (fun _ H9 e9 => ?_) (fun q => by rw [emod] at q; cases q)
          have g9 := g8.then_ e9
          refine s_set (K := K) (Hb := G) hap.R g9.in_ fun cv2 G10 H10 g10 hcv2 => ?_
          exact rest cv2 _ G10 H10 (g9.trans0 g10) g10.base (pLn_L hcv2) (by rw [HM.app_len, act.sq.1]) (app_red hm) (by
            rw [act.app c hcl, HM.iter_odd Fc hodd]
            exact hit)
        · have emod : decide ((r' : Int) % 2 = 1) = false := decide_eq_false (by omega)
          refine q_ifT (b := decide ((r' : Int) % 2 = 1)) (Hb := G) (t_test (K := K) (e_eq (e_mod (by decide) (e_varI rfl) e_int) e_int)) g8.in_ (fun q => by rw [emod] at q; cases q) (fun _ H9 e9 => ?_)
          exact rest cv c G H9 (g8.then_ e9) (Ex.refl _) hc hcl red (by
            rw [HM.iter_even Fc (by omega)]
            exact hit)
      · rw [if_neg (fun q => by have := of_decide_eq_true q; omega)]
        have hr1 : r' = 0 := by omega
        subst hr1
        have hit : c = farC w h order r m := hit
        subst hit
        have hsp : EvR K (tCall (spSplit K C) [] E0 (tCons (tVar 0) (tCons (tVar 6) tNil))) [some v1, some (.int (h : Int)), some v3, some (.int ((0 : Nat) : Int)), some (.int m), some tv, some cv, some tbv, none] G (pP (pTn pI) (pTn pI)) ((farC w h order r m).take w.1, (farC w h order r m).drop w.1) :=
          e_call (K := K) (P := A2 K (pWeb C) (pL pI) w (farC w h order r m)) (fun _ _ _ _ q => ⟨w, _, q⟩) (a_2 (eW G g.base _ rfl) (e_var rfl hc))
        exact s_retR (K := K) (Hb := G) hsp g8.in_ fun v G9 H9 g9 hv => k v G9 H9 (g8.trans0 g9) hv
end
end K62

set_option Elab.async false
set_option linter.all false
set_option maxRecDepth 100000
set_option maxHeartbeats 4000000
namespace K62
open PySem L2 Evl Ly
section
variable {P : Program} {w : World} {K : PySem.W.Frag} {mg : Str → Option Value} {base : Heap}
theorem stepP_len {ties : HM.Ties} {J : List Int} {t : Int} : (HM.stepP ties J t).length ≤ J.length + 2 := by
  unfold HM.stepP
  split
  · have h1 := insE_len (ks := J) (i := HM.pa ties t)
    have h2 := insE_len (ks := insE J (HM.pa ties t)) (i := HM.pb ties t)
    omega
  · omega
def spRings (K : PySem.W.Frag) (C : Addr) : Sp := fun vs H Q E => ∃ (w : WebD) (h : Nat) (order : List Nat), HM.OkW w.1 w.2 ∧ HM.OkO w.2 order ∧ w.1 ≤ 100 ∧ order.length ≤ 60 ∧ PromR K (A3 K (pWeb C) pNat (pT pNat) w h order) pI (HM.ringsP w.1 w.2 h order) vs H Q E
set_option maxHeartbeats 16000000 in
theorem ok_rings_met {f C : Addr} {fd : FuncData} (B : Blt mg) (W : WebC K C) (F : Fun K "rings_met" "rings_met" s_rings_met f fd) : FnOk P w K mg base CX0 2 f fd ["web", "house", "order"] (spRings K C) := by
  refine F.ok sc_rings_met (fun vs H Q E h => ?_) (fun cdv A outer s H vs Q E hr h => ?_)
  · obtain ⟨_, _, _, _, _, _, _, Hb, _, ⟨v, u, z, rfl, _⟩, _⟩ := h
    rfl
  · obtain ⟨w, h, order, okw, oko, hw1, hol, Hb, e, ⟨v, u, z, rfl, hw, rfl, ho⟩, k⟩ := h
    have hu0 := hr.units
    have hu := Nat.lt_of_le_of_lt (Nat.add_le_add_left (by decide : 1 ≤ 64) _) hu0
    have nd := sc_rings_met.nd
    refine ⟨_, (pss_cons (ps_set (i := 3) nd rfl (Or.inl rfl) (pe_callB (k_sortedI K) (by rfl) B.sorted (by decide +kernel) (pa_cons (pe_callTy (call_list_dK rfl) (by rfl) B.list (by decide +kernel) (pa_cons (pe_dc (own := [("tie", 6)]) rfl nd (pk_seq K (pv 2)) (blkOk_by (own := [("tie", 6)]) (N := ["web", "house", "order", "ties", "joined", "turn", "tie", "here", "there"]) (sc := defScope s_rings_met) (by decide +kernel)) (fun _ _ _ _ _ => (pg_name (i := 6) nd rfl (Or.inl rfl))) (fun _ _ _ _ _ => pts_nil) (fun _ _ _ _ _ => (pv 6)) (fun _ _ _ _ _ => pe_bl)) pa_nil)) pa_nil)))
      (pss_cons (ps_set (i := 4) nd rfl (Or.inr rfl) (pe_disp (pps_cons (pv 1) pe_bl pps_nil) (by rfl) (by rfl) (fun z => by cases z) (by decide)))
      (pss_cons (ps_for PassesOwn.never rfl (pi_range1 (by rfl) B.range (pa_cons (pk_fld K (pv 0)) pa_nil)) (pg_name (i := 5) nd rfl (Or.inl rfl))
      (pss_one (ps_for PassesOwn.never rfl (pk_seq K (pv 3)) (pg_name (i := 6) nd rfl (Or.inl rfl))
      (pss_cons (ps_asg (pe_ix (k_ix K) (pk_fld K (pv 0)) (pv 6) (fun _ _ => rfl)) (pk_tup K (n := 2) rfl (pgs_cons (pg_name (i := 7) nd rfl (Or.inl rfl)) (pgs_cons (pg_name (i := 8) nd rfl (Or.inl rfl)) pgs_nil))))
      (pss_one (ps_if (PW.pt (pw_or (pt_cmp (pc_din hu (pv 7) (pv 4))) (pw_or1 (pt_cmp (pc_din hu (pv 8) (pv 4)))))) (pss_cons (ps_dput hu (pv 4) (pv 7) pe_bl rfl)
      (pss_one (ps_dput hu (pv 4) (pv 8) pe_bl rfl))) pss_nil))))))
      (pss_one (ps_ret (pe_op op_add (pe_op op_sub (pe_callB (k_len K) (by rfl) B.len (by decide +kernel) (pa_cons (pe_lc (own := [("tie", 6)]) rfl nd (pk_seq K (pv 3)) (blkOk_by (own := [("tie", 6)]) (N := ["web", "house", "order", "ties", "joined", "turn", "tie", "here", "there"]) (sc := defScope s_rings_met) (by decide +kernel)) (fun _ _ _ _ _ => (pg_name (i := 6) nd rfl (Or.inl rfl))) (fun _ _ _ _ _ => (pts_one (pt_cmp (pc_din hu (pe_ix (k_ix K) (pe_ix (k_ix K) (pk_fld K (pv 0)) (pv 6) (fun _ _ => rfl)) pe_int (fun _ _ => rfl)) (pv 4))))) (fun _ _ _ _ _ => (pv 6))) pa_nil)) (pe_callB c_lenDi (by rfl) B.len (by decide +kernel) (pa_cons (pv 4) pa_nil))) pe_int)))))), ?_⟩
    have hmem : ∀ j, j ∈ HM.some_ order ↔ ∃ t ∈ order, (t : Int) = j := fun j => by
      unfold HM.some_
      rw [mem_rise, List.mem_map]
    have hsl : (HM.some_ order).length ≤ 60 := by
      have hp : (HM.some_ order).Perm ((order.map fun (n : Nat) => (n : Int)).foldl insE []) := HM.nodup_perm (rise_nodup _) (foldE_nodup (by simp)) fun k => by
        unfold HM.some_
        rw [mem_rise, foldE_mem]
        simp
      have hf : ∀ (xs ks : List Int), (xs.foldl insE ks).length ≤ ks.length + xs.length := fun xs => by
        induction xs with
        | nil => intro ks; exact Nat.le_refl _
        | cons x xs ih =>
          intro ks
          have h1 := ih (insE ks x)
          have h2 := insE_len (ks := ks) (i := x)
          show (xs.foldl insE (insE ks x)).length ≤ ks.length + (xs.length + 1)
          omega
      rw [hp.length_eq]
      have := hf (order.map fun (n : Nat) => (n : Int)) []
      rw [List.length_map] at this
      simp at this
      omega
    have htie : ∀ j ∈ HM.some_ order, ∃ t : Nat, j = (t : Int) ∧ t < w.2.length := fun j hj => by
      obtain ⟨t, ht, rfl⟩ := (hmem j).mp hj
      exact ⟨t, rfl, oko t ht⟩
    -- the ties met, rising
    have hdc := e_dc (K := K) (σ := [some v, some (.int (h : Int)), some z, none, none, none, none, none, none]) (Hb := Hb) (j := 6) (xs := order) (g_seq (K := K) (r := pNat) (j := 6) ((e_var (i := 2) (r := pT pNat) rfl ho).TQ)) (by omega) (fun _ => rfl) (fun _ => rfl)
    have hso := n_sortI (K := K) (out := HM.some_ order) (n_listD hdc).R.L (foldE_nodup (by simp)) (rise_rising _) (fun k => by
      unfold HM.some_
      rw [mem_rise, foldE_mem]
      simp)
    refine q_set (K := K) (Hb := Hb) hso.R e fun sv G1 H1 g1 hsv => ?_
    have hsv := pLn_L hsv
    generalize hsms : HM.some_ order = sms at hmem hsl htie hsv
    refine q_dnew (K := K) (Hb := G1) (x := (h : Int)) (e_varI rfl) g1.in_ fun a H2 g2 a1 a2 ha => ?_
    have g12 := g1.trans0 g2
    have an : H a = none := fresh_back g1.ex a2
    have hw1' := Rep.lift (r := pWeb C) hw g1.base
    refine s_forG (Hb := G1) (g_range (K := K) (j := 5) (n := w.1) (e_houses W (e_var (i := 0) rfl hw1')).nat (by omega)) g2.in_
      (fun G i σ' H' => ∃ y5 y6 y7 y8, σ' = [some v, some (.int (h : Int)), some z, some sv, some (.ref a), y5, y6, y7, y8] ∧ Grow [] Hb H G1 H' ∧ Ex G H' ∧ G a = none ∧ H' a = some (.dK (dks (HM.turns (HM.stepP w.2) sms i [(h : Int)]))) ∧ (HM.turns (HM.stepP w.2) sms i [(h : Int)]).length ≤ 1 + i * 120) ?_ ?_ ?_ ?_ ?_
    · intro G H3 g3
      exact ⟨none, none, none, none, rfl, g12.then_ g3.ex, g3.in_, g3.no ha a1, g3.ex _ _ ha, by show 1 ≤ 1 + 0 * 120; decide⟩
    · rintro G i σ' H' _ ⟨_, _, _, _, _, _, eG, _⟩
      exact eG
    · rintro G i σ' H' H3 ⟨y5, y6, y7, y8, rfl, g, eG, n, ha, hl⟩ e3
      exact ⟨y5, y6, y7, y8, rfl, g.then_ e3, eG.trans e3, n, e3 _ _ ha, hl⟩
    · rintro G i us σ' H' eG hi rfl ⟨y5, y6, y7, y8, rfl, g, eG2, n, ha, hl⟩
      have es : HM.turns (HM.stepP w.2) sms (i + 1) [(h : Int)] = sms.foldl (HM.stepP w.2) (HM.turns (HM.stepP w.2) sms i [(h : Int)]) := HM.iter_succ _ i _
      rw [es]
      generalize HM.turns (HM.stepP w.2) sms i [(h : Int)] = J at ha hl es
      refine s_forG (Hb := G1) (g_seq (K := K) (r := pI) (j := 6) ((e_var (i := 3) (r := pL pI) (x := sms) rfl hsv).LQ)) g.in_
        (fun G' k σ' H' => ∃ y6 y7 y8, σ' = [some v, some (.int (h : Int)), some z, some sv, some (.ref a), some (.int (i : Int)), y6, y7, y8] ∧ Grow [] Hb H G1 H' ∧ Ex G H' ∧ Ex G' H' ∧ G' a = none ∧ H' a = some (.dK (dks ((sms.take k).foldl (HM.stepP w.2) J))) ∧ ((sms.take k).foldl (HM.stepP w.2) J).length ≤ J.length + 2 * k) ?_ ?_ ?_ ?_ ?_
      · intro G' H3 g3
        exact ⟨_, _, _, rfl, g.then_ g3.ex, eG2.trans g3.ex, g3.in_, g3.no ha a1, g3.ex _ _ ha, Nat.le_refl _⟩
      · rintro G' k σ' H' _ ⟨_, _, _, _, _, _, eG', _⟩
        exact eG'
      · rintro G' k σ' H' H3 ⟨y6, y7, y8, rfl, g, eG, eG', n', ha, hl⟩ e3
        exact ⟨y6, y7, y8, rfl, g.then_ e3, eG.trans e3, eG'.trans e3, n', e3 _ _ ha, hl⟩
      · rintro G' kk us σ' H' _ hkk ⟨tv, t0, ht, htv, rfl⟩ ⟨y6, y7, y8, rfl, g, eG, eG', n', ha, hl2⟩
        obtain ⟨t, rfl, htl⟩ := htie t0 (List.mem_of_getElem? ht)
        have htv : tv = .int (t : Int) := htv
        subst htv
        have ef : (sms.take (kk + 1)).foldl (HM.stepP w.2) J = HM.stepP w.2 ((sms.take kk).foldl (HM.stepP w.2) J) (t : Int) := by
          rw [take_succ ht, List.foldl_append]
          rfl
        rw [ef]
        generalize (sms.take kk).foldl (HM.stepP w.2) J = L at ha hl2
        have hlk : kk < 60 := by omega
        have hi100 : i * 120 ≤ 12000 := by omega
        refine q_unpairN (K := K) (Hb := G1) (e_ixT (e_ties W (e_var rfl hw1')).T (e_varI rfl) (tie_at htl)) g.in_ fun H3 e3 => ?_
        have g3 := g.then_ e3
        have ha3 := e3 _ _ ha
        have hst : HM.stepP w.2 L (t : Int) = if ((HM.tie w.2 t).1 : Int) ∈ L ∨ ((HM.tie w.2 t).2 : Int) ∈ L then insE (insE L ((HM.tie w.2 t).1 : Int)) ((HM.tie w.2 t).2 : Int) else L := rfl
        have hsl2 := stepP_len (ties := w.2) (J := L) (t := (t : Int))
        rw [hst] at hsl2 ⊢
        generalize HM.tie w.2 t = p at hsl2 ⊢
        have hd : pD.is K (upd G1 a (.dK (dks L))) (.ref a) L := ⟨a, rfl, upd_same⟩
        refine s_ifT (b := (decide ((p.1 : Int) ∈ L) || decide ((p.2 : Int) ∈ L))) (Hb := upd G1 a (.dK (dks L))) ?_ (Ex.own g3.in_ ha3) (fun q H4 e4 => ?_) (fun q H4 e4 => ?_)
        · exact et_or (t_B (e_din (K := K) (e_varI rfl) (e_var (r := pD) rfl hd))) fun _ => t_B (e_din (K := K) (e_varI rfl) (e_var (r := pD) rfl hd))
        · have q : (p.1 : Int) ∈ L ∨ (p.2 : Int) ∈ L := by simpa using q
          rw [if_pos q] at hsl2 ⊢
          have g4 := g3.then_ e4
          refine q_dput (K := K) (Hb := G1) (x := (p.1 : Int)) g4.in_ (e4 _ _ ha3) a1 rfl (e_varI rfl) (by omega) fun H5 e5 => ?_
          have g5 := (g4.then_ e5).mut (a := a) (o := .dK (dks (insE L (p.1 : Int)))) (.inl an) a1
          have hl5 := insE_len (ks := L) (i := (p.1 : Int))
          refine s_dput (K := K) (Hb := G1) (x := (p.2 : Int)) g5.in_ upd_same a1 rfl (e_varI rfl) (by omega) fun H6 e6 => ?_
          have g6 := (g5.then_ e6).mut (a := a) (o := .dK (dks (insE (insE L (p.1 : Int)) (p.2 : Int)))) (.inl an) a1
          have up1 : ∀ (X0 X1 : Hp) (o : HO), Ex X0 X1 → X0 a = none → Ex X0 (upd X1 a o) := fun X0 X1 o ex nn c oo hc => by
            rw [upd_ne (ne_of_none hc nn)]
            exact ex c oo hc
          refine ⟨_, _, _, rfl, g6, up1 _ _ _ ((up1 _ _ _ (((eG.trans e3).trans e4).trans e5) n).trans e6) n, up1 _ _ _ ((up1 _ _ _ (((eG'.trans e3).trans e4).trans e5) n').trans e6) n', n', upd_same, by omega⟩
        · have q : ¬ ((p.1 : Int) ∈ L ∨ (p.2 : Int) ∈ L) := by simpa using q
          rw [if_neg q]
          exact ⟨_, _, _, rfl, g3.then_ e4, (eG.trans e3).trans e4, (eG'.trans e3).trans e4, n', e4 _ _ ha3, by omega⟩
      · rintro G' σ' H' _ ⟨y6, y7, y8, rfl, g, eG, eG', n', ha, hl2⟩
        rw [List.take_length] at ha hl2
        exact ⟨_, _, _, _, rfl, g, eG, n, ha, by omega⟩
    · rintro G σ' H' eG ⟨y5, y6, y7, y8, rfl, g, eG2, n, ha, hl⟩
      have g9 := g.give (.inl an) a1 ha
      have er : HM.ringsP w.1 w.2 h order = HM.tally w.2 sms (HM.turns (HM.stepP w.2) sms w.1 [(h : Int)]) := by
        unfold HM.ringsP
        rw [hsms]
      rw [er] at k
      generalize HM.turns (HM.stepP w.2) sms w.1 [(h : Int)] = J at ha hl g9 k
      have hd : pD.is K (upd G1 a (.dK (dks J))) (.ref a) J := ⟨a, rfl, upd_same⟩
      have hw9 : (pWeb C).is K (upd G1 a (.dK (dks J))) v w := Rep.lift (r := pWeb C) hw1' (Ex.new a1)
      have hs9 : (pL pI).is K (upd G1 a (.dK (dks J))) sv sms := Rep.lift (r := pL pI) hsv (Ex.new a1)
      have hlc := n_lcG (K := K) (rb := pI) (σ := [some v, some (.int (h : Int)), some z, some sv, some (.ref a), y5, y6, y7, y8]) (Hb := upd G1 a (.dK (dks J))) (vs := [6]) (te := tVar 6) (t := tB (tDIn (tOp (rIx K) (tOp (rIx K) (tFld K (tVar 0) "ties") (tVar 6)) (tC (.int 0))) (tVar 4)))
        (fun i => decide (HM.pa w.2 (sms.getD i 0) ∈ J)) (fun i => sms.getD i 0) (g_seq (K := K) (r := pI) (j := 6) ((e_var (i := 3) (r := pL pI) (x := sms) rfl hs9).LQ)) (by omega) (fun G i us ⟨_, _, _, _, e⟩ => by rw [e]; rfl) (fun G0 G i us eb e0 hi ⟨tv, t0, ht, htv, eu⟩ => by
          obtain ⟨t, rfl, htl⟩ := htie t0 (List.mem_of_getElem? ht)
          have htv : tv = .int (t : Int) := htv
          subst eu htv
          rw [getD_of ht]
          exact t_B (e_din (K := K) (x := HM.pa w.2 (t : Int)) (e_fst (e_ixT (e_ties W (e_var (r := pWeb C) rfl (Rep.lift (r := pWeb C) hw9 (eb.trans e0)))).T (e_varI rfl) (tie_at htl))).nat (e_var (r := pD) rfl (Rep.lift (r := pD) hd (eb.trans e0))))) (fun G0 G i us eb e0 hi ⟨tv, t0, ht, htv, eu⟩ _ => by
          have htv : tv = .int t0 := htv
          subst eu htv
          rw [getD_of ht]
          exact e_varI rfl)
      have ef : (((List.range sms.length).filter fun i => decide (HM.pa w.2 (sms.getD i 0) ∈ J)).map fun i => sms.getD i 0) = sms.filter fun t => decide (HM.pa w.2 t ∈ J) := by
        have := List.filter_map (f := fun i => sms.getD i 0) (p := fun t => decide (HM.pa w.2 t ∈ J)) (l := List.range sms.length)
        rw [← HM.list_tab] at this
        exact this.symm
      rw [ef] at hlc
      have hall : EvR K (tOp (rI0 fun i j => .int (i + j)) (tOp (rI0 fun i j => .int (i - j)) (tCB (rLenQ K) (tCons (tLc (iSeq K (tVar 3)) (gName 6) (tB (tDIn (tOp (rIx K) (tOp (rIx K) (tFld K (tVar 0) "ties") (tVar 6)) (tC (.int 0))) (tVar 4))) (tVar 6) [6]) tNil)) (tCB rLenDi (tCons (tVar 4) tNil))) (tC (.int 1)))
          [some v, some (.int (h : Int)), some z, some sv, some (.ref a), y5, y6, y7, y8] (upd G1 a (.dK (dks J))) pI (HM.tally w.2 sms J) := e_add (e_sub (e_lenL hlc.R.L).nat (e_lenD (e_var (r := pD) rfl hd)).nat) e_int
      exact s_retR (K := K) (Hb := upd G1 a (.dK (dks J))) hall g9.in_ fun v G H1 g10 hv => k v G H1 (g9.trans0 g10) hv
end
end K62

set_option Elab.async false
set_option linter.all false
set_option maxRecDepth 100000
set_option maxHeartbeats 4000000
namespace K62
open PySem L2 Evl Ly
section
variable {P : Program} {w : World} {K : PySem.W.Frag} {mg : Str → Option Value} {base : Heap}
def spPace (K : PySem.W.Frag) (C : Addr) : Sp := fun vs H Q E => ∃ (w : WebD) (h : Nat) (order : List Nat), HM.OkW w.1 w.2 ∧ HM.OkO w.2 order ∧ w.1 ≤ 100 ∧ order.length ≤ 60 ∧ h < w.1 ∧ 1 < HM.ringsP w.1 w.2 h order ∧ PromR K (A3 K (pWeb C) pNat (pS pNat) w h order) pNon () vs H Q E
theorem ok_pace_of {f C : Addr} {fd : FuncData} (B : Blt mg) (W : WebC K C) (C_need_house : Callee P w K mg base "need_house" 4 ["web", "house"] (spNeedHouse K C)) (C_check_meetings : Callee P w K mg base "check_meetings" 4 ["web", "value"] (spCheckMeetings K C))
    (C_rings_met : Callee P w K mg base "rings_met" 2 ["web", "house", "order"] (spRings K C)) (F : Fun K "pace_of" "pace_of" s_pace_of f fd) : FnOk P w K mg base CX0 5 f fd ["web", "house", "order"] (spPace K C) := by
  refine F.ok sc_pace_of (fun vs H Q E h => ?_) (fun cdv A outer s H vs Q E hr h => ?_)
  · obtain ⟨_, _, _, _, _, _, _, _, _, Hb, _, ⟨v, u, z, rfl, _⟩, _⟩ := h
    rfl
  · obtain ⟨w, h, order, okw, oko, hw1, hol, hh, hri, Hb, e, ⟨v, u, z, rfl, hw, rfl, ho⟩, k⟩ := h
    have nd := sc_pace_of.nd
    refine ⟨_, (pss_cons (ps_expr (pe_cal C_need_house hr (pa_cons (pv 0) (pa_cons (pv 1) pa_nil))))
      (pss_cons (ps_set (i := 3) nd rfl (Or.inl rfl) (pe_cal C_check_meetings hr (pa_cons (pv 0) (pa_cons (pv 2) pa_nil))))
      (pss_cons (ps_if (pt_cmpR op_gt (pe_cal C_rings_met hr (pa_cons (pv 0) (pa_cons (pv 1) (pa_cons (pv 3) pa_nil)))) pe_int (nomark _)) (pss_one (ps_ret pe_non)) pss_nil)
      pss_never))), ?_⟩
    have eW : ∀ (G : Hp) (eG : Ex Hb G) (y : L2.St) (hy : y[0]? = some (some v)), EvR K (tVar 0) y G (pWeb C) w := fun G eG y hy => e_var hy (Rep.lift (r := pWeb C) hw eG)
    refine (e_call (K := K) (P := A2 K (pWeb C) pNat w h) (r := pNat) (x := h) (σ := [some v, some (.int (h : Int)), some z, none, none, none, none, none, none, none, none, none, none, none]) (Hb := Hb) (fun _ _ _ _ q => ⟨w, h, hh, q⟩) (a_2 (eW Hb (Ex.refl _) _ rfl) (e_varN rfl))) H e _ fun _ G1 H1 g1 _ => ?_
    have hchk : EvR K (tCall (spCheckMeetings K C) [] E0 (tCons (tVar 0) (tCons (tVar 2) tNil))) [some v, some (.int (h : Int)), some z, none, none, none, none, none, none, none, none, none, none, none] G1 (pTn pNat) order :=
      e_call (K := K) (P := A2 K (pWeb C) (pS pNat) w order) (fun _ _ _ _ q => ⟨w, order, oko, by omega, q⟩) (a_2 (eW G1 g1.base _ rfl) (e_var rfl (Rep.lift (r := pS pNat) ho g1.base)))
    refine q_set (K := K) (Hb := G1) hchk g1.in_ fun tv G2 H2 g2 htv => ?_
    have g12 := g1.trans0 g2
    refine q_ifT (b := decide ((1 : Int) < HM.ringsP w.1 w.2 h order)) (Hb := G2) ?_ g12.in_ (fun _ H3 e3 => ?_) (fun q => by rw [decide_eq_true hri] at q; cases q)
    · exact t_test (K := K) (e_gt (e_call (K := K) (P := A3 K (pWeb C) pNat (pT pNat) w h order) (fun _ _ _ _ q => ⟨w, h, order, okw, oko, hw1, hol, q⟩) (a_3 (eW G2 g12.base _ rfl) (e_varN rfl) (e_var rfl (pTn_T htv)))) e_int)
    · exact s_retR (K := K) (Hb := G2) e_non (g12.in_.trans e3) fun v G H4 g hv => k v G H4 ((g12.then_ e3).trans0 g) hv
/-! the law's draws -/
def spTake : Sp := fun vs H Q E => ∃ (b : Addr) (m : Int), 0 < m ∧ m < 1073741824 ∧ vs = [.ref b, .int m] ∧ Bx H b ∧ ∀ n H', 0 ≤ n ∧ n < m → ExB b H H' → Bx H' b → Q (.int n) H'
theorem ok_law_take {f : Addr} {fd : FuncData} (B : Blt mg) (F : Fun K "_law_take" "_law_take" s_law_take f fd) : FnOk P w K mg base CX0 1 f fd ["box", "many"] spTake := by
  refine F.ok sc_law_take (fun vs H Q E h => ?_) (fun cdv A outer s H vs Q E hr h => ?_)
  · obtain ⟨_, _, _, _, rfl, _⟩ := h
    rfl
  · obtain ⟨b, m, hm, hm2, rfl, ⟨g, r, hb⟩, k⟩ := h
    have nd := sc_law_take.nd
    refine ⟨_, (pss_cons (ps_if (pt_cmpR op_gt (pe_ix (k_ix K) (pv 0) pe_int (fun _ _ => rfl)) pe_int (nomark _)) (pss_cons (ps_set (i := 2) nd rfl (Or.inl rfl) (pe_op op_mod (pe_callTy c_int (by rfl) B.int (by decide +kernel) (pa_cons (pe_ix (k_ix K) (pv 0) pe_int (fun _ _ => rfl)) pa_nil)) (pv 1)))
      (pss_cons (ps_asg (pe_op op_fdiv (pe_ix (k_ix K) (pv 0) pe_int (fun _ _ => rfl)) (pv 1)) (pg_sub (pv 0) pe_int set_list))
      (pss_one (ps_ret (pv 2))))) pss_nil)
      (pss_cons (ps_set (i := 3) nd rfl (Or.inl rfl) (pe_op op_mod (pe_callTy c_int (by rfl) B.int (by decide +kernel) (pa_cons (pe_op op_add (pe_op op_mul (pe_ix (k_ix K) (pv 0) pe_int (fun _ _ => rfl)) pe_int) pe_int) pa_nil)) pe_int))
      (pss_cons (ps_asg (pe_op op_add (pe_op op_mod (pe_callTy c_int (by rfl) B.int (by decide +kernel) (pa_cons (pe_op op_add (pe_op op_mul (pv 3) pe_int) pe_int) pa_nil)) pe_int) pe_int) (pg_sub (pv 0) pe_int set_list))
      (pss_one (ps_ret (pe_op op_mod (pe_callTy c_int (by rfl) B.int (by decide +kernel) (pa_cons (pe_op op_fdiv (pe_op op_add (pe_op op_mul (pv 3) pe_int) (pe_ix (k_ix K) (pv 0) pe_int (fun _ _ => rfl))) pe_int) pa_nil)) (pv 1))))))), ?_⟩
    have rd : ∀ (g r : Int) (y : L2.St) (hy : y[0]? = some (some (.ref b))), EvR K (tVar 0) y (upd (fun _ => none) b (.lst [.int g, .int r])) (pL pI) [g, r] := fun g r y hy => e_var hy ⟨b, _, rfl, SqL.of upd_same, int_each [g, r]⟩
    have inb : ∀ (g r : Int) (H : Hp), H b = some (.lst [.int g, .int r]) → Ex (upd (fun _ => none) b (.lst [.int g, .int r])) H := fun g r H hH c o hc => by
      by_cases q : c = b
      · subst q
        rw [upd_same] at hc
        rw [hH]
        exact hc
      · rw [upd_ne q] at hc
        cases hc
    have i0 : ∀ (g r : Int) (y : L2.St) (hy : y[0]? = some (some (.ref b))), EvR K (tOp (rIx K) (tVar 0) (tC (.int 0))) y (upd (fun _ => none) b (.lst [.int g, .int r])) pI g := fun g r y hy => e_ixL (i := 0) (rd g r y hy) e_int rfl
    have i1 : ∀ (g r : Int) (y : L2.St) (hy : y[0]? = some (some (.ref b))), EvR K (tOp (rIx K) (tVar 0) (tC (.int 1))) y (upd (fun _ => none) b (.lst [.int g, .int r])) pI r := fun g r y hy => e_ixL (i := 1) (rd g r y hy) e_int rfl
    refine q_ifT (b := decide ((0 : Int) < g)) (Hb := upd (fun _ => none) b (.lst [.int g, .int r])) (t_test (K := K) (e_gt (i0 g r _ rfl) e_int)) (inb g r H hb) (fun _ H1 e1 => ?_) (fun _ H1 e1 => ?_)
    · refine q_setI (K := K) (Hb := upd (fun _ => none) b (.lst [.int g, .int r])) (n := g % m) (e_mod hm (e_int1 (i0 g r _ rfl)) (e_varI rfl)) (inb g r H1 (e1 _ _ hb)) fun H2 e2 => ?_
      refine q_setBox (K := K) (Hb := upd (fun _ => none) b (.lst [.int g, .int r])) (n := g / m) (j := 0) (inb g r H2 (e2 _ _ (e1 _ _ hb))) (e2 _ _ (e1 _ _ hb)) rfl (e_div ⟨hm, hm2⟩ (i0 g r _ rfl) (e_varI rfl)) e_int (by show 0 < 2; decide) fun H3 e3 => ?_
      refine ⟨.int (g % m), rfl, ?_⟩
      exact k (g % m) _ ⟨Int.emod_nonneg _ (by omega), Int.emod_lt_of_pos _ hm⟩ ((ExB.of ((e1.trans e2).trans e3)).trans ExB.upd) ⟨g / m, r, upd_same⟩
    · refine q_setI (K := K) (Hb := upd (fun _ => none) b (.lst [.int g, .int r])) (n := (r * 40692 + 151) % 2147483399) (e_mod (by decide) (e_int1 (e_add (e_mul (.inr (by decide)) (i1 g r _ rfl) e_int) e_int)) e_int) (inb g r H1 (e1 _ _ hb)) fun H2 e2 => ?_
      generalize (r * 40692 + 151) % 2147483399 = raw
      refine q_setBox (K := K) (Hb := upd (fun _ => none) b (.lst [.int g, .int r])) (n := (raw * 39373 + 23) % 2147483587 + 1) (j := 1) (inb g r H2 (e2 _ _ (e1 _ _ hb))) (e2 _ _ (e1 _ _ hb)) rfl (e_add (e_mod (by decide) (e_int1 (e_add (e_mul (.inr (by decide)) (e_varI rfl) e_int) e_int)) e_int) e_int) e_int (by show 1 < 2; decide) fun H3 e3 => ?_
      generalize (raw * 39373 + 23) % 2147483587 + 1 = r2
      have hfin : EvR K (tOp (rI (fun _ j => 0 < j) fun i j => .int (i % j)) (tCB rInt1 (tCons (tOp (rI CDiv fun i j => .int (i / j)) (tOp (rI0 fun i j => .int (i + j)) (tOp (rI CMul fun i j => .int (i * j)) (tVar 3) (tC (.int 2147483629))) (tOp (rIx K) (tVar 0) (tC (.int 1)))) (tC (.int 8167))) tNil)) (tVar 1))
          [some (.ref b), some (.int m), none, some (.int raw)] (upd (fun _ => none) b (.lst [.int g, .int r2])) pI ((raw * 2147483629 + r2) / 8167 % m) := e_mod hm (e_int1 (e_div (by decide) (e_add (e_mul (.inr (by decide)) (e_varI rfl) e_int) (i1 g r2 _ rfl)) e_int)) (e_varI rfl)
      refine hfin.int _ (inb g r2 _ upd_same) _ fun H4 e4 => ?_
      exact k _ H4 ⟨Int.emod_nonneg _ (by omega), Int.emod_lt_of_pos _ hm⟩ (((ExB.of ((e1.trans e2).trans e3)).trans ExB.upd).trans (ExB.of e4)) ⟨g, r2, e4 _ _ upd_same⟩
theorem x_take {σ : L2.St} {b : Addr} {Hb : Hp} {ta : TE} {i : Nat} {P1 R : Int → Prop} (hv : σ[i]? = some (some (.ref b))) (h : XI ta σ b Hb P1) (hp : ∀ m, P1 m → 0 < m ∧ m < 1073741824) (hr : ∀ m n, P1 m → 0 ≤ n → n < m → R n) : XI (tCall spTake [] E0 (tCons (tVar i) (tCons ta tNil))) σ b Hb R := fun H1 e x Q q =>
  ⟨.ref b, hv, h H1 e x _ fun m H2 p e2 x2 => ⟨b, m, (hp m p).1, (hp m p).2, rfl, x2, fun n H' hn e3 x3 => q n H' (hr m n p hn.1 hn.2) (e2.trans e3) x3⟩⟩
def spPick : Sp := fun vs H Q E => ∃ (b p : Addr) (ns : List Int), ns ≠ [] ∧ ns.length ≤ 1000 ∧ vs = [.ref b, .ref p] ∧ p ≠ b ∧ Bx H b ∧ H p = some (.lst (ns.map V.int)) ∧ ∀ n H', n ∈ ns → ExB b H H' → Bx H' b → Q (.int n) H'
theorem ok_law_pick {f : Addr} {fd : FuncData} (B : Blt mg) (C_law_take : Callee P w K mg base "_law_take" 1 ["box", "many"] spTake) (F : Fun K "_law_pick" "_law_pick" s_law_pick f fd) : FnOk P w K mg base CX0 2 f fd ["box", "some"] spPick := by
  refine F.ok sc_law_pick (fun vs H Q E h => ?_) (fun cdv A outer s H vs Q E hr h => ?_)
  · obtain ⟨_, _, _, _, _, rfl, _⟩ := h
    rfl
  · obtain ⟨b, p, ns, hn, hl, rfl, hpb, x, hp, k⟩ := h
    have nd := sc_law_pick.nd
    refine ⟨_, (pss_one (ps_ret (pe_ix (k_ix K) (pv 1) (pe_cal C_law_take hr (pa_cons (pv 0) (pa_cons (pe_callB (k_len K) (by rfl) B.len (by decide +kernel) (pa_cons (pv 1) pa_nil)) pa_nil))) (fun _ _ => rfl)))), ?_⟩
    have hlen : EvR K (tCB (rLenQ K) (tCons (tVar 1) tNil)) [some (.ref b), some (.ref p)] (upd (fun _ => none) p (.lst (ns.map V.int))) pNat ns.length := e_lenL (K := K) (r := pI) (xs := ns) (e_var rfl ⟨p, _, rfl, SqL.of upd_same, int_each ns⟩)
    have inp : Ex (upd (fun _ => none) p (.lst (ns.map V.int))) H := fun c o hc => by
      by_cases q : c = p
      · subst q
        rw [upd_same] at hc
        rw [hp]
        exact hc
      · rw [upd_ne q] at hc
        cases hc
    have h0 : 0 < ns.length := List.length_pos_iff.mpr hn
    refine ⟨.ref p, rfl, x_take (σ := [some (.ref b), some (.ref p)]) (i := 0) (b := b) (P1 := fun m => m = (ns.length : Nat)) (R := fun n => 0 ≤ n ∧ n < (ns.length : Nat)) rfl (x_pure hlen.nat rfl) (fun m e => by omega) (fun m n e h1 h2 => by omega) H inp x _ fun n H' hn' e' x' => ?_⟩
    obtain ⟨j, rfl⟩ : ∃ j : Nat, n = (j : Int) := ⟨n.toNat, by omega⟩
    have hj : j < ns.length := by omega
    exact .inl ⟨p, ns.map V.int, (j : Int), .int ns[j], rfl, rfl, SqL.of (e' p _ hpb hp), atI_nat (by simp [hj]), k _ H' (List.getElem_mem hj) e' x'⟩
theorem x_pick {σ : L2.St} {b : Addr} {Hb : Hp} {t : TA} {i n : Nat} {R : Int → Prop} (hv : σ[i]? = some (some (.ref b))) (h : XA t σ b Hb R n) (h0 : 0 < n) (hn : n ≤ 1000) : XI (tCall spPick [] E0 (tCons (tVar i) (tCons (tLst t) tNil))) σ b Hb R := fun H1 e x Q q =>
  ⟨.ref b, hv, h H1 e x _ fun ns H2 hl ha e2 x2 => ⟨by rw [List.length_map, hl]; exact Nat.le_trans hn (by decide), fun p hp => ⟨b, p, ns, fun z => by subst z; exact absurd hl (by show ¬ (0 = n); omega), by omega, rfl, fun z => x2.has (z ▸ hp), x2.ex (Ex.new hp), upd_same, fun m H' hm e3 x3 => q m H' (ha m hm) (e2.trans ((ExB.of (Ex.new hp)).trans e3)) x3⟩⟩⟩
end
end K62

set_option Elab.async false
set_option linter.all false
set_option maxRecDepth 100000
set_option maxHeartbeats 4000000
namespace K62
open PySem L2 Evl Ly
section
variable {P : Program} {w : World} {K : PySem.W.Frag} {mg : Str → Option Value} {base : Heap}
def spBox (K : PySem.W.Frag) : Sp := fun vs H Q E => ∃ (v : V) (xs : List Int) (k : Nat) (Hb : Hp), vs = [v, .int (k : Int)] ∧ (pL pI).is K Hb v xs ∧ Ex Hb H ∧ ∀ a H', Grow [] Hb H Hb H' → Hb a = none → H a = none → Bx H' a → Q (.ref a) H'
theorem ok_law_box {f : Addr} {fd : FuncData} (B : Blt mg) (F : Fun K "_law_box" "_law_box" s_law_box f fd) : FnOk P w K mg base CX0 1 f fd ["script", "k"] (spBox K) := by
  refine F.ok sc_law_box (fun vs H Q E h => ?_) (fun cdv A outer s H vs Q E hr h => ?_)
  · obtain ⟨_, _, _, _, rfl, _⟩ := h
    rfl
  · obtain ⟨v, xs, k, Hb, rfl, hv, e, kk⟩ := h
    have nd := sc_law_box.nd
    refine ⟨_, (pss_cons (ps_set (i := 2) nd rfl (Or.inl rfl) (pe_op op_add (pe_op op_mul pe_int (pv 1)) pe_int))
      (pss_cons (ps_if (pt_cmpR op_lt (pv 1) (pe_callB (k_len K) (by rfl) B.len (by decide +kernel) (pa_cons (pv 0) pa_nil)) (nomark _)) (pss_one (ps_set (i := 2) nd rfl (Or.inl rfl) (pe_callB c_abs (by rfl) B.abs (by decide +kernel) (pa_cons (pe_callTy c_int (by rfl) B.int (by decide +kernel) (pa_cons (pe_ix (k_ix K) (pv 0) (pv 1) (fun _ _ => rfl)) pa_nil)) pa_nil)))) (pss_one (ps_if (pt_cmpR op_gt (pe_callB (k_len K) (by rfl) B.len (by decide +kernel) (pa_cons (pv 0) pa_nil)) pe_int (nomark _)) (pss_one (ps_set (i := 2) nd rfl (Or.inl rfl) (pe_op op_add (pv 2) (pe_op op_mul (pe_op op_mod (pe_callTy c_int (by rfl) B.int (by decide +kernel) (pa_cons (pe_callB c_abs (by rfl) B.abs (by decide +kernel) (pa_cons (pe_callTy c_int (by rfl) B.int (by decide +kernel) (pa_cons (pe_ix (k_ix K) (pv 0) (pe_op op_mod (pe_callTy c_int (by rfl) B.int (by decide +kernel) (pa_cons (pv 1) pa_nil)) (pe_callB (k_len K) (by rfl) B.len (by decide +kernel) (pa_cons (pv 0) pa_nil))) (fun _ _ => rfl)) pa_nil)) pa_nil)) pa_nil)) pe_int) pe_int)))) pss_nil)))
      (pss_cons (ps_set (i := 3) nd rfl (Or.inl rfl) (pe_ifExp (pt_cmpR op_ge (pv 2) (pe_op op_pow pe_int pe_int) (nomark _)) (pv 2) pe_int))
      (pss_one (ps_ret (pe_lst (pa_cons (pv 3) (pa_cons (pe_op op_add (pe_op op_mod (pe_callTy c_int (by rfl) B.int (by decide +kernel) (pa_cons (pe_op op_add (pe_op op_mul (pe_op op_mod (pe_callTy c_int (by rfl) B.int (by decide +kernel) (pa_cons (pv 2) pa_nil)) pe_int) pe_int) (pe_op op_mul pe_int (pv 1))) pa_nil)) pe_int) pe_int) pa_nil)))))))), ?_⟩
    have eS : ∀ (y : L2.St) (hy : y[0]? = some (some v)), EvR K (tVar 0) y Hb (pL pI) xs := fun y hy => e_var hy hv
    -- the end, from any cell
    have fin : ∀ (c : Int) (H1 : Hp), Ex H H1 → tSeq (tAsg (tIf (tTest (tOp (rI0 fun i j => .bl (decide (j ≤ i))) (tVar 2) (tOp (rI CPow fun i j => .int (i ^ j.toNat)) (tC (.int 10)) (tC (.int 18))))) (tVar 2) (tC (.int 0))) (gName 3))
        (tRet (tLst (tCons (tVar 3) (tCons (tOp (rI0 fun i j => .int (i + j)) (tOp (rI (fun _ j => 0 < j) fun i j => .int (i % j)) (tCB rInt1 (tCons (tOp (rI0 fun i j => .int (i + j)) (tOp (rI CMul fun i j => .int (i * j)) (tOp (rI (fun _ j => 0 < j) fun i j => .int (i % j)) (tCB rInt1 (tCons (tVar 2) tNil)) (tC (.int 2147483587))) (tC (.int 69833))) (tOp (rI CMul fun i j => .int (i * j)) (tC (.int 1709)) (tVar 1))) tNil)) (tC (.int 2147483587))) (tC (.int 1))) tNil))))
        { nx := fun _ H' => Q .non H', rt := Q } [some v, some (.int (k : Int)), some (.int c), none] H1 := fun c H1 e1 => by
      have hgr : ∃ g : Int, EvR K (tIf (tTest (tOp (rI0 fun i j => .bl (decide (j ≤ i))) (tVar 2) (tOp (rI CPow fun i j => .int (i ^ j.toNat)) (tC (.int 10)) (tC (.int 18))))) (tVar 2) (tC (.int 0))) [some v, some (.int (k : Int)), some (.int c), none] Hb pI g := by
        refine ⟨if (10 : Int) ^ (18 : Int).toNat ≤ c then c else 0, e_if (t_test (K := K) (e_ge (e_varI rfl) (e_pow ⟨by decide, by decide, by decide⟩ e_int e_int))) (fun q => ?_) (fun q => ?_)⟩
        · rw [if_pos (of_decide_eq_true q)]
          exact e_varI rfl
        · rw [if_neg (of_decide_eq_false q)]
          exact e_int
      obtain ⟨g, hg⟩ := hgr
      refine q_setI (K := K) (Hb := Hb) hg (e.trans e1) fun H2 e2 => ?_
      have h2 := n_two (K := K) (r := pI) (σ := [some v, some (.int (k : Int)), some (.int c), some (.int g)]) (Hb := Hb) (e_varI (i := 3) rfl) (e_add (e_mod (by decide) (e_int1 (e_add (e_mul (.inr (by decide)) (e_mod (by decide) (e_int1 (e_varI (i := 2) rfl)) (e_int (n := 2147483587))) (e_int (n := 69833))) (e_mul (.inl (by decide)) (e_int (n := 1709)) (e_varI (i := 1) rfl)))) (e_int (n := 2147483587))) (e_int (n := 1)))
      refine h2 H2 ((e.trans e1).trans e2) _ fun a vs G H3 g3 n1 n2 h3 hE => ?_
      have hvs := each_int hE
      subst hvs
      have e3 := (e1.trans e2).trans g3.ex
      refine kk a H3 ⟨fun c o _ h => e3 c o h, Ex.refl _, e.trans e3, fun _ _ h => h⟩ (fresh_back ((e.trans e1).trans e2) n2) (fresh_back (e1.trans e2) n2) ⟨_, _, h3⟩
    refine q_setI (K := K) (Hb := Hb) (n := 10007 * (k : Int) + 1709) (e_add (e_mul (.inl (by decide)) e_int (e_varI rfl)) e_int) e fun H1 e1 => ?_
    generalize 10007 * (k : Int) + 1709 = c0
    refine q_ifT (b := decide ((k : Int) < (xs.length : Nat))) (Hb := Hb) (t_test (K := K) (e_lt (e_varI rfl) (e_lenL (eS _ rfl)).nat)) (e.trans e1) (fun q H2 e2 => ?_) (fun q H2 e2 => ?_)
    · have hk : k < xs.length := by have := of_decide_eq_true q; omega
      refine s_setI (K := K) (Hb := Hb) (e_abs (e_int1 (e_ixL (eS _ rfl) (e_varI rfl) (List.getElem?_eq_getElem hk)))) ((e.trans e1).trans e2) fun H3 e3 => ?_
      exact fin _ H3 ((e1.trans e2).trans e3)
    · refine s_ifT (b := decide ((0 : Int) < (xs.length : Nat))) (Hb := Hb) (t_test (K := K) (e_gt (e_lenL (eS _ rfl)).nat e_int)) ((e.trans e1).trans e2) (fun q H3 e3 => ?_) (fun q H3 e3 => ?_)
      · have hl : 0 < xs.length := by have := of_decide_eq_true q; omega
        have hk : k % xs.length < xs.length := Nat.mod_lt _ hl
        have him : EvR K (tOp (rI (fun _ j => 0 < j) fun i j => .int (i % j)) (tCB rInt1 (tCons (tVar 1) tNil)) (tCB (rLenQ K) (tCons (tVar 0) tNil))) [some v, some (.int (k : Int)), some (.int c0), none] Hb pI ((k % xs.length : Nat) : Int) := (e_mod (by omega) (e_int1 (e_varI rfl)) (e_lenL (eS _ rfl)).nat).eq (by simp)
        refine s_setI (K := K) (Hb := Hb) (e_add (e_varI rfl) (e_mul (.inr (by decide)) (e_mod (by decide) (e_int1 (e_abs (e_int1 (e_ixL (eS _ rfl) him (List.getElem?_eq_getElem hk))))) e_int) e_int)) (((e.trans e1).trans e2).trans e3) fun H4 e4 => ?_
        exact fin _ H4 (((e1.trans e2).trans e3).trans e4)
      · exact fin _ H3 ((e1.trans e2).trans e3)
theorem erase_perm {α : Type} : ∀ (zs : List α) (j : Nat) (h : j < zs.length), (zs[j] :: zs.eraseIdx j).Perm zs
  | z :: zs, 0, _ => List.Perm.refl _
  | z :: zs, j + 1, h => by
    have hj : j < zs.length := by simpa using h
    have := erase_perm zs j hj
    show (zs[j] :: z :: zs.eraseIdx j).Perm (z :: zs)
    exact (List.Perm.swap _ _ _).trans (this.cons z)
theorem seqIx_nat {j n : Nat} (h : j < n) : seqIndex? (j : Int) n = some j := by
  rw [seqIndex_of (by omega) (by omega)]
  simp
/-- some, mixed -/
def spMixed (K : PySem.W.Frag) : Sp := fun vs H Q E => ∃ (α : Type) (r : Rep α) (xs : List α) (b : Addr) (v : V) (Hb : Hp), Hb b = none ∧ xs.length ≤ 1000 ∧ vs = [.ref b, v] ∧ (pL r).is K Hb v xs ∧ Ex Hb H ∧ Bx H b ∧
  ∀ a ws ys G H', ys.Perm xs → Grow [b] Hb H G H' → G a = none → H a = none → Bx H' b → H' a = some (.lst ws) → Each K G r ws ys → Q (.ref a) H'
theorem ok_law_mixed {f : Addr} {fd : FuncData} (B : Blt mg) (C_law_take : Callee P w K mg base "_law_take" 1 ["box", "many"] spTake) (F : Fun K "_law_mixed" "_law_mixed" s_law_mixed f fd) : FnOk P w K mg base CX0 2 f fd ["box", "some"] (spMixed K) := by
  refine F.ok sc_law_mixed (fun vs H Q E h => ?_) (fun cdv A outer s H vs Q E hr h => ?_)
  · obtain ⟨_, _, _, _, _, _, _, _, rfl, _⟩ := h
    rfl
  · obtain ⟨α, r, xs, b, v, Hb, hb, hl, rfl, hv, e, x, k⟩ := h
    have nd := sc_law_mixed.nd
    refine ⟨_, (pss_cons (ps_par (i := 2) (j := 3) rfl nd rfl rfl (by decide) rfl rfl (pa_cons (pe_lst pa_nil) (pa_cons (pe_callTy (k_list K) (by rfl) B.list (by decide +kernel) (pa_cons (pv 1) pa_nil)) pa_nil)) (by rfl))
      (pss_cons (ps_for PassesOwn.never rfl (pi_range1 (by rfl) B.range (pa_cons (pe_callB (k_len K) (by rfl) B.len (by decide +kernel) (pa_cons (pv 3) pa_nil)) pa_nil)) (pg_name (i := 4) nd rfl (Or.inl rfl))
      (pss_one (ps_expr (pe_bm PySem.F.plainAttrs_list PySem.F.slot_list_append PySem.F.type_list_append mt_append (pv 2) (pa_cons (pe_bm PySem.F.plainAttrs_list PySem.F.slot_list_pop PySem.F.type_list_pop mt_popAt (pv 3) (pa_cons (pe_cal C_law_take hr (pa_cons (pv 0) (pa_cons (pe_callB (k_len K) (by rfl) B.len (by decide +kernel) (pa_cons (pv 3) pa_nil)) pa_nil))) pa_nil)) pa_nil)))))
      (pss_one (ps_ret (pv 2))))), ?_⟩
    refine q_parNN (K := K) (r := r) (r2 := r) (Hb := Hb) (xs := []) (ys := xs) n_nil (fun G eG => n_listL (K := K) (r := r) (e_var (r := pL r) rfl (Rep.lift (r := pL r) hv eG))) e fun fa fvs G1 H1 la lvs G2 H2 g1 f1 f2 hf hFE g2 l1 l2 hl2 hLE => ?_
    have hfv : fvs = [] := List.length_eq_zero_iff.mp hFE.1
    subst hfv
    have g12 := (g1.trans0 g2).any (ms := [b])
    have hf2 := g2.ex _ _ hf
    have f3 : G2 fa = none := g2.no hf f1
    have lan : H la = none := fresh_back g1.ex l2
    have hlf : la ≠ fa := fun z => by
      subst z
      rw [hf] at l2
      cases l2
    have hb2 : G2 b = none := g12.off b x.has hb
    have hbf : b ≠ fa := fun z => x.has (z ▸ f2)
    have hbl : b ≠ la := fun z => x.has (z ▸ lan)
    have x2 : Bx H2 b := x.ex (g1.ex.trans g2.ex)
    have ell : EvR K (tCB (rLenQ K) (tCons (tVar 3) tNil)) [some (.ref b), some v, some (.ref fa), some (.ref la), none] (upd G2 la (.lst lvs)) pNat xs.length := e_lenL (K := K) (r := r) (xs := xs) (e_var (r := pL r) rfl ⟨la, lvs, rfl, SqL.of upd_same, hLE.mono (Ex.new l1)⟩)
    refine s_for1R (K := K) (Hb := upd G2 la (.lst lvs)) (n := xs.length) ell.nat (Ex.own g12.in_ hl2) (by omega) fun H3 e3 => ?_
    refine ⟨fun i σ' H' => ∃ y4 fvs lvs ys zs, σ' = [some (.ref b), some v, some (.ref fa), some (.ref la), y4] ∧ Grow [b] Hb H G2 H' ∧ Bx H' b ∧ H' fa = some (.lst fvs) ∧ H' la = some (.lst lvs) ∧ Each K G2 r fvs ys ∧ Each K G2 r lvs zs ∧ (ys ++ zs).Perm xs ∧ ys.length = i ∧ i ≤ xs.length, ?_, ?_, ?_⟩
    · exact ⟨none, [], lvs, [], xs, rfl, g12.then_ e3, x2.ex e3, e3 _ _ hf2, e3 _ _ hl2, Each.nil, hLE, List.Perm.refl _, rfl, Nat.zero_le _⟩
    · rintro i σ' H' hi ⟨y4, fvs, lvs, ys, zs, rfl, g, x', hfa, hla, hE1, hE2, pm, hyl, _⟩
      have hzl : zs.length = xs.length - i := by
        have := pm.length_eq
        rw [List.length_append] at this
        omega
      refine ⟨.ref fa, rfl, .inl ⟨rfl, _, SqL.of hfa⟩, .ref la, rfl, .inl ⟨rfl, _, SqL.of hla⟩, ?_⟩
      have ell2 : EvR K (tCB (rLenQ K) (tCons (tVar 3) tNil)) [some (.ref b), some v, some (.ref fa), some (.ref la), some (.int ((0 : Int) + (i : Nat)))] (upd G2 la (.lst lvs)) pNat zs.length := e_lenL (K := K) (r := r) (xs := zs) (e_var (r := pL r) rfl ⟨la, lvs, rfl, SqL.of upd_same, hE2.mono (Ex.new l1)⟩)
      refine x_take (σ := [some (.ref b), some v, some (.ref fa), some (.ref la), some (.int ((0 : Int) + (i : Nat)))]) (i := 0) (b := b) (P1 := fun m => m = (zs.length : Nat)) (R := fun n => 0 ≤ n ∧ n < (zs.length : Nat)) rfl (x_pure ell2.nat rfl) (fun m e => by omega) (fun m n e h1 h2 => by omega) H' (Ex.own g.in_ hla) x' _ fun n H4 hn e4 x4 => ?_
      obtain ⟨j, rfl⟩ : ∃ j : Nat, n = (j : Int) := ⟨n.toNat, by omega⟩
      have hj : j < zs.length := by omega
      have hjl : j < lvs.length := by rw [hE2.1]; exact hj
      refine ⟨la, lvs, (j : Int), j, lvs[j], rfl, rfl, e4 _ _ (Ne.symm hbl) hla, by omega, by omega, seqIx_nat hjl, List.getElem?_eq_getElem hjl, ?_⟩
      refine ⟨fa, fvs, lvs[j], rfl, rfl, by rw [upd_ne (Ne.symm hlf)]; exact e4 _ _ (Ne.symm hbf) hfa, sz_of (by rw [hE1.1]; omega), ?_⟩
      have gA := (g.box (by simp) hb2 e4).mut (a := la) (o := .lst (lvs.eraseIdx j)) (.inl lan) l1
      have gB := gA.mut (a := fa) (o := .lst (fvs ++ [lvs[j]])) (.inl f2) f3
      refine ⟨_, fvs ++ [lvs[j]], lvs.eraseIdx j, ys ++ [zs[j]], zs.eraseIdx j, rfl, gB, ?_, upd_same, by rw [upd_ne hlf, upd_same], hE1.snoc (hE2.2 j _ _ (List.getElem?_eq_getElem hjl) (List.getElem?_eq_getElem hj)), hE2.erase j, ?_, by simp [hyl], by omega⟩
      · obtain ⟨q1, q2, q3⟩ := x4
        exact ⟨q1, q2, by rw [upd_ne hbf, upd_ne hbl]; exact q3⟩
      · rw [List.append_assoc]
        exact ((erase_perm zs j hj).append_left ys).trans pm
    · rintro σ' H' ⟨y4, fvs, lvs, ys, zs, rfl, g, x', hfa, hla, hE1, hE2, pm, hyl, _⟩
      have hz : zs = [] := by
        have := pm.length_eq
        rw [List.length_append] at this
        exact List.length_eq_zero_iff.mp (by omega)
      subst hz
      rw [List.append_nil] at pm
      exact ⟨.ref fa, rfl, k fa fvs ys G2 H' pm g f3 f2 x' hfa hE1⟩
end
end K62

set_option Elab.async false
set_option linter.all false
set_option maxRecDepth 100000
set_option maxHeartbeats 4000000
namespace K62
open PySem L2 Evl Ly
theorem growTr {b : Addr} {Hb H G H2 G2 H3 : Hp} (g : Grow [b] Hb H G H2) (k : Grow [] G H2 G2 H3) (x2 : Bx H2 b) : Grow [b] Hb H G2 H3 := g.trans k.any fun c hc _ => by
  rw [List.mem_singleton.mp hc]
  exact x2.has
theorem growTr2 {b : Addr} {Hb H G H2 G2 H3 : Hp} (g : Grow [b] Hb H G H2) (k : Grow [b] G H2 G2 H3) (x2 : Bx H2 b) : Grow [b] Hb H G2 H3 := g.trans k fun c hc _ => by
  rw [List.mem_singleton.mp hc]
  exact x2.has
theorem okW_snoc {h : Nat} {ts : List (Nat × Nat)} {p : Nat × Nat} (w : HM.OkW h ts) (hp : p.1 < h ∧ p.2 < h ∧ p.1 ≠ p.2) : HM.OkW h (ts ++ [p]) := fun q hq => by
  rcases List.mem_append.mp hq with hq | hq
  · exact w q hq
  · rw [List.mem_singleton.mp hq]
    exact hp
section
variable {K : PySem.W.Frag} {σ : L2.St} {Hb H : Hp} {ta : TE} {D : Ends} {tz : TS} {b : Addr} {i i1 i2 : Nat} {α : Type} {r : Rep α} {xs : List α}
theorem x_mixed (hv : σ[i]? = some (some (.ref b))) (h : EvR K ta σ Hb (pL r) xs) (hb : Hb b = none) (hl : xs.length ≤ 1000) (e : Ex Hb H) (x : Bx H b) {Q : VK}
    (q : ∀ a ws ys G H', ys.Perm xs → Grow [b] Hb H G H' → G a = none → H a = none → Bx H' b → H' a = some (.lst ws) → Each K G r ws ys → Q (.ref a) H') : tCall (spMixed K) [] E0 (tCons (tVar i) (tCons ta tNil)) σ H Q :=
  ⟨.ref b, hv, h H e _ fun v G1 H1 g1 hv1 => ⟨α, r, xs, b, v, G1, g1.off b x.has hb, hl, rfl, hv1, g1.in_, x.ex g1.ex, fun a ws ys G H' pm g n1 n2 x' ha hE => q a ws ys G H' pm (g1.trans0 g) n1 (fresh_back g1.ex n2) x' ha hE⟩⟩
theorem q_parMN (hv : σ[i]? = some (some (.ref b))) (h : EvR K ta σ Hb (pL r) xs) (hb : Hb b = none) (hl : xs.length ≤ 1000) (e : Ex Hb H) (x : Bx H b)
    (k : ∀ a ws ys G H1 fa, ys.Perm xs → Grow [b] Hb H G H1 → G a = none → H a = none → Bx H1 b → H1 a = some (.lst ws) → Each K G r ws ys → H1 fa = none → tz D ((σ.set i1 (some (.ref a))).set i2 (some (.ref fa))) (upd H1 fa (.lst []))) :
    tSeq (tPar i1 i2 (tCons (tCall (spMixed K) [] E0 (tCons (tVar i) (tCons ta tNil))) (tCons (tLst tNil) tNil))) tz D σ H :=
  x_mixed (Q := fun y H1 => tCons (tLst tNil) tNil σ H1 fun ys H2 => ∃ v w, y :: ys = [v, w] ∧ tz D ((σ.set i1 (some v)).set i2 (some w)) H2) hv h hb hl e x fun a ws ys G H' pm g n1 n2 x' ha hE =>
    ⟨Nat.zero_le _, fun p hp => ⟨_, _, rfl, k a ws ys G H' p pm g n1 n2 x' ha hE hp⟩⟩
end
section
variable {P : Program} {w : World} {K : PySem.W.Frag} {mg : Str → Option Value} {base : Heap}
def spWeb (K : PySem.W.Frag) : Sp := fun vs H Q E => ∃ (b : Addr) (Hb : Hp), Hb b = none ∧ vs = [.ref b] ∧ Ex Hb H ∧ Bx H b ∧ ∀ (w : WebD) v G H', 2 ≤ w.1 → w.1 ≤ 7 → HM.OkW w.1 w.2 → w.2.length ≤ 18 → Grow [b] Hb H G H' → Bx H' b → (pP pNat (pTn (pP pNat pNat))).is K G v w → Q v H'
set_option maxHeartbeats 16000000 in
theorem ok_law_web {f : Addr} {fd : FuncData} (B : Blt mg) (C_law_take : Callee P w K mg base "_law_take" 1 ["box", "many"] spTake) (C_law_pick : Callee P w K mg base "_law_pick" 2 ["box", "some"] spPick) (C_law_mixed : Callee P w K mg base "_law_mixed" 2 ["box", "some"] (spMixed K))
    (F : Fun K "_law_web" "_law_web" s_law_web f fd) : FnOk P w K mg base CX0 3 f fd ["box"] (spWeb K) := by
  refine F.ok sc_law_web (fun vs H Q E h => ?_) (fun cdv A outer s H vs Q E hr h => ?_)
  · obtain ⟨_, _, _, rfl, _⟩ := h
    rfl
  · obtain ⟨b, Hb, hb, rfl, e, x, k⟩ := h
    have nd := sc_law_web.nd
    refine ⟨_, (pss_cons (ps_set (i := 1) nd rfl (Or.inl rfl) (pe_op op_add pe_int (pe_cal C_law_take hr (pa_cons (pv 0) (pa_cons (pe_cal C_law_pick hr (pa_cons (pv 0) (pa_cons (pe_lst (pa_cons pe_int (pa_cons pe_int (pa_cons pe_int pa_nil)))) pa_nil))) pa_nil)))))
      (pss_cons (ps_set (i := 2) nd rfl (Or.inl rfl) (pe_op op_sub (pe_cal C_law_pick hr (pa_cons (pv 0) (pa_cons (pe_lst (pa_cons pe_int (pa_cons pe_int (pa_cons pe_int (pa_cons pe_int (pa_cons pe_int (pa_cons pe_int (pa_cons pe_int (pa_cons pe_int pa_nil))))))))) pa_nil))) (pv 1)))
      (pss_cons (ps_set (i := 3) nd rfl (Or.inl rfl) (pe_lst pa_nil))
      (pss_cons (ps_for PassesOwn.never rfl (pi_range2 (by rfl) B.range (pa_cons pe_int (pa_cons (pv 1) pa_nil))) (pg_name (i := 4) nd rfl (Or.inl rfl))
      (pss_one (ps_if (pt_cmpR op_gt (pe_cal C_law_take hr (pa_cons (pv 0) (pa_cons pe_int pa_nil))) pe_int (nomark _)) (pss_one (ps_expr (pe_bm PySem.F.plainAttrs_list PySem.F.slot_list_append PySem.F.type_list_append mt_append (pv 3) (pa_cons (pe_tup (pa_cons (pe_cal C_law_take hr (pa_cons (pv 0) (pa_cons (pv 4) pa_nil))) (pa_cons (pv 4) pa_nil))) pa_nil)))) pss_nil)))
      (pss_cons (ps_for PassesOwn.never rfl (pi_range1 (by rfl) B.range (pa_cons (pe_cal C_law_take hr (pa_cons (pv 0) (pa_cons (pe_callB (c_max2 rfl) (by rfl) B.max (by decide +kernel) (pa_cons pe_int (pa_cons (pe_op op_add (pe_op op_sub (pv 2) (pe_callB (k_len K) (by rfl) B.len (by decide +kernel) (pa_cons (pv 3) pa_nil))) pe_int) pa_nil))) pa_nil))) pa_nil)) (pg_name (i := 5) nd rfl (Or.inl rfl))
      (pss_cons (ps_set (i := 6) nd rfl (Or.inl rfl) (pe_cal C_law_take hr (pa_cons (pv 0) (pa_cons (pv 1) pa_nil))))
      (pss_one (ps_expr (pe_bm PySem.F.plainAttrs_list PySem.F.slot_list_append PySem.F.type_list_append mt_append (pv 3) (pa_cons (pe_tup (pa_cons (pv 6) (pa_cons (pe_op op_mod (pe_callTy c_int (by rfl) B.int (by decide +kernel) (pa_cons (pe_op op_add (pe_op op_add (pv 6) pe_int) (pe_cal C_law_take hr (pa_cons (pv 0) (pa_cons (pe_op op_sub (pv 1) pe_int) pa_nil)))) pa_nil)) (pv 1)) pa_nil))) pa_nil))))))
      (pss_cons (ps_if (pt_cmpR op_gt (pe_cal C_law_take hr (pa_cons (pv 0) (pa_cons pe_int pa_nil))) pe_int (nomark _)) (pss_one (ps_set (i := 3) nd rfl (Or.inl rfl) (pe_op op_cat (pv 3) (pe_op op_rep (pe_lst (pa_cons (pe_tup (pa_cons pe_int (pa_cons pe_int pa_nil))) pa_nil)) (pe_op op_sub (pe_callB (c_min2 rfl) (by rfl) B.min (by decide +kernel) (pa_cons (pv 2) (pa_cons (pe_op op_add (pv 1) pe_int) pa_nil))) (pe_callB (k_len K) (by rfl) B.len (by decide +kernel) (pa_cons (pv 3) pa_nil))))))) pss_nil)
      (pss_cons (ps_par (i := 7) (j := 8) rfl nd rfl rfl (by decide) rfl rfl (pa_cons (pe_cal C_law_mixed hr (pa_cons (pv 0) (pa_cons (pe_listRg rfl (by rfl) B.list (prg_1 (by rfl) B.range (pv 1))) pa_nil))) (pa_cons (pe_lst pa_nil) pa_nil)) (by rfl))
      (pss_cons (ps_for PassesOwn.never rfl (pk_seq K (pe_cal C_law_mixed hr (pa_cons (pv 0) (pa_cons (pv 3) pa_nil)))) (pk_tup K (n := 2) rfl (pgs_cons (pg_name (i := 6) nd rfl (Or.inl rfl)) (pgs_cons (pg_name (i := 9) nd rfl (Or.inl rfl)) pgs_nil)))
      (pss_one (ps_expr (pe_bm PySem.F.plainAttrs_list PySem.F.slot_list_append PySem.F.type_list_append mt_append (pv 8) (pa_cons (pe_ifExp (pt_cmpR op_eq (pe_cal C_law_take hr (pa_cons (pv 0) (pa_cons pe_int pa_nil))) pe_int (nomark _)) (pe_tup (pa_cons (pe_ix (k_ix K) (pv 7) (pv 6) (fun _ _ => rfl)) (pa_cons (pe_ix (k_ix K) (pv 7) (pv 9) (fun _ _ => rfl)) pa_nil))) (pe_tup (pa_cons (pe_ix (k_ix K) (pv 7) (pv 9) (fun _ _ => rfl)) (pa_cons (pe_ix (k_ix K) (pv 7) (pv 6) (fun _ _ => rfl)) pa_nil)))) pa_nil)))))
      (pss_one (ps_ret (pe_tup (pa_cons (pv 1) (pa_cons (pe_callTy (k_tup K) (by rfl) B.tuple (by decide +kernel) (pa_cons (pv 8) pa_nil)) pa_nil))))))))))))), ?_⟩
    refine q_setX (b := b) (Hb := Hb) (P := fun n => 2 ≤ n ∧ n < 8) ?t1 e x fun n H1 hn e1 x1 => ?_
    case t1 =>
      refine x_op0 (P1 := fun n => n = 2) (P2 := fun n => 0 ≤ n ∧ n < 6) hb (x_pure (K := K) e_int rfl) (x_take (i := 0) (P1 := fun m => 0 < m ∧ m ≤ 6) rfl (x_pick (i := 0) (n := 3) rfl ?_ (by decide) (by decide)) (fun m h => by omega) (fun m n h h1 h2 => by omega)) (fun x y h1 h2 => by omega)
      exact xa_cons hb (x_pure (K := K) e_int (by decide)) (xa_cons hb (x_pure (K := K) e_int (by decide)) (xa_cons hb (x_pure (K := K) e_int (by decide)) xa_nil))
    obtain ⟨h, rfl⟩ : ∃ h : Nat, n = (h : Int) := ⟨n.toNat, by omega⟩
    have g1 : Grow [b] Hb H Hb H1 := (Grow.refl e).box (by simp) hb e1
    refine q_setX (b := b) (Hb := Hb) (P := fun m => 4 ≤ m ∧ m ≤ 16) ?t1 g1.in_ x1 fun m H2 hm e2 x2 => ?_
    case t1 =>
      refine x_op0 (P1 := fun n => 11 ≤ n ∧ n ≤ 18) (P2 := fun n => n = (h : Int)) hb (x_pick (i := 0) (n := 8) rfl ?_ (by decide) (by decide)) (x_pure (K := K) (e_varI rfl) rfl) (fun x y h1 h2 => by omega)
      exact xa_cons hb (x_pure (K := K) e_int (by decide)) (xa_cons hb (x_pure (K := K) e_int (by decide)) (xa_cons hb (x_pure (K := K) e_int (by decide)) (xa_cons hb (x_pure (K := K) e_int (by decide)) (xa_cons hb (x_pure (K := K) e_int (by decide)) (xa_cons hb (x_pure (K := K) e_int (by decide)) (xa_cons hb (x_pure (K := K) e_int (by decide)) (xa_cons hb (x_pure (K := K) e_int (by decide)) xa_nil)))))))
    have g2 := g1.box (by simp) hb e2
    refine q_setN (K := K) (Hb := Hb) (r := pP pNat pNat) (xs := []) n_nil g2.in_ fun t tvs G3 H3 g3 t1 t2 h3 hE3 => ?_
    have hz : tvs = [] := List.length_eq_zero_iff.mp hE3.1
    subst hz
    have x3 := x2.ex g3.ex
    have gg3 := growTr g2 g3 x2
    have ht0 : H t = none := by
      cases z : H t with
      | none => rfl
      | some o => exact absurd t2 (by rw [(g2.run t o (fun q => x.has (by rw [← List.mem_singleton.mp q]; exact absurd t2 (by rw [List.mem_singleton.mp q]; exact x2.has))) z)]; exact fun z => nomatch z)
    -- the tree
    refine s_for2R (K := K) (Hb := G3) (m := 1) (n := h) (e_int (n := 1)) (e_varI rfl) gg3.in_ (by decide) (by omega) fun H4 e4 => ?_
    refine ⟨fun i σ' H' => ∃ y4 G vs ts, σ' = [some (.ref b), some (.int (h : Int)), some (.int m), some (.ref t), y4, none, none, none, none, none] ∧ Grow [b] Hb H G H' ∧ Bx H' b ∧ G t = none ∧ H' t = some (.lst vs) ∧ Each K G (pP pNat pNat) vs ts ∧ HM.OkW h ts ∧ ts.length ≤ i, ?_, ?_, ?_⟩
    · exact ⟨none, G3, [], [], rfl, gg3.then_ e4, x3.ex e4, t1, e4 _ _ h3, Each.nil, (fun q (hq : q ∈ []) => by cases hq), Nat.le_refl _⟩
    · rintro i σ' H' hi ⟨y4, G, vs, ts, rfl, g, x', hGt, hH, hE, ok, hl⟩
      have hGb : G b = none := g.off b x.has hb
      refine s_ifX (b := b) (Hb := G) (B := fun _ => True) (xt_cmp (P1 := fun _ => True) (P2 := fun _ => True) hGb (x_take (i := 0) (P1 := fun m => m = 8) rfl (x_pure (K := K) e_int rfl) (fun m h => by omega) (fun _ _ _ _ _ => trivial)) (x_pure (K := K) e_int trivial)) g.in_ x' (fun _ H5 e5 x5 => ?_) (fun _ H5 e5 x5 => ?_)
      · have htb : t ≠ b := fun z => x.has (z ▸ ht0)
        have g5 := g.box (by simp) hGb e5
        refine s_appXP (K := K) (P := fun n m => 0 ≤ n ∧ n < (1 + (i : Nat) : Int) ∧ m = (1 + (i : Nat) : Int)) (R := fun p => p.1 < h ∧ p.2 < h ∧ p.1 ≠ p.2) g5 x hb x5 ht0 hGt (e5 t _ htb hH) hE rfl ?_ (fun n m q => ?_) (by rw [hE.1]; omega) fun p v G6 H6 hR g6 eG x6 t6 h6 hE6 => ?_
        · exact x_pair hGb (x_take (i := 0) (P1 := fun m => m = (1 + (i : Nat) : Int)) (R := fun n => 0 ≤ n ∧ n < (1 + (i : Nat) : Int)) rfl (x_pure (K := K) (e_varI rfl) rfl) (fun m h => by omega) (fun m n h h1 h2 => by omega)) (x_pure (K := K) (P := fun m => m = (1 + (i : Nat) : Int)) (e_varI rfl) rfl) (fun x y h1 h2 => ⟨h1.1, h1.2, h2⟩)
        · refine ⟨by omega, by omega, ?_, ?_, ?_⟩
          · show n.toNat < h
            omega
          · show m.toNat < h
            omega
          · show n.toNat ≠ m.toNat
            omega
        · exact ⟨_, G6, vs ++ [v], ts ++ [p], rfl, g6, x6, t6, h6, hE6, okW_snoc ok hR, by simp; omega⟩
      · exact ⟨_, G, vs, ts, rfl, g.box (by simp) hGb e5, x5, hGt, e5 t _ (fun z => x.has (z ▸ ht0)) hH, hE, ok, by omega⟩
    · rintro σ' H' ⟨y4, G, vs, ts, rfl, g, x', hGt, hH, hE, ok, hl⟩
      have htb : t ≠ b := fun z => x.has (z ▸ ht0)
      have hlt : ts.length ≤ 6 := by omega
      -- more ties
      have hGb : G b = none := g.off b x.has hb
      have elen : EvR K (tCB (rLenQ K) (tCons (tVar 3) tNil)) [some (.ref b), some (.int (h : Int)), some (.int m), some (.ref t), y4, none, none, none, none, none] (upd G t (.lst vs)) pNat ts.length := e_lenL (K := K) (r := pP pNat pNat) (xs := ts) (e_var (r := pL (pP pNat pNat)) rfl ⟨t, vs, rfl, SqL.of upd_same, hE.mono (Ex.new hGt)⟩)
      have hub : (upd G t (.lst vs)) b = none := by rw [upd_ne (Ne.symm htb)]; exact hGb
      dsimp only
      refine s_for1X (b := b) (Hb := upd G t (.lst vs)) (P := fun n => 0 ≤ n ∧ n + ts.length ≤ 16 + 6 ∧ (ts.length : Int) + n ≤ 16) ?t1 (Ex.own g.in_ hH) x' (fun n q => by omega) fun n H4 hn4 e4 x4 => ?_
      case t1 =>
        refine x_take (i := 0) (P1 := fun q => q = if (m - (ts.length : Nat) + 1) > 1 then m - (ts.length : Nat) + 1 else 1) rfl (x_pure (K := K) (e_max2 e_int (e_add (e_sub (e_varI rfl) elen.nat) e_int)) rfl) (fun q e => ?_) (fun q n e h1 h2 => ?_)
        · subst e
          split <;> omega
        · subst e
          split at h2 <;> omega
      have g4 := g.box (by simp) hGb e4
      refine ⟨fun i σ' H' => ∃ y4 y5 y6 G vs ts', σ' = [some (.ref b), some (.int (h : Int)), some (.int m), some (.ref t), y4, y5, y6, none, none, none] ∧ Grow [b] Hb H G H' ∧ Bx H' b ∧ G t = none ∧ H' t = some (.lst vs) ∧ Each K G (pP pNat pNat) vs ts' ∧ HM.OkW h ts' ∧ ts'.length = ts.length + i, ?_, ?_, ?_⟩
      · exact ⟨y4, none, none, G, vs, ts, rfl, g4, x4, hGt, e4 t _ htb hH, hE, ok, rfl⟩
      · clear hE hH hGt x' g ok hGb elen hub e4 x4 g4
        rintro i σ' H' hi ⟨y4, y5, y6, G, vs, ts', rfl, g, x', hGt, hH, hE, ok, hl'⟩
        have hGb : G b = none := g.off b x.has hb
        refine q_setX (b := b) (Hb := G) (P := fun n => 0 ≤ n ∧ n < (h : Int)) (x_take (i := 0) (P1 := fun q => q = (h : Int)) rfl (x_pure (K := K) (e_varI rfl) rfl) (fun q e => by omega) (fun q n e h1 h2 => by omega)) g.in_ x' fun o H5 ho e5 x5 => ?_
        have g5 := g.box (by simp) hGb e5
        refine s_appXP (K := K) (P := fun n m => n = o ∧ 0 ≤ m ∧ m < (h : Int) ∧ m ≠ o) (R := fun p => p.1 < h ∧ p.2 < h ∧ p.1 ≠ p.2) g5 x hb x5 ht0 hGt (e5 t _ htb hH) hE rfl ?_ (fun n m q => ?_) (by rw [hE.1]; omega) fun p v G6 H6 hR g6 eG x6 t6 h6 hE6 => ?_
        · refine x_pair (P1 := fun n => n = o) (P2 := fun m => 0 ≤ m ∧ m < (h : Int) ∧ m ≠ o) hGb (x_pure (K := K) (e_varI rfl) rfl) ?_ (fun x y h1 h2 => ⟨h1, h2⟩)
          refine x_op (P1 := fun n => o + 1 ≤ n ∧ n < o + h) (P2 := fun n => n = (h : Int)) hGb (x_int1 (x_op0 (P1 := fun n => n = o + 1) (P2 := fun n => 0 ≤ n ∧ n < (h : Int) - 1) hGb (x_pure (K := K) (e_add (e_varI rfl) e_int) rfl) (x_take (i := 0) (P1 := fun q => q = (h : Int) - 1) rfl (x_pure (K := K) (e_sub (e_varI rfl) e_int) rfl) (fun q e => by omega) (fun q n e h1 h2 => by omega)) (fun x y h1 h2 => by omega))) (x_pure (K := K) (e_varI rfl) rfl) (fun x y h1 h2 => by omega) (fun x y h1 h2 => ?_)
          subst h2
          refine ⟨Int.emod_nonneg _ (by omega), Int.emod_lt_of_pos _ (by omega), ?_⟩
          by_cases q : x < (h : Int)
          · rw [Int.emod_eq_of_lt (by omega) q]
            omega
          · have e1 : x % (h : Int) = x - h := by
              rw [← Int.sub_emod_right x (h : Int)]
              exact Int.emod_eq_of_lt (by omega) (by omega)
            rw [e1]
            omega
        · refine ⟨by omega, by omega, ?_, ?_, ?_⟩
          · show n.toNat < h
            omega
          · show m.toNat < h
            omega
          · show n.toNat ≠ m.toNat
            omega
        · exact ⟨_, _, _, G6, vs ++ [v], ts' ++ [p], rfl, g6, x6, t6, h6, hE6, okW_snoc ok hR, by simp; omega⟩
      · clear hE hH hGt x' g ok hGb elen hub e4 x4 g4
        rintro σ' H' ⟨y4, y5, y6, G, vs, ts', rfl, g, x', hGt, hH, hE, ok, hl'⟩
        have hl16 : ts'.length ≤ 16 := by omega
        clear hl' hn4
        -- what follows
        have rest : ∀ (y4 y5 y6 : Option V) (tv : V) (ts : List (Nat × Nat)) (G H' : Hp), Grow [b] Hb H G H' → Bx H' b → (pL (pP pNat pNat)).is K G tv ts → HM.OkW h ts → ts.length ≤ 16 →
            tSeq (tPar 7 8 (tCons (tCall (spMixed K) [] E0 (tCons (tVar 0) (tCons (tLstRg (tRg1 (tVar 1))) tNil))) (tCons (tLst tNil) tNil)))
              (tSeq (tFor (iSeq K (tCall (spMixed K) [] E0 (tCons (tVar 0) (tCons (tVar 3) tNil)))) (gTup K 2 (gCons (gName 6) (gCons (gName 9) gNil))) (tDrop (tBM K "list" rAppend (tVar 8) (tCons (tIf (tTest (tOp rEq (tCall spTake [] E0 (tCons (tVar 0) (tCons (tC (.int 2)) tNil))) (tC (.int 0)))) (tTup (tCons (tOp (rIx K) (tVar 7) (tVar 6)) (tCons (tOp (rIx K) (tVar 7) (tVar 9)) tNil))) (tTup (tCons (tOp (rIx K) (tVar 7) (tVar 9)) (tCons (tOp (rIx K) (tVar 7) (tVar 6)) tNil)))) tNil)))) (tRet (tTup (tCons (tVar 1) (tCons (tCB (rTupQ K) (tCons (tVar 8) tNil)) tNil)))))
              { nx := fun _ H' => Q .non H', rt := Q } [some (.ref b), some (.int (h : Int)), some (.int m), some tv, y4, y5, y6, none, none, none] H' := by
          intro y4 y5 y6 tv ts G H' g x' htv ok hl
          have hGb : G b = none := g.off b x.has hb
          refine q_parMN (K := K) (r := pNat) (b := b) (Hb := G) (xs := List.range h) rfl (n_listRg (e_varI rfl) (by omega)).R.L hGb (by simp; omega) g.in_ x' fun na nws ns G1 H1 fa pm g1 n1 n2 x1 hna hnE hfa => ?_
          have gg1 := growTr2 g g1 x'
          have g1b : G1 b = none := gg1.off b x.has hb
          have hnaH : H na = none := by
            cases z : H na with
            | none => rfl
            | some o =>
              rw [g.run na o (fun q => by
                rw [List.mem_singleton.mp q] at n2
                exact x'.has n2) z] at n2
              cases n2
          have gg2 := gg1.give (.inl hnaH) n1 hna
          have hnames : (pL pNat).is K (upd G1 na (.lst nws)) (.ref na) ns := ⟨na, nws, rfl, SqL.of upd_same, hnE.mono (Ex.new n1)⟩
          have htv2 : (pL (pP pNat pNat)).is K (upd G1 na (.lst nws)) tv ts := Rep.lift (r := pL (pP pNat pNat)) htv (g1.base.trans (Ex.new n1))
          generalize hG2 : upd G1 na (.lst nws) = G2 at gg2 hnames htv2
          have hG2b : G2 b = none := gg2.off b x.has hb
          have hfaG : G2 fa = none := fresh_back gg2.in_ hfa
          have hfaH : H fa = none := by
            cases z : H fa with
            | none => rfl
            | some o =>
              rw [gg2.run fa o (fun q => by
                rw [List.mem_singleton.mp q] at hfa
                exact x1.has hfa) z] at hfa
              cases hfa
          have g3 := gg2.then_ (Ex.new (o := .lst []) hfa)
          have x3 := x1.ex (Ex.new (o := .lst []) hfa)
          have hfb : fa ≠ b := fun z => x1.has (z ▸ hfa)
          refine x_mixed (K := K) (r := pP pNat pNat) (b := b) (Hb := G2) (xs := ts) rfl (e_var (i := 3) rfl htv2) hG2b (by omega) g3.in_ x3 fun pa pws ps G4 H4 pm4 g4 m1 m2 x4 hpa hpE => ?_
          have gg4 := growTr2 g3 g4 x3
          have hpaH : H pa = none := by
            cases z : H pa with
            | none => rfl
            | some o =>
              rw [g3.run pa o (fun q => by
                rw [List.mem_singleton.mp q] at m2
                exact x3.has m2) z] at m2
              cases m2
          have gg5 := gg4.give (.inl hpaH) m1 hpa
          have hfa4 : H4 fa = some (.lst []) := g4.run fa _ (fun q => hfb (List.mem_singleton.mp q)) upd_same
          have hfG4 : G4 fa = none := g4.off fa (by rw [upd_same]; exact fun z => nomatch z) hfaG
          have hpf : fa ≠ pa := fun z => by
            rw [← z, upd_same] at m2
            cases m2
          have hnl : ns.length = h := by rw [pm.length_eq, List.length_range]
          have hnd : ns.Nodup := pm.nodup_iff.mpr List.nodup_range
          have hnb : ∀ u ∈ ns, u < h := fun u hu => List.mem_range.mp (pm.mem_iff.mp hu)
          have okp : HM.OkW h ps := fun p hp => ok p (pm4.mem_iff.mp hp)
          refine ⟨pa, rfl, .inl ⟨pws, SqL.of hpa, feed_loop (G := upd G4 pa (.lst pws)) (feed_pairs (SqL.of upd_same) (hpE.mono (Ex.new m1))) (fun i σ' H' => ∃ y6 y9 G fvs fs, σ' = [some (.ref b), some (.int (h : Int)), some (.int m), some tv, y4, y5, y6, some (.ref na), some (.ref fa), y9] ∧ Grow [b] Hb H G H' ∧ Bx H' b ∧ Ex (upd G4 pa (.lst pws)) G ∧ G fa = none ∧ H' fa = some (.lst fvs) ∧ Each K G (pP pNat pNat) fvs fs ∧ HM.OkW h fs ∧ fs.length = i) ?_ ?_ ?_ ?_ ?_⟩⟩
          · exact ⟨y6, none, _, [], [], rfl, gg5, x4, Ex.refl _, by rw [upd_ne hpf]; exact hfG4, hfa4, Each.nil, (fun q (hq : q ∈ []) => by cases hq), rfl⟩
          · rintro i σ' H' ⟨y6, y9, G, fvs, fs, rfl, g, _, eG, _⟩
            exact eG.trans g.in_
          · rintro i σ' H' H2 ⟨y6, y9, G, fvs, fs, rfl, g, x', eG, n, hf, hE, ok, hl⟩ e2
            exact ⟨y6, y9, G, fvs, fs, rfl, g.then_ e2, x'.ex e2, eG, n, e2 _ _ hf, hE, ok, hl⟩
          · rintro i us σ' H' hi ⟨p, hp, rfl⟩ ⟨y6, y9, G, fvs, fs, rfl, g, x', eG, n, hf, hE, ok', hl'⟩
            have hGb : G b = none := g.off b x.has hb
            obtain ⟨p1, p2, p3⟩ := okp p (List.mem_of_getElem? hp)
            have q1 : p.1 < ns.length := by omega
            have q2 : p.2 < ns.length := by omega
            have hnG : (pL pNat).is K G (.ref na) ns := Rep.lift (r := pL pNat) hnames (g4.base.trans ((Ex.new m1).trans eG))
            have u1 := hnb _ (List.getElem_mem q1)
            have u2 := hnb _ (List.getElem_mem q2)
            have une : ns[p.1] ≠ ns[p.2] := by
              have pw := List.pairwise_iff_getElem.mp hnd
              rcases Nat.lt_trichotomy p.1 p.2 with q | q | q
              · exact pw _ _ q1 q2 q
              · exact absurd q p3
              · exact Ne.symm (pw _ _ q2 q1 q)
            refine s_appXP (K := K) (P := fun n m => ∃ u w : Nat, n = (u : Int) ∧ m = (w : Int) ∧ u < h ∧ w < h ∧ u ≠ w) (R := fun p => p.1 < h ∧ p.2 < h ∧ p.1 ≠ p.2) g x hb x' hfaH n hf hE rfl ?_ (fun n m q => ?_) (by rw [hE.1]; have := pm4.length_eq; omega) fun p v G6 H6 hR g6 eG6 x6 t6 h6 hE6 => ?_
            · refine x_ifP (B := fun _ => True) hGb (xt_eq (P1 := fun _ => True) (P2 := fun _ => True) hGb (x_take (i := 0) (P1 := fun m => m = 2) rfl (x_pure (K := K) e_int rfl) (fun m h => by omega) (fun _ _ _ _ _ => trivial)) (x_pure (K := K) e_int trivial)) (fun _ => ?_) (fun _ => ?_)
              · exact x_pair (P1 := fun n => n = (ns[p.1] : Nat)) (P2 := fun n => n = (ns[p.2] : Nat)) hGb (x_pure (K := K) (e_ixL (r := pNat) (e_var rfl hnG) (e_varI rfl) (List.getElem?_eq_getElem q1)).nat rfl) (x_pure (K := K) (e_ixL (r := pNat) (e_var rfl hnG) (e_varI rfl) (List.getElem?_eq_getElem q2)).nat rfl) (fun x y h1 h2 => ⟨_, _, h1, h2, u1, u2, une⟩)
              · exact x_pair (P1 := fun n => n = (ns[p.2] : Nat)) (P2 := fun n => n = (ns[p.1] : Nat)) hGb (x_pure (K := K) (e_ixL (r := pNat) (e_var rfl hnG) (e_varI rfl) (List.getElem?_eq_getElem q2)).nat rfl) (x_pure (K := K) (e_ixL (r := pNat) (e_var rfl hnG) (e_varI rfl) (List.getElem?_eq_getElem q1)).nat rfl) (fun x y h1 h2 => ⟨_, _, h1, h2, u2, u1, Ne.symm une⟩)
            · obtain ⟨u, w, rfl, rfl, h1, h2, h3⟩ := q
              exact ⟨by omega, by omega, h1, h2, h3⟩
            · exact ⟨_, _, G6, _, _, rfl, g6, x6, eG.trans eG6, t6, h6, hE6, okW_snoc ok' hR, by simp; omega⟩
          · rintro σ' H' ⟨y6, y9, G, fvs, fs, rfl, g, x', eG, n, hf, hE, ok', hl'⟩
            have g9 := g.give (.inl hfaH) n hf
            have hret : EvR K (tTup (tCons (tVar 1) (tCons (tCB (rTupQ K) (tCons (tVar 8) tNil)) tNil))) [some (.ref b), some (.int (h : Int)), some (.int m), some tv, y4, y5, y6, some (.ref na), some (.ref fa), y9] (upd G fa (.lst fvs)) (pP pNat (pTn (pP pNat pNat))) (h, fs) := e_pair (e_varN rfl) (e_tupL (e_var (r := pL (pP pNat pNat)) rfl ⟨fa, fvs, rfl, SqL.of upd_same, hE.mono (Ex.new n)⟩))
            have hlf : fs.length ≤ 18 := by
              have := pm4.length_eq
              omega
            exact s_retR (K := K) hret g9.in_ fun v G1 H1 g1 hv => k (h, fs) v G1 H1 (by show 2 ≤ h; omega) (by show h ≤ 7; omega) ok' hlf (growTr g9 g1 x') (x'.ex g1.ex) hv
        have hGb : G b = none := g.off b x.has hb
        dsimp only
        refine q_ifX (b := b) (Hb := G) (B := fun _ => True) (xt_cmp (P1 := fun _ => True) (P2 := fun _ => True) hGb (x_take (i := 0) (P1 := fun m => m = 4) rfl (x_pure (K := K) e_int rfl) (fun m h => by omega) (fun _ _ _ _ _ => trivial)) (x_pure (K := K) e_int trivial)) g.in_ x' (fun _ H5 e5 x5 => ?_) (fun _ H5 e5 x5 => ?_)
        · have g5 := g.box (by simp) hGb e5
          have h5 := e5 t _ htb hH
          have g5' := g5.give (.inl ht0) hGt h5
          have htv : (pLn (pP pNat pNat)).is K (upd G t (.lst vs)) (.ref t) ts' := ⟨t, vs, rfl, upd_same, hE.mono (Ex.new hGt)⟩
          generalize hBG : upd G t (.lst vs) = BG at g5' htv
          have hmin : EvR K (tOp (rI0 fun i j => .int (i - j)) (tCB rMin2 (tCons (tVar 2) (tCons (tOp (rI0 fun i j => .int (i + j)) (tVar 1) (tC (.int 1))) tNil))) (tCB (rLenQ K) (tCons (tVar 3) tNil))) [some (.ref b), some (.int (h : Int)), some (.int m), some (.ref t), y4, y5, y6, none, none, none] BG pI ((if ((h : Int) + 1) < m then (h : Int) + 1 else m) - (ts'.length : Nat)) := e_sub (e_min2 (e_varI rfl) (e_add (e_varI rfl) e_int)) (e_lenL (e_var (r := pLn (pP pNat pNat)) rfl htv).L).nat
          have hm2 : (if ((h : Int) + 1) < m then (h : Int) + 1 else m) ≤ 8 ∧ 3 ≤ (if ((h : Int) + 1) < m then (h : Int) + 1 else m) := by split <;> omega
          generalize (if ((h : Int) + 1) < m then (h : Int) + 1 else m) = mn at hmin hm2
          have hone : EvN K (tLst (tCons (tTup (tCons (tC (.int 0)) (tCons (tC (.int 1)) tNil))) tNil)) [some (.ref b), some (.int (h : Int)), some (.int m), some (.ref t), y4, y5, y6, none, none, none] BG (pP pNat pNat) [((0 : Nat), (1 : Nat))] := n_one (e_pair (e_intN (n := 0)) (e_intN (n := 1)))
          have hrep := n_rep (K := K) hone.R hmin ⟨by omega, by omega⟩ (by simp; omega)
          have hcat := n_cat (K := K) (e_var (i := 3) (r := pLn (pP pNat pNat)) rfl htv) hrep.R (by simp; omega)
          refine s_setN (K := K) (Hb := BG) hcat g5'.in_ fun a vs2 G6 H6 g6 n1 n2 h6 hE6 => ?_
          have haH : H a = none := by
            cases z : H a with
            | none => rfl
            | some o =>
              rw [g5.run a o (fun q => by
                rw [List.mem_singleton.mp q] at n2
                exact x5.has n2) z] at n2
              cases n2
          refine rest _ _ _ (.ref a) _ (upd G6 a (.lst vs2)) H6 ((growTr g5' g6 x5).give (.inl haH) n1 h6) (x5.ex g6.ex) ⟨a, vs2, rfl, SqL.of upd_same, hE6.mono (Ex.new n1)⟩ (fun p hp => ?_) ?_
          · rcases List.mem_append.mp hp with hp | hp
            · exact ok p hp
            · obtain ⟨l, hl, hp⟩ := List.mem_flatten.mp hp
              rw [List.eq_of_mem_replicate hl] at hp
              rw [List.mem_singleton.mp hp]
              exact ⟨by show 0 < h; omega, by show 1 < h; omega, by decide⟩
          · simp
            omega
        · have h5 := e5 t _ htb hH
          have g5 := g.box (by simp) hGb e5
          exact rest _ _ _ (.ref t) ts' (upd G t (.lst vs)) H5 (g5.give (.inl ht0) hGt h5) x5 ⟨t, vs, rfl, SqL.of upd_same, hE.mono (Ex.new hGt)⟩ ok hl16
end
end K62

set_option Elab.async false
set_option linter.all false
set_option maxRecDepth 100000
set_option maxHeartbeats 4000000
namespace K62
open PySem L2 Evl Ly
theorem lmet_snoc (m : Int) (h : Nat) (ties : HM.Ties) (o : List Nat) (t : Nat) (c : List Int) : HM.lmet m h ties (o ++ [t]) c = HM.lstep m h ties (HM.lmet m h ties o c) t := by unfold HM.lmet; rw [List.foldl_append]; rfl
section
variable {P : Program} {w : World} {K : PySem.W.Frag} {mg : Str → Option Value} {base : Heap}
abbrev pW (_ : Unit) : Rep WebD := pP pNat (pTn (pP pNat pNat))
def spLawMet (K : PySem.W.Frag) : Sp := fun vs H Q E => ∃ (w : WebD) (counts : List Int) (order : List Nat) (m : Int), 0 < m ∧ HM.OkW w.1 w.2 ∧ HM.OkO w.2 order ∧ counts.length = w.1 + w.2.length ∧ PromN K (A4 K (pW ()) (pL pI) (pQ pNat) pI w counts order m) pI (HM.lmet m w.1 w.2 order counts) vs H Q E
theorem ok_law_met {f : Addr} {fd : FuncData} (B : Blt mg) (F : Fun K "_law_met" "_law_met" s_law_met f fd) : FnOk P w K mg base CX0 1 f fd ["web", "counts", "meetings", "modulus"] (spLawMet K) := by
  refine F.ok sc_law_met (fun vs H Q E h => ?_) (fun cdv A outer s H vs Q E hr h => ?_)
  · obtain ⟨_, _, _, _, _, _, _, _, Hb, _, ⟨v1, v2, v3, v4, rfl, _⟩, _⟩ := h
    rfl
  · obtain ⟨w, counts, order, m, hm, okw, oko, hl, Hb, e, ⟨v, u, z, v4, rfl, hw, hc, ho, rfl⟩, k⟩ := h
    have nd := sc_law_met.nd
    refine ⟨_, (pss_cons (ps_asg (pv 0) (pk_tup K (n := 2) rfl (pgs_cons (pg_name (i := 4) nd rfl (Or.inl rfl)) (pgs_cons (pg_name (i := 5) nd rfl (Or.inl rfl)) pgs_nil))))
      (pss_cons (ps_set (i := 6) nd rfl (Or.inl rfl) (pe_callTy (k_list K) (by rfl) B.list (by decide +kernel) (pa_cons (pv 1) pa_nil)))
      (pss_cons (ps_for PassesOwn.never rfl (pk_seq K (pv 2)) (pg_name (i := 7) nd rfl (Or.inl rfl))
      (pss_cons (ps_asg (pe_ix (k_ix K) (pv 5) (pv 7) (fun _ _ => rfl)) (pk_tup K (n := 2) rfl (pgs_cons (pg_name (i := 8) nd rfl (Or.inl rfl)) (pgs_cons (pg_name (i := 9) nd rfl (Or.inl rfl)) pgs_nil))))
      (pss_cons (ps_set (i := 10) nd rfl (Or.inl rfl) (pe_op op_mod (pe_callTy c_int (by rfl) B.int (by decide +kernel) (pa_cons (pe_op op_sub (pe_op op_add (pe_ix (k_ix K) (pv 6) (pv 8) (fun _ _ => rfl)) (pe_ix (k_ix K) (pv 6) (pv 9) (fun _ _ => rfl))) (pe_ix (k_ix K) (pv 6) (pe_op op_add (pv 4) (pv 7)) (fun _ _ => rfl))) pa_nil)) (pv 3)))
      (pss_one (ps_asg (pe_tup (pa_cons (pv 10) (pa_cons (pv 10) (pa_cons (pv 10) pa_nil)))) (pk_tup K (n := 3) rfl (pgs_cons (pg_sub (pv 6) (pv 8) set_list) (pgs_cons (pg_sub (pv 6) (pv 9) set_list) (pgs_cons (pg_sub (pv 6) (pe_op op_add (pv 4) (pv 7)) set_list) pgs_nil)))))))))
      (pss_one (ps_ret (pv 6)))))), ?_⟩
    refine q_unpair (K := K) (Hb := Hb) (ra := pNat) (rb := pTn (pP pNat pNat)) (x := w) (e_var rfl hw) e fun hv tv G0 H0 g0 hhv htv => ?_
    have hhv : hv = .int (w.1 : Int) := hhv
    subst hhv
    refine q_setN (K := K) (Hb := G0) (n_listL (K := K) (r := pI) (xs := counts) (e_var rfl (Rep.lift (r := pL pI) hc g0.base))) g0.in_ fun a vs G1 H1 g1 n1 n2 h1 hE => ?_
    have gg1 := g0.trans0 g1
    have an : H a = none := fresh_back g0.ex n2
    have hvs := each_int hE
    subst hvs
    have htv1 := Rep.lift (r := pTn (pP pNat pNat)) htv g1.base
    refine s_forG (Hb := G1) (g_seq (K := K) (r := pNat) (j := 7) (xs := order) (e_var (r := pQ pNat) rfl (Rep.lift (r := pQ pNat) ho gg1.base))) gg1.in_
      (fun G i σ' H' => ∃ y7 y8 y9 y10, σ' = [some v, some u, some z, some (.int m), some (.int (w.1 : Int)), some tv, some (.ref a), y7, y8, y9, y10] ∧ Grow [] Hb H G H' ∧ G a = none ∧ H' a = some (.lst ((HM.lmet m w.1 w.2 (order.take i) counts).map V.int))) ?_ ?_ ?_ ?_ ?_
    · intro G H2 g2
      exact ⟨none, none, none, none, rfl, gg1.trans0 g2, g2.no h1 n1, g2.keep h1 (by simp)⟩
    · rintro G i σ' H' _ ⟨_, _, _, _, _, g, _⟩
      exact g.in_
    · rintro G i σ' H' H2 ⟨y4, y5, y6, y7, rfl, g, n, h⟩ e2
      exact ⟨y4, y5, y6, y7, rfl, g.then_ e2, n, e2 _ _ h⟩
    · rintro G i us σ' H' eG hi ⟨tv0, t, ht, htv0, rfl⟩ ⟨y7, y8, y9, y10, rfl, g, n, h⟩
      have htv0 : tv0 = .int (t : Int) := htv0
      subst htv0
      have htl : t < w.2.length := oko t (List.mem_of_getElem? ht)
      obtain ⟨w1, w2, w3⟩ := okw.at htl
      rw [take_succ ht, lmet_snoc]
      have hcl : (HM.lmet m w.1 w.2 (order.take i) counts).length = w.1 + w.2.length := by rw [HM.lmet_len, hl]
      generalize HM.lmet m w.1 w.2 (order.take i) counts = cs at h hcl
      refine q_unpairN (K := K) (Hb := G) (e_ixT (e_var (r := pTn (pP pNat pNat)) rfl (Rep.lift (r := pTn (pP pNat pNat)) htv1 eG)).T (e_varI rfl) (tie_at htl)) g.in_ fun H2 e2 => ?_
      have g2 := g.then_ e2
      have h2 := e2 _ _ h
      have em : HM.lstep m w.1 w.2 cs t = ((cs.set (HM.tie w.2 t).1 ((cs.getD (HM.tie w.2 t).1 0 + cs.getD (HM.tie w.2 t).2 0 - cs.getD (w.1 + t) 0) % m)).set (HM.tie w.2 t).2 ((cs.getD (HM.tie w.2 t).1 0 + cs.getD (HM.tie w.2 t).2 0 - cs.getD (w.1 + t) 0) % m)).set (w.1 + t) ((cs.getD (HM.tie w.2 t).1 0 + cs.getD (HM.tie w.2 t).2 0 - cs.getD (w.1 + t) 0) % m) := rfl
      rw [em]
      generalize HM.tie w.2 t = p at w1 w2 w3 ⊢
      have ef : (pL pI).is K (upd G a (.lst (cs.map V.int))) (.ref a) cs := ⟨a, _, rfl, SqL.of upd_same, int_each cs⟩
      refine q_setI (K := K) (Hb := upd G a (.lst (cs.map V.int))) (n := (cs.getD p.1 0 + cs.getD p.2 0 - cs.getD (w.1 + t) 0) % m) ?_ (Ex.own g2.in_ h2) fun H3 e3 => ?_
      · refine e_mod hm (e_int1 (e_sub (e_add (e_ixL (e_var rfl ef) (e_varI rfl) (getD_some (by omega))) (e_ixL (e_var rfl ef) (e_varI rfl) (getD_some (by omega)))) (e_ixL (i := w.1 + t) (e_var rfl ef) ?_ (getD_some (by omega))))) (e_varI rfl)
        exact (e_add (e_varI rfl) (e_varI rfl)).eq (by omega)
      · generalize (cs.getD p.1 0 + cs.getD p.2 0 - cs.getD (w.1 + t) 0) % m = both
        have g3 := g2.then_ e3
        refine s_set3 (K := K) (Hb := G) (a := p.1) (b := p.2) (c := w.1 + t) g3.in_ (e3 _ _ h2) n rfl (e_varI rfl) (e_varI rfl) (e_varI rfl) ((e_add (e_varI rfl) (e_varI rfl)).eq (by omega)) (by rw [List.length_map]; omega) (by rw [List.length_map]; omega) (by rw [List.length_map]; omega) fun H4 k4 h4 => ?_
        refine ⟨_, _, _, _, rfl, g3.wr an n k4, n, ?_⟩
        rw [h4, List.map_set, List.map_set, List.map_set]
    · rintro G σ' H' eG ⟨y7, y8, y9, y10, rfl, g, n, h⟩
      rw [List.take_length] at h
      exact ⟨_, rfl, k a _ G H' g n an h (int_each _)⟩
def spLawLed (K : PySem.W.Frag) : Sp := fun vs H Q E => ∃ (T : List (List Int)) (c : List Int) (m : Int) (n : Nat), 0 < m ∧ HM.Sq n T ∧ c.length = n ∧ n ≤ 1000 ∧ Sm c ∧ PromN K (A3 K (pL (pL pI)) (pL pI) pI T c m) pI (HM.app m T c) vs H Q E
theorem ok_law_led {f : Addr} {fd : FuncData} (B : Blt mg) (F : Fun K "_law_led" "_law_led" s_law_led f fd) : FnOk P w K mg base CX0 1 f fd ["table", "counts", "modulus"] (spLawLed K) := by
  refine F.ok sc_law_led (fun vs H Q E h => ?_) (fun cdv A outer s H vs Q E hr h => ?_)
  · obtain ⟨_, _, _, _, _, _, _, _, _, Hb, _, ⟨v, u, z, rfl, _⟩, _⟩ := h
    rfl
  · obtain ⟨T, c, m, n, hm, sq, hc, hn, sm, Hb, e, ⟨v, u, z, rfl, hT, hcv, rfl⟩, k⟩ := h
    have nd := sc_law_led.nd
    refine ⟨_, (pss_one (ps_ret (pe_lc (own := [("row", 3)]) rfl nd (pk_seq K (pv 0)) (blkOk_by (own := [("row", 3)]) (N := ["table", "counts", "modulus", "row", "part", "count"]) (sc := defScope s_law_led) (by decide +kernel)) (fun _ _ _ _ _ => (pg_name (i := 3) nd rfl (Or.inl rfl))) (fun _ _ _ _ _ => pts_nil) (fun _ _ _ _ _ => (pe_op op_mod (pe_callTy c_int (by rfl) B.int (by decide +kernel) (pa_cons (pe_callB (k_sum K) (by rfl) B.sum (by decide +kernel) (pa_cons (pe_lc (own := [("part", 4), ("count", 5)]) rfl nd (pi_zipS K B.zip (pa_cons (pv 3) (pa_cons (pv 1) pa_nil))) (blkOk_by (own := [("part", 4), ("count", 5)]) (by kernel_rfl)) (fun _ _ _ _ _ => (pk_tup K (n := 2) rfl (pgs_cons (pg_name (i := 4) nd rfl (Or.inl rfl)) (pgs_cons (pg_name (i := 5) nd rfl (Or.inl rfl)) pgs_nil)))) (fun _ _ _ _ _ => pts_nil) (fun _ _ _ _ _ => (pe_op op_mul (pv 4) (pv 5)))) pa_nil)) pa_nil)) (pv 2)))))), ?_⟩
    refine s_retN (K := K) (Hb := Hb) (r := pI) (xs := HM.app m T c) ?_ e fun a vs G H1 g n1 n2 h1 hE => k a vs G H1 g n1 n2 h1 hE
    have hl := n_lcM (K := K) (rb := pI) (vs := [3]) (σ := [some v, some u, some (.int m), none, none, none]) (Hb := Hb) (te := tOp (rI (fun _ j => 0 < j) fun i j => .int (i % j)) (tCB rInt1 (tCons (tCB (rSum K) (tCons (tLc (iZipB K (tCons (tVar 3) (tCons (tVar 1) tNil))) (gTup K 2 (gCons (gName 4) (gCons (gName 5) gNil))) tYes (tOp (rI CMul fun i j => .int (i * j)) (tVar 4) (tVar 5)) [4, 5]) tNil)) tNil)) (tVar 2))
      (fun k => HM.dot (T.getD k []) c % m) (g_seq (K := K) (r := pL pI) (j := 3) ((e_var (i := 0) (r := pL (pL pI)) rfl hT).LQ)) (by rw [sq.1]; omega) (fun G i us ⟨_, _, _, _, e⟩ => by rw [e]; rfl) (fun G0 G i us eb e0 hi ⟨xv, x, hx, hxv, eu⟩ => by
        subst eu
        rw [getD_of hx]
        refine e_mod hm (e_int1 ?_) (e_varI rfl)
        exact e_dot (n := n) ((e_var (r := pL pI) rfl (Rep.lift (r := pL pI) hxv e0)).LQ) ((e_var (r := pL pI) rfl (Rep.lift (r := pL pI) hcv (eb.trans e0))).LQ) (sq.2 x (List.mem_of_getElem? hx)) hc sm (by omega) (fun _ _ => rfl) (fun _ _ => rfl) (fun _ _ => rfl))
    refine hl.eq ?_
    unfold HM.app
    refine List.ext_getElem (by simp) fun i h1 h2 => ?_
    have hi : i < T.length := by simpa using h1
    simp [hi]
def spLawSplit (K : PySem.W.Frag) : Sp := fun vs H Q E => ∃ (w : WebD) (c : List Int), PromR K (A2 K (pW ()) (pL pI) w c) (pP (pTn pI) (pTn pI)) (c.take w.1, c.drop w.1) vs H Q E
theorem ok_law_split {f : Addr} {fd : FuncData} (B : Blt mg) (F : Fun K "_law_split" "_law_split" s_law_split f fd) : FnOk P w K mg base CX0 1 f fd ["web", "counts"] (spLawSplit K) := by
  refine F.ok sc_law_split (fun vs H Q E h => ?_) (fun cdv A outer s H vs Q E hr h => ?_)
  · obtain ⟨_, _, Hb, _, ⟨v, u, rfl, _⟩, _⟩ := h
    rfl
  · obtain ⟨w, c, Hb, e, ⟨v, u, rfl, hw, hc⟩, k⟩ := h
    have nd := sc_law_split.nd
    refine ⟨_, (pss_one (ps_ret (pe_tup (pa_cons (pe_callTy (k_tup K) (by rfl) B.tuple (by decide +kernel) (pa_cons (pe_slice (k_sl K) (pv 1) po_none (po_some (pe_ix (k_ix K) (pv 0) pe_int (fun _ _ => rfl)))) pa_nil)) (pa_cons (pe_callTy (k_tup K) (by rfl) B.tuple (by decide +kernel) (pa_cons (pe_slice (k_sl K) (pv 1) (po_some (pe_ix (k_ix K) (pv 0) pe_int (fun _ _ => rfl))) po_none) pa_nil)) pa_nil))))), ?_⟩
    have hv : EvR K (tVar 0) [some v, some u] Hb (pW ()) w := e_var rfl hw
    have hu : EvR K (tVar 1) [some v, some u] Hb (pL pI) c := e_var rfl hc
    refine s_retR (K := K) (Hb := Hb) (e_pair (e_tupL (n_slTo hu (e_fst hv).nat).R.L) (e_tupL (n_slFrom hu (e_fst hv).nat).R.L)) e fun v G H1 g hv => k v G H1 g hv
end
end K62

set_option Elab.async false
set_option linter.all false
set_option maxRecDepth 100000
set_option maxHeartbeats 4000000
namespace K62
open PySem L2 Evl Ly
def Bm (c : List Int) : Prop := ∀ x ∈ c, 0 ≤ x ∧ x ≤ 1000000
theorem Bm.sm {c : List Int} (h : Bm c) : Sm c := fun x hx => by
  have := h x hx
  have : (1000000 : Int) < 2 ^ 64 := by decide
  omega
theorem lstep_bm {m : Int} {h : Nat} {ties : HM.Ties} {c : List Int} {t : Nat} (hm : 0 < m) (hm6 : m ≤ 1000000) (r : Bm c) : Bm (HM.lstep m h ties c t) := by
  have hv : ∀ x : Int, 0 ≤ x % m ∧ x % m ≤ 1000000 := fun x => ⟨Int.emod_nonneg _ (by omega), by have := Int.emod_lt_of_pos x hm; omega⟩
  have st : ∀ (c : List Int) (i : Nat) (v : Int), Bm c → (0 ≤ v ∧ v ≤ 1000000) → Bm (c.set i v) := fun c i v r hv x hx => by
    rcases List.mem_or_eq_of_mem_set hx with h | h
    · exact r x h
    · rw [h]; exact hv
  exact st _ _ _ (st _ _ _ (st _ _ _ r (hv _)) (hv _)) (hv _)
theorem lmet_bm {m : Int} {h : Nat} {ties : HM.Ties} (hm : 0 < m) (hm6 : m ≤ 1000000) : ∀ {order : List Nat} {c : List Int}, Bm c → Bm (HM.lmet m h ties order c)
  | [], _, r => r
  | t :: o, c, r => lmet_bm hm hm6 (order := o) (lstep_bm hm hm6 r)
theorem unit_bm {n j : Nat} : Bm (HM.unit n j) := fun x hx => by
  obtain ⟨i, _, rfl⟩ := List.mem_map.mp hx
  split <;> omega
theorem tab_bm {m : Int} {h : Nat} {ties : HM.Ties} {order : List Nat} {n : Nat} (hm : 0 < m) (hm6 : m ≤ 1000000) : ∀ row ∈ HM.tab (HM.lmet m h ties order) n, Sm row := fun row hr => by
  obtain ⟨i, _, rfl⟩ := List.mem_map.mp hr
  intro x hx
  obtain ⟨im, him, rfl⟩ := List.mem_map.mp hx
  obtain ⟨j, _, rfl⟩ := List.mem_map.mp him
  rw [List.getD_eq_getElem?_getD]
  by_cases hi : i < (HM.lmet m h ties order (HM.unit n j)).length
  · rw [List.getElem?_eq_getElem hi]
    exact (lmet_bm hm hm6 unit_bm).sm _ (List.getElem_mem hi)
  · rw [List.getElem?_eq_none (by omega)]
    show -(2 ^ 64) < (0 : Int) ∧ (0 : Int) < 2 ^ 64
    decide
section
variable {P : Program} {w : World} {K : PySem.W.Frag} {mg : Str → Option Value} {base : Heap}
def spLawTable (K : PySem.W.Frag) : Sp := fun vs H Q E => ∃ (w : WebD) (order : List Nat) (m : Int), 0 < m ∧ HM.OkW w.1 w.2 ∧ HM.OkO w.2 order ∧ w.1 ≤ 100 ∧ w.2.length ≤ 100 ∧
  PromR K (A3 K (pW ()) (pQ pNat) pI w order m) (pLn (pLn pI)) (HM.tab (HM.lmet m w.1 w.2 order) (w.1 + w.2.length)) vs H Q E
theorem ok_law_table {f : Addr} {fd : FuncData} (B : Blt mg) (C_law_met : Callee P w K mg base "_law_met" 1 ["web", "counts", "meetings", "modulus"] (spLawMet K)) (F : Fun K "_law_table" "_law_table" s_law_table f fd) : FnOk P w K mg base CX0 2 f fd ["web", "order", "modulus"] (spLawTable K) := by
  refine F.ok sc_law_table (fun vs H Q E h => ?_) (fun cdv A outer s H vs Q E hr h => ?_)
  · obtain ⟨_, _, _, _, _, _, _, _, Hb, _, ⟨v, u, z, rfl, _⟩, _⟩ := h
    rfl
  · obtain ⟨w, order, m, hm, okw, oko, hw1, hw2, Hb, e, ⟨v, u, z, rfl, hw, ho, rfl⟩, k⟩ := h
    have nd := sc_law_table.nd
    refine ⟨_, (pss_cons (ps_set (i := 3) nd rfl (Or.inr rfl) (pe_op op_add (pe_ix (k_ix K) (pv 0) pe_int (fun _ _ => rfl)) (pe_callB (k_len K) (by rfl) B.len (by decide +kernel) (pa_cons (pe_ix (k_ix K) (pv 0) pe_int (fun _ _ => rfl)) pa_nil))))
      (pss_cons (ps_set (i := 4) nd rfl (Or.inr rfl) (pe_lc (own := [("one", 5)]) rfl nd (pi_range1 (by rfl) B.range (pa_cons (pv 3) pa_nil)) (blkOk_by (own := [("one", 5)]) (N := ["web", "order", "modulus", "size", "columns", "one", "at", "column"]) (sc := defScope s_law_table) (by decide +kernel)) (fun _ _ _ _ _ => (pg_name (i := 5) nd rfl (Or.inr rfl) (by first | exact .inl rfl | exact .inr rfl))) (fun _ _ _ _ _ => pts_nil) (fun _ _ _ _ _ => (pe_cal C_law_met hr (pa_cons (pv 0) (pa_cons (pe_lc (own := [("at", 6)]) rfl nd (pi_range1 (by rfl) B.range (pa_cons (pv 3) pa_nil)) (blkOk_by (own := [("at", 6)]) (by kernel_rfl)) (fun _ _ _ _ _ => (pg_name (i := 6) nd rfl (Or.inl rfl))) (fun _ _ _ _ _ => pts_nil) (fun _ _ _ _ _ => (pe_ifExp (pt_cmpR op_eq (pv 6) (pv 5) (nomark _)) pe_int pe_int))) (pa_cons (pv 1) (pa_cons (pv 2) pa_nil))))))))
      (pss_one (ps_ret (pe_lc (own := [("at", 6)]) rfl nd (pi_range1 (by rfl) B.range (pa_cons (pv 3) pa_nil)) (blkOk_by (own := [("at", 6)]) (N := ["web", "order", "modulus", "size", "columns", "one", "at", "column"]) (sc := defScope s_law_table) (by decide +kernel)) (fun _ _ _ _ _ => (pg_name (i := 6) nd rfl (Or.inr rfl) (by first | exact .inl rfl | exact .inr rfl))) (fun _ _ _ _ _ => pts_nil) (fun _ _ _ _ _ => (pe_lc (own := [("column", 7)]) rfl nd (pk_seq K (pv 4)) (blkOk_by (own := [("column", 7)]) (by kernel_rfl)) (fun _ _ _ _ _ => (pg_name (i := 7) nd rfl (Or.inl rfl))) (fun _ _ _ _ _ => pts_nil) (fun _ _ _ _ _ => (pe_ix (k_ix K) (pv 7) (pv 6) (fun _ _ => rfl)))))))))), ?_⟩
    have hv : EvR K (tVar 0) [some v, some u, some (.int m), none, none, none, none, none] Hb (pW ()) w := e_var rfl hw
    refine q_setI (K := K) (Hb := Hb) (n := ((w.1 + w.2.length : Nat) : Int)) ((e_add (e_fst hv).nat (e_lenT (e_snd hv).T).nat).eq (by omega)) e fun H1 e1 => ?_
    generalize hn : w.1 + w.2.length = n
    have him := n_lcM (K := K) (rb := pLn pI) (σ := [some v, some u, some (.int m), some (.int (n : Int)), none, none, none, none]) (Hb := Hb) (vs := [5])
      (te := tCall (spLawMet K) [] E0 (tCons (tVar 0) (tCons (tLc (iRng1 (tCons (tVar 3) tNil)) (gName 6) tYes (tIf (tTest (tOp rEq (tVar 6) (tVar 5))) (tC (.int 1)) (tC (.int 0))) [6]) (tCons (tVar 1) (tCons (tVar 2) tNil)))))
      (fun j => HM.lmet m w.1 w.2 order (HM.unit n j)) (g_range (K := K) (j := 5) (n := n) (e_varI (i := 3) rfl) (by omega)) (by omega) (fun G i us e => by rw [e]; rfl) (fun G0 G i us eb e0 hi eu => by
        subst eu
        have hc := n_lcM (K := K) (rb := pI) (σ := [some v, some u, some (.int m), some (.int (n : Int)), none, some (.int (i : Int)), none, none]) (Hb := G) (vs := [6]) (te := tIf (tTest (tOp rEq (tVar 6) (tVar 5))) (tC (.int 1)) (tC (.int 0))) (fun a => if a = i then (1 : Int) else 0) (g_range (K := K) (j := 6) (n := n) (e_varI (i := 3) rfl) (by omega)) (by omega)
          (fun G i us e => by rw [e]; rfl) (fun G0 G a us eb e0 hi eu => by
            subst eu
            refine e_if (t_test (K := K) (e_eq (e_varI rfl) (e_varI rfl))) (fun hb => ?_) (fun hb => ?_)
            · have : ((a : Nat) : Int) = i := of_decide_eq_true hb
              rw [if_pos (by omega)]
              exact e_int
            · have : ¬ ((a : Nat) : Int) = i := of_decide_eq_false hb
              rw [if_neg (by omega)]
              exact e_int)
        refine (n_call (K := K) (P := A4 K (pW ()) (pL pI) (pQ pNat) pI w (HM.unit n i) order m) (fun _ _ _ _ h => ⟨w, HM.unit n i, order, m, hm, okw, oko, by rw [HM.unit_len, hn], h⟩) ?_).R
        exact a_4 (e_var rfl (Rep.lift (r := pW ()) hw (eb.trans e0))) hc.R.L (e_var rfl (Rep.lift (r := pQ pNat) ho (eb.trans e0))) (e_varI rfl))
    refine q_setN (K := K) (Hb := Hb) him (e.trans e1) fun a vs G2 H2 g2 n1 n2 h1 hE => ?_
    have g3 := (((Grow.refl e).then_ e1).trans0 g2).give (.inl (fresh_back e1 n2)) n1 h1
    have him2 : (pL (pLn pI)).is K (upd G2 a (.lst vs)) (.ref a) ((List.range n).map fun j => HM.lmet m w.1 w.2 order (HM.unit n j)) := ⟨a, vs, rfl, SqL.of upd_same, hE.mono (Ex.new n1)⟩
    refine s_retR (K := K) (Hb := upd G2 a (.lst vs)) (r := pLn (pLn pI)) (x := HM.tab (HM.lmet m w.1 w.2 order) (w.1 + w.2.length)) ?_ g3.in_ fun v G H4 g4 hv => k v G H4 (g3.trans0 g4) hv
    rw [hn]
    unfold HM.tab
    refine (n_lcM (K := K) (rb := pLn pI) (vs := [6]) _ (g_range (K := K) (j := 6) (n := n) (e_varI rfl) (by omega)) (by omega) (fun G i us e => by rw [e]; rfl) (fun G0 G i us eb e0 hi eu => ?_)).R
    subst eu
    have hc := n_lcM (K := K) (rb := pI) (σ := [some v, some u, some (.int m), some (.int (n : Int)), some (.ref a), none, some (.int (i : Int)), none]) (Hb := G) (vs := [7]) (te := tOp (rIx K) (tVar 7) (tVar 6)) (fun j => (HM.lmet m w.1 w.2 order (HM.unit n j)).getD i 0) (g_seq (r := pLn pI) (j := 7) ((e_var (i := 4) (r := pL (pLn pI)) rfl (Rep.lift (r := pL (pLn pI)) him2 (eb.trans e0))).LQ)) (by simp; omega)
      (fun G i us ⟨_, _, _, _, e⟩ => by rw [e]; rfl) (fun G0 G j us eb e0 hj ⟨xv, x, hx, hxv, eu⟩ => by
        subst eu
        have hj' : j < n := by simpa using hj
        have ex : HM.lmet m w.1 w.2 order (HM.unit n j) = x := by simpa [hj'] using hx
        rw [ex]
        exact e_ixL (e_var rfl (pLn_L (Rep.lift (r := pLn pI) hxv e0))) (e_varI rfl) (getD_some (by rw [← ex, HM.lmet_len, HM.unit_len]; exact hi)))
    refine hc.R.eq ?_
    rw [List.length_map, List.length_range, List.map_map]
    rfl
/-- the law's doubled table -/
theorem dbl_law {m : Int} {n : Nat} {T : List (List Int)} (sq : HM.Sq n T) : ((List.range n).map fun i => ((List.range n).map fun k => HM.app m T (T.map fun row => row.getD k 0)).map fun col => col.getD i 0) = HM.dbl m n T := by
  unfold HM.dbl HM.cols
  refine List.ext_getElem (by simp [sq.1]) fun i h1 h2 => ?_
  have hi : i < T.length := by simpa [sq.1] using h1
  simp only [List.getElem_map, List.getElem_range, List.map_map]
  refine List.map_congr_left fun k hk => ?_
  show (HM.app m T (T.map fun row => row.getD k 0)).getD i 0 = HM.dot T[i] (T.map fun row => row.getD k 0) % m
  have e : T.getD i [] = T[i] := by rw [List.getD_eq_getElem?_getD, List.getElem?_eq_getElem hi]; rfl
  rw [HM.app_get hi, e]
def spLawFar (K : PySem.W.Frag) : Sp := fun vs H Q E => ∃ (w : WebD) (h : Nat) (order : List Nat) (r : Nat) (m : Int), 0 < m ∧ m ≤ 1000000 ∧ r < 2 ^ 60 ∧ HM.OkW w.1 w.2 ∧ HM.OkO w.2 order ∧ h < w.1 ∧ w.1 ≤ 100 ∧ w.2.length ≤ 100 ∧
  PromR K (A5 K (pW ()) pNat (pQ pNat) pI pI w h order (r : Int) m) (pLn pI) (farC w h order r m) vs H Q E
set_option maxHeartbeats 16000000 in
theorem ok_law_far {f : Addr} {fd : FuncData} (B : Blt mg) (C_law_table : Callee P w K mg base "_law_table" 2 ["web", "order", "modulus"] (spLawTable K)) (C_law_led : Callee P w K mg base "_law_led" 1 ["table", "counts", "modulus"] (spLawLed K)) (F : Fun K "_law_far" "_law_far" s_law_far f fd) : FnOk P w K mg base CX0 3 f fd ["web", "house", "order", "rounds", "modulus"] (spLawFar K) := by
  refine F.ok sc_law_far (fun vs H Q E h => ?_) (fun cdv A outer s H vs Q E hr h => ?_)
  · obtain ⟨_, _, _, _, _, _, _, _, _, _, _, _, _, Hb, _, ⟨v1, v2, v3, v4, v5, rfl, _⟩, _⟩ := h
    rfl
  · obtain ⟨w, h, order, r, m, hm, hm6, hr60, okw, oko, hh, hw1, hw2, Hb, e, ⟨v1, v2, v3, v4, v5, rfl, hw, rfl, ho, rfl, rfl⟩, k⟩ := h
    have nd := sc_law_far.nd
    refine ⟨_, (pss_cons (ps_asg (pe_tup (pa_cons (pe_cal C_law_table hr (pa_cons (pv 0) (pa_cons (pv 2) (pa_cons (pv 4) pa_nil)))) (pa_cons (pe_lc (own := [("at", 9)]) rfl nd (pi_range1 (by rfl) B.range (pa_cons (pe_op op_add (pe_ix (k_ix K) (pv 0) pe_int (fun _ _ => rfl)) (pe_callB (k_len K) (by rfl) B.len (by decide +kernel) (pa_cons (pe_ix (k_ix K) (pv 0) pe_int (fun _ _ => rfl)) pa_nil))) pa_nil)) (blkOk_by (own := [("at", 9)]) (N := ["web", "house", "order", "rounds", "modulus", "table", "counts", "turn", "columns", "at", "column", "row"]) (sc := defScope s_law_far) (by decide +kernel)) (fun _ _ _ _ _ => (pg_name (i := 9) nd rfl (Or.inl rfl))) (fun _ _ _ _ _ => pts_nil) (fun _ _ _ _ _ => (pe_op op_mod (pe_callTy c_int (by rfl) B.int (by decide +kernel) (pa_cons (pe_cmpR op_eq (pv 9) (pv 1) (nomark _)) pa_nil)) (pv 4)))) pa_nil))) (pk_tup K (n := 2) rfl (pgs_cons (pg_name (i := 5) nd rfl (Or.inr rfl)) (pgs_cons (pg_name (i := 6) nd rfl (Or.inl rfl)) pgs_nil))))
      (pss_cons (ps_for PassesOwn.never rfl (pi_range1 (by rfl) B.range (pa_cons pe_int pa_nil)) (pg_name (i := 7) nd rfl (Or.inl rfl))
      (pss_cons (ps_if (pt_cmpR op_eq (pv 3) pe_int (nomark _)) (pss_one ps_break) pss_nil)
      (pss_cons (ps_if (pt_cmpR op_eq (pe_op op_mod (pe_callTy c_int (by rfl) B.int (by decide +kernel) (pa_cons (pv 3) pa_nil)) pe_int) pe_int (nomark _)) (pss_one (ps_set (i := 6) nd rfl (Or.inl rfl) (pe_cal C_law_led hr (pa_cons (pv 5) (pa_cons (pv 6) (pa_cons (pv 4) pa_nil)))))) pss_nil)
      (pss_cons (ps_set (i := 3) nd rfl (Or.inl rfl) (pe_op op_fdiv (pv 3) pe_int))
      (pss_one (ps_if (pt_cmpR op_gt (pv 3) pe_int (nomark _)) (pss_cons (ps_set (i := 8) nd rfl (Or.inr rfl) (pe_lc (own := [("at", 9)]) rfl nd (pi_range1 (by rfl) B.range (pa_cons (pe_callB (k_len K) (by rfl) B.len (by decide +kernel) (pa_cons (pv 5) pa_nil)) pa_nil)) (blkOk_by (own := [("at", 9)]) (N := ["web", "house", "order", "rounds", "modulus", "table", "counts", "turn", "columns", "at", "column", "row"]) (sc := defScope s_law_far) (by decide +kernel)) (fun _ _ _ _ _ => (pg_name (i := 9) nd rfl (Or.inr rfl) (by first | exact .inl rfl | exact .inr rfl))) (fun _ _ _ _ _ => pts_nil) (fun _ _ _ _ _ => (pe_cal C_law_led hr (pa_cons (pv 5) (pa_cons (pe_lc (own := [("row", 11)]) rfl nd (pk_seq K (pv 5)) (blkOk_by (own := [("row", 11)]) (by kernel_rfl)) (fun _ _ _ _ _ => (pg_name (i := 11) nd rfl (Or.inl rfl))) (fun _ _ _ _ _ => pts_nil) (fun _ _ _ _ _ => (pe_ix (k_ix K) (pv 11) (pv 9) (fun _ _ => rfl)))) (pa_cons (pv 4) pa_nil)))))))
      (pss_one (ps_set (i := 5) nd rfl (Or.inr rfl) (pe_lc (own := [("at", 9)]) rfl nd (pi_range1 (by rfl) B.range (pa_cons (pe_callB (k_len K) (by rfl) B.len (by decide +kernel) (pa_cons (pv 5) pa_nil)) pa_nil)) (blkOk_by (own := [("at", 9)]) (N := ["web", "house", "order", "rounds", "modulus", "table", "counts", "turn", "columns", "at", "column", "row"]) (sc := defScope s_law_far) (by decide +kernel)) (fun _ _ _ _ _ => (pg_name (i := 9) nd rfl (Or.inr rfl) (by first | exact .inl rfl | exact .inr rfl))) (fun _ _ _ _ _ => pts_nil) (fun _ _ _ _ _ => (pe_lc (own := [("column", 10)]) rfl nd (pk_seq K (pv 8)) (blkOk_by (own := [("column", 10)]) (by kernel_rfl)) (fun _ _ _ _ _ => (pg_name (i := 10) nd rfl (Or.inl rfl))) (fun _ _ _ _ _ => pts_nil) (fun _ _ _ _ _ => (pe_ix (k_ix K) (pv 10) (pv 9) (fun _ _ => rfl))))))))) pss_nil))))))
      (pss_one (ps_ret (pv 6))))), ?_⟩
    have hv : EvR K (tVar 0) [some v1, some (.int (h : Int)), some v3, some (.int (r : Int)), some (.int m), none, none, none, none, none, none, none] Hb (pW ()) w := e_var rfl hw
    have hsz := ((e_add (e_fst hv).nat (e_lenT (e_snd hv).T).nat).eq (by omega : (w.1 : Int) + (w.2.length : Nat) = ((w.1 + w.2.length : Nat) : Int)))
    generalize hn : w.1 + w.2.length = n at hsz
    have htab : EvR K (tCall (spLawTable K) [] E0 (tCons (tVar 0) (tCons (tVar 2) (tCons (tVar 4) tNil)))) [some v1, some (.int (h : Int)), some v3, some (.int (r : Int)), some (.int m), none, none, none, none, none, none, none] Hb (pLn (pLn pI)) (HM.tab (HM.lmet m w.1 w.2 order) n) :=
      e_call (K := K) (P := A3 K (pW ()) (pQ pNat) pI w order m) (fun _ _ _ _ q => ⟨w, order, m, hm, okw, oko, hw1, hw2, by rw [hn]; exact q⟩) (a_3 hv (e_var rfl ho) (e_varI rfl))
    have hcnt := n_lcM (K := K) (rb := pI) (vs := [9]) (σ := [some v1, some (.int (h : Int)), some v3, some (.int (r : Int)), some (.int m), none, none, none, none, none, none, none]) (Hb := Hb) (te := tOp (rI (fun _ j => 0 < j) fun i j => .int (i % j)) (tCB rInt1 (tCons (tOp rEq (tVar 9) (tVar 1)) tNil)) (tVar 4))
      (fun i => (if i = h then (1 : Int) else 0) % m) (g_range (K := K) (j := 9) (n := n) hsz (by omega)) (by omega) (fun G i us e => by rw [e]; rfl) (fun G0 G i us eb e0 hi eu => by
        subst eu
        refine e_mod hm ((e_intB (e_eq (e_varI rfl) (e_varI rfl))).eq ?_) (e_varI rfl)
        by_cases q : i = h
        · subst q
          simp
        · have : ¬ ((i : Nat) : Int) = h := by omega
          simp [q, this])
    have ecnt : ((List.range n).map fun i => (if i = h then (1 : Int) else 0) % m) = (HM.unit n h).map (· % m) := by
      unfold HM.unit
      rw [List.map_map]
      rfl
    rw [ecnt] at hcnt
    refine q_unpair (K := K) (Hb := Hb) (ra := pLn (pLn pI)) (rb := pLn pI) (x := (HM.tab (HM.lmet m w.1 w.2 order) n, (HM.unit n h).map (· % m))) (e_pair htab hcnt.R) e fun tbv cv G1 H1 g1 htb hcv => ?_
    have ac : HM.Acts m n (HM.tab (HM.lmet m w.1 w.2 order) n) (HM.F0 m w.1 w.2 order) := HM.tab_acts okw oko hn.symm (fun j i hj hi => HM.lmet_mod okw oko (by rw [HM.unit_len, hn]) (by rw [HM.unit_len, hn]) (fun _ => rfl) i)
    refine s_for1R (K := K) (Hb := Hb) (n := 60) (e_int (n := 60)) (e.trans g1.ex) (by decide) fun H2 e2 => ?_
    refine ⟨fun i σ' H' => ∃ (y7 y8 : Option V) (tbv cv : V) (T : List (List Int)) (c : List Int) (Fc : List Int → List Int) (G : Hp), σ' = [some v1, some (.int (h : Int)), some v3, some (.int ((r / 2 ^ i : Nat) : Int)), some (.int m), some tbv, some cv, y7, y8, none, none, none] ∧ Grow [] Hb H G H' ∧
      (pL (pL pI)).is K G tbv T ∧ (pLn pI).is K G cv c ∧ (0 < r / 2 ^ i → HM.Acts m n T Fc ∧ ∀ row ∈ T, Sm row) ∧ c.length = n ∧ HM.Red m c ∧ HM.iter Fc (r / 2 ^ i) c = farC w h order r m, ?_, ?_, ?_⟩
    · refine ⟨none, none, tbv, cv, _, _, HM.F0 m w.1 w.2 order, G1, by rw [Nat.pow_zero, Nat.div_one]; rfl, g1.then_ e2, nn_LL htb, hcv, fun _ => ⟨ac, tab_bm hm hm6⟩, by simp [HM.unit], fun x hx => ?_, ?_⟩
      · obtain ⟨y, _, rfl⟩ := List.mem_map.mp hx
        exact ⟨Int.emod_nonneg _ (by omega), Int.emod_lt_of_pos _ hm⟩
      · rw [Nat.pow_zero, Nat.div_one]
        unfold farC
        rw [hn]
    · rintro i σ' H' hi ⟨y7, y8, tbv, cv, T, c, Fc, G, rfl, g, hT, hc, hact, hcl, red, hit⟩
      generalize hrr : r / 2 ^ i = r' at hact hit
      have hr2 : r / 2 ^ (i + 1) = r' / 2 := by rw [Nat.pow_succ, ← Nat.div_div_eq_div_mul, hrr]
      -- the second half of a turn
      have rest : ∀ (D : Ends), (∀ (y8 : Option V) (tbv cv : V) (T : List (List Int)) (c : List Int) (Fc : List Int → List Int) (G H' : Hp), Grow [] Hb H G H' → (pL (pL pI)).is K G tbv T → (pLn pI).is K G cv c → (0 < r' / 2 → HM.Acts m n T Fc ∧ ∀ row ∈ T, Sm row) → c.length = n → HM.Red m c → HM.iter Fc (r' / 2) c = farC w h order r m →
            D.nx [some v1, some (.int (h : Int)), some v3, some (.int ((r' / 2 : Nat) : Int)), some (.int m), some tbv, some cv, some (.int (0 + (i : Nat))), y8, none, none, none] H') →
          ∀ (cv : V) (c : List Int) (G2 H2 : Hp), Grow [] Hb H G2 H2 → Ex G G2 → (pLn pI).is K G2 cv c → c.length = n → HM.Red m c → (0 < r') → HM.iter (fun x => Fc (Fc x)) (r' / 2) c = farC w h order r m →
            tSeq (tAsg (tOp (rI CDiv fun i j => .int (i / j)) (tVar 3) (tC (.int 2))) (gName 3)) (tIfS (tTest (tOp (rI0 fun i j => .bl (decide (j < i))) (tVar 3) (tC (.int 0)))) (tSeq (tAsg (tLc (iRng1 (tCons (tCB (rLenQ K) (tCons (tVar 5) tNil)) tNil)) (gName 9) tYes (tCall (spLawLed K) [] E0 (tCons (tVar 5) (tCons (tLc (iSeq K (tVar 5)) (gName 11) tYes (tOp (rIx K) (tVar 11) (tVar 9)) [11]) (tCons (tVar 4) tNil)))) [9]) (gName 8))
              (tAsg (tLc (iRng1 (tCons (tCB (rLenQ K) (tCons (tVar 5) tNil)) tNil)) (gName 9) tYes (tLc (iSeq K (tVar 8)) (gName 10) tYes (tOp (rIx K) (tVar 10) (tVar 9)) [10]) [9]) (gName 5))) tNext) D
              [some v1, some (.int (h : Int)), some v3, some (.int (r' : Int)), some (.int m), some tbv, some cv, some (.int (0 + (i : Nat))), y8, none, none, none] H2 := by
        intro D hD cv c G2 H2 gg eg hc hcl red hr0 hit
        obtain ⟨act, sm⟩ := hact hr0
        refine q_setI (K := K) (Hb := G2) (n := ((r' / 2 : Nat) : Int)) ((e_div ⟨by decide, by decide⟩ (e_varI rfl) e_int).eq (by omega)) gg.in_ fun H3 e3 => ?_
        have g3 := gg.then_ e3
        have hT2 := Rep.lift (r := pL (pL pI)) hT eg
        have hlen : ∀ (y : L2.St) (hy : y[5]? = some (some tbv)) (G3 : Hp), Ex G2 G3 → EvR K (tCB (rLenQ K) (tCons (tVar 5) tNil)) y G3 pI (n : Int) := fun y hy G3 e => by
          have := (e_lenL (K := K) (r := pL pI) (xs := T) (e_var (σ := y) hy (Rep.lift (r := pL (pL pI)) hT2 e))).nat
          rw [act.sq.1] at this
          exact this
        refine s_ifT (b := decide ((0 : Int) < ((r' / 2 : Nat) : Int))) (Hb := G2) (t_test (K := K) (e_gt (e_varI rfl) e_int)) g3.in_ (fun q H4 e4 => ?_) (fun q H4 e4 => ?_)
        · have g4 := g3.then_ e4
          have hcols := n_lcM (K := K) (rb := pLn pI) (vs := [9]) (σ := [some v1, some (.int (h : Int)), some v3, some (.int ((r' / 2 : Nat) : Int)), some (.int m), some tbv, some cv, some (.int (0 + (i : Nat))), y8, none, none, none]) (Hb := G2)
            (te := tCall (spLawLed K) [] E0 (tCons (tVar 5) (tCons (tLc (iSeq K (tVar 5)) (gName 11) tYes (tOp (rIx K) (tVar 11) (tVar 9)) [11]) (tCons (tVar 4) tNil)))) (fun k => HM.app m T (T.map fun row => row.getD k 0)) (g_range (K := K) (j := 9) (n := n) (hlen _ rfl G2 (Ex.refl _)) (by omega)) (by omega) (fun G i us e => by rw [e]; rfl) (fun G0 G3 kk us eb e0 hi eu => by
              subst eu
              have hT3 := Rep.lift (r := pL (pL pI)) hT2 (eb.trans e0)
              have hcol := n_lcM (K := K) (rb := pI) (vs := [11]) (σ := [some v1, some (.int (h : Int)), some v3, some (.int ((r' / 2 : Nat) : Int)), some (.int m), some tbv, some cv, some (.int (0 + (i : Nat))), y8, some (.int (kk : Int)), none, none]) (Hb := G3) (te := tOp (rIx K) (tVar 11) (tVar 9)) (fun j => (T.getD j []).getD kk 0) (g_seq (K := K) (r := pL pI) (j := 11) ((e_var (i := 5) (r := pL (pL pI)) rfl hT3).LQ)) (by rw [act.sq.1]; omega) (fun G i us ⟨_, _, _, _, e⟩ => by rw [e]; rfl) (fun G0 G j us eb e0 hj ⟨xv, x, hx, hxv, eu⟩ => by
                subst eu
                rw [getD_of hx]
                exact e_ixL (e_var rfl (Rep.lift (r := pL pI) hxv e0)) (e_varI rfl) (getD_some (by rw [act.sq.2 x (List.mem_of_getElem? hx)]; exact hi)))
              have ecol : ((List.range T.length).map fun j => (T.getD j []).getD kk 0) = T.map fun row => row.getD kk 0 := by
                refine List.ext_getElem (by simp) fun j h1 h2 => ?_
                have hj : j < T.length := by simpa using h1
                simp [hj]
              rw [ecol] at hcol
              refine (n_call (K := K) (P := A3 K (pL (pL pI)) (pL pI) pI T (T.map fun row => row.getD kk 0) m) (fun _ _ _ _ q => ⟨T, _, m, n, hm, act.sq, by simp [act.sq.1], by omega, fun x hx => ?_, q⟩) (a_3 (e_var rfl hT3) hcol.R.L (e_varI rfl))).R
              obtain ⟨row, hrow, rfl⟩ := List.mem_map.mp hx
              have hkr : kk < row.length := by rw [act.sq.2 row hrow]; exact hi
              refine sm row hrow _ ?_
              rw [List.getD_eq_getElem?_getD, List.getElem?_eq_getElem hkr]
              exact List.getElem_mem hkr)
          refine q_set (K := K) (Hb := G2) hcols.R g4.in_ fun colv G5 H5 g5 hcolv => ?_
          have g45 := g4.trans0 g5
          have htb2 := n_lcM (K := K) (rb := pLn pI) (vs := [9]) (σ := [some v1, some (.int (h : Int)), some v3, some (.int ((r' / 2 : Nat) : Int)), some (.int m), some tbv, some cv, some (.int (0 + (i : Nat))), some colv, none, none, none]) (Hb := G5)
            (te := tLc (iSeq K (tVar 8)) (gName 10) tYes (tOp (rIx K) (tVar 10) (tVar 9)) [10]) (fun i => ((List.range n).map fun k => HM.app m T (T.map fun row => row.getD k 0)).map fun col => col.getD i 0) (g_range (K := K) (j := 9) (n := n) (hlen _ rfl G5 g5.base) (by omega)) (by omega) (fun G i us e => by rw [e]; rfl) (fun G0 G3 kk us eb e0 hi eu => by
              subst eu
              have hcl3 := pLn_L (Rep.lift (r := pLn (pLn pI)) hcolv (eb.trans e0))
              have hcol := n_lcM (K := K) (rb := pI) (vs := [10]) (σ := [some v1, some (.int (h : Int)), some v3, some (.int ((r' / 2 : Nat) : Int)), some (.int m), some tbv, some cv, some (.int (0 + (i : Nat))), some colv, some (.int (kk : Int)), none, none]) (Hb := G3) (te := tOp (rIx K) (tVar 10) (tVar 9)) (fun j => (((List.range n).map fun k => HM.app m T (T.map fun row => row.getD k 0)).getD j []).getD kk 0) (g_seq (K := K) (r := pLn pI) (j := 10) ((e_var (i := 8) (r := pL (pLn pI)) rfl hcl3).LQ)) (by simp; omega) (fun G i us ⟨_, _, _, _, e⟩ => by rw [e]; rfl) (fun G0 G j us eb e0 hj ⟨xv, x, hx, hxv, eu⟩ => by
                subst eu
                rw [getD_of hx]
                refine e_ixL (e_var rfl (pLn_L (Rep.lift (r := pLn pI) hxv e0))) (e_varI rfl) (getD_some ?_)
                obtain ⟨q, _, rfl⟩ := List.mem_map.mp (List.mem_of_getElem? hx)
                rw [HM.app_len, act.sq.1]
                exact hi)
              refine hcol.R.eq ?_
              refine List.ext_getElem (by simp) fun j h1 h2 => ?_
              have hj : j < n := by simpa using h1
              simp [hj])
          rw [dbl_law act.sq] at htb2
          refine s_set (K := K) (Hb := G5) htb2.R g45.in_ fun tb2 G6 H6 g6 htb6 => ?_
          exact hD _ tb2 cv _ c (fun x => Fc (Fc x)) G6 H6 (g45.trans0 g6) (nn_LL htb6) (Rep.lift (r := pLn pI) hc (g5.base.trans g6.base)) (fun _ => ⟨act.dbl, dbl_sm hm hm6⟩) hcl red hit
        · have q0 : r' / 2 = 0 := by have := of_decide_eq_false q; omega
          refine hD _ tbv cv T c Fc G2 H4 (g3.then_ e4) hT2 hc (fun z => by omega) hcl red ?_
          rw [q0] at hit ⊢
          exact hit
      have fin : ∀ (y8 : Option V) (tbv cv : V) (T : List (List Int)) (c : List Int) (Fc : List Int → List Int) (G H' : Hp), Grow [] Hb H G H' → (pL (pL pI)).is K G tbv T → (pLn pI).is K G cv c → (0 < r' / 2 → HM.Acts m n T Fc ∧ ∀ row ∈ T, Sm row) → c.length = n → HM.Red m c → HM.iter Fc (r' / 2) c = farC w h order r m →
          ∃ (y7 y8' : Option V) (tbv' cv' : V) (T : List (List Int)) (c : List Int) (Fc : List Int → List Int) (G : Hp), [some v1, some (.int (h : Int)), some v3, some (.int ((r' / 2 : Nat) : Int)), some (.int m), some tbv, some cv, some (.int (0 + (i : Nat))), y8, none, none, none] = [some v1, some (.int (h : Int)), some v3, some (.int ((r / 2 ^ (i + 1) : Nat) : Int)), some (.int m), some tbv', some cv', y7, y8', none, none, none] ∧ Grow [] Hb H G H' ∧
            (pL (pL pI)).is K G tbv' T ∧ (pLn pI).is K G cv' c ∧ (0 < r / 2 ^ (i + 1) → HM.Acts m n T Fc ∧ ∀ row ∈ T, Sm row) ∧ c.length = n ∧ HM.Red m c ∧ HM.iter Fc (r / 2 ^ (i + 1)) c = farC w h order r m := by
        intro y8 tbv cv T c Fc G H' q1 q2 q3 q4 q5 q6 q7
        rw [hr2]
        exact ⟨_, _, tbv, cv, T, c, Fc, G, rfl, q1, q2, q3, q4, q5, q6, q7⟩
      refine q_ifT (b := decide ((r' : Int) = 0)) (Hb := G) (t_test (K := K) (e_eq (e_varI rfl) e_int)) g.in_ (fun q H4 e4 => ?_) (fun q H4 e4 => ?_)
      · have hr0 : r' = 0 := by have := of_decide_eq_true q; omega
        subst hr0
        have hit : c = farC w h order r m := hit
        subst hit
        exact ⟨cv, rfl, k cv G H4 (g.then_ e4) hc⟩
      · have hr0 : 0 < r' := by have := of_decide_eq_false q; omega
        have g4 := g.then_ e4
        obtain ⟨act, sm⟩ := hact hr0
        by_cases hodd : r' % 2 = 1
        · have emod : decide ((r' : Int) % 2 = 1) = true := decide_eq_true (by omega)
          refine q_ifT (b := decide ((r' : Int) % 2 = 1)) (Hb := G) (t_test (K := K) (e_eq (e_mod (by decide) (e_int1 (e_varI rfl)) e_int) e_int)) g4.in_ (fun _ H9 e9 => ?_) (fun q => by rw [emod] at q; cases q)
          have hap : EvN K (tCall (spLawLed K) [] E0 (tCons (tVar 5) (tCons (tVar 6) (tCons (tVar 4) tNil)))) [some v1, some (.int (h : Int)), some v3, some (.int (r' : Int)), some (.int m), some tbv, some cv, some (.int (0 + (i : Nat))), y8, none, none, none] G pI (HM.app m T c) :=
            n_call (K := K) (P := A3 K (pL (pL pI)) (pL pI) pI T c m) (fun _ _ _ _ q => ⟨T, c, m, n, hm, act.sq, hcl, by omega, red_sm hm6 red, q⟩) (a_3 (e_var rfl hT) (e_var rfl (pLn_L hc)) (e_varI rfl))
          refine s_set (K := K) (Hb := G) hap.R (g4.then_ e9).in_ fun cv2 G10 H10 g10 hcv2 => ?_
          exact rest _ fin cv2 _ G10 H10 ((g4.then_ e9).trans0 g10) g10.base hcv2 (by rw [HM.app_len, act.sq.1]) (app_red hm) hr0 (by
            rw [act.app c hcl, HM.iter_odd Fc hodd]
            exact hit)
        · have emod : decide ((r' : Int) % 2 = 1) = false := decide_eq_false (by omega)
          refine q_ifT (b := decide ((r' : Int) % 2 = 1)) (Hb := G) (t_test (K := K) (e_eq (e_mod (by decide) (e_int1 (e_varI rfl)) e_int) e_int)) g4.in_ (fun q => by rw [emod] at q; cases q) (fun _ H9 e9 => ?_)
          exact rest _ fin cv c G H9 (g4.then_ e9) (Ex.refl _) hc hcl red hr0 (by
            rw [HM.iter_even Fc (by omega)]
            exact hit)
    · rintro σ' H' ⟨y7, y8, tbv, cv, T, c, Fc, G, rfl, g, hT, hc, hact, hcl, red, hit⟩
      have h0 : r / 2 ^ 60 = 0 := Nat.div_eq_of_lt hr60
      rw [h0] at hit
      have hit : c = farC w h order r m := hit
      subst hit
      exact ⟨cv, rfl, k cv G H' g hc⟩
end
end K62

set_option Elab.async false
set_option linter.all false
set_option maxRecDepth 100000
set_option maxHeartbeats 4000000
namespace K62
open PySem L2 Evl Ly
def rIsIB : R2 := fun x y H Q => ∃ (n : Int) (b : Bool), x = .int n ∧ y = .bl b ∧ Q (.bl false) H
theorem op_isIB {X : Cx} : OpR X (compareOp .Is) rIsIB := by
  intro pins s σ H x y v u Q I rx ry h
  obtain ⟨n, b, rfl, rfl, q⟩ := h
  obtain ⟨t, rfl⟩ := rx
  cases (show u = Value.bool b from ry)
  exact wpAny_pure ⟨.bl false, H, I, rfl, q⟩
theorem e_isIB {K : PySem.W.Frag} {σ : L2.St} {Hb : Hp} {ta : TE} {n : Int} {b : Bool} (h : EvR K ta σ Hb pI n) : EvR K (tOp rIsIB ta (tC (.bl b))) σ Hb pB false := Ev.B fun H1 e Q q => h.int H1 e _ fun H2 e2 => ⟨n, b, rfl, rfl, q H2 e2⟩
section
variable {P : Program} {w : World} {K : PySem.W.Frag} {mg : Str → Option Value} {base : Heap}
def spSameI (K : PySem.W.Frag) : Sp := fun vs H Q E => ∃ n : Int, PromR K (A2 K pI pI n n) pB true vs H Q E
theorem ok_law_same0 {f : Addr} {fd : FuncData} {sp : Sp} (B : Blt mg) (C_law_same : Callee P w K mg base "_law_same" 0 ["told", "due"] sp) (F : Fun K "_law_same" "_law_same" s_law_same f fd) : FnOk P w K mg base CX0 1 f fd ["told", "due"] (spSameI K) := by
  refine F.ok sc_law_same (fun vs H Q E h => ?_) (fun cdv A outer s H vs Q E hr h => ?_)
  · obtain ⟨_, Hb, _, ⟨v, u, rfl, _⟩, _⟩ := h
    rfl
  · obtain ⟨n, Hb, e, ⟨v, u, rfl, rfl, rfl⟩, k⟩ := h
    have nd := sc_law_same.nd
    refine ⟨_, (pss_cons (ps_if (pt_val (pe_callB (k_isiT K) (by rfl) B.isinstance (by decide +kernel) (pa_cons (pv 1) (pa_cons (pe_tup (pa_cons (pe_bltn (v := .ty "tuple") (u := .type "tuple") (by rfl) B.tuple (by decide +kernel) rfl) (pa_cons (pe_bltn (v := .ty "list") (u := .type "list") (by rfl) B.list (by decide +kernel) rfl) pa_nil))) pa_nil)))) (pss_cons (ps_set (i := 2) nd rfl (Or.inl rfl) (pe_ifExp (pt_val (pe_callB (k_isi K) (by rfl) B.isinstance (by decide +kernel) (pa_cons (pv 1) (pa_cons (pe_bltn (v := .ty "tuple") (u := .type "tuple") (by rfl) B.tuple (by decide +kernel) rfl) pa_nil)))) (pe_callB (k_isi K) (by rfl) B.isinstance (by decide +kernel) (pa_cons (pv 0) (pa_cons (pe_bltn (v := .ty "tuple") (u := .type "tuple") (by rfl) B.tuple (by decide +kernel) rfl) pa_nil))) (pe_callB (k_isi K) (by rfl) B.isinstance (by decide +kernel) (pa_cons (pv 0) (pa_cons (pe_bltn (v := .ty "list") (u := .type "list") (by rfl) B.list (by decide +kernel) rfl) pa_nil)))))
      (pss_cons (ps_if (PW.pt (pw_or (pt_not (pt_val (pv 2))) (pw_or1 (pt_cmpR op_ne (pe_callB (k_len K) (by rfl) B.len (by decide +kernel) (pa_cons (pv 0) pa_nil)) (pe_callB (k_len K) (by rfl) B.len (by decide +kernel) (pa_cons (pv 1) pa_nil)) (nomark _))))) (pss_one (ps_ret pe_bl)) pss_nil)
      (pss_cons (ps_for PassesOwn.never rfl (pi_zipS K B.zip (pa_cons (pv 0) (pa_cons (pv 1) pa_nil))) (pk_tup K (n := 2) rfl (pgs_cons (pg_name (i := 3) nd rfl (Or.inl rfl)) (pgs_cons (pg_name (i := 4) nd rfl (Or.inl rfl)) pgs_nil)))
      (pss_one (ps_if (pt_not (pt_val (pe_cal C_law_same hr (pa_cons (pv 3) (pa_cons (pv 4) pa_nil))))) (pss_one (ps_ret pe_bl)) pss_nil)))
      (pss_one (ps_ret pe_bl))))) pss_nil)
      (pss_cons (ps_if (pt_cmpR op_isN (pv 1) pe_non (nomark _)) (pss_one (ps_ret (pe_cmpR op_isN (pv 0) pe_non (nomark _)))) pss_nil)
      (pss_cons (ps_if (PW.pt (pw_or (pt_cmpR op_isIB (pv 1) pe_bl (nomark _)) (pw_or1 (pt_cmpR op_isIB (pv 1) pe_bl (nomark _))))) (pss_one (ps_ret (pe_and (pe_callB (k_isi K) (by rfl) B.isinstance (by decide +kernel) (pa_cons (pv 0) (pa_cons (pe_bltn (v := .ty "bool") (u := .type "bool") (by rfl) B.bool (by decide +kernel) rfl) pa_nil))) (pe_one (pe_cmpR op_eq (pv 0) (pv 1) (nomark _)))))) pss_nil)
      (pss_cons (ps_if (pt_val (pe_callB (k_isi K) (by rfl) B.isinstance (by decide +kernel) (pa_cons (pv 1) (pa_cons (pe_bltn (v := .ty "int") (u := .type "int") (by rfl) B.int (by decide +kernel) rfl) pa_nil)))) (pss_one (ps_ret (pe_and (pe_callB (k_isi K) (by rfl) B.isinstance (by decide +kernel) (pa_cons (pv 0) (pa_cons (pe_bltn (v := .ty "int") (u := .type "int") (by rfl) B.int (by decide +kernel) rfl) pa_nil))) (pe_and (pe_not (pe_callB (k_isi K) (by rfl) B.isinstance (by decide +kernel) (pa_cons (pv 0) (pa_cons (pe_bltn (v := .ty "bool") (u := .type "bool") (by rfl) B.bool (by decide +kernel) rfl) pa_nil)))) (pe_one (pe_cmpR op_eq (pv 0) (pv 1) (nomark _))))))) pss_nil)
      (pss_one (ps_ret (pe_and (pe_callB (k_isi K) (by rfl) B.isinstance (by decide +kernel) (pa_cons (pv 0) (pa_cons (pe_bltn (v := .ty "str") (u := .type "str") (by rfl) B.str (by decide +kernel) rfl) pa_nil))) (pe_one (pe_cmpR op_eq (pv 0) (pv 1) (nomark _)))))))))), ?_⟩
    refine q_no' (b := false || false) (Hb := Hb) (t_B (K := K) (e_isiT (by decide +kernel) (by decide +kernel) ty_I (e_varI rfl))) rfl e fun H1 e1 => ?_
    refine q_no' (b := decide (V.int n = .non)) (Hb := Hb) (t_test (K := K) (e_isNon (e_varI (K := K) rfl).int)) (decide_eq_false (fun z => nomatch z)) (e.trans e1) fun H2 e2 => ?_
    refine q_no' (b := false || false) (Hb := Hb) (et_or (t_test (K := K) (e_isIB (e_varI rfl))) fun _ => t_test (K := K) (e_isIB (e_varI rfl))) rfl ((e.trans e1).trans e2) fun H3 e3 => ?_
    refine q_ifT (b := true) (Hb := Hb) (t_B (K := K) (e_isi (by decide +kernel) ty_I (e_varI rfl))) (((e.trans e1).trans e2).trans e3) (fun _ H4 e4 => ?_) (fun q => nomatch q)
    have hr : EvR K (tAndV (tCB (rIsi K) (tCons (tVar 0) (tCons (tC (.ty "int")) tNil))) (tAndV (tNotV (tCB (rIsi K) (tCons (tVar 0) (tCons (tC (.ty "bool")) tNil)))) (tOp rEq (tVar 0) (tVar 1)))) [some (.int n), some (.int n), none, none, none] Hb pB (true && (!false && decide (n = n))) := e_and (e_isi (by decide +kernel) ty_I (e_varI rfl)) fun _ => e_and (e_not (e_isi (by decide +kernel) ty_I (e_varI rfl))) fun _ => e_eq (e_varI rfl) (e_varI rfl)
    have hr := hr.eq (show (true && (!false && decide (n = n))) = true by simp)
    exact s_retR (K := K) hr ((((e.trans e1).trans e2).trans e3).trans e4) fun v G H1 g hv => k v G H1 (((Grow.refl e).then_ (((e1.trans e2).trans e3).trans e4)).trans0 g) hv
def spSameT (K : PySem.W.Frag) {α : Type} (r : Rep α) : Sp := fun vs H Q E => ∃ xs : List α, PromR K (A2 K (pTn r) (pTn r) xs xs) pB true vs H Q E
theorem ok_law_sameT {f : Addr} {fd : FuncData} {sp : Sp} {j : Nat} {α : Type} {r : Rep α} (hs : ∀ x vs H Q E, PromR K (A2 K r r x x) pB true vs H Q E → sp vs H Q E) (B : Blt mg) (C_law_same : Callee P w K mg base "_law_same" j ["told", "due"] sp) (F : Fun K "_law_same" "_law_same" s_law_same f fd) : FnOk P w K mg base CX0 (j + 1) f fd ["told", "due"] (spSameT K r) := by
  refine F.ok sc_law_same (fun vs H Q E h => ?_) (fun cdv A outer s H vs Q E hr h => ?_)
  · obtain ⟨_, Hb, _, ⟨v, u, rfl, _⟩, _⟩ := h
    rfl
  · obtain ⟨xs, Hb, e, ⟨v, u, rfl, hv, hu⟩, k⟩ := h
    have nd := sc_law_same.nd
    refine ⟨_, (pss_cons (ps_if (pt_val (pe_callB (k_isiT K) (by rfl) B.isinstance (by decide +kernel) (pa_cons (pv 1) (pa_cons (pe_tup (pa_cons (pe_bltn (v := .ty "tuple") (u := .type "tuple") (by rfl) B.tuple (by decide +kernel) rfl) (pa_cons (pe_bltn (v := .ty "list") (u := .type "list") (by rfl) B.list (by decide +kernel) rfl) pa_nil))) pa_nil)))) (pss_cons (ps_set (i := 2) nd rfl (Or.inl rfl) (pe_ifExp (pt_val (pe_callB (k_isi K) (by rfl) B.isinstance (by decide +kernel) (pa_cons (pv 1) (pa_cons (pe_bltn (v := .ty "tuple") (u := .type "tuple") (by rfl) B.tuple (by decide +kernel) rfl) pa_nil)))) (pe_callB (k_isi K) (by rfl) B.isinstance (by decide +kernel) (pa_cons (pv 0) (pa_cons (pe_bltn (v := .ty "tuple") (u := .type "tuple") (by rfl) B.tuple (by decide +kernel) rfl) pa_nil))) (pe_callB (k_isi K) (by rfl) B.isinstance (by decide +kernel) (pa_cons (pv 0) (pa_cons (pe_bltn (v := .ty "list") (u := .type "list") (by rfl) B.list (by decide +kernel) rfl) pa_nil)))))
      (pss_cons (ps_if (PW.pt (pw_or (pt_not (pt_val (pv 2))) (pw_or1 (pt_cmpR op_ne (pe_callB (k_len K) (by rfl) B.len (by decide +kernel) (pa_cons (pv 0) pa_nil)) (pe_callB (k_len K) (by rfl) B.len (by decide +kernel) (pa_cons (pv 1) pa_nil)) (nomark _))))) (pss_one (ps_ret pe_bl)) pss_nil)
      (pss_cons (ps_for PassesOwn.never rfl (pi_zipS K B.zip (pa_cons (pv 0) (pa_cons (pv 1) pa_nil))) (pk_tup K (n := 2) rfl (pgs_cons (pg_name (i := 3) nd rfl (Or.inl rfl)) (pgs_cons (pg_name (i := 4) nd rfl (Or.inl rfl)) pgs_nil)))
      (pss_one (ps_if (pt_not (pt_val (pe_cal (hk := Nat.le_refl _) C_law_same hr (pa_cons (pv 3) (pa_cons (pv 4) pa_nil))))) (pss_one (ps_ret pe_bl)) pss_nil)))
      (pss_one (ps_ret pe_bl))))) pss_nil)
      (pss_cons (ps_if (pt_cmpR op_isN (pv 1) pe_non (nomark _)) (pss_one (ps_ret (pe_cmpR op_isN (pv 0) pe_non (nomark _)))) pss_nil)
      (pss_cons (ps_if (PW.pt (pw_or (pt_cmpR op_isIB (pv 1) pe_bl (nomark _)) (pw_or1 (pt_cmpR op_isIB (pv 1) pe_bl (nomark _))))) (pss_one (ps_ret (pe_and (pe_callB (k_isi K) (by rfl) B.isinstance (by decide +kernel) (pa_cons (pv 0) (pa_cons (pe_bltn (v := .ty "bool") (u := .type "bool") (by rfl) B.bool (by decide +kernel) rfl) pa_nil))) (pe_one (pe_cmpR op_eq (pv 0) (pv 1) (nomark _)))))) pss_nil)
      (pss_cons (ps_if (pt_val (pe_callB (k_isi K) (by rfl) B.isinstance (by decide +kernel) (pa_cons (pv 1) (pa_cons (pe_bltn (v := .ty "int") (u := .type "int") (by rfl) B.int (by decide +kernel) rfl) pa_nil)))) (pss_one (ps_ret (pe_and (pe_callB (k_isi K) (by rfl) B.isinstance (by decide +kernel) (pa_cons (pv 0) (pa_cons (pe_bltn (v := .ty "int") (u := .type "int") (by rfl) B.int (by decide +kernel) rfl) pa_nil))) (pe_and (pe_not (pe_callB (k_isi K) (by rfl) B.isinstance (by decide +kernel) (pa_cons (pv 0) (pa_cons (pe_bltn (v := .ty "bool") (u := .type "bool") (by rfl) B.bool (by decide +kernel) rfl) pa_nil)))) (pe_one (pe_cmpR op_eq (pv 0) (pv 1) (nomark _))))))) pss_nil)
      (pss_one (ps_ret (pe_and (pe_callB (k_isi K) (by rfl) B.isinstance (by decide +kernel) (pa_cons (pv 0) (pa_cons (pe_bltn (v := .ty "str") (u := .type "str") (by rfl) B.str (by decide +kernel) rfl) pa_nil))) (pe_one (pe_cmpR op_eq (pv 0) (pv 1) (nomark _)))))))))), ?_⟩
    refine q_ifT (b := true || false) (Hb := Hb) (t_B (K := K) (e_isiT (by decide +kernel) (by decide +kernel) ty_T (e_var (r := pTn r) rfl hu))) e (fun _ H1 e1 => ?_) (fun q => nomatch q)
    have hk : EvR K (tIf (tB (tCB (rIsi K) (tCons (tVar 1) (tCons (tC (.ty "tuple")) tNil)))) (tCB (rIsi K) (tCons (tVar 0) (tCons (tC (.ty "tuple")) tNil))) (tCB (rIsi K) (tCons (tVar 0) (tCons (tC (.ty "list")) tNil)))) [some v, some u, none, none, none] Hb pB true :=
      e_if (b := true) (t_B (K := K) (e_isi (by decide +kernel) ty_T (e_var (r := pTn r) rfl hu))) (fun _ => e_isi (by decide +kernel) ty_T (e_var (r := pTn r) rfl hv)) (fun q => nomatch q)
    refine q_set (K := K) (Hb := Hb) hk (e.trans e1) fun kv G2 H2 g2 hkv => ?_
    have hkv : kv = .bl true := hkv
    subst hkv
    have e2 := g2.ex
    refine q_no' (b := (!true || !decide (((xs.length : Nat) : Int) = (xs.length : Nat)))) (Hb := Hb) ?t1 (by simp) ((e.trans e1).trans e2) fun H3 e3 => ?_
    case t1 => exact et_or (et_not (t_B (K := K) (e_varB rfl))) fun _ => t_test (K := K) (e_ne (e_lenT (e_var (r := pTn r) rfl hv).T).nat (e_lenT (e_var (r := pTn r) rfl hu).T).nat)
    have e03 := (e1.trans e2).trans e3
    refine s_forG (Hb := Hb) (g_zip (K := K) (i := 3) (j := 4) (e_var (r := pTn r) (x := xs) rfl hv).T.TQ (e_var (r := pTn r) (x := xs) rfl hu).T.TQ rfl) (e.trans e03) (fun G i σ' H' => ∃ y3 y4, σ' = [some v, some u, some (.bl true), y3, y4] ∧ Ex H H' ∧ Ex G H') ?_ ?_ ?_ ?_ ?_
    · intro G H4 g4
      exact ⟨_, _, rfl, e03.trans g4.ex, g4.in_⟩
    · rintro G i σ' H' _ ⟨_, _, _, _, eG⟩
      exact eG
    · rintro G i σ' H' H4 ⟨y3, y4, rfl, eH, eG⟩ e4
      exact ⟨y3, y4, rfl, eH.trans e4, eG.trans e4⟩
    · rintro G i us σ' H' eG hi ⟨va, a, vb, b, ha, hb, hva, hvb, rfl⟩ ⟨y3, y4, rfl, eH, eG2⟩
      have hab : a = b := by
        rw [ha] at hb
        exact Option.some.inj hb
      subst hab
      exact s_ifT (b := !true) (Hb := G) (et_not (t_B (K := K) (e_call (K := K) (P := A2 K r r a a) (fun vs H Q E q => hs a vs H Q E q) (a_2 (e_var rfl hva) (e_var rfl hvb))))) eG2 (fun q => nomatch q) fun _ H4 e4 => ⟨_, _, rfl, eH.trans e4, eG2.trans e4⟩
    · rintro G σ' H' eG ⟨y3, y4, rfl, eH, eG2⟩
      exact k (.bl true) Hb H' ((Grow.refl e).then_ eH) rfl
theorem stepL_ok {ties : HM.Ties} {h : Nat} {J : List Int} {t : Nat} (w : HM.OkW h ties) (ht : t < ties.length) (hJ : J.Pairwise (· < ·) ∧ ∀ x ∈ J, 0 ≤ x ∧ x < (h : Int)) : (HM.stepL ties J (t : Int)).Pairwise (· < ·) ∧ ∀ x ∈ HM.stepL ties J (t : Int), 0 ≤ x ∧ x < (h : Int) := by
  obtain ⟨w1, w2, _⟩ := w.at ht
  unfold HM.stepL
  split
  · refine ⟨rise_rising _, fun x hx => ?_⟩
    rw [mem_rise] at hx
    rcases List.mem_append.mp hx with hx | hx
    · exact hJ.2 x hx
    · have ea : HM.pa ties (t : Int) = ((HM.tie ties t).1 : Int) := rfl
      have eb : HM.pb ties (t : Int) = ((HM.tie ties t).2 : Int) := rfl
      rw [ea, eb] at hx
      rcases List.mem_cons.mp hx with hx | hx
      · subst hx; omega
      · have := List.mem_singleton.mp hx
        subst this; omega
  · exact hJ
theorem rising_len : ∀ (xs : List Int) (lo : Int) (n : Nat), xs.Pairwise (· < ·) → (∀ x ∈ xs, lo ≤ x ∧ x < lo + n) → xs.length ≤ n
  | [], _, _, _, _ => Nat.zero_le _
  | x :: xs, lo, n, h, hb => by
    obtain ⟨h1, h2⟩ := List.pairwise_cons.mp h
    have hx := hb x List.mem_cons_self
    obtain ⟨k, rfl⟩ : ∃ k, n = k + 1 := ⟨n - 1, by omega⟩
    have := rising_len xs (lo + 1) k h2 fun y hy => by
      have := h1 y hy
      have := hb y (List.mem_cons_of_mem _ hy)
      omega
    show xs.length + 1 ≤ k + 1
    omega
theorem inV_int {x : Int} {ns : List Int} : inV (.int x) (ns.map V.int) = decide (x ∈ ns) := by
  unfold inV
  induction ns with
  | nil => rfl
  | cons n ns ih =>
    show (eqV (.int n) (.int x) || (ns.map V.int).any _) = _
    rw [ih]
    have e : eqV (.int n) (.int x) = decide (n = x) := by
      first
        | rfl
        | (unfold eqV; rfl)
        | (simp [eqV])
    rw [e]
    by_cases q : n = x
    · subst q; simp
    · have q2 : ¬ (x = n) := fun z => q z.symm
      simp [q, q2]
theorem e_inL {σ : L2.St} {Hb : Hp} {ta tb : TE} {x : Int} {ns : List Int} (h : EvR K ta σ Hb pI x) (h2 : EvR K tb σ Hb (pL pI) ns) : EvR K (tOp (rIn K false) ta tb) σ Hb pB (decide (x ∈ ns)) := Ev.B fun H1 e Q q => h.int H1 e _ fun H2 e2 => h2 H2 (e.trans e2) _ fun v G H3 g ⟨a, vs, ev, hs, hE⟩ => by
  have evs := each_int hE
  subst evs
  refine ⟨a, ns.map V.int, ev, .inl (ex_l g.in_ hs), rfl, by simp [flatV], ?_⟩
  show Q (.bl (inV (.int x) (ns.map V.int))) H3
  rw [inV_int]
  exact q H3 (e2.trans g.ex)
end
end K62

set_option Elab.async false
set_option linter.all false
set_option maxRecDepth 100000
set_option maxHeartbeats 4000000
namespace K62
open PySem L2 Evl Ly
section
variable {P : Program} {w : World} {K : PySem.W.Frag} {mg : Str → Option Value} {base : Heap}
def spLawRings (K : PySem.W.Frag) : Sp := fun vs H Q E => ∃ (w : WebD) (h : Nat) (order : List Nat), HM.OkW w.1 w.2 ∧ HM.OkO w.2 order ∧ w.1 ≤ 50 ∧ h < w.1 ∧ order.length ≤ 60 ∧ PromR K (A3 K (pW ()) pNat (pLn pNat) w h order) pI (HM.ringsL w.1 w.2 h order) vs H Q E
set_option maxHeartbeats 16000000 in
theorem ok_law_rings {f : Addr} {fd : FuncData} (B : Blt mg) (F : Fun K "_law_rings" "_law_rings" s_law_rings f fd) : FnOk P w K mg base CX0 1 f fd ["web", "house", "order"] (spLawRings K) := by
  refine F.ok sc_law_rings (fun vs H Q E h => ?_) (fun cdv A outer s H vs Q E hr h => ?_)
  · obtain ⟨_, _, _, _, _, _, _, _, Hb, _, ⟨v, u, z, rfl, _⟩, _⟩ := h
    rfl
  · obtain ⟨w, h, order, okw, oko, hw1, hh, hol, Hb, e, ⟨v, u, z, rfl, hw, rfl, ho⟩, k⟩ := h
    have nd := sc_law_rings.nd
    refine ⟨_, (pss_cons (ps_asg (pe_tup (pa_cons (pe_sortedSet K B.sorted B.set (pv 2)) (pa_cons (pe_lst (pa_cons (pv 1) pa_nil)) pa_nil))) (pk_tup K (n := 2) rfl (pgs_cons (pg_name (i := 3) nd rfl (Or.inl rfl)) (pgs_cons (pg_name (i := 4) nd rfl (Or.inr rfl)) pgs_nil))))
      (pss_cons (ps_for PassesOwn.never rfl (pi_range1 (by rfl) B.range (pa_cons (pe_ix (k_ix K) (pv 0) pe_int (fun _ _ => rfl)) pa_nil)) (pg_name (i := 5) nd rfl (Or.inl rfl))
      (pss_one (ps_for PassesOwn.never rfl (pk_seq K (pv 3)) (pg_name (i := 6) nd rfl (Or.inl rfl))
      (pss_one (ps_if (PW.pt (pw_or (pt_cmpR (k_in K) (pe_ix (k_ix K) (pe_ix (k_ix K) (pe_ix (k_ix K) (pv 0) pe_int (fun _ _ => rfl)) (pv 6) (fun _ _ => rfl)) pe_int (fun _ _ => rfl)) (pv 4) (by rfl)) (pw_or1 (pt_cmpR (k_in K) (pe_ix (k_ix K) (pe_ix (k_ix K) (pe_ix (k_ix K) (pv 0) pe_int (fun _ _ => rfl)) (pv 6) (fun _ _ => rfl)) pe_int (fun _ _ => rfl)) (pv 4) (by rfl))))) (pss_one (ps_set (i := 4) nd rfl (Or.inr rfl) (pe_sortedSet K B.sorted B.set (pe_op op_cat (pv 4) (pe_callTy (k_list K) (by rfl) B.list (by decide +kernel) (pa_cons (pe_ix (k_ix K) (pe_ix (k_ix K) (pv 0) pe_int (fun _ _ => rfl)) (pv 6) (fun _ _ => rfl)) pa_nil)))))) pss_nil)))))
      (pss_one (ps_ret (pe_op op_add (pe_op op_sub (pe_callB (k_len K) (by rfl) B.len (by decide +kernel) (pa_cons (pe_lc (own := [("tie", 6)]) rfl nd (pk_seq K (pv 3)) (blkOk_by (own := [("tie", 6)]) (N := ["web", "house", "order", "some", "joined", "turn", "tie"]) (sc := defScope s_law_rings) (by decide +kernel)) (fun _ _ _ _ _ => (pg_name (i := 6) nd rfl (Or.inl rfl))) (fun _ _ _ _ _ => (pts_one (pt_cmpR (k_in K) (pe_ix (k_ix K) (pe_ix (k_ix K) (pe_ix (k_ix K) (pv 0) pe_int (fun _ _ => rfl)) (pv 6) (fun _ _ => rfl)) pe_int (fun _ _ => rfl)) (pv 4) (by rfl)))) (fun _ _ _ _ _ => (pv 6))) pa_nil)) (pe_callB (k_len K) (by rfl) B.len (by decide +kernel) (pa_cons (pv 4) pa_nil))) pe_int))))), ?_⟩
    have hmem : ∀ j, j ∈ HM.some_ order ↔ ∃ t ∈ order, (t : Int) = j := fun j => by
      unfold HM.some_
      rw [mem_rise, List.mem_map]
    have htie : ∀ j ∈ HM.some_ order, ∃ t : Nat, j = (t : Int) ∧ t < w.2.length := fun j hj => by
      obtain ⟨t, ht, rfl⟩ := (hmem j).mp hj
      exact ⟨t, rfl, oko t ht⟩
    have hords : (pL pI).is K Hb z (order.map fun (n : Nat) => (n : Int)) := by
      obtain ⟨a, vs, ev, ha, hE⟩ := ho
      have hvs := each_nat hE
      subst hvs
      exact ⟨a, _, ev, SqL.of ha, int_each _⟩
    have hso := n_sortSet (K := K) (σ := [some v, some (.int (h : Int)), some z, none, none, none, none]) (Hb := Hb) (out := HM.some_ order) (e_var (i := 2) (r := pL pI) rfl hords) (by simp; exact hol) (rise_rising _) (fun k => by unfold HM.some_; rw [mem_rise])
    have hone := n_one (K := K) (r := pI) (σ := [some v, some (.int (h : Int)), some z, none, none, none, none]) (Hb := Hb) (x := (h : Int)) (e_varI (i := 1) rfl)
    refine q_unpair (K := K) (Hb := Hb) (ra := pLn pI) (rb := pLn pI) (x := (HM.some_ order, [(h : Int)])) (e_pair hso.R hone.R) e fun sv jv G1 H1 g1 hsv hjv => ?_
    have hsv := pLn_L hsv
    have hsl : (HM.some_ order).length ≤ 1000 := by
      have : (HM.some_ order).length ≤ w.2.length := rising_len _ 0 _ (rise_rising _) fun x hx => by
        obtain ⟨t, rfl, ht⟩ := htie x hx
        omega
      have : (HM.some_ order).length ≤ order.length := by
        have hp : (HM.some_ order).Perm ((order.map fun (n : Nat) => (n : Int)).foldl insE []) := HM.nodup_perm (rise_nodup _) (foldE_nodup (by simp)) fun k => by
          unfold HM.some_
          rw [mem_rise, foldE_mem]
          simp
        have hf : ∀ (xs ks : List Int), (xs.foldl insE ks).length ≤ ks.length + xs.length := fun xs => by
          induction xs with
          | nil => intro ks; exact Nat.le_refl _
          | cons x xs ih =>
            intro ks
            have h1 := ih (insE ks x)
            have h2 := insE_len (ks := ks) (i := x)
            show (xs.foldl insE (insE ks x)).length ≤ ks.length + (xs.length + 1)
            omega
        rw [hp.length_eq]
        have := hf (order.map fun (n : Nat) => (n : Int)) []
        rw [List.length_map] at this
        simpa using this
      omega
    have er : HM.ringsL w.1 w.2 h order = HM.tally w.2 (HM.some_ order) (HM.turns (HM.stepL w.2) (HM.some_ order) w.1 [(h : Int)]) := rfl
    rw [er] at k
    generalize HM.some_ order = sms at htie hsv hsl k
    have hw1' := Rep.lift (r := pW ()) hw g1.base
    have eW : ∀ (G : Hp) (eG : Ex G1 G) (y : L2.St) (hy : y[0]? = some (some v)), EvR K (tVar 0) y G (pW ()) w := fun G eG y hy => e_var hy (Rep.lift (r := pW ()) hw1' eG)
    have e01 := e.trans g1.ex
    refine s_forG (Hb := G1) (g_range (K := K) (j := 5) (n := w.1) (e_fst (eW G1 (Ex.refl _) _ rfl)).nat (by omega)) g1.in_
      (fun G i σ' H' => ∃ jv y5 y6 G', σ' = [some v, some (.int (h : Int)), some z, some sv, some jv, y5, y6] ∧ Grow [] Hb H G' H' ∧ Ex G G' ∧ Ex G1 G' ∧ (pLn pI).is K G' jv (HM.turns (HM.stepL w.2) sms i [(h : Int)]) ∧ (HM.turns (HM.stepL w.2) sms i [(h : Int)]).Pairwise (· < ·) ∧ ∀ x ∈ HM.turns (HM.stepL w.2) sms i [(h : Int)], 0 ≤ x ∧ x < (w.1 : Int)) ?_ ?_ ?_ ?_ ?_
    · intro G H3 g3
      refine ⟨jv, none, none, G, rfl, g1.trans0 g3, Ex.refl _, g3.base, Rep.lift (r := pLn pI) hjv g3.base, by show [(h : Int)].Pairwise (· < ·); simp, fun x hx => ?_⟩
      have hx : x ∈ [(h : Int)] := hx
      rw [List.mem_singleton.mp hx]
      omega
    · rintro G i σ' H' _ ⟨_, _, _, _, _, g, eG, _⟩
      exact eG.trans g.in_
    · rintro G i σ' H' H3 ⟨jv, y5, y6, G', rfl, g, q⟩ e3
      exact ⟨jv, y5, y6, G', rfl, g.then_ e3, q⟩
    · rintro G i us σ' H' eG hi rfl ⟨jv, y5, y6, G0, rfl, g, eG0, eG1, hj, hJ⟩
      have es : HM.turns (HM.stepL w.2) sms (i + 1) [(h : Int)] = sms.foldl (HM.stepL w.2) (HM.turns (HM.stepL w.2) sms i [(h : Int)]) := HM.iter_succ _ i _
      rw [es]
      generalize HM.turns (HM.stepL w.2) sms i [(h : Int)] = J at hj hJ
      refine s_forG (Hb := G0) (g_seq (K := K) (r := pI) (j := 6) ((e_var (i := 3) (r := pL pI) (x := sms) rfl (Rep.lift (r := pL pI) hsv eG1)).LQ)) g.in_
        (fun G2 k σ' H' => ∃ jv y6 G', σ' = [some v, some (.int (h : Int)), some z, some sv, some jv, some (.int (i : Int)), y6] ∧ Grow [] Hb H G' H' ∧ Ex G2 G' ∧ Ex G0 G' ∧ (pLn pI).is K G' jv ((sms.take k).foldl (HM.stepL w.2) J) ∧ ((sms.take k).foldl (HM.stepL w.2) J).Pairwise (· < ·) ∧ ∀ x ∈ (sms.take k).foldl (HM.stepL w.2) J, 0 ≤ x ∧ x < (w.1 : Int)) ?_ ?_ ?_ ?_ ?_
      · intro G2 H3 g3
        exact ⟨jv, _, G2, rfl, g.trans0 g3, Ex.refl _, g3.base, Rep.lift (r := pLn pI) hj g3.base, hJ⟩
      · rintro G2 k σ' H' _ ⟨_, _, _, _, g, eG, _⟩
        exact eG.trans g.in_
      · rintro G2 k σ' H' H3 ⟨jv, y6, G', rfl, g, q⟩ e3
        exact ⟨jv, y6, G', rfl, g.then_ e3, q⟩
      · rintro G2 kk us σ' H' _ hkk ⟨tv, t0, ht, htv, rfl⟩ ⟨jv, y6, G3, rfl, g3, eG3, eG4, hj3, hJ3⟩
        obtain ⟨t, rfl, htl⟩ := htie t0 (List.mem_of_getElem? ht)
        have htv : tv = .int (t : Int) := htv
        subst htv
        have ef : (sms.take (kk + 1)).foldl (HM.stepL w.2) J = HM.stepL w.2 ((sms.take kk).foldl (HM.stepL w.2) J) (t : Int) := by
          rw [take_succ ht, List.foldl_append]
          rfl
        rw [ef]
        generalize (sms.take kk).foldl (HM.stepL w.2) J = L at hj3 hJ3
        have hnew := stepL_ok okw htl hJ3
        have hst : HM.stepL w.2 L (t : Int) = if ((HM.tie w.2 t).1 : Int) ∈ L ∨ ((HM.tie w.2 t).2 : Int) ∈ L then rise (L ++ [((HM.tie w.2 t).1 : Int), ((HM.tie w.2 t).2 : Int)]) else L := rfl
        rw [hst] at hnew ⊢
        have eT : ∀ (y : L2.St) (hy : y[0]? = some (some v)) (hy6 : y[6]? = some (some (.int (t : Int)))), EvR K (tOp (rIx K) (tOp (rIx K) (tVar 0) (tC (.int 1))) (tVar 6)) y G3 (pP pNat pNat) (HM.tie w.2 t) := fun y hy hy6 => e_ixT (e_snd (eW G3 (eG1.trans eG4) y hy)).T (e_varI hy6) (tie_at htl)
        generalize HM.tie w.2 t = p at hnew eT ⊢
        have hll : L.length ≤ w.1 := rising_len L 0 w.1 hJ3.1 (fun x hx => by have := hJ3.2 x hx; omega)
        refine s_ifT (b := (decide ((p.1 : Int) ∈ L) || decide ((p.2 : Int) ∈ L))) (Hb := G3) ?_ g3.in_ (fun q H4 e4 => ?_) (fun q H4 e4 => ?_)
        · exact et_or (t_test (K := K) (e_inL (e_fst (eT _ rfl rfl)).nat (e_var (r := pL pI) rfl (pLn_L hj3)))) fun _ => t_test (K := K) (e_inL (e_snd (eT _ rfl rfl)).nat (e_var (r := pL pI) rfl (pLn_L hj3)))
        · have q : (p.1 : Int) ∈ L ∨ (p.2 : Int) ∈ L := by simpa using q
          rw [if_pos q] at hnew ⊢
          have hpl : EvN K (tCB (rListQ K) (tCons (tOp (rIx K) (tOp (rIx K) (tVar 0) (tC (.int 1))) (tVar 6)) tNil)) [some v, some (.int (h : Int)), some z, some sv, some jv, some (.int (i : Int)), some (.int (t : Int))] G3 pI [(p.1 : Int), (p.2 : Int)] := n_listT ((eT _ rfl rfl).to fun v G _ ⟨a, va, vb, ev, hs, h4, h5⟩ => ⟨a, [va, vb], ev, SqT.of hs, .cons h4 (.cons h5 .nil)⟩)
          have hcat := n_cat (K := K) (e_var (i := 4) (r := pLn pI) rfl hj3) hpl.R (by simp; omega)
          have hss := n_sortSet (K := K) (out := rise (L ++ [(p.1 : Int), (p.2 : Int)])) hcat.R.L (by simp; omega) (rise_rising _) (fun k => mem_rise)
          refine s_set (K := K) (Hb := G3) hss.R (g3.then_ e4).in_ fun jv2 G5 H5 g5 hj5 => ?_
          exact ⟨_, _, G5, rfl, (g3.then_ e4).trans0 g5, eG3.trans g5.base, eG4.trans g5.base, hj5, hnew⟩
        · have q : ¬ ((p.1 : Int) ∈ L ∨ (p.2 : Int) ∈ L) := by simpa using q
          rw [if_neg q] at hnew ⊢
          exact ⟨_, _, G3, rfl, g3.then_ e4, eG3, eG4, hj3, hJ3⟩
      · rintro G2 σ' H' _ ⟨jv, y6, G', rfl, g, eG, eG4, hj, hJ⟩
        rw [List.take_length] at hj hJ
        exact ⟨_, _, _, G', rfl, g, eG0.trans eG4, eG1.trans eG4, hj, hJ⟩
    · rintro G σ' H' eG ⟨jv, y5, y6, G0, rfl, g, eG0, eG1, hj, hJ⟩
      generalize HM.turns (HM.stepL w.2) sms w.1 [(h : Int)] = J at hj hJ k
      have hs9 : (pL pI).is K G0 sv sms := Rep.lift (r := pL pI) hsv eG1
      have hjL := pLn_L hj
      have hlc := n_lcG (K := K) (rb := pI) (σ := [some v, some (.int (h : Int)), some z, some sv, some jv, y5, y6]) (Hb := G0) (vs := [6]) (te := tVar 6) (t := tTest (tOp (rIn K false) (tOp (rIx K) (tOp (rIx K) (tOp (rIx K) (tVar 0) (tC (.int 1))) (tVar 6)) (tC (.int 0))) (tVar 4)))
        (fun i => decide (HM.pa w.2 (sms.getD i 0) ∈ J)) (fun i => sms.getD i 0) (g_seq (K := K) (r := pI) (j := 6) ((e_var (i := 3) (r := pL pI) (x := sms) rfl hs9).LQ)) (by omega) (fun G i us ⟨_, _, _, _, e⟩ => by rw [e]; rfl) (fun G3 G i us eb e0 hi ⟨tv, t0, ht, htv, eu⟩ => by
          obtain ⟨t, rfl, htl⟩ := htie t0 (List.mem_of_getElem? ht)
          have htv : tv = .int (t : Int) := htv
          subst eu htv
          rw [getD_of ht]
          exact t_test (K := K) (e_inL (x := HM.pa w.2 (t : Int)) (e_fst (e_ixT (e_snd (eW G (eG1.trans (eb.trans e0)) _ rfl)).T (e_varI rfl) (tie_at htl))).nat (e_var (r := pL pI) rfl (Rep.lift (r := pL pI) hjL (eb.trans e0))))) (fun G3 G i us eb e0 hi ⟨tv, t0, ht, htv, eu⟩ _ => by
          have htv : tv = .int t0 := htv
          subst eu htv
          rw [getD_of ht]
          exact e_varI rfl)
      have ef : (((List.range sms.length).filter fun i => decide (HM.pa w.2 (sms.getD i 0) ∈ J)).map fun i => sms.getD i 0) = sms.filter fun t => decide (HM.pa w.2 t ∈ J) := by
        have := List.filter_map (f := fun i => sms.getD i 0) (p := fun t => decide (HM.pa w.2 t ∈ J)) (l := List.range sms.length)
        rw [← HM.list_tab] at this
        exact this.symm
      rw [ef] at hlc
      have hall : EvR K (tOp (rI0 fun i j => .int (i + j)) (tOp (rI0 fun i j => .int (i - j)) (tCB (rLenQ K) (tCons (tLc (iSeq K (tVar 3)) (gName 6) (tTest (tOp (rIn K false) (tOp (rIx K) (tOp (rIx K) (tOp (rIx K) (tVar 0) (tC (.int 1))) (tVar 6)) (tC (.int 0))) (tVar 4))) (tVar 6) [6]) tNil)) (tCB (rLenQ K) (tCons (tVar 4) tNil))) (tC (.int 1)))
          [some v, some (.int (h : Int)), some z, some sv, some jv, y5, y6] G0 pI (HM.tally w.2 sms J) := e_add (e_sub (e_lenL hlc.R.L).nat (e_lenL (e_var (r := pL pI) rfl hjL)).nat) e_int
      exact s_retR (K := K) hall g.in_ fun v G H1 g10 hv => k v G H1 (g.trans0 g10) hv
end
end K62

set_option Elab.async false
set_option linter.all false
set_option maxRecDepth 100000
set_option maxHeartbeats 4000000
namespace K62
open PySem L2 Evl Ly
theorem pP_T {K : PySem.W.Frag} {H : Hp} {α : Type} {r : Rep α} {v : V} {x y : α} (h : (pP r r).is K H v (x, y)) : (pTn r).is K H v [x, y] := let ⟨a, va, vb, ev, ha, h1, h2⟩ := h; ⟨a, [va, vb], ev, ha, .cons h1 (.cons h2 .nil)⟩
theorem evNon {K : PySem.W.Frag} {σ : L2.St} {Hb : Hp} {te : TE} (h : EvR K te σ Hb pNon ()) : Ev te σ Hb .non := fun H1 e Q q => h H1 e Q fun v G H2 g hv => by
  have hv : v = .non := hv
  subst hv
  exact q H2 g.ex
section
variable {P : Program} {w : World} {K : PySem.W.Frag} {mg : Str → Option Value} {base : Heap}
/-- an instance made -/
theorem e_web {C : Addr} {σ : L2.St} {Hb : Hp} {ta tb : TE} {w : WebD} (h1 : 1 ≤ w.1) (h12 : w.1 ≤ 12) (okw : HM.OkW w.1 w.2) (hl : w.2.length ≤ 20) (ha : EvR K ta σ Hb pNat w.1) (hb : EvR K tb σ Hb (pTn (pP pNat pNat)) w.2) :
    EvR K (tMake C (spWebInit K C) [] E0 (tCons ta (tCons tb tNil))) σ Hb (pWeb C) w := fun H0 e Q q => a_2 ha hb H0 e _ fun vs G H1 g hP x dx hx hdx hne => by
  obtain ⟨v, t, rfl, hv, ht⟩ := hP
  have hv : v = .int (w.1 : Int) := hv
  subst hv
  have hGx : G x = none := fresh_back g.in_ hx
  have hGdx : G dx = none := fresh_back g.in_ hdx
  have e1 : Ex H1 (upd H1 dx (.own x)) := Ex.new hdx
  have hx1 : (upd H1 dx (.own x)) x = none := by rw [upd_ne (Ne.symm hne)]; exact hx
  have e2 : Ex H1 (upd (upd H1 dx (.own x)) x (.ins C dx [])) := e1.trans (Ex.new hx1)
  refine ⟨w.1, w.2, x, dx, G, t, h1, h12, okw, hl, rfl, ht, g.in_.trans e2, hGx, upd_same, fun t2 G2 H3 g2 hG2 ht2 => ⟨rfl, ?_⟩⟩
  have hH3 : H3 x = some (.ins C dx []) := g2.keep upd_same (by simp)
  have H0x : H0 x = none := fresh_back g.ex hx
  refine q (.ref x) (upd G2 x (.ins C dx (webF t2 (.int (w.1 : Int))))) _ ⟨fun c o _ h => ?_, (g.base.trans g2.base).trans (Ex.new hG2), fun c o h => ?_, fun c h1 h2 => ?_⟩ ⟨x, dx, t2, rfl, upd_same, Rep.lift (r := pTn (pP pNat pNat)) ht2 (Ex.new hG2)⟩
  · rw [upd_ne (ne_of_none h H0x)]
    exact g2.ex c o (e2 c o (g.ex c o h))
  · by_cases z : c = x
    · subst z
      rw [upd_same] at h ⊢
      exact h
    · rw [upd_ne z] at h ⊢
      exact g2.in_ c o h
  · have zx : c ≠ x := fun z => h1 (z ▸ H0x)
    rw [upd_ne zx]
    have n1 := g.off c h1 h2
    refine g2.off c ?_ n1
    cases z : H0 c with
    | none => exact absurd z h1
    | some o => rw [e2 c o (g.ex c o z)]; exact fun z => nomatch z
def spLawRight (K : PySem.W.Frag) : Sp := fun vs H Q E => ∃ (b : Addr) (Hb : Hp) (w : WebD) (h : Nat) (order : List Nat) (far : Bool) (wv ov : V), Hb b = none ∧ vs = [.ref b, wv, .int (h : Int), ov, .bl far] ∧ Ex Hb H ∧ Bx H b ∧ (pW ()).is K Hb wv w ∧ (pLn pNat).is K Hb ov order ∧ 2 ≤ w.1 ∧ w.1 ≤ 7 ∧ HM.OkW w.1 w.2 ∧ w.2.length ≤ 18 ∧ h < w.1 ∧ HM.OkO w.2 order ∧ order.length ≤ 40 ∧
  ∀ G H', Grow [b] Hb H G H' → Bx H' b → Q (.bl true) H'
set_option maxHeartbeats 32000000 in
theorem ok_law_right {f C : Addr} {fd : FuncData} (B : Blt mg) (W : WebC K C) (C_Web : MakeC P w K mg base "Web" C 6 ["self", "houses", "ties"] (spWebInit K C)) (C_law_take : Callee P w K mg base "_law_take" 1 ["box", "many"] spTake) (C_law_pick : Callee P w K mg base "_law_pick" 2 ["box", "some"] spPick)
    (C_law_far : Callee P w K mg base "_law_far" 3 ["web", "house", "order", "rounds", "modulus"] (spLawFar K)) (C_law_same : Callee P w K mg base "_law_same" 3 ["told", "due"] (spSameT K (pTn pI))) (C_law_split : Callee P w K mg base "_law_split" 1 ["web", "counts"] (spLawSplit K))
    (C_law_met : Callee P w K mg base "_law_met" 1 ["web", "counts", "meetings", "modulus"] (spLawMet K)) (C_law_rings : Callee P w K mg base "_law_rings" 1 ["web", "house", "order"] (spLawRings K)) (C_pace_of : Callee P w K mg base "pace_of" 5 ["web", "house", "order"] (spPace K C))
    (C_round_counts_kw4 : KwCal P w K mg base "round_counts" 5 ["web", "house", "order", "rounds", "modulus"] 4 ["modulus"] (fun us zs => us ++ zs) (spRoundCounts K C)) (C_round_counts_kw0 : KwCal P w K mg base "round_counts" 5 ["web", "house", "order", "rounds", "modulus"] 0 ["modulus", "rounds", "order", "house", "web"] (fun us zs => us ++ zs.reverse) (spRoundCounts K C))
    (F : Fun K "_law_right" "_law_right" s_law_right f fd) : FnOk P w K mg base CX0 8 f fd ["box", "web", "house", "order", "is_far"] (spLawRight K) := by
  refine F.ok sc_law_right (fun vs H Q E h => ?_) (fun cdv A outer s H vs Q E hr h => ?_)
  · obtain ⟨_, _, _, _, _, _, _, _, _, rfl, _⟩ := h
    rfl
  · obtain ⟨b, Hb, w, h, order, far, wv, ov, hb, rfl, e, x, hw, ho, hw2, hw7, okw, hl18, hh, oko, hol, k⟩ := h
    have nd := sc_law_right.nd
    refine ⟨_, (pss_cons (ps_set (i := 5) nd rfl (Or.inl rfl) (pe_mkc C_Web hr (pa_cons (pe_ix (k_ix K) (pv 1) pe_int (fun _ _ => rfl)) (pa_cons (pe_ix (k_ix K) (pv 1) pe_int (fun _ _ => rfl)) pa_nil))))
      (pss_cons (ps_set (i := 6) nd rfl (Or.inr rfl) (pe_cal C_law_pick hr (pa_cons (pv 0) (pa_cons (pe_lst (pa_cons (pe_op op_pow pe_int pe_int) (pa_cons (pe_op op_sub (pe_op op_pow pe_int pe_int) (pe_cal C_law_take hr (pa_cons (pv 0) (pa_cons pe_int pa_nil)))) (pa_cons (pe_op op_add pe_int (pe_cal C_law_take hr (pa_cons (pv 0) (pa_cons (pe_op op_sub (pe_op op_pow pe_int pe_int) pe_int) pa_nil)))) (pa_cons (pe_op op_add pe_int (pe_cal C_law_take hr (pa_cons (pv 0) (pa_cons pe_int pa_nil)))) (pa_cons pe_int (pa_cons pe_int pa_nil))))))) pa_nil))))
      (pss_cons (ps_set (i := 7) nd rfl (Or.inl rfl) (pe_cal C_law_pick hr (pa_cons (pv 0) (pa_cons (pe_lst (pa_cons (pe_op op_pow pe_int pe_int) (pa_cons (pe_op op_sub (pe_op op_pow pe_int pe_int) (pe_cal C_law_take hr (pa_cons (pv 0) (pa_cons (pe_op op_pow pe_int pe_int) pa_nil)))) (pa_cons (pe_op op_add (pe_op op_pow pe_int pe_int) (pe_cal C_law_take hr (pa_cons (pv 0) (pa_cons (pe_op op_pow pe_int pe_int) pa_nil)))) pa_nil)))) pa_nil))))
      (pss_cons (ps_set (i := 7) nd rfl (Or.inl rfl) (pe_ifExp (pt_val (pv 4)) (pv 7) (pe_op op_add pe_int (pe_cal C_law_take hr (pa_cons (pv 0) (pa_cons (pe_op op_pow pe_int pe_int) pa_nil))))))
      (pss_cons (ps_set (i := 8) nd rfl (Or.inl rfl) (pe_cal C_law_far hr (pa_cons (pv 1) (pa_cons (pv 2) (pa_cons (pv 3) (pa_cons (pv 7) (pa_cons (pv 6) pa_nil)))))))
      (pss_cons (ps_if (pt_cmpR op_ne (pe_op op_mod (pe_callTy c_int (by rfl) B.int (by decide +kernel) (pa_cons (pe_op op_sub (pe_op op_sub (pe_callB (k_sum K) (by rfl) B.sum (by decide +kernel) (pa_cons (pe_slice (k_sl K) (pv 8) po_none (po_some (pe_ix (k_ix K) (pv 1) pe_int (fun _ _ => rfl)))) pa_nil)) (pe_callB (k_sum K) (by rfl) B.sum (by decide +kernel) (pa_cons (pe_slice (k_sl K) (pv 8) (po_some (pe_ix (k_ix K) (pv 1) pe_int (fun _ _ => rfl))) po_none) pa_nil))) pe_int) pa_nil)) (pv 6)) pe_int (nomark _)) (pss_one (ps_ret pe_bl)) pss_nil)
      (pss_cons (ps_if (pt_not (pt_val (pe_cal C_law_same hr (pa_cons (pe_kwc C_round_counts_kw4 hr (pa_cons (pv 5) (pa_cons (pv 2) (pa_cons (pe_callTy (k_list K) (by rfl) B.list (by decide +kernel) (pa_cons (pv 3) pa_nil)) (pa_cons (pv 7) pa_nil)))) (pk_cons (pv 6) pk_nil)) (pa_cons (pe_cal C_law_split hr (pa_cons (pv 1) (pa_cons (pv 8) pa_nil))) pa_nil))))) (pss_one (ps_ret pe_bl)) pss_nil)
      (pss_cons (ps_setLc (i := 9) rfl nd rfl rfl (sw_true rfl rfl rfl (by decide +kernel)) (own := [("at", 12)]) (pi_range1 (by rfl) B.range (pa_cons (pe_op op_add (pe_ix (k_ix K) (pv 1) pe_int (fun _ _ => rfl)) (pe_callB (k_len K) (by rfl) B.len (by decide +kernel) (pa_cons (pe_ix (k_ix K) (pv 1) pe_int (fun _ _ => rfl)) pa_nil))) pa_nil)) (blkOk_by (own := [("at", 12)]) (N := ["box", "web", "house", "order", "is_far", "made", "modulus", "rounds", "due", "counts", "near", "turn", "at"]) (sc := defScope s_law_right) (by decide +kernel)) (fun _ _ _ _ _ => (pg_name (i := 12) nd rfl (Or.inl rfl))) (fun _ _ _ _ _ => pts_nil) (fun _ _ _ _ _ => (pe_op op_mod (pe_callTy c_int (by rfl) B.int (by decide +kernel) (pa_cons (pe_cmpR op_eq (pv 12) (pv 2) (nomark _)) pa_nil)) (pv 6))))
      (pss_cons (ps_set (i := 10) nd rfl (Or.inl rfl) (pe_ifExp (pt_cmpR op_lt (pe_callB (k_len K) (by rfl) B.len (by decide +kernel) (pa_cons (pv 3) pa_nil)) pe_int (nomark _)) (pe_cal C_law_pick hr (pa_cons (pv 0) (pa_cons (pe_lst (pa_cons pe_int (pa_cons pe_int (pa_cons pe_int pa_nil)))) pa_nil))) pe_int))
      (pss_cons (ps_for PassesOwn.never rfl (pi_range1 (by rfl) B.range (pa_cons (pv 10) pa_nil)) (pg_name (i := 11) nd rfl (Or.inl rfl))
      (pss_one (ps_set (i := 9) nd rfl (Or.inl rfl) (pe_cal C_law_met hr (pa_cons (pv 1) (pa_cons (pv 9) (pa_cons (pv 3) (pa_cons (pv 6) pa_nil))))))))
      (pss_cons (ps_if (pt_not (pt_val (pe_cal C_law_same hr (pa_cons (pe_kwc0 C_round_counts_kw0 hr (pk_cons (pv 6) (pk_cons (pv 10) (pk_cons (pe_callTy (k_tup K) (by rfl) B.tuple (by decide +kernel) (pa_cons (pv 3) pa_nil)) (pk_cons (pv 2) (pk_cons (pv 5) pk_nil)))))) (pa_cons (pe_cal C_law_split hr (pa_cons (pv 1) (pa_cons (pv 9) pa_nil))) pa_nil))))) (pss_one (ps_ret pe_bl)) pss_nil)
      (pss_one (ps_ret (pe_or (pe_cmpR op_lt (pe_cal C_law_rings hr (pa_cons (pv 1) (pa_cons (pv 2) (pa_cons (pv 3) pa_nil)))) pe_int (nomark _)) (pe_one (pe_cmpR op_isN (pe_cal C_pace_of hr (pa_cons (pv 5) (pa_cons (pv 2) (pa_cons (pv 3) pa_nil)))) pe_non (nomark _))))))))))))))))), ?_⟩
    have eW0 : ∀ (G : Hp) (eG : Ex Hb G) (y : L2.St) (hy : y[1]? = some (some wv)), EvR K (tVar 1) y G (pW ()) w := fun G eG y hy => e_var hy (Rep.lift (r := pW ()) hw eG)
    have eO : ∀ (G : Hp) (eG : Ex Hb G) (y : L2.St) (hy : y[3]? = some (some ov)), EvR K (tVar 3) y G (pLn pNat) order := fun G eG y hy => e_var hy (Rep.lift (r := pLn pNat) ho eG)
    -- made
    refine q_set (K := K) (Hb := Hb) (r := pWeb C) (x := w) (e_web (K := K) (by omega) (by omega) okw (by omega) (e_fst (eW0 Hb (Ex.refl _) _ rfl)) (e_snd (eW0 Hb (Ex.refl _) _ rfl))) e fun mv G1 H1 g1 hmv => ?_
    have gg1 := g1.any (ms := [b])
    have x1 := x.ex g1.ex
    have hb1 : G1 b = none := gg1.off b x.has hb
    -- modulus
    refine q_setX (b := b) (Hb := G1) (P := fun n => 0 < n ∧ n ≤ 1000000) ?t1 g1.in_ x1 fun m H2 hm e2 x2 => ?_
    case t1 =>
      have p6 : ∀ (y : L2.St), EvR K (tOp (rI CPow fun i j => .int (i ^ j.toNat)) (tC (.int 10)) (tC (.int 6))) y G1 pI 1000000 := fun y => (e_pow ⟨by decide, by decide, by decide⟩ e_int e_int).eq (by decide)
      refine x_pick (i := 0) (n := 6) rfl ?_ (by decide) (by decide)
      refine xa_cons hb1 (x_pure (p6 _) (by decide)) (xa_cons hb1 ?_ (xa_cons hb1 ?_ (xa_cons hb1 ?_ (xa_cons hb1 (x_pure (K := K) e_int (by decide)) (xa_cons hb1 (x_pure (K := K) e_int (by decide)) xa_nil)))))
      · exact x_op0 (P1 := fun n => n = 1000000) (P2 := fun n => 0 ≤ n ∧ n < 1000) hb1 (x_pure (p6 _) rfl) (x_take (i := 0) (P1 := fun q => q = 1000) rfl (x_pure (K := K) e_int rfl) (fun q e => by omega) (fun q n e h1 h2 => by omega)) (fun x y h1 h2 => by omega)
      · exact x_op0 (P1 := fun n => n = 2) (P2 := fun n => 0 ≤ n ∧ n < 999999) hb1 (x_pure (K := K) e_int rfl) (x_take (i := 0) (P1 := fun q => q = 999999) rfl (x_pure (K := K) (e_sub (p6 _) e_int) (by decide)) (fun q e => by omega) (fun q n e h1 h2 => by omega)) (fun x y h1 h2 => by omega)
      · exact x_op0 (P1 := fun n => n = 2) (P2 := fun n => 0 ≤ n ∧ n < 30) hb1 (x_pure (K := K) e_int rfl) (x_take (i := 0) (P1 := fun q => q = 30) rfl (x_pure (K := K) e_int rfl) (fun q e => by omega) (fun q n e h1 h2 => by omega)) (fun x y h1 h2 => by omega)
    have gg2 := gg1.box (by simp) hb1 e2
    -- rounds
    refine q_setX (b := b) (Hb := G1) (P := fun n => 0 ≤ n ∧ n ≤ 1000000000000000000) ?t1 gg2.in_ x2 fun r0 H3 hr0 e3 x3 => ?_
    case t1 =>
      have p6 : ∀ (y : L2.St), EvR K (tOp (rI CPow fun i j => .int (i ^ j.toNat)) (tC (.int 10)) (tC (.int 6))) y G1 pI 1000000 := fun y => (e_pow ⟨by decide, by decide, by decide⟩ e_int e_int).eq (by decide)
      have p9 : ∀ (y : L2.St), EvR K (tOp (rI CPow fun i j => .int (i ^ j.toNat)) (tC (.int 10)) (tC (.int 9))) y G1 pI 1000000000 := fun y => (e_pow ⟨by decide, by decide, by decide⟩ e_int e_int).eq (by decide)
      have p17 : ∀ (y : L2.St), EvR K (tOp (rI CPow fun i j => .int (i ^ j.toNat)) (tC (.int 10)) (tC (.int 17))) y G1 pI 100000000000000000 := fun y => (e_pow ⟨by decide, by decide, by decide⟩ e_int e_int).eq (by decide)
      have p18 : ∀ (y : L2.St), EvR K (tOp (rI CPow fun i j => .int (i ^ j.toNat)) (tC (.int 10)) (tC (.int 18))) y G1 pI 1000000000000000000 := fun y => (e_pow ⟨by decide, by decide, by decide⟩ e_int e_int).eq (by decide)
      refine x_pick (i := 0) (n := 3) rfl ?_ (by decide) (by decide)
      refine xa_cons hb1 (x_pure (p18 _) (by decide)) (xa_cons hb1 ?_ (xa_cons hb1 ?_ xa_nil))
      · exact x_op0 (P1 := fun n => n = 1000000000000000000) (P2 := fun n => 0 ≤ n ∧ n < 1000000) hb1 (x_pure (p18 _) rfl) (x_take (i := 0) (P1 := fun q => q = 1000000) rfl (x_pure (p6 _) rfl) (fun q e => by omega) (fun q n e h1 h2 => by omega)) (fun x y h1 h2 => by omega)
      · exact x_op0 (P1 := fun n => n = 100000000000000000) (P2 := fun n => 0 ≤ n ∧ n < 1000000000) hb1 (x_pure (p17 _) rfl) (x_take (i := 0) (P1 := fun q => q = 1000000000) rfl (x_pure (p9 _) rfl) (fun q e => by omega) (fun q n e h1 h2 => by omega)) (fun x y h1 h2 => by omega)
    have gg3 := gg2.box (by simp) hb1 e3
    refine q_setX (b := b) (Hb := G1) (P := fun n => 0 ≤ n ∧ n ≤ 1000000000000000000) ?t1 gg3.in_ x3 fun r1 H4 hr1 e4 x4 => ?_
    case t1 =>
      have p5 : ∀ (y : L2.St), EvR K (tOp (rI CPow fun i j => .int (i ^ j.toNat)) (tC (.int 10)) (tC (.int 5))) y G1 pI 100000 := fun y => (e_pow ⟨by decide, by decide, by decide⟩ e_int e_int).eq (by decide)
      refine x_if (B := fun d => d = far) hb1 (xt_pure (t_B (K := K) (e_varB rfl))) (fun _ => x_pure (K := K) (e_varI rfl) hr0) (fun _ => ?_)
      exact x_op0 (P1 := fun n => n = 401) (P2 := fun n => 0 ≤ n ∧ n < 100000) hb1 (x_pure (K := K) e_int rfl) (x_take (i := 0) (P1 := fun q => q = 100000) rfl (x_pure (p5 _) rfl) (fun q e => by omega) (fun q n e h1 h2 => by omega)) (fun x y h1 h2 => by omega)
    have gg4 := gg3.box (by simp) hb1 e4
    clear hr0
    obtain ⟨r, rfl⟩ : ∃ r : Nat, r1 = (r : Int) := ⟨r1.toNat, by omega⟩
    have hr60 : r < 2 ^ 60 := by
      have : (2 : Nat) ^ 60 = 1152921504606846976 := by decide
      omega
    -- due
    have hdue : EvR K (tCall (spLawFar K) [] E0 (tCons (tVar 1) (tCons (tVar 2) (tCons (tVar 3) (tCons (tVar 7) (tCons (tVar 6) tNil)))))) [some (.ref b), some wv, some (.int (h : Int)), some ov, some (.bl far), some mv, some (.int m), some (.int (r : Int)), none, none, none, none, none] G1 (pLn pI) (farC w h order r m) :=
      (e_call (K := K) (P := A5 K (pW ()) pNat (pQ pNat) pI pI w h order (r : Int) m) (r := pLn pI) (fun _ _ _ _ q => ⟨w, h, order, r, m, hm.1, hm.2, hr60, okw, oko, hh, by omega, by omega, q⟩) (a_5 (eW0 G1 g1.base _ rfl) (e_varN rfl) (eO G1 g1.base _ rfl).L.LQ (e_varI rfl) (e_varI rfl)))
    refine q_set (K := K) (Hb := G1) hdue gg4.in_ fun dv G5 H5 g5 hdv => ?_
    have gg5 := growTr gg4 g5 x4
    have x5 := x4.ex g5.ex
    have hdvL := pLn_L hdv
    have hfl : (farC w h order r m).length = w.1 + w.2.length := by
      unfold farC
      rw [HM.iter_len]
      simp [HM.unit]
    -- the books
    have hbk := HM.books (m := m) (r := r) okw oko hh
    have hsum : EvR K (tOp (rI (fun _ j => 0 < j) fun i j => .int (i % j)) (tCB rInt1 (tCons (tOp (rI0 fun i j => .int (i - j)) (tOp (rI0 fun i j => .int (i - j)) (tCB (rSum K) (tCons (tSl (rSlL K) (tVar 8) tNoPart (tPart (tOp (rIx K) (tVar 1) (tC (.int 0))))) tNil)) (tCB (rSum K) (tCons (tSl (rSlL K) (tVar 8) (tPart (tOp (rIx K) (tVar 1) (tC (.int 0)))) tNoPart) tNil))) (tC (.int 1))) tNil)) (tVar 6))
        [some (.ref b), some wv, some (.int (h : Int)), some ov, some (.bl far), some mv, some (.int m), some (.int (r : Int)), some dv, none, none, none, none] G5 pI 0 :=
      (e_mod hm.1 (e_int1 (e_sub (e_sub (e_sum (n_slTo (e_var (r := pL pI) rfl hdvL) (e_fst (eW0 G5 (g1.base.trans g5.base) _ rfl)).nat).R.L) (e_sum (n_slFrom (e_var (r := pL pI) rfl hdvL) (e_fst (eW0 G5 (g1.base.trans g5.base) _ rfl)).nat).R.L)) e_int)) (e_varI rfl)).eq hbk
    refine q_no' (b := !decide ((0 : Int) = 0)) (Hb := G5) (t_test (K := K) (e_ne hsum e_int)) (by decide) gg5.in_ fun H6 e6 => ?_
    have gg6 := gg5.then_ e6
    have x6 := x5.ex e6
    -- round_counts, far
    have eMv : ∀ (G : Hp) (eG : Ex G1 G) (y : L2.St) (hy : y[5]? = some (some mv)), EvR K (tVar 5) y G (pWeb C) w := fun G eG y hy => e_var hy (Rep.lift (r := pWeb C) hmv eG)
    have hrc : EvR K (tCallN 4 1 (spRoundCounts K C) (fun us zs => us ++ zs) E0 (tCons (tVar 5) (tCons (tVar 2) (tCons (tCB (rListQ K) (tCons (tVar 3) tNil)) (tCons (tVar 7) tNil)))) (tCons (tVar 6) tNil)) [some (.ref b), some wv, some (.int (h : Int)), some ov, some (.bl far), some mv, some (.int m), some (.int (r : Int)), some dv, none, none, none, none] G5 (pP (pTn pI) (pTn pI)) ((farC w h order r m).take w.1, (farC w h order r m).drop w.1) :=
      e_kw41 (ra := pWeb C) (rb := pNat) (rc := pS pNat) (rd := pI) (re := pI) (fun vs H Q E q => ⟨w, h, order, r, m, hm.1, hm.2, by omega, okw, oko, hol, hh, by omega, by omega, q⟩) (eMv G5 g5.base _ rfl) (e_varN rfl) ((n_listL (eO G5 (g1.base.trans g5.base) _ rfl).L).R.to fun v G _ q => .inl q) (e_varI rfl) (e_varI rfl)
    have hls : EvR K (tCall (spLawSplit K) [] E0 (tCons (tVar 1) (tCons (tVar 8) tNil))) [some (.ref b), some wv, some (.int (h : Int)), some ov, some (.bl far), some mv, some (.int m), some (.int (r : Int)), some dv, none, none, none, none] G5 (pP (pTn pI) (pTn pI)) ((farC w h order r m).take w.1, (farC w h order r m).drop w.1) :=
      e_call (K := K) (P := A2 K (pW ()) (pL pI) w (farC w h order r m)) (fun _ _ _ _ q => ⟨w, _, q⟩) (a_2 (eW0 G5 (g1.base.trans g5.base) _ rfl) (e_var rfl hdvL))
    have hsame : ∀ (σ : L2.St) (G : Hp) (ta tb : TE) (c : List Int), EvR K ta σ G (pP (pTn pI) (pTn pI)) (c.take w.1, c.drop w.1) → EvR K tb σ G (pP (pTn pI) (pTn pI)) (c.take w.1, c.drop w.1) → EvR K (tCall (spSameT K (pTn pI)) [] E0 (tCons ta (tCons tb tNil))) σ G pB true := fun σ G ta tb c h1 h2 =>
      e_call (K := K) (P := A2 K (pTn (pTn pI)) (pTn (pTn pI)) [c.take w.1, c.drop w.1] [c.take w.1, c.drop w.1]) (fun _ _ _ _ q => ⟨[c.take w.1, c.drop w.1], q⟩) (a_2 (h1.to fun v G _ q => pP_T q) (h2.to fun v G _ q => pP_T q))
    refine q_no' (b := !true) (Hb := G5) (et_not (t_B (K := K) (hsame _ _ _ _ _ hrc hls))) rfl gg6.in_ fun H7 e7 => ?_
    have gg7 := gg6.then_ e7
    have x7 := x6.ex e7
    -- counts, near
    have hsz := (e_add (K := K) (σ := [some (.ref b), some wv, some (.int (h : Int)), some ov, some (.bl far), some mv, some (.int m), some (.int (r : Int)), some dv, none, none, none, none]) (e_fst (eW0 G5 (g1.base.trans g5.base) _ rfl)).nat (e_lenT (e_snd (eW0 G5 (g1.base.trans g5.base) _ rfl)).T).nat).eq (by omega : (w.1 : Int) + (w.2.length : Nat) = ((w.1 + w.2.length : Nat) : Int))
    have hcnt := n_lcM (K := K) (rb := pI) (vs := [12]) (σ := [some (.ref b), some wv, some (.int (h : Int)), some ov, some (.bl far), some mv, some (.int m), some (.int (r : Int)), some dv, none, none, none, none]) (Hb := G5) (te := tOp (rI (fun _ j => 0 < j) fun i j => .int (i % j)) (tCB rInt1 (tCons (tOp rEq (tVar 12) (tVar 2)) tNil)) (tVar 6))
      (fun i => (if i = h then (1 : Int) else 0) % m) (g_range (K := K) (j := 12) (n := w.1 + w.2.length) hsz (by omega)) (by omega) (fun G i us e => by rw [e]; rfl) (fun G0 G i us eb e0 hi eu => by
        subst eu
        refine e_mod hm.1 ((e_intB (e_eq (e_varI rfl) (e_varI rfl))).eq ?_) (e_varI rfl)
        by_cases q : i = h
        · subst q
          simp
        · have : ¬ ((i : Nat) : Int) = h := by omega
          simp [q, this])
    have ecnt : ((List.range (w.1 + w.2.length)).map fun i => (if i = h then (1 : Int) else 0) % m) = (HM.unit (w.1 + w.2.length) h).map (· % m) := by
      unfold HM.unit
      rw [List.map_map]
      rfl
    rw [ecnt] at hcnt
    refine q_set (K := K) (Hb := G5) hcnt.R gg7.in_ fun cv G8 H8 g8 hcv => ?_
    have gg8 := growTr gg7 g8 x7
    have x8 := x7.ex g8.ex
    have hb8 : G8 b = none := gg8.off b x.has hb
    have e18 : Ex G1 G8 := g5.base.trans g8.base
    refine q_setX (b := b) (Hb := G8) (P := fun n => 0 ≤ n ∧ n ≤ 401) ?t1 gg8.in_ x8 fun nr H9 hnr e9 x9 => ?_
    case t1 =>
      refine x_if (B := fun _ => True) hb8 (fun H1 e x Q q => xt_pure (b := b) (t_test (K := K) (e_lt (e_lenL (eO G8 (g1.base.trans e18) _ rfl).L).nat (e_int (n := 21)))) H1 e x Q fun c H2 _ => q c H2 trivial) (fun _ => ?_) (fun _ => x_pure (K := K) e_int (by decide))
      refine x_pick (i := 0) (n := 3) rfl ?_ (by decide) (by decide)
      exact xa_cons hb8 (x_pure (K := K) e_int (by decide)) (xa_cons hb8 (x_pure (K := K) e_int (by decide)) (xa_cons hb8 (x_pure (K := K) e_int (by decide)) xa_nil))
    have gg9 := gg8.box (by simp) hb8 e9
    obtain ⟨near, rfl⟩ : ∃ near : Nat, nr = (near : Int) := ⟨nr.toNat, by omega⟩
    -- the near rounds
    have hred0 : HM.Red m ((HM.unit (w.1 + w.2.length) h).map (· % m)) := fun y hy => by
      obtain ⟨z, _, rfl⟩ := List.mem_map.mp hy
      exact ⟨Int.emod_nonneg _ (by omega), Int.emod_lt_of_pos _ hm.1⟩
    refine s_for1R (K := K) (Hb := G8) (n := near) (e_varI rfl) gg9.in_ (by omega) fun H10 e10 => ?_
    refine ⟨fun i σ' H' => ∃ (cv : V) (y11 : Option V) (G : Hp), σ' = [some (.ref b), some wv, some (.int (h : Int)), some ov, some (.bl far), some mv, some (.int m), some (.int (r : Int)), some dv, some cv, some (.int (near : Int)), y11, none] ∧ Grow [b] Hb H G H' ∧ Bx H' b ∧ Ex G8 G ∧ (pLn pI).is K G cv (farC w h order i m) ∧ HM.Red m (farC w h order i m), ?_, ?_, ?_⟩
    · exact ⟨cv, none, G8, rfl, gg9.then_ e10, x9.ex e10, Ex.refl _, hcv, hred0⟩
    · rintro i σ' H' hi ⟨cv, y11, G, rfl, g, x', eG, hcv, hred⟩
      have hil : (farC w h order i m).length = w.1 + w.2.length := by
        unfold farC
        rw [HM.iter_len]
        simp [HM.unit]
      have est : farC w h order (i + 1) m = HM.lmet m w.1 w.2 order (farC w h order i m) := by
        rw [HM.lmet_F0 okw oko hm.1 hred hil]
        unfold farC
        exact HM.iter_succ _ i _
      have hmet : EvN K (tCall (spLawMet K) [] E0 (tCons (tVar 1) (tCons (tVar 9) (tCons (tVar 3) (tCons (tVar 6) tNil))))) [some (.ref b), some wv, some (.int (h : Int)), some ov, some (.bl far), some mv, some (.int m), some (.int (r : Int)), some dv, some cv, some (.int (near : Int)), some (.int (0 + (i : Nat))), none] G pI (HM.lmet m w.1 w.2 order (farC w h order i m)) :=
        n_call (K := K) (P := A4 K (pW ()) (pL pI) (pQ pNat) pI w (farC w h order i m) order m) (fun _ _ _ _ q => ⟨w, _, order, m, hm.1, okw, oko, hil, q⟩) (a_4 (eW0 G (g1.base.trans (e18.trans eG)) _ rfl) (e_var rfl (pLn_L hcv)) (eO G (g1.base.trans (e18.trans eG)) _ rfl).L.LQ (e_varI rfl))
      refine s_set (K := K) (Hb := G) hmet.R g.in_ fun cv2 G2 H2 g2 hcv2 => ?_
      exact ⟨cv2, _, G2, rfl, growTr g g2 x', x'.ex g2.ex, eG.trans g2.base, by rw [est]; exact hcv2, by rw [est]; exact HM.lmet_red hm.1 hred⟩
    · rintro σ' H' ⟨cv, y11, G, rfl, g, x', eG, hcv, hred⟩
      dsimp only
      have eb : Ex G1 G := e18.trans eG
      have eb0 : Ex Hb G := g1.base.trans eb
      have hrc2 : EvR K (tCallN 0 5 (spRoundCounts K C) (fun us zs => us ++ zs.reverse) E0 tNil (tCons (tVar 6) (tCons (tVar 10) (tCons (tCB (rTupQ K) (tCons (tVar 3) tNil)) (tCons (tVar 2) (tCons (tVar 5) tNil)))))) [some (.ref b), some wv, some (.int (h : Int)), some ov, some (.bl far), some mv, some (.int m), some (.int (r : Int)), some dv, some cv, some (.int (near : Int)), y11, none] G (pP (pTn pI) (pTn pI)) ((farC w h order near m).take w.1, (farC w h order near m).drop w.1) :=
        e_kw05 (ra := pWeb C) (rb := pNat) (rc := pS pNat) (rd := pI) (re := pI) (fun vs H Q E q => ⟨w, h, order, near, m, hm.1, hm.2, by omega, okw, oko, hol, hh, by omega, by omega, q⟩) (eMv G eb _ rfl) (e_varN rfl) ((e_tupL (eO G eb0 _ rfl).L).to fun v G _ q => .inr q) (e_varI rfl) (e_varI rfl)
      have hls2 : EvR K (tCall (spLawSplit K) [] E0 (tCons (tVar 1) (tCons (tVar 9) tNil))) [some (.ref b), some wv, some (.int (h : Int)), some ov, some (.bl far), some mv, some (.int m), some (.int (r : Int)), some dv, some cv, some (.int (near : Int)), y11, none] G (pP (pTn pI) (pTn pI)) ((farC w h order near m).take w.1, (farC w h order near m).drop w.1) :=
        e_call (K := K) (P := A2 K (pW ()) (pL pI) w (farC w h order near m)) (fun _ _ _ _ q => ⟨w, _, q⟩) (a_2 (eW0 G eb0 _ rfl) (e_var rfl (pLn_L hcv)))
      refine q_no' (b := !true) (Hb := G) (et_not (t_B (K := K) (hsame _ _ _ _ _ hrc2 hls2))) rfl g.in_ fun H11 e11 => ?_
      have g11 := g.then_ e11
      have hend : EvR K (tOrV (tOp (rI0 fun i j => .bl (decide (i < j))) (tCall (spLawRings K) [] E0 (tCons (tVar 1) (tCons (tVar 2) (tCons (tVar 3) tNil)))) (tC (.int 2))) (tOp (fun x y H Q => y = .non ∧ Q (.bl (decide (x = .non))) H) (tCall (spPace K C) [] E0 (tCons (tVar 5) (tCons (tVar 2) (tCons (tVar 3) tNil)))) (tC .non)))
          [some (.ref b), some wv, some (.int (h : Int)), some ov, some (.bl far), some mv, some (.int m), some (.int (r : Int)), some dv, some cv, some (.int (near : Int)), y11, none] G pB (decide (HM.ringsL w.1 w.2 h order < 2) || decide (V.non = .non)) :=
        e_or (e_lt (e_call (K := K) (P := A3 K (pW ()) pNat (pLn pNat) w h order) (fun _ _ _ _ q => ⟨w, h, order, okw, oko, by omega, hh, by omega, q⟩) (a_3 (eW0 G eb0 _ rfl) (e_varN rfl) (eO G eb0 _ rfl))) e_int) fun q => e_isNon (evNon (e_call (K := K) (P := A3 K (pWeb C) pNat (pS pNat) w h order) (fun _ _ _ _ qq => ⟨w, h, order, okw, oko, by omega, by omega, hh, by rw [HM.rings_same]; have := of_decide_eq_false q; omega, qq⟩) (a_3 (eMv G eb _ rfl) (e_varN rfl) ((eO G eb0 _ rfl).to fun v G _ q => .inl q))))
      have hend := hend.eq (show (decide (HM.ringsL w.1 w.2 h order < 2) || decide (V.non = .non)) = true by simp)
      refine s_retR (K := K) hend g11.in_ fun v G12 H12 g12 hv => ?_
      have hv : v = .bl true := hv
      subst hv
      exact k G12 H12 (growTr g11 g12 (x'.ex e11)) ((x'.ex e11).ex g12.ex)
end
end K62

set_option Elab.async false
set_option linter.all false
set_option maxRecDepth 100000
set_option maxHeartbeats 4000000
namespace K62
open PySem L2 Evl Ly
section
variable {P : Program} {w : World} {K : PySem.W.Frag} {mg : Str → Option Value} {base : Heap}
theorem q_unpairX {b : Addr} {Hb H : Hp} {te : TE} {σ : L2.St} {D : Ends} {tz : TS} {i j : Nat} {P : Int → Int → Prop} (h : XP te σ b Hb P) (e : Ex Hb H) (x : Bx H b) (k : ∀ n m H1, P n m → ExB b H H1 → Bx H1 b → tz D ((σ.set i (some (.int n))).set j (some (.int m))) H1) :
    tSeq (tAsg te (gTup K 2 (gCons (gName i) (gCons (gName j) gNil)))) tz D σ H := h H e x _ fun n m p H2 hp e2 x2 hpn => ⟨p, [.int n, .int m], rfl, SqT.of upd_same, rfl, _, [_], rfl, _, [], rfl, rfl, k n m _ hp (e2.trans (ExB.of (Ex.new hpn))) (x2.ex (Ex.new hpn))⟩
theorem q_any {te : TE} {σ : L2.St} {H : Hp} {D : Ends} {tz : TS} {i : Nat} (h : te σ H (fun v H1 => tz D (σ.set i (some v)) H1)) : tSeq (tAsg te (gName i)) tz D σ H := h
theorem s_any {te : TE} {σ : L2.St} {H : Hp} {D : Ends} {i : Nat} (h : te σ H (fun v H1 => D.nx (σ.set i (some v)) H1)) : tAsg te (gName i) D σ H := h
theorem xt_and {b : Addr} {Hb : Hp} {σ : L2.St} {t u : TT} {A B : Bool → Prop} (hb : Hb b = none) (h : XT t σ b Hb A) (h2 : A true → XT u σ b Hb B) : XT (tAnd t u) σ b Hb (fun c => c = false ∨ (A true ∧ B true)) := fun H1 e x Q q => h H1 e x _ fun c H2 hA e2 x2 => by
  cases c with
  | true =>
    show u σ H2 Q
    exact h2 hA H2 (e2.ex e hb) x2 Q fun d H3 hB e3 x3 => q d H3 (by
      cases d with
      | true => exact .inr ⟨hA, hB⟩
      | false => exact .inl rfl) (e2.trans e3) x3
  | false =>
    show Q false H2
    exact q false H2 (.inl rfl) e2 x2
def spLaw (K : PySem.W.Frag) : Sp := fun vs H Q E => ∃ (v : V) (ns : List Int), vs = [v] ∧ (pL pI).is K H v ns ∧ ∀ H', Q (.bl true) H'
set_option maxHeartbeats 16000000 in
theorem ok_law {f : Addr} {fd : FuncData} (B : Blt mg) (C_law_box : Callee P w K mg base "_law_box" 1 ["script", "k"] (spBox K)) (C_law_web : Callee P w K mg base "_law_web" 3 ["box"] (spWeb K)) (C_law_take : Callee P w K mg base "_law_take" 1 ["box", "many"] spTake)
    (C_law_mixed : Callee P w K mg base "_law_mixed" 2 ["box", "some"] (spMixed K)) (C_law_right : Callee P w K mg base "_law_right" 8 ["box", "web", "house", "order", "is_far"] (spLawRight K)) (F : Fun K "law" "law" s_law f fd) : FnOk P w K mg base CX0 9 f fd ["script"] (spLaw K) := by
  refine F.ok sc_law (fun vs H Q E h => ?_) (fun cdv A outer s H vs Q E hr h => ?_)
  · obtain ⟨_, _, rfl, _⟩ := h
    rfl
  · obtain ⟨v, ns, rfl, hv, k⟩ := h
    have nd := sc_law.nd
    refine ⟨_, (pss_cons (ps_for PassesOwn.never rfl (pi_range1 (by rfl) B.range (pa_cons pe_int pa_nil)) (pg_name (i := 1) nd rfl (Or.inl rfl))
      (pss_cons (ps_set (i := 2) nd rfl (Or.inr rfl) (pe_cal C_law_box hr (pa_cons (pv 0) (pa_cons (pv 1) pa_nil))))
      (pss_cons (ps_set (i := 3) nd rfl (Or.inl rfl) (pe_cal C_law_web hr (pa_cons (pv 2) pa_nil)))
      (pss_cons (ps_asg (pe_tup (pa_cons (pe_cal C_law_take hr (pa_cons (pv 2) (pa_cons (pe_ix (k_ix K) (pv 3) pe_int (fun _ _ => rfl)) pa_nil))) (pa_cons (pe_callB (k_len K) (by rfl) B.len (by decide +kernel) (pa_cons (pe_ix (k_ix K) (pv 3) pe_int (fun _ _ => rfl)) pa_nil)) pa_nil))) (pk_tup K (n := 2) rfl (pgs_cons (pg_name (i := 4) nd rfl (Or.inl rfl)) (pgs_cons (pg_name (i := 5) nd rfl (Or.inr rfl)) pgs_nil))))
      (pss_cons (ps_set (i := 6) nd rfl (Or.inl rfl) (pe_cal C_law_mixed hr (pa_cons (pv 2) (pa_cons (pe_listRg rfl (by rfl) B.list (prg_1 (by rfl) B.range (pv 5))) pa_nil))))
      (pss_cons (ps_if (PW.pt (pw_and (pt_cmpR op_gt (pv 5) pe_int (nomark _)) (pw_and1 (pt_cmpR op_eq (pe_cal C_law_take hr (pa_cons (pv 2) (pa_cons pe_int pa_nil))) pe_int (nomark _))))) (pss_one (ps_setLc (i := 6) rfl nd rfl rfl (sw_true rfl rfl rfl (by decide +kernel)) (own := [("turn", 7)]) (pi_range1 (by rfl) B.range (pa_cons (pe_cal C_law_take hr (pa_cons (pv 2) (pa_cons pe_int pa_nil))) pa_nil)) (blkOk_by (own := [("turn", 7)]) (N := ["script", "k", "box", "web", "house", "many", "order", "turn"]) (sc := defScope s_law) (by decide +kernel)) (fun _ _ _ _ _ => (pg_name (i := 7) nd rfl (Or.inl rfl))) (fun _ _ _ _ _ => pts_nil) (fun _ _ _ _ _ => (pe_cal C_law_take hr (pa_cons (pv 2) (pa_cons (pv 5) pa_nil)))))) pss_nil)
      (pss_one (ps_if (pt_not (pt_val (pe_cal C_law_right hr (pa_cons (pv 2) (pa_cons (pv 3) (pa_cons (pv 4) (pa_cons (pv 6) (pa_cons (pe_cmpR op_eq (pv 1) pe_int (nomark _)) pa_nil)))))))) (pss_one (ps_ret pe_bl)) pss_nil))))))))
      (pss_one (ps_ret pe_bl))), ?_⟩
    refine s_for1R (K := K) (Hb := H) (n := 2) (e_int (n := 2)) (Ex.refl H) (by decide) fun H1 e1 => ?_
    refine ⟨fun i σ' H' => ∃ y1 y2 y3 y4 y5 y6 y7, σ' = [some v, y1, y2, y3, y4, y5, y6, y7] ∧ Ex H H', ?_, ?_, ?_⟩
    · exact ⟨none, none, none, none, none, none, none, rfl, e1⟩
    · rintro i σ' H' hi ⟨y1, y2, y3, y4, y5, y6, y7, rfl, e⟩
      have e0 : (0 : Int) + (i : Nat) = (i : Int) := Int.zero_add _
      rw [e0]
      refine q_any ⟨v, rfl, .int (i : Int), rfl, v, ns, i, H, rfl, hv, e, fun b H2 g2 hb n2 x2 => ?_⟩
      refine q_any ⟨.ref b, rfl, b, H, hb, rfl, g2.in_, x2, fun w wv G H3 hw2 hw7 okw hwl g3 x3 hw => ?_⟩
      have hGb : G b = none := g3.off b x2.has hb
      have eW : ∀ (G2 : Hp) (eG : Ex G G2) (y : L2.St) (hy : y[3]? = some (some wv)), EvR K (tVar 3) y G2 (pW ()) w := fun G2 eG y hy => e_var hy (Rep.lift (r := pW ()) hw eG)
      refine q_unpairX (b := b) (Hb := G) (P := fun n m => (0 ≤ n ∧ n < (w.1 : Int)) ∧ m = (w.2.length : Nat)) ?t1 g3.in_ x3 fun ho ma H4 hp e4 x4 => ?_
      case t1 => exact x_pair hGb (x_take (i := 2) (P1 := fun q => q = (w.1 : Int)) (R := fun n => 0 ≤ n ∧ n < (w.1 : Int)) rfl (x_pure (K := K) (e_fst (eW G (Ex.refl _) _ rfl)).nat rfl) (fun q e => by omega) (fun q n e h1 h2 => by omega)) (x_pure (K := K) (P := fun m => m = (w.2.length : Nat)) (e_lenT (e_snd (eW G (Ex.refl _) _ rfl)).T).nat rfl) (fun x y h1 h2 => ⟨h1, h2⟩)
      obtain ⟨h, rfl⟩ : ∃ h : Nat, ho = (h : Int) := ⟨ho.toNat, by omega⟩
      obtain ⟨hh, rfl⟩ := hp
      have e4G := e4.ex g3.in_ hGb
      refine q_any (x_mixed (K := K) (r := pNat) (b := b) (i := 2) (Hb := G) (xs := List.range w.2.length) rfl (n_listRg (e_varI rfl) (by omega)).R.L hGb (by simp; omega) e4G x4 fun oa ows os G5 H5 pm g5 n1 n2' x5 hoa hoE => ?_)
      have g5' := g5.give (.inl n2') n1 hoa
      have hord : (pLn pNat).is K (upd G5 oa (.lst ows)) (.ref oa) os := ⟨oa, ows, rfl, upd_same, hoE.mono (Ex.new n1)⟩
      generalize upd G5 oa (.lst ows) = G6 at g5' hord
      have hG6b : G6 b = none := g5'.off b x4.has hGb
      have oko : HM.OkO w.2 os := fun t ht => List.mem_range.mp (pm.mem_iff.mp ht)
      have hol : os.length ≤ 40 := by
        rw [pm.length_eq, List.length_range]
        omega
      -- the last step, whatever the order is
      have last : ∀ (D : Ends), (∀ y1 y2 y3 y4 y5 y6 y7 H', Ex H H' → D.nx [some v, y1, y2, y3, y4, y5, y6, y7] H') → ∀ (ov : V) (os : List Nat) (G7 H7 : Hp), Ex G7 H7 → Ex G G7 → G7 b = none → Bx H7 b → (pLn pNat).is K G7 ov os → HM.OkO w.2 os → os.length ≤ 40 →
          tIfS (tNot (tB (tCall (spLawRight K) [] E0 (tCons (tVar 2) (tCons (tVar 3) (tCons (tVar 4) (tCons (tVar 6) (tCons (tOp rEq (tVar 1) (tC (.int 0))) tNil)))))))) (tRet (tC (.bl false))) tNext D [some v, some (.int (i : Int)), some (.ref b), some wv, some (.int (h : Int)), some (.int ((w.2.length : Nat) : Int)), some ov, y7] H7 := by
        intro D hD ov os G7 H7 e7 eG7 hb7 x7 hov oko hol
        have hk : EvR K (tOp rEq (tVar 1) (tC (.int 0))) [some v, some (.int (i : Int)), some (.ref b), some wv, some (.int (h : Int)), some (.int ((w.2.length : Nat) : Int)), some ov, y7] G7 pB (decide ((i : Int) = 0)) := e_eq (e_varI rfl) e_int
        refine ⟨.ref b, rfl, wv, rfl, .int (h : Int), rfl, ov, rfl, hk.bl H7 e7 _ fun H8 e8 => ?_⟩
        refine ⟨b, G7, w, h, os, decide ((i : Int) = 0), wv, ov, hb7, rfl, e7.trans e8, x7.ex e8, Rep.lift (r := pW ()) hw eG7, hov, hw2, hw7, okw, hwl, by omega, oko, hol, fun G9 H9 g9 x9 => ⟨true, rfl, ?_⟩⟩
        exact hD _ _ _ _ _ _ _ H9 ((g3.base.trans (eG7.trans g9.base)).trans g9.in_)
      have e6 : Ex G6 H5 := g5'.in_
      refine q_ifX (b := b) (Hb := G6) (xt_and (A := fun d => d = decide ((0 : Int) < (w.2.length : Nat))) (B := fun _ => True) hG6b (xt_pure (t_test (K := K) (e_gt (e_varI rfl) e_int))) fun _ => xt_eq (P1 := fun _ => True) (P2 := fun _ => True) hG6b (x_take (i := 2) (P1 := fun q => q = 3) rfl (x_pure (K := K) e_int rfl) (fun q e => by omega) (fun _ _ _ _ _ => trivial)) (x_pure (K := K) e_int trivial)) e6 x5 (fun hB H6 e6' x6 => ?_) (fun _ H6 e6' x6 => ?_)
      · have hpos : 0 < w.2.length := by
          rcases hB with z | ⟨z, _⟩
          · cases z
          · have := of_decide_eq_true z.symm
            omega
        refine s_any (x_lcX (σ := [some v, some (.int (i : Int)), some (.ref b), some wv, some (.int (h : Int)), some (.int ((w.2.length : Nat) : Int)), some (.ref oa), y7]) (b := b) (Hb := G6) (v := 7) (P := fun n => 0 ≤ n ∧ n < 41) (R := fun n => 0 ≤ n ∧ n < (w.2.length : Nat)) hG6b (x_take (i := 2) (P1 := fun q => q = 41) rfl (x_pure (K := K) e_int rfl) (fun q e => by omega) (fun q n e h1 h2 => by omega)) (fun n q => by omega) (fun _ => rfl) (fun _ => x_take (i := 2) (P1 := fun q => q = (w.2.length : Nat)) rfl (x_pure (K := K) (e_varI rfl) rfl) (fun q e => by omega) (fun q n e h1 h2 => by omega)) (e6'.ex e6 hG6b) x6 fun n oa2 ms H7 hn hml hmR g7 m1 m2 hoa2 x7 => ?_)
        have g7' := g7.give (.inl m2) m1 hoa2
        have em : ms = (ms.map Int.toNat).map fun (n : Nat) => (n : Int) := by
          rw [List.map_map]
          refine (List.map_id ms).symm.trans (List.map_congr_left fun y hy => ?_)
          have := hmR y hy
          show y = ((y.toNat : Nat) : Int)
          omega
        have hord2 : (pLn pNat).is K (upd G6 oa2 (.lst (ms.map V.int))) (.ref oa2) (ms.map Int.toNat) := by
          refine ⟨oa2, ms.map V.int, rfl, upd_same, ?_⟩
          rw [em]
          have := nat_each (K := K) (H := upd G6 oa2 (.lst (((ms.map Int.toNat).map fun (n : Nat) => (n : Int)).map V.int))) (ms.map Int.toNat)
          rw [← em] at this ⊢
          exact this
        refine last _ ?hD (.ref oa2) _ _ H7 g7'.in_ (g5'.base.trans g7'.base) (g7'.off b x6.has hG6b) x7 hord2 (fun t ht => ?_) (by rw [List.length_map, hml]; omega)
        · intro y1 y2 y3 y4 y5 y6 y7 H' eH
          exact ⟨_, _, _, _, _, _, _, rfl, eH⟩
        · obtain ⟨y, hy, rfl⟩ := List.mem_map.mp ht
          have := hmR y hy
          omega
      · refine last _ ?hD2 (.ref oa) os G6 H6 (e6'.ex e6 hG6b) g5'.base hG6b x6 hord oko hol
        intro y1 y2 y3 y4 y5 y6 y7 H' eH
        exact ⟨_, _, _, _, _, _, _, rfl, eH⟩
    · rintro σ' H' ⟨y1, y2, y3, y4, y5, y6, y7, rfl, e⟩
      exact k H'
end
end K62

set_option Elab.async false
set_option linter.all false
set_option maxRecDepth 100000
set_option maxHeartbeats 4000000
namespace K62
open PySem L2 Evl Ly
/-- a def as the top has left it -/
def DefIn (K : PySem.W.Frag) (x : Str) (st : Stmt) : Prop := ∃ (f : Addr) (oc kV dc pm cd ct : Value) (od an : Option Addr) (sl : Array (Option Value)),
  PySem.W.nsIn K mainGlobals x = some (some (.ref f)) ∧ K.lookup f = some ⟨oc, od, .func (PySem.W.fnOf x x (defArgs st) (defBody st) (defScope st) .none kV dc pm an cd ct), sl⟩ ∧ PySem.W.codeIn K cd x = true ∧ PySem.W.keepIn K (.ref f) = true
def InitIn (K : PySem.W.Frag) (C : Addr) (qual : Str) (st : Stmt) : Prop := ∃ (f : Addr) (oc kV dc pm cd ct : Value) (od an : Option Addr) (sl : Array (Option Value)),
  PySem.W.findIn K (.ref C) "__init__" = some (some (.ref f)) ∧ PySem.W.isFn K (.ref f) = true ∧ K.lookup f = some ⟨oc, od, .func (PySem.W.fnOf "__init__" qual (defArgs st) (defBody st) (defScope st) .none kV dc pm an cd ct), sl⟩ ∧ PySem.W.codeIn K cd qual = true ∧ PySem.W.keepIn K (.ref f) = true
structure WebIn (K : PySem.W.Frag) (C : Addr) : Prop where
  aC : PySem.W.nsIn K mainGlobals "Web" = some (some (.ref C))
  pg : PySem.W.plainGet K C Str.empty = true
  hd : PySem.W.hasDictIn K C = true
  po : PySem.W.plainOver K C = true
  sa : PySem.W.findIn K (.ref C) "__setattr__" = some (some (.builtin "object.__setattr__"))
  mks : PySem.W.makesIn K C = true
  kc : PySem.W.keepIn K (.ref C) = true
  nT : PySem.W.findIn K (.ref C) "ties" = some none
  nH : PySem.W.findIn K (.ref C) "houses" = some none
theorem vals_rev : ∀ {zs : List V} {ws : List Value}, Vals zs ws → Vals zs.reverse ws.reverse
  | [], _, .nil => .nil
  | z :: zs, _, .cons r t => by
    rw [List.reverse_cons, List.reverse_cons]
    exact (vals_rev t).append (.cons r .nil)
theorem all_mk {P : Program} {w : World} {K : PySem.W.Frag} {h : Heap} {mg : Str → Option Value} {fa C : Addr} (X : K.In h) (G : h.Ns mainGlobals mg) (hfa : mg "law" = some (.ref fa)) (Wb : WebIn K C) (d_Web_init : InitIn K C "Web.__init__" s_Web_init)
    (d_is_integer : DefIn K "is_integer" s_is_integer)
    (d_is_number : DefIn K "is_number" s_is_number)
    (d_is_below : DefIn K "is_below" s_is_below)
    (d_is_within : DefIn K "is_within" s_is_within)
    (d_is_sequence : DefIn K "is_sequence" s_is_sequence)
    (d_is_pair : DefIn K "is_pair" s_is_pair)
    (d_need_house : DefIn K "need_house" s_need_house)
    (d_met : DefIn K "met" s_met)
    (d_begun : DefIn K "begun" s_begun)
    (d_split : DefIn K "split" s_split)
    (d_reduced : DefIn K "reduced" s_reduced)
    (d_round_table : DefIn K "round_table" s_round_table)
    (d_applied : DefIn K "applied" s_applied)
    (d_doubled : DefIn K "doubled" s_doubled)
    (d_check_ties : DefIn K "check_ties" s_check_ties)
    (d_check_meetings : DefIn K "check_meetings" s_check_meetings)
    (d_round_counts : DefIn K "round_counts" s_round_counts)
    (d_rings_met : DefIn K "rings_met" s_rings_met)
    (d_pace_of : DefIn K "pace_of" s_pace_of)
    (d_law_take : DefIn K "_law_take" s_law_take)
    (d_law_pick : DefIn K "_law_pick" s_law_pick)
    (d_law_box : DefIn K "_law_box" s_law_box)
    (d_law_mixed : DefIn K "_law_mixed" s_law_mixed)
    (d_law_web : DefIn K "_law_web" s_law_web)
    (d_law_met : DefIn K "_law_met" s_law_met)
    (d_law_led : DefIn K "_law_led" s_law_led)
    (d_law_split : DefIn K "_law_split" s_law_split)
    (d_law_table : DefIn K "_law_table" s_law_table)
    (d_law_far : DefIn K "_law_far" s_law_far)
    (d_law_rings : DefIn K "_law_rings" s_law_rings)
    (d_law_right : DefIn K "_law_right" s_law_right)
    (d_law : DefIn K "law" s_law)
    (d_law_same : DefIn K "_law_same" s_law_same)
    (z_abs : PySem.W.nsIn K mainGlobals "abs" = some none)
    (z_all : PySem.W.nsIn K mainGlobals "all" = some none)
    (z_bool : PySem.W.nsIn K mainGlobals "bool" = some none)
    (z_enumerate : PySem.W.nsIn K mainGlobals "enumerate" = some none)
    (z_int : PySem.W.nsIn K mainGlobals "int" = some none)
    (z_isinstance : PySem.W.nsIn K mainGlobals "isinstance" = some none)
    (z_len : PySem.W.nsIn K mainGlobals "len" = some none)
    (z_list : PySem.W.nsIn K mainGlobals "list" = some none)
    (z_max : PySem.W.nsIn K mainGlobals "max" = some none)
    (z_min : PySem.W.nsIn K mainGlobals "min" = some none)
    (z_range : PySem.W.nsIn K mainGlobals "range" = some none)
    (z_set : PySem.W.nsIn K mainGlobals "set" = some none)
    (z_sorted : PySem.W.nsIn K mainGlobals "sorted" = some none)
    (z_str : PySem.W.nsIn K mainGlobals "str" = some none)
    (z_sum : PySem.W.nsIn K mainGlobals "sum" = some none)
    (z_tuple : PySem.W.nsIn K mainGlobals "tuple" = some none)
    (z_zip : PySem.W.nsIn K mainGlobals "zip" = some none)
    (c_MOST_HOUSES : ∃ t, PySem.W.nsIn K mainGlobals "MOST_HOUSES" = some (some (.int 12 t)))
    (c_MOST_ROUNDS : ∃ t, PySem.W.nsIn K mainGlobals "MOST_ROUNDS" = some (some (.int 400 t)))
    (c_MOST_ROW : ∃ t, PySem.W.nsIn K mainGlobals "MOST_ROW" = some (some (.int 10000 t)))
    (c_MOST_TIES : ∃ t, PySem.W.nsIn K mainGlobals "MOST_TIES" = some (some (.int 20 t)))
    (c_FAR_ROUNDS : Const mg "FAR_ROUNDS" (.int 1000000000000000000)) (c_MOST_MODULUS : Const mg "MOST_MODULUS" (.int 1000000)) :
    ∃ fd : FuncData, (∀ (s : Shared) (v : Value), BindsTo s fd ⟨[v], []⟩ [("script", v)]) ∧ ∀ base : Heap, K.In base → base.Ns mainGlobals mg → FnOk P w K mg base CX0 9 fa fd ["script"] (spLaw K) := by
  have W : WebC K C := ⟨⟨Wb.pg, Wb.hd, Wb.po, Wb.sa⟩, Wb.nT, Wb.nH⟩
  have B : Blt mg := ⟨PySem.W.mg_none_of X G z_abs, PySem.W.mg_none_of X G z_all, PySem.W.mg_none_of X G z_bool, PySem.W.mg_none_of X G z_enumerate, PySem.W.mg_none_of X G z_int, PySem.W.mg_none_of X G z_isinstance, PySem.W.mg_none_of X G z_len, PySem.W.mg_none_of X G z_list, PySem.W.mg_none_of X G z_max, PySem.W.mg_none_of X G z_min, PySem.W.mg_none_of X G z_range, PySem.W.mg_none_of X G z_set, PySem.W.mg_none_of X G z_sorted, PySem.W.mg_none_of X G z_str, PySem.W.mg_none_of X G z_sum, PySem.W.mg_none_of X G z_tuple, PySem.W.mg_none_of X G z_zip, c_FAR_ROUNDS, ?b1, c_MOST_MODULUS, ?b2, ?b3, ?b4⟩
  case b1 => exact let ⟨t, e⟩ := c_MOST_HOUSES; ⟨_, PySem.W.mg_of X G e, ⟨t, rfl⟩⟩
  case b2 => exact let ⟨t, e⟩ := c_MOST_ROUNDS; ⟨_, PySem.W.mg_of X G e, ⟨t, rfl⟩⟩
  case b3 => exact let ⟨t, e⟩ := c_MOST_ROW; ⟨_, PySem.W.mg_of X G e, ⟨t, rfl⟩⟩
  case b4 => exact let ⟨t, e⟩ := c_MOST_TIES; ⟨_, PySem.W.mg_of X G e, ⟨t, rfl⟩⟩
  obtain ⟨f_is_integer, oc_is_integer, kV_is_integer, dc_is_integer, pm_is_integer, cd_is_integer, ct_is_integer, od_is_integer, an_is_integer, sl_is_integer, a_is_integer, l_is_integer, cc_is_integer, k_is_integer⟩ := d_is_integer
  have F_is_integer := fun_mk (st := s_is_integer) l_is_integer cc_is_integer k_is_integer
  have b_is_integer := F_is_integer.binds (ps := ["value"]) fun _ _ _ _ _ _ us hl => match us, hl with | [_], _ => rfl
  obtain ⟨f_is_number, oc_is_number, kV_is_number, dc_is_number, pm_is_number, cd_is_number, ct_is_number, od_is_number, an_is_number, sl_is_number, a_is_number, l_is_number, cc_is_number, k_is_number⟩ := d_is_number
  have F_is_number := fun_mk (st := s_is_number) l_is_number cc_is_number k_is_number
  have b_is_number := F_is_number.binds (ps := ["value"]) fun _ _ _ _ _ _ us hl => match us, hl with | [_], _ => rfl
  obtain ⟨f_is_below, oc_is_below, kV_is_below, dc_is_below, pm_is_below, cd_is_below, ct_is_below, od_is_below, an_is_below, sl_is_below, a_is_below, l_is_below, cc_is_below, k_is_below⟩ := d_is_below
  have F_is_below := fun_mk (st := s_is_below) l_is_below cc_is_below k_is_below
  have b_is_below := F_is_below.binds (ps := ["value", "most"]) fun _ _ _ _ _ _ us hl => match us, hl with | [_, _], _ => rfl
  obtain ⟨f_is_within, oc_is_within, kV_is_within, dc_is_within, pm_is_within, cd_is_within, ct_is_within, od_is_within, an_is_within, sl_is_within, a_is_within, l_is_within, cc_is_within, k_is_within⟩ := d_is_within
  have F_is_within := fun_mk (st := s_is_within) l_is_within cc_is_within k_is_within
  have b_is_within := F_is_within.binds (ps := ["value", "least", "most"]) fun _ _ _ _ _ _ us hl => match us, hl with | [_, _, _], _ => rfl
  obtain ⟨f_is_sequence, oc_is_sequence, kV_is_sequence, dc_is_sequence, pm_is_sequence, cd_is_sequence, ct_is_sequence, od_is_sequence, an_is_sequence, sl_is_sequence, a_is_sequence, l_is_sequence, cc_is_sequence, k_is_sequence⟩ := d_is_sequence
  have F_is_sequence := fun_mk (st := s_is_sequence) l_is_sequence cc_is_sequence k_is_sequence
  have b_is_sequence := F_is_sequence.binds (ps := ["value"]) fun _ _ _ _ _ _ us hl => match us, hl with | [_], _ => rfl
  obtain ⟨f_is_pair, oc_is_pair, kV_is_pair, dc_is_pair, pm_is_pair, cd_is_pair, ct_is_pair, od_is_pair, an_is_pair, sl_is_pair, a_is_pair, l_is_pair, cc_is_pair, k_is_pair⟩ := d_is_pair
  have F_is_pair := fun_mk (st := s_is_pair) l_is_pair cc_is_pair k_is_pair
  have b_is_pair := F_is_pair.binds (ps := ["value", "houses"]) fun _ _ _ _ _ _ us hl => match us, hl with | [_, _], _ => rfl
  obtain ⟨f_need_house, oc_need_house, kV_need_house, dc_need_house, pm_need_house, cd_need_house, ct_need_house, od_need_house, an_need_house, sl_need_house, a_need_house, l_need_house, cc_need_house, k_need_house⟩ := d_need_house
  have F_need_house := fun_mk (st := s_need_house) l_need_house cc_need_house k_need_house
  have b_need_house := F_need_house.binds (ps := ["web", "house"]) fun _ _ _ _ _ _ us hl => match us, hl with | [_, _], _ => rfl
  obtain ⟨f_met, oc_met, kV_met, dc_met, pm_met, cd_met, ct_met, od_met, an_met, sl_met, a_met, l_met, cc_met, k_met⟩ := d_met
  have F_met := fun_mk (st := s_met) l_met cc_met k_met
  have b_met := F_met.binds (ps := ["web", "counts", "meetings"]) fun _ _ _ _ _ _ us hl => match us, hl with | [_, _, _], _ => rfl
  obtain ⟨f_begun, oc_begun, kV_begun, dc_begun, pm_begun, cd_begun, ct_begun, od_begun, an_begun, sl_begun, a_begun, l_begun, cc_begun, k_begun⟩ := d_begun
  have F_begun := fun_mk (st := s_begun) l_begun cc_begun k_begun
  have b_begun := F_begun.binds (ps := ["web", "house"]) fun _ _ _ _ _ _ us hl => match us, hl with | [_, _], _ => rfl
  obtain ⟨f_split, oc_split, kV_split, dc_split, pm_split, cd_split, ct_split, od_split, an_split, sl_split, a_split, l_split, cc_split, k_split⟩ := d_split
  have F_split := fun_mk (st := s_split) l_split cc_split k_split
  have b_split := F_split.binds (ps := ["web", "counts"]) fun _ _ _ _ _ _ us hl => match us, hl with | [_, _], _ => rfl
  obtain ⟨f_reduced, oc_reduced, kV_reduced, dc_reduced, pm_reduced, cd_reduced, ct_reduced, od_reduced, an_reduced, sl_reduced, a_reduced, l_reduced, cc_reduced, k_reduced⟩ := d_reduced
  have F_reduced := fun_mk (st := s_reduced) l_reduced cc_reduced k_reduced
  have b_reduced := F_reduced.binds (ps := ["number", "modulus"]) fun _ _ _ _ _ _ us hl => match us, hl with | [_, _], _ => rfl
  obtain ⟨f_round_table, oc_round_table, kV_round_table, dc_round_table, pm_round_table, cd_round_table, ct_round_table, od_round_table, an_round_table, sl_round_table, a_round_table, l_round_table, cc_round_table, k_round_table⟩ := d_round_table
  have F_round_table := fun_mk (st := s_round_table) l_round_table cc_round_table k_round_table
  have b_round_table := F_round_table.binds (ps := ["web", "order"]) fun _ _ _ _ _ _ us hl => match us, hl with | [_, _], _ => rfl
  obtain ⟨f_applied, oc_applied, kV_applied, dc_applied, pm_applied, cd_applied, ct_applied, od_applied, an_applied, sl_applied, a_applied, l_applied, cc_applied, k_applied⟩ := d_applied
  have F_applied := fun_mk (st := s_applied) l_applied cc_applied k_applied
  have b_applied := F_applied.binds (ps := ["table", "counts", "modulus"]) fun _ _ _ _ _ _ us hl => match us, hl with | [_, _, _], _ => rfl
  obtain ⟨f_doubled, oc_doubled, kV_doubled, dc_doubled, pm_doubled, cd_doubled, ct_doubled, od_doubled, an_doubled, sl_doubled, a_doubled, l_doubled, cc_doubled, k_doubled⟩ := d_doubled
  have F_doubled := fun_mk (st := s_doubled) l_doubled cc_doubled k_doubled
  have b_doubled := F_doubled.binds (ps := ["table", "modulus"]) fun _ _ _ _ _ _ us hl => match us, hl with | [_, _], _ => rfl
  obtain ⟨f_check_ties, oc_check_ties, kV_check_ties, dc_check_ties, pm_check_ties, cd_check_ties, ct_check_ties, od_check_ties, an_check_ties, sl_check_ties, a_check_ties, l_check_ties, cc_check_ties, k_check_ties⟩ := d_check_ties
  have F_check_ties := fun_mk (st := s_check_ties) l_check_ties cc_check_ties k_check_ties
  have b_check_ties := F_check_ties.binds (ps := ["houses", "ties"]) fun _ _ _ _ _ _ us hl => match us, hl with | [_, _], _ => rfl
  obtain ⟨f_check_meetings, oc_check_meetings, kV_check_meetings, dc_check_meetings, pm_check_meetings, cd_check_meetings, ct_check_meetings, od_check_meetings, an_check_meetings, sl_check_meetings, a_check_meetings, l_check_meetings, cc_check_meetings, k_check_meetings⟩ := d_check_meetings
  have F_check_meetings := fun_mk (st := s_check_meetings) l_check_meetings cc_check_meetings k_check_meetings
  have b_check_meetings := F_check_meetings.binds (ps := ["web", "value"]) fun _ _ _ _ _ _ us hl => match us, hl with | [_, _], _ => rfl
  obtain ⟨f_Web_init, oc_Web_init, kV_Web_init, dc_Web_init, pm_Web_init, cd_Web_init, ct_Web_init, od_Web_init, an_Web_init, sl_Web_init, a_Web_init, i_Web_init, l_Web_init, cc_Web_init, k_Web_init⟩ := d_Web_init
  have F_Web_init := fun_mk (st := s_Web_init) l_Web_init cc_Web_init k_Web_init
  have b_Web_init := F_Web_init.binds (ps := ["self", "houses", "ties"]) fun _ _ _ _ _ _ us hl => match us, hl with | [_, _, _], _ => rfl
  obtain ⟨f_round_counts, oc_round_counts, kV_round_counts, dc_round_counts, pm_round_counts, cd_round_counts, ct_round_counts, od_round_counts, an_round_counts, sl_round_counts, a_round_counts, l_round_counts, cc_round_counts, k_round_counts⟩ := d_round_counts
  have F_round_counts := fun_mk (st := s_round_counts) l_round_counts cc_round_counts k_round_counts
  obtain ⟨f_rings_met, oc_rings_met, kV_rings_met, dc_rings_met, pm_rings_met, cd_rings_met, ct_rings_met, od_rings_met, an_rings_met, sl_rings_met, a_rings_met, l_rings_met, cc_rings_met, k_rings_met⟩ := d_rings_met
  have F_rings_met := fun_mk (st := s_rings_met) l_rings_met cc_rings_met k_rings_met
  have b_rings_met := F_rings_met.binds (ps := ["web", "house", "order"]) fun _ _ _ _ _ _ us hl => match us, hl with | [_, _, _], _ => rfl
  obtain ⟨f_pace_of, oc_pace_of, kV_pace_of, dc_pace_of, pm_pace_of, cd_pace_of, ct_pace_of, od_pace_of, an_pace_of, sl_pace_of, a_pace_of, l_pace_of, cc_pace_of, k_pace_of⟩ := d_pace_of
  have F_pace_of := fun_mk (st := s_pace_of) l_pace_of cc_pace_of k_pace_of
  have b_pace_of := F_pace_of.binds (ps := ["web", "house", "order"]) fun _ _ _ _ _ _ us hl => match us, hl with | [_, _, _], _ => rfl
  obtain ⟨f_law_take, oc_law_take, kV_law_take, dc_law_take, pm_law_take, cd_law_take, ct_law_take, od_law_take, an_law_take, sl_law_take, a_law_take, l_law_take, cc_law_take, k_law_take⟩ := d_law_take
  have F_law_take := fun_mk (st := s_law_take) l_law_take cc_law_take k_law_take
  have b_law_take := F_law_take.binds (ps := ["box", "many"]) fun _ _ _ _ _ _ us hl => match us, hl with | [_, _], _ => rfl
  obtain ⟨f_law_pick, oc_law_pick, kV_law_pick, dc_law_pick, pm_law_pick, cd_law_pick, ct_law_pick, od_law_pick, an_law_pick, sl_law_pick, a_law_pick, l_law_pick, cc_law_pick, k_law_pick⟩ := d_law_pick
  have F_law_pick := fun_mk (st := s_law_pick) l_law_pick cc_law_pick k_law_pick
  have b_law_pick := F_law_pick.binds (ps := ["box", "some"]) fun _ _ _ _ _ _ us hl => match us, hl with | [_, _], _ => rfl
  obtain ⟨f_law_box, oc_law_box, kV_law_box, dc_law_box, pm_law_box, cd_law_box, ct_law_box, od_law_box, an_law_box, sl_law_box, a_law_box, l_law_box, cc_law_box, k_law_box⟩ := d_law_box
  have F_law_box := fun_mk (st := s_law_box) l_law_box cc_law_box k_law_box
  have b_law_box := F_law_box.binds (ps := ["script", "k"]) fun _ _ _ _ _ _ us hl => match us, hl with | [_, _], _ => rfl
  obtain ⟨f_law_mixed, oc_law_mixed, kV_law_mixed, dc_law_mixed, pm_law_mixed, cd_law_mixed, ct_law_mixed, od_law_mixed, an_law_mixed, sl_law_mixed, a_law_mixed, l_law_mixed, cc_law_mixed, k_law_mixed⟩ := d_law_mixed
  have F_law_mixed := fun_mk (st := s_law_mixed) l_law_mixed cc_law_mixed k_law_mixed
  have b_law_mixed := F_law_mixed.binds (ps := ["box", "some"]) fun _ _ _ _ _ _ us hl => match us, hl with | [_, _], _ => rfl
  obtain ⟨f_law_web, oc_law_web, kV_law_web, dc_law_web, pm_law_web, cd_law_web, ct_law_web, od_law_web, an_law_web, sl_law_web, a_law_web, l_law_web, cc_law_web, k_law_web⟩ := d_law_web
  have F_law_web := fun_mk (st := s_law_web) l_law_web cc_law_web k_law_web
  have b_law_web := F_law_web.binds (ps := ["box"]) fun _ _ _ _ _ _ us hl => match us, hl with | [_], _ => rfl
  obtain ⟨f_law_met, oc_law_met, kV_law_met, dc_law_met, pm_law_met, cd_law_met, ct_law_met, od_law_met, an_law_met, sl_law_met, a_law_met, l_law_met, cc_law_met, k_law_met⟩ := d_law_met
  have F_law_met := fun_mk (st := s_law_met) l_law_met cc_law_met k_law_met
  have b_law_met := F_law_met.binds (ps := ["web", "counts", "meetings", "modulus"]) fun _ _ _ _ _ _ us hl => match us, hl with | [_, _, _, _], _ => rfl
  obtain ⟨f_law_led, oc_law_led, kV_law_led, dc_law_led, pm_law_led, cd_law_led, ct_law_led, od_law_led, an_law_led, sl_law_led, a_law_led, l_law_led, cc_law_led, k_law_led⟩ := d_law_led
  have F_law_led := fun_mk (st := s_law_led) l_law_led cc_law_led k_law_led
  have b_law_led := F_law_led.binds (ps := ["table", "counts", "modulus"]) fun _ _ _ _ _ _ us hl => match us, hl with | [_, _, _], _ => rfl
  obtain ⟨f_law_split, oc_law_split, kV_law_split, dc_law_split, pm_law_split, cd_law_split, ct_law_split, od_law_split, an_law_split, sl_law_split, a_law_split, l_law_split, cc_law_split, k_law_split⟩ := d_law_split
  have F_law_split := fun_mk (st := s_law_split) l_law_split cc_law_split k_law_split
  have b_law_split := F_law_split.binds (ps := ["web", "counts"]) fun _ _ _ _ _ _ us hl => match us, hl with | [_, _], _ => rfl
  obtain ⟨f_law_table, oc_law_table, kV_law_table, dc_law_table, pm_law_table, cd_law_table, ct_law_table, od_law_table, an_law_table, sl_law_table, a_law_table, l_law_table, cc_law_table, k_law_table⟩ := d_law_table
  have F_law_table := fun_mk (st := s_law_table) l_law_table cc_law_table k_law_table
  have b_law_table := F_law_table.binds (ps := ["web", "order", "modulus"]) fun _ _ _ _ _ _ us hl => match us, hl with | [_, _, _], _ => rfl
  obtain ⟨f_law_far, oc_law_far, kV_law_far, dc_law_far, pm_law_far, cd_law_far, ct_law_far, od_law_far, an_law_far, sl_law_far, a_law_far, l_law_far, cc_law_far, k_law_far⟩ := d_law_far
  have F_law_far := fun_mk (st := s_law_far) l_law_far cc_law_far k_law_far
  have b_law_far := F_law_far.binds (ps := ["web", "house", "order", "rounds", "modulus"]) fun _ _ _ _ _ _ us hl => match us, hl with | [_, _, _, _, _], _ => rfl
  obtain ⟨f_law_rings, oc_law_rings, kV_law_rings, dc_law_rings, pm_law_rings, cd_law_rings, ct_law_rings, od_law_rings, an_law_rings, sl_law_rings, a_law_rings, l_law_rings, cc_law_rings, k_law_rings⟩ := d_law_rings
  have F_law_rings := fun_mk (st := s_law_rings) l_law_rings cc_law_rings k_law_rings
  have b_law_rings := F_law_rings.binds (ps := ["web", "house", "order"]) fun _ _ _ _ _ _ us hl => match us, hl with | [_, _, _], _ => rfl
  obtain ⟨f_law_right, oc_law_right, kV_law_right, dc_law_right, pm_law_right, cd_law_right, ct_law_right, od_law_right, an_law_right, sl_law_right, a_law_right, l_law_right, cc_law_right, k_law_right⟩ := d_law_right
  have F_law_right := fun_mk (st := s_law_right) l_law_right cc_law_right k_law_right
  have b_law_right := F_law_right.binds (ps := ["box", "web", "house", "order", "is_far"]) fun _ _ _ _ _ _ us hl => match us, hl with | [_, _, _, _, _], _ => rfl
  obtain ⟨f_law, oc_law, kV_law, dc_law, pm_law, cd_law, ct_law, od_law, an_law, sl_law, a_law, l_law, cc_law, k_law⟩ := d_law
  have F_law := fun_mk (st := s_law) l_law cc_law k_law
  obtain ⟨f_law_same, oc_law_same, kV_law_same, dc_law_same, pm_law_same, cd_law_same, ct_law_same, od_law_same, an_law_same, sl_law_same, a_law_same, l_law_same, cc_law_same, k_law_same⟩ := d_law_same
  have F_law_same := fun_mk (st := s_law_same) l_law_same cc_law_same k_law_same
  have b_law_same := F_law_same.binds (ps := ["told", "due"]) fun _ _ _ _ _ _ us hl => match us, hl with | [_, _], _ => rfl
  have e := hfa.symm.trans (PySem.W.mg_of X G a_law)
  cases e
  refine ⟨PySem.W.fnOf "law" "law" (defArgs s_law) (defBody s_law) (defScope s_law) .none kV_law dc_law pm_law an_law cd_law ct_law, fun s v => .of_eq rfl, fun base _ _ => ?_⟩
  have C_is_integer : Callee P w K mg base "is_integer" 1 ["value"] (spIntB K fun _ => true) := ⟨f_is_integer, _, ok_is_integer B  F_is_integer, PySem.W.mg_of X G a_is_integer, k_is_integer, b_is_integer⟩
  have C_is_number : Callee P w K mg base "is_number" 2 ["value"] (spIntB K fun n => decide (0 ≤ n)) := ⟨f_is_number, _, ok_is_number B C_is_integer F_is_number, PySem.W.mg_of X G a_is_number, k_is_number, b_is_number⟩
  have C_is_below : Callee P w K mg base "is_below" 3 ["value", "most"] (spBelow K) := ⟨f_is_below, _, ok_is_below B C_is_number F_is_below, PySem.W.mg_of X G a_is_below, k_is_below, b_is_below⟩
  have C_is_within : Callee P w K mg base "is_within" 2 ["value", "least", "most"] (spWithin K) := ⟨f_is_within, _, ok_is_within B C_is_integer F_is_within, PySem.W.mg_of X G a_is_within, k_is_within, b_is_within⟩
  have C_is_sequence : Callee P w K mg base "is_sequence" 1 ["value"] (spSeq K) := ⟨f_is_sequence, _, ok_is_sequence B  F_is_sequence, PySem.W.mg_of X G a_is_sequence, k_is_sequence, b_is_sequence⟩
  have C_is_pair : Callee P w K mg base "is_pair" 4 ["value", "houses"] (spPair K) := ⟨f_is_pair, _, ok_is_pair B C_is_sequence C_is_below F_is_pair, PySem.W.mg_of X G a_is_pair, k_is_pair, b_is_pair⟩
  have C_need_house : Callee P w K mg base "need_house" 4 ["web", "house"] (spNeedHouse K C) := ⟨f_need_house, _, ok_need_house B W C_is_below F_need_house, PySem.W.mg_of X G a_need_house, k_need_house, b_need_house⟩
  have C_met : Callee P w K mg base "met" 1 ["web", "counts", "meetings"] (spMet K C) := ⟨f_met, _, ok_met B W F_met, PySem.W.mg_of X G a_met, k_met, b_met⟩
  have C_begun : Callee P w K mg base "begun" 1 ["web", "house"] (spBegun K C) := ⟨f_begun, _, ok_begun B W F_begun, PySem.W.mg_of X G a_begun, k_begun, b_begun⟩
  have C_split : Callee P w K mg base "split" 1 ["web", "counts"] (spSplit K C) := ⟨f_split, _, ok_split B W F_split, PySem.W.mg_of X G a_split, k_split, b_split⟩
  have C_reduced : Callee P w K mg base "reduced" 1 ["number", "modulus"] (spReduced K) := ⟨f_reduced, _, ok_reduced B  F_reduced, PySem.W.mg_of X G a_reduced, k_reduced, b_reduced⟩
  have C_round_table : Callee P w K mg base "round_table" 2 ["web", "order"] (spRoundTable K C) := ⟨f_round_table, _, ok_round_table B W C_met F_round_table, PySem.W.mg_of X G a_round_table, k_round_table, b_round_table⟩
  have C_applied : Callee P w K mg base "applied" 2 ["table", "counts", "modulus"] (spApplied K) := ⟨f_applied, _, ok_applied B C_reduced F_applied, PySem.W.mg_of X G a_applied, k_applied, b_applied⟩
  have C_doubled : Callee P w K mg base "doubled" 2 ["table", "modulus"] (spDoubled K) := ⟨f_doubled, _, ok_doubled B C_reduced F_doubled, PySem.W.mg_of X G a_doubled, k_doubled, b_doubled⟩
  have C_check_ties : Callee P w K mg base "check_ties" 5 ["houses", "ties"] (spCheckTies K) := ⟨f_check_ties, _, ok_check_ties B C_is_within C_is_sequence C_is_pair F_check_ties, PySem.W.mg_of X G a_check_ties, k_check_ties, b_check_ties⟩
  have C_check_meetings : Callee P w K mg base "check_meetings" 4 ["web", "value"] (spCheckMeetings K C) := ⟨f_check_meetings, _, ok_check_meetings B W C_is_sequence C_is_below F_check_meetings, PySem.W.mg_of X G a_check_meetings, k_check_meetings, b_check_meetings⟩
  have C_Web : MakeC P w K mg base "Web" C 6 ["self", "houses", "ties"] (spWebInit K C) := ⟨f_Web_init, _, ⟨Wb.mks, a_Web_init, i_Web_init, Wb.kc⟩, ok_Web_init B W C_check_ties F_Web_init, PySem.W.mg_of X G Wb.aC, b_Web_init⟩
  have C_round_counts_kw4 : KwCal P w K mg base "round_counts" 5 ["web", "house", "order", "rounds", "modulus"] 4 ["modulus"] (fun us zs => us ++ zs) (spRoundCounts K C) := ⟨f_round_counts, _, fun us ws => us ++ ws, ok_round_counts B W C_need_house C_check_meetings C_is_number C_begun C_reduced C_round_table C_applied C_doubled C_split F_round_counts, PySem.W.mg_of X G a_round_counts, k_round_counts, ⟨fun s us ws _ h1 h2 => match us, h1, ws, h2 with | [_, _, _, _], _, [_], _ => .of_eq rfl, fun r1 r2 => r1.append r2⟩⟩
  have C_round_counts_kw0 : KwCal P w K mg base "round_counts" 5 ["web", "house", "order", "rounds", "modulus"] 0 ["modulus", "rounds", "order", "house", "web"] (fun us zs => us ++ zs.reverse) (spRoundCounts K C) := ⟨f_round_counts, _, fun us ws => us ++ ws.reverse, ok_round_counts B W C_need_house C_check_meetings C_is_number C_begun C_reduced C_round_table C_applied C_doubled C_split F_round_counts, PySem.W.mg_of X G a_round_counts, k_round_counts, ⟨fun s us ws _ h1 h2 => match us, h1, ws, h2 with | [], _, [_, _, _, _, _], _ => .of_eq rfl, fun r1 r2 => r1.append (vals_rev r2)⟩⟩
  have C_rings_met : Callee P w K mg base "rings_met" 2 ["web", "house", "order"] (spRings K C) := ⟨f_rings_met, _, ok_rings_met B W F_rings_met, PySem.W.mg_of X G a_rings_met, k_rings_met, b_rings_met⟩
  have C_pace_of : Callee P w K mg base "pace_of" 5 ["web", "house", "order"] (spPace K C) := ⟨f_pace_of, _, ok_pace_of B W C_need_house C_check_meetings C_rings_met F_pace_of, PySem.W.mg_of X G a_pace_of, k_pace_of, b_pace_of⟩
  have C_law_take : Callee P w K mg base "_law_take" 1 ["box", "many"] spTake := ⟨f_law_take, _, ok_law_take B  F_law_take, PySem.W.mg_of X G a_law_take, k_law_take, b_law_take⟩
  have C_law_pick : Callee P w K mg base "_law_pick" 2 ["box", "some"] spPick := ⟨f_law_pick, _, ok_law_pick B C_law_take F_law_pick, PySem.W.mg_of X G a_law_pick, k_law_pick, b_law_pick⟩
  have C_law_box : Callee P w K mg base "_law_box" 1 ["script", "k"] (spBox K) := ⟨f_law_box, _, ok_law_box B  F_law_box, PySem.W.mg_of X G a_law_box, k_law_box, b_law_box⟩
  have C_law_mixed : Callee P w K mg base "_law_mixed" 2 ["box", "some"] (spMixed K) := ⟨f_law_mixed, _, ok_law_mixed B C_law_take F_law_mixed, PySem.W.mg_of X G a_law_mixed, k_law_mixed, b_law_mixed⟩
  have C_law_web : Callee P w K mg base "_law_web" 3 ["box"] (spWeb K) := ⟨f_law_web, _, ok_law_web B C_law_take C_law_pick C_law_mixed F_law_web, PySem.W.mg_of X G a_law_web, k_law_web, b_law_web⟩
  have C_law_met : Callee P w K mg base "_law_met" 1 ["web", "counts", "meetings", "modulus"] (spLawMet K) := ⟨f_law_met, _, ok_law_met B  F_law_met, PySem.W.mg_of X G a_law_met, k_law_met, b_law_met⟩
  have C_law_led : Callee P w K mg base "_law_led" 1 ["table", "counts", "modulus"] (spLawLed K) := ⟨f_law_led, _, ok_law_led B  F_law_led, PySem.W.mg_of X G a_law_led, k_law_led, b_law_led⟩
  have C_law_split : Callee P w K mg base "_law_split" 1 ["web", "counts"] (spLawSplit K) := ⟨f_law_split, _, ok_law_split B  F_law_split, PySem.W.mg_of X G a_law_split, k_law_split, b_law_split⟩
  have C_law_table : Callee P w K mg base "_law_table" 2 ["web", "order", "modulus"] (spLawTable K) := ⟨f_law_table, _, ok_law_table B C_law_met F_law_table, PySem.W.mg_of X G a_law_table, k_law_table, b_law_table⟩
  have C_law_far : Callee P w K mg base "_law_far" 3 ["web", "house", "order", "rounds", "modulus"] (spLawFar K) := ⟨f_law_far, _, ok_law_far B C_law_table C_law_led F_law_far, PySem.W.mg_of X G a_law_far, k_law_far, b_law_far⟩
  have C_law_rings : Callee P w K mg base "_law_rings" 1 ["web", "house", "order"] (spLawRings K) := ⟨f_law_rings, _, ok_law_rings B  F_law_rings, PySem.W.mg_of X G a_law_rings, k_law_rings, b_law_rings⟩
  have C_s0 : Callee P w K mg base "_law_same" 0 ["told", "due"] (fun _ _ _ _ => False) := ⟨f_law_same, PySem.W.fnOf "_law_same" "_law_same" (defArgs s_law_same) (defBody s_law_same) (defScope s_law_same) .none kV_law_same dc_law_same pm_law_same an_law_same cd_law_same ct_law_same, ⟨fun _ _ _ _ h => h.elim, fun _ _ _ _ _ _ _ _ _ _ _ _ _ h => h.elim⟩, PySem.W.mg_of X G a_law_same, k_law_same, b_law_same⟩
  have C_s1 : Callee P w K mg base "_law_same" 1 ["told", "due"] (spSameI K) := ⟨f_law_same, _, ok_law_same0 B C_s0 F_law_same, PySem.W.mg_of X G a_law_same, k_law_same, b_law_same⟩
  have C_s2 : Callee P w K mg base "_law_same" 2 ["told", "due"] (spSameT K pI) := ⟨f_law_same, _, ok_law_sameT (fun x vs H Q E q => ⟨x, q⟩) B C_s1 F_law_same, PySem.W.mg_of X G a_law_same, k_law_same, b_law_same⟩
  have C_law_same : Callee P w K mg base "_law_same" 3 ["told", "due"] (spSameT K (pTn pI)) := ⟨f_law_same, _, ok_law_sameT (fun x vs H Q E q => ⟨x, q⟩) B C_s2 F_law_same, PySem.W.mg_of X G a_law_same, k_law_same, b_law_same⟩
  have C_law_right : Callee P w K mg base "_law_right" 8 ["box", "web", "house", "order", "is_far"] (spLawRight K) := ⟨f_law_right, _, ok_law_right B W C_Web C_law_take C_law_pick C_law_far C_law_same C_law_split C_law_met C_law_rings C_pace_of C_round_counts_kw4 C_round_counts_kw0 F_law_right, PySem.W.mg_of X G a_law_right, k_law_right, b_law_right⟩
  exact ok_law B C_law_box C_law_web C_law_take C_law_mixed C_law_right F_law
end K62

set_option Elab.async false
set_option linter.all false
set_option maxRecDepth 100000
set_option maxHeartbeats 4000000
namespace K62
open PySem L2 Evl Ly
theorem const_of {lv : List (Str × PySem.W.WData)} {q : Program} {mg : Str → Option Value} {h : Heap} {x : Str} {n : Int} (X : PySem.W.XL q lv mg h) (hm : (x, PySem.W.WData.int n) ∈ lv) : Const mg x (.int n) := by
  obtain ⟨v, a, b⟩ := X.2.val _ hm
  cases b with
  | int i t => exact ⟨_, a, ⟨t, rfl⟩⟩
theorem defIn {K : PySem.W.Frag} {x : Str} {st : Stmt} {f : Addr} {oc kV dc pm cd ct : Value} {od an : Option Addr} {sl : Array (Option Value)} (a : PySem.W.nsIn K mainGlobals x = some (some (.ref f)))
    (l : K.lookup f = some ⟨oc, od, .func (PySem.W.fnOf x x (defArgs st) (defBody st) (defScope st) .none kV dc pm an cd ct), sl⟩) (c : PySem.W.codeIn K cd x = true) (k : PySem.W.keepIn K (.ref f) = true) : DefIn K x st := ⟨f, oc, kV, dc, pm, cd, ct, od, an, sl, a, l, c, k⟩
theorem initIn {K : PySem.W.Frag} {C : Addr} {qual : Str} {st : Stmt} {f : Addr} {oc kV dc pm cd ct : Value} {od an : Option Addr} {sl : Array (Option Value)} (a : PySem.W.findIn K (.ref C) "__init__" = some (some (.ref f))) (i : PySem.W.isFn K (.ref f) = true)
    (l : K.lookup f = some ⟨oc, od, .func (PySem.W.fnOf "__init__" qual (defArgs st) (defBody st) (defScope st) .none kV dc pm an cd ct), sl⟩) (c : PySem.W.codeIn K cd qual = true) (k : PySem.W.keepIn K (.ref f) = true) : InitIn K C qual st := ⟨f, oc, kV, dc, pm, cd, ct, od, an, sl, a, i, l, c, k⟩
theorem intIn {K : PySem.W.Frag} {x : Str} {n : Int} {t : Tok} (a : PySem.W.nsIn K mainGlobals x = some (some (.int n t))) : ∃ t, PySem.W.nsIn K mainGlobals x = some (some (.int n t)) := ⟨t, a⟩
theorem walk {l : PySem.W.OpenLaw} {q : Program} {loose : List Str} {lv : List (Str × PySem.W.WData)} {YP : World → Heap → Prop} {d : DefRec} {K : Params → PySem.W.Frag} (hn : l.most = some 63) (hdf : d.params.defaults = [])
    (hY : ∀ (w : World) (h : Heap), YP w h → (K w.params).In h)
    (F : ∀ (w : World) (mg : Str → Option Value) (fa : Addr) (h : Heap), (K w.params).In h → h.Ns mainGlobals mg → mg d.name = some (.ref fa) → PySem.W.XL q lv mg h →
      ∃ fd : FuncData, (∀ (s : Shared) (u : Value), BindsTo s fd ⟨[u], []⟩ [("script", u)]) ∧ ∀ base : Heap, (K w.params).In base → base.Ns mainGlobals mg → FnOk l.prog w (K w.params) mg base CX0 9 fa fd ["script"] (spLaw (K w.params))) :
    PySem.W.WalkO q loose (PySem.W.XL q lv) YP l.row.toRowW d [] (fun f vs => PySem.call f vs) := by
  refine Att.attach_call hn hdf fun w s₀ s₁ mg mb fa o pm cd doc a vs ns G Y ho hd hcd hmg hobj hints hlen hg => ?_
  have KX := hY w _ Y
  obtain ⟨fd, hb, hF⟩ := F w mg fa _ KX G.T.g hmg G.X
  exact law_call KX G.T.g G.T.b G.T.builtins G.T.nolimit hg hobj hints (Nat.le_trans hlen (by decide)) ⟨rfl, by decide, by decide⟩ hF hb (fun H _ hS => ⟨_, ns, rfl, ⟨_, _, rfl, hS, int_each ns⟩, fun _ => rfl⟩) fun _ _ _ z => z
end K62
open PySem PySem.W PyProof.Rows
set_option maxRecDepth 100000 in
set_option maxHeartbeats 0 in
theorem PySem.Challenge.cw_houseslessties_k62_whole_far_rounds_of_m_holds : PySem.Challenge.rw_houseslessties_k62_whole_far_rounds_of_m.Holds := by
  w_on; o_law; k_head; (case hw => w_witness2)
  k_fill
  refine K62.walk (l := PySem.Challenge.rw_houseslessties_k62_whole_far_rounds_of_m) rfl rfl (fun w h Y => PySem.W.kIn_of Y) ?F
  case F =>
    intro w mg fa h KX G hmg XX
    refine' K62.all_mk KX G hmg ?Wb ?wi ?d_is_integer ?d_is_number ?d_is_below ?d_is_within ?d_is_sequence ?d_is_pair ?d_need_house ?d_met ?d_begun ?d_split ?d_reduced ?d_round_table ?d_applied ?d_doubled ?d_check_ties ?d_check_meetings ?d_round_counts ?d_rings_met ?d_pace_of ?d_law_take ?d_law_pick ?d_law_box ?d_law_mixed ?d_law_web ?d_law_met ?d_law_led ?d_law_split ?d_law_table ?d_law_far ?d_law_rings ?d_law_right ?d_law ?d_law_same ?z_abs ?z_all ?z_bool ?z_enumerate ?z_int ?z_isinstance ?z_len ?z_list ?z_max ?z_min ?z_range ?z_set ?z_sorted ?z_str ?z_sum ?z_tuple ?z_zip ?c_MOST_HOUSES ?c_MOST_ROUNDS ?c_MOST_ROW ?c_MOST_TIES (K62.const_of XX ?m1) (K62.const_of XX ?m2)
    case Wb =>
      refine' ⟨?aC, ?pg, ?hd, ?po, ?sa, ?mk, ?kc, ?nT, ?nH⟩
      (case aC => k_is)
      (case pg => k_is)
      (case hd => k_is)
      (case po => k_is)
      (case sa => k_is)
      (case mk => k_is)
      (case kc => k_is)
      (case nT => k_is)
      (case nH => k_is)
    case wi =>
      refine' K62.initIn ?a ?i ?l ?c ?k
      (case a => k_is)
      (case i => k_is)
      (case l => k_is)
      (case c => k_is)
      (case k => k_is)
    case d_is_integer =>
      refine' K62.defIn ?a ?l ?c ?k
      (case a => k_is); (case l => k_is); (case c => k_is); (case k => k_is)
    case d_is_number =>
      refine' K62.defIn ?a ?l ?c ?k
      (case a => k_is); (case l => k_is); (case c => k_is); (case k => k_is)
    case d_is_below =>
      refine' K62.defIn ?a ?l ?c ?k
      (case a => k_is); (case l => k_is); (case c => k_is); (case k => k_is)
    case d_is_within =>
      refine' K62.defIn ?a ?l ?c ?k
      (case a => k_is); (case l => k_is); (case c => k_is); (case k => k_is)
    case d_is_sequence =>
      refine' K62.defIn ?a ?l ?c ?k
      (case a => k_is); (case l => k_is); (case c => k_is); (case k => k_is)
    case d_is_pair =>
      refine' K62.defIn ?a ?l ?c ?k
      (case a => k_is); (case l => k_is); (case c => k_is); (case k => k_is)
    case d_need_house =>
      refine' K62.defIn ?a ?l ?c ?k
      (case a => k_is); (case l => k_is); (case c => k_is); (case k => k_is)
    case d_met =>
      refine' K62.defIn ?a ?l ?c ?k
      (case a => k_is); (case l => k_is); (case c => k_is); (case k => k_is)
    case d_begun =>
      refine' K62.defIn ?a ?l ?c ?k
      (case a => k_is); (case l => k_is); (case c => k_is); (case k => k_is)
    case d_split =>
      refine' K62.defIn ?a ?l ?c ?k
      (case a => k_is); (case l => k_is); (case c => k_is); (case k => k_is)
    case d_reduced =>
      refine' K62.defIn ?a ?l ?c ?k
      (case a => k_is); (case l => k_is); (case c => k_is); (case k => k_is)
    case d_round_table =>
      refine' K62.defIn ?a ?l ?c ?k
      (case a => k_is); (case l => k_is); (case c => k_is); (case k => k_is)
    case d_applied =>
      refine' K62.defIn ?a ?l ?c ?k
      (case a => k_is); (case l => k_is); (case c => k_is); (case k => k_is)
    case d_doubled =>
      refine' K62.defIn ?a ?l ?c ?k
      (case a => k_is); (case l => k_is); (case c => k_is); (case k => k_is)
    case d_check_ties =>
      refine' K62.defIn ?a ?l ?c ?k
      (case a => k_is); (case l => k_is); (case c => k_is); (case k => k_is)
    case d_check_meetings =>
      refine' K62.defIn ?a ?l ?c ?k
      (case a => k_is); (case l => k_is); (case c => k_is); (case k => k_is)
    case d_round_counts =>
      refine' K62.defIn ?a ?l ?c ?k
      (case a => k_is); (case l => k_is); (case c => k_is); (case k => k_is)
    case d_rings_met =>
      refine' K62.defIn ?a ?l ?c ?k
      (case a => k_is); (case l => k_is); (case c => k_is); (case k => k_is)
    case d_pace_of =>
      refine' K62.defIn ?a ?l ?c ?k
      (case a => k_is); (case l => k_is); (case c => k_is); (case k => k_is)
    case d_law_take =>
      refine' K62.defIn ?a ?l ?c ?k
      (case a => k_is); (case l => k_is); (case c => k_is); (case k => k_is)
    case d_law_pick =>
      refine' K62.defIn ?a ?l ?c ?k
      (case a => k_is); (case l => k_is); (case c => k_is); (case k => k_is)
    case d_law_box =>
      refine' K62.defIn ?a ?l ?c ?k
      (case a => k_is); (case l => k_is); (case c => k_is); (case k => k_is)
    case d_law_mixed =>
      refine' K62.defIn ?a ?l ?c ?k
      (case a => k_is); (case l => k_is); (case c => k_is); (case k => k_is)
    case d_law_web =>
      refine' K62.defIn ?a ?l ?c ?k
      (case a => k_is); (case l => k_is); (case c => k_is); (case k => k_is)
    case d_law_met =>
      refine' K62.defIn ?a ?l ?c ?k
      (case a => k_is); (case l => k_is); (case c => k_is); (case k => k_is)
    case d_law_led =>
      refine' K62.defIn ?a ?l ?c ?k
      (case a => k_is); (case l => k_is); (case c => k_is); (case k => k_is)
    case d_law_split =>
      refine' K62.defIn ?a ?l ?c ?k
      (case a => k_is); (case l => k_is); (case c => k_is); (case k => k_is)
    case d_law_table =>
      refine' K62.defIn ?a ?l ?c ?k
      (case a => k_is); (case l => k_is); (case c => k_is); (case k => k_is)
    case d_law_far =>
      refine' K62.defIn ?a ?l ?c ?k
      (case a => k_is); (case l => k_is); (case c => k_is); (case k => k_is)
    case d_law_rings =>
      refine' K62.defIn ?a ?l ?c ?k
      (case a => k_is); (case l => k_is); (case c => k_is); (case k => k_is)
    case d_law_right =>
      refine' K62.defIn ?a ?l ?c ?k
      (case a => k_is); (case l => k_is); (case c => k_is); (case k => k_is)
    case d_law =>
      refine' K62.defIn ?a ?l ?c ?k
      (case a => k_is); (case l => k_is); (case c => k_is); (case k => k_is)
    case d_law_same =>
      refine' K62.defIn ?a ?l ?c ?k
      (case a => k_is); (case l => k_is); (case c => k_is); (case k => k_is)
    (case z_abs => k_is)
    (case z_all => k_is)
    (case z_bool => k_is)
    (case z_enumerate => k_is)
    (case z_int => k_is)
    (case z_isinstance => k_is)
    (case z_len => k_is)
    (case z_list => k_is)
    (case z_max => k_is)
    (case z_min => k_is)
    (case z_range => k_is)
    (case z_set => k_is)
    (case z_sorted => k_is)
    (case z_str => k_is)
    (case z_sum => k_is)
    (case z_tuple => k_is)
    (case z_zip => k_is)
    case c_MOST_HOUSES =>
      refine' K62.intIn ?a
      (case a => k_is)
    case c_MOST_ROUNDS =>
      refine' K62.intIn ?a
      (case a => k_is)
    case c_MOST_ROW =>
      refine' K62.intIn ?a
      (case a => k_is)
    case c_MOST_TIES =>
      refine' K62.intIn ?a
      (case a => k_is)
    (case m1 => exact .head _)
    (case m2 => exact .tail _ (.head _))
