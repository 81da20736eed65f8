import PyProof.Rows.All
import Uw60Spec
import PyUw60
import Wide.All
import OpenK.AllK
import Wide.FinOn
import PyProof.EqAt
import PyProof.EqKinds
import PyProof.TupleCall
import Open.SpecLaws
import KE.OsGo
import HandS.ForSpec
import HandS.Comp
import HandS.Dict
import HandS.WordsDict
import HandS.Iter
import HandS.Conv
import HandS.Rev
import HandS.TupMul
import HandS.SortKw
import HandS.Flow
import KE.SortKeyHeap
import PySem.Challenge.RW_namedinturn_s01_answers
import KE.KDictDisplayH
set_option Elab.async false
set_option autoImplicit false
set_option maxRecDepth 100000
set_option maxHeartbeats 4000000
/-! The mathematics, first part: which numbers are made, which are left. -/
namespace NT

/-- what is made, a number being named, too -/
def W (f : Nat → Bool) (g : Nat) (v : Nat) : Bool :=
  f v || (if _h : 1 ≤ g ∧ g ≤ v then W f g (v - g) else false)
termination_by v
decreasing_by omega

theorem W_eq (f : Nat → Bool) (g v : Nat) : W f g v = (f v || (if 1 ≤ g ∧ g ≤ v then W f g (v - g) else false)) := by
  rw [W]
  by_cases h : 1 ≤ g ∧ g ≤ v
  · rw [dif_pos h, if_pos h]
  · rw [dif_neg h, if_neg h]
theorem W_low {f : Nat → Bool} {g v : Nat} (h : v < g) : W f g v = f v := by
  rw [W_eq, if_neg (by omega), Bool.or_false]
theorem W_of {f : Nat → Bool} {g v : Nat} (h : f v = true) : W f g v = true := by
  rw [W_eq, h, Bool.true_or]
theorem W_up {f : Nat → Bool} {g v : Nat} (hg : 1 ≤ g) (hv : g ≤ v) : W f g v = (f v || W f g (v - g)) := by
  rw [W_eq, if_pos ⟨hg, hv⟩]
theorem W_iff {f : Nat → Bool} {g : Nat} (hg : 1 ≤ g) : ∀ v, W f g v = true ↔ ∃ k, k * g ≤ v ∧ f (v - k * g) = true := by
  intro v
  induction v using Nat.strongRecOn with
  | _ v ih =>
    by_cases hv : g ≤ v
    · rw [W_up hg hv, Bool.or_eq_true, ih (v - g) (by omega)]
      constructor
      · rintro (h | ⟨k, h1, h2⟩)
        · exact ⟨0, by omega, by simpa using h⟩
        · refine ⟨k + 1, by rw [Nat.add_mul]; omega, ?_⟩
          rw [Nat.add_mul, Nat.one_mul, Nat.add_comm, Nat.sub_add_eq]
          exact h2
      · rintro ⟨k, h1, h2⟩
        cases k with
        | zero => left; simpa using h2
        | succ k =>
          right
          rw [Nat.add_mul, Nat.one_mul] at h1 h2
          refine ⟨k, by omega, ?_⟩
          rw [Nat.add_comm, Nat.sub_add_eq] at h2
          exact h2
    · rw [W_low (by omega)]
      constructor
      · intro h
        exact ⟨0, by omega, by simpa using h⟩
      · rintro ⟨k, h1, h2⟩
        cases k with
        | zero => simpa using h2
        | succ k =>
          rw [Nat.add_mul, Nat.one_mul] at h1
          omega

/-- the first numbers' flags -/
def tab (f : Nat → Bool) (n : Nat) : List Bool := (List.range n).map f
theorem tab_len (f : Nat → Bool) (n : Nat) : (tab f n).length = n := by simp [tab]
theorem tab_get {f : Nat → Bool} {n v : Nat} (h : v < n) : (tab f n)[v]? = some (f v) := by simp [tab, h]
theorem tab_getD {f : Nat → Bool} {n v : Nat} (h : v < n) : (tab f n).getD v false = f v := by
  rw [List.getD_eq_getElem?_getD, tab_get h]
  rfl
theorem tab_ext {f g : Nat → Bool} {n : Nat} (h : ∀ v, v < n → f v = g v) : tab f n = tab g n := by
  unfold tab
  exact List.map_congr_left fun v hv => h v (List.mem_range.mp hv)
theorem tab_of (m : List Bool) : tab (fun v => m.getD v false) m.length = m := by
  apply List.ext_getElem?
  intro i
  by_cases h : i < m.length
  · rw [tab_get h, List.getD_eq_getElem?_getD, List.getElem?_eq_getElem h]
    rfl
  · rw [List.getElem?_eq_none (by rw [tab_len]; omega), List.getElem?_eq_none (by omega)]
theorem tab_set {f : Nat → Bool} {n v : Nat} {b : Bool} : (tab f n).set v b = tab (fun u => if u = v then b else f u) n := by
  apply List.ext_getElem?
  intro i
  rw [List.getElem?_set]
  by_cases h : i < n
  · by_cases e : v = i
    · subst e
      rw [if_pos rfl, if_pos (by rw [tab_len]; exact h), tab_get h, if_pos rfl]
    · rw [if_neg e, tab_get h, tab_get h, if_neg (fun q => e q.symm)]
  · rw [List.getElem?_eq_none (l := tab _ n) (by rw [tab_len]; omega), List.getElem?_eq_none (l := tab _ n) (by rw [tab_len]; omega)]
    by_cases e : v = i
    · subst e
      rw [if_pos rfl, if_neg (by rw [tab_len]; omega)]
    · rw [if_neg e]

/-- the flags, a number being named, too -/
def wn (m : List Bool) (g : Nat) : List Bool := tab (W (fun v => m.getD v false) g) m.length
theorem wn_len (m : List Bool) (g : Nat) : (wn m g).length = m.length := tab_len _ _
theorem wn_tab {f : Nat → Bool} {n g : Nat} : wn (tab f n) g = tab (W f g) n := by
  unfold wn
  rw [tab_len]
  refine tab_ext fun v => ?_
  induction v using Nat.strongRecOn with
  | _ v ih =>
    intro hv
    rw [W_eq, W_eq f, tab_getD hv]
    by_cases h : 1 ≤ g ∧ g ≤ v
    · rw [if_pos h, if_pos h, ih (v - g) (by omega) (by omega)]
    · rw [if_neg h, if_neg h]
/-- in the middle of the loop -/
def part (m : List Bool) (g i : Nat) : List Bool := tab (fun v => if v < g + i then W (fun v => m.getD v false) g v else m.getD v false) m.length
theorem part_len (m : List Bool) (g i : Nat) : (part m g i).length = m.length := tab_len _ _
theorem part_zero (m : List Bool) (g : Nat) : part m g 0 = m := by
  unfold part
  refine Eq.trans (tab_ext fun v _ => ?_) (tab_of m)
  by_cases h : v < g + 0
  · rw [if_pos h, W_low (by omega)]
  · rw [if_neg h]
theorem part_end (m : List Bool) (g : Nat) : part m g (m.length - g) = wn m g := by
  unfold part wn
  refine tab_ext fun v hv => ?_
  by_cases h : v < g + (m.length - g)
  · rw [if_pos h]
  · omega
theorem part_get {m : List Bool} {g i : Nat} (hg : 1 ≤ g) (h : g + i < m.length) : (part m g i)[i]? = some (W (fun v => m.getD v false) g i) := by
  unfold part
  rw [tab_get (by omega), if_pos (by omega)]
theorem part_yes {m : List Bool} {g i : Nat} (hg : 1 ≤ g) (h : W (fun v => m.getD v false) g i = true) : (part m g i).set (g + i) true = part m g (i + 1) := by
  unfold part
  rw [tab_set]
  refine tab_ext fun v _ => ?_
  by_cases e : v = g + i
  · subst e
    rw [if_pos rfl, if_pos (by omega), W_up hg (by omega), Nat.add_sub_cancel_left, h, Bool.or_true]
  · rw [if_neg e]
    by_cases q : v < g + i
    · rw [if_pos q, if_pos (by omega)]
    · rw [if_neg q, if_neg (by omega)]
theorem part_no {m : List Bool} {g i : Nat} (hg : 1 ≤ g) (h : W (fun v => m.getD v false) g i = false) : part m g i = part m g (i + 1) := by
  unfold part
  refine tab_ext fun v _ => ?_
  by_cases e : v = g + i
  · subst e
    rw [if_neg (by omega), if_pos (by omega), W_up hg (by omega), Nat.add_sub_cancel_left, h, Bool.or_false]
  · by_cases q : v < g + i
    · rw [if_pos q, if_pos (by omega)]
    · rw [if_neg q, if_neg (by omega)]

/-- what is made by those named -/
def F (l : List Nat) : Nat → Bool := l.foldl W (fun v => v == 0)
theorem F_nil : F [] = fun v => v == 0 := rfl
theorem F_snoc (l : List Nat) (g : Nat) : F (l ++ [g]) = W (F l) g := by
  unfold F
  rw [List.foldl_append]
  rfl
def flags (l : List Nat) (n : Nat) : List Bool := tab (F l) (n + 1)
theorem flags_nil (n : Nat) : flags [] n = true :: List.replicate n false := by
  apply List.ext_getElem?
  intro i
  cases i with
  | zero => simp [flags, tab, F_nil]
  | succ i =>
    by_cases h : i < n
    · rw [flags, tab_get (by omega), List.getElem?_cons_succ, List.getElem?_replicate, if_pos h]
      rfl
    · rw [List.getElem?_eq_none (by rw [flags, tab_len]; omega), List.getElem?_eq_none (by simp; omega)]
theorem flags_snoc (l : List Nat) (g n : Nat) : flags (l ++ [g]) n = wn (flags l n) g := by
  unfold flags
  rw [wn_tab, F_snoc]
theorem flags_len (l : List Nat) (n : Nat) : (flags l n).length = n + 1 := tab_len _ _

/-! ### the specification's table -/
theorem tableDown_len (l : List Nat) : ∀ n, (Uw60.tableDown l n).length = n + 1
  | 0 => rfl
  | n + 1 => by
    show (_ :: Uw60.tableDown l n).length = _
    rw [List.length_cons, tableDown_len l n]
/-- the specification's own word for 'made' -/
def T (l : List Nat) (v : Nat) : Bool := (Uw60.tableDown l v).getD 0 false
theorem tableDown_get (l : List Nat) : ∀ n k, k ≤ n → (Uw60.tableDown l n)[k]? = some (T l (n - k))
  | 0, k, h => by
    have e : k = 0 := by omega
    subst e
    rfl
  | n + 1, 0, _ => by
    show some _ = some _
    rfl
  | n + 1, k + 1, h => by
    show (Uw60.tableDown l n)[k]? = _
    rw [tableDown_get l n k (by omega)]
    congr 2
    omega
theorem T_zero (l : List Nat) : T l 0 = true := rfl
theorem T_succ (l : List Nat) (n : Nat) : T l (n + 1) = l.any fun a => decide (1 ≤ a ∧ a ≤ n + 1) && T l (n + 1 - a) := by
  show (l.any fun a => decide (1 ≤ a ∧ a ≤ n + 1) && (Uw60.tableDown l n).getD (a - 1) false) = _
  congr 1
  funext a
  by_cases h : 1 ≤ a ∧ a ≤ n + 1
  · rw [decide_eq_true h, Bool.true_and, Bool.true_and, List.getD_eq_getElem?_getD, tableDown_get l n (a - 1) (by omega)]
    show T l _ = T l _
    congr 1
    omega
  · rw [decide_eq_false h, Bool.false_and, Bool.false_and]
theorem T_iff {l : List Nat} {v : Nat} (h : 0 < v) : T l v = true ↔ ∃ a, a ∈ l ∧ 1 ≤ a ∧ a ≤ v ∧ T l (v - a) = true := by
  obtain ⟨n, rfl⟩ : ∃ n, v = n + 1 := ⟨v - 1, by omega⟩
  rw [T_succ, List.any_eq_true]
  constructor
  · rintro ⟨a, m, e⟩
    rw [Bool.and_eq_true, decide_eq_true_eq] at e
    exact ⟨a, m, e.1.1, e.1.2, e.2⟩
  · rintro ⟨a, m, e1, e2, e3⟩
    exact ⟨a, m, by rw [Bool.and_eq_true, decide_eq_true_eq]; exact ⟨⟨e1, e2⟩, e3⟩⟩
theorem T_mono {l r : List Nat} : ∀ v, T l v = true → T (l ++ r) v = true := by
  intro v
  induction v using Nat.strongRecOn with
  | _ v ih =>
    intro h
    by_cases hv : 0 < v
    · obtain ⟨a, m, h1, h2, h3⟩ := (T_iff hv).mp h
      exact (T_iff hv).mpr ⟨a, List.mem_append_left _ m, h1, h2, ih _ (by omega) h3⟩
    · have e : v = 0 := by omega
      subst e
      rfl
theorem T_times {l : List Nat} {g : Nat} (hg : 1 ≤ g) (hm : g ∈ l) : ∀ k v, T l v = true → T l (v + k * g) = true
  | 0, v, h => by simpa using h
  | k + 1, v, h => by
    rw [T_iff (by rw [Nat.add_mul]; omega)]
    refine ⟨g, hm, hg, by rw [Nat.add_mul]; omega, ?_⟩
    have := T_times hg hm k v h
    rw [Nat.add_mul, Nat.one_mul, ← Nat.add_assoc, Nat.add_sub_cancel]
    exact this
theorem T_snoc {l : List Nat} {g : Nat} (hg : 1 ≤ g) : ∀ v, T (l ++ [g]) v = W (T l) g v := by
  intro v
  rw [Bool.eq_iff_iff, W_iff hg]
  constructor
  · induction v using Nat.strongRecOn with
    | _ v ih =>
      intro h
      by_cases hv : 0 < v
      · obtain ⟨a, m, h1, h2, h3⟩ := (T_iff hv).mp h
        obtain ⟨k, k1, k2⟩ := ih (v - a) (by omega) h3
        rcases List.mem_append.mp m with q | q
        · refine ⟨k, by omega, ?_⟩
          rw [T_iff (by omega)]
          refine ⟨a, q, h1, by omega, ?_⟩
          rw [show v - k * g - a = v - a - k * g by omega]
          exact k2
        · have e : a = g := by simpa using q
          subst e
          refine ⟨k + 1, by rw [Nat.add_mul]; omega, ?_⟩
          rw [show v - (k + 1) * a = v - a - k * a by rw [Nat.add_mul]; omega]
          exact k2
      · have e : v = 0 := by omega
        subst e
        exact ⟨0, by omega, by rw [Nat.zero_sub]; exact T_zero l⟩
  · rintro ⟨k, k1, k2⟩
    have := T_times (l := l ++ [g]) hg (by simp) k (v - k * g) (T_mono _ k2)
    rw [Nat.sub_add_cancel k1] at this
    exact this
theorem T_nil (v : Nat) : T [] v = (v == 0) := by
  cases v with
  | zero => rfl
  | succ n => rw [T_succ]; rfl
theorem list_snoc_ind {α : Type} {P : List α → Prop} (h0 : P []) (hs : ∀ l a, P l → P (l ++ [a])) : ∀ l, P l := by
  intro l
  have : P l.reverse.reverse := by
    induction l.reverse with
    | nil => exact h0
    | cons a r ih => rw [List.reverse_cons]; exact hs _ _ ih
  rwa [List.reverse_reverse] at this
theorem T_F : ∀ l : List Nat, (∀ a ∈ l, 1 ≤ a) → T l = F l := by
  intro l
  induction l using list_snoc_ind with
  | h0 =>
    intro _
    funext v
    rw [T_nil, F_nil]
  | hs l a ih =>
    intro h
    have ih' := ih fun b hb => h b (List.mem_append_left _ hb)
    funext v
    rw [T_snoc (h a (by simp)), ih', F_snoc]
theorem table_tab (l : List Nat) (n : Nat) : Uw60.table l n = tab (T l) (n + 1) := by
  apply List.ext_getElem?
  intro i
  unfold Uw60.table
  by_cases h : i < n + 1
  · rw [List.getElem?_reverse (by rw [tableDown_len]; exact h), tableDown_len, tableDown_get _ _ _ (by omega), tab_get h]
    congr 2
    omega
  · rw [List.getElem?_eq_none (by rw [List.length_reverse, tableDown_len]; omega), List.getElem?_eq_none (by rw [tab_len]; omega)]
theorem made_F {l : List Nat} (h : ∀ a ∈ l, 1 ≤ a) (n : Nat) : Uw60.made l n = F l n := by
  unfold Uw60.made
  rw [table_tab, tab_getD (by omega), T_F l h]

/-! ### what is left -/
def lf (m : List Bool) : List Nat := ((List.range (m.length - 2)).map (· + 2)).filter fun v => !m.getD v false
theorem lf_mem {m : List Bool} {v : Nat} : v ∈ lf m ↔ 2 ≤ v ∧ v < m.length ∧ m.getD v false = false := by
  unfold lf
  rw [List.mem_filter, List.mem_map]
  constructor
  · rintro ⟨⟨a, h1, h2⟩, h3⟩
    have := List.mem_range.mp h1
    exact ⟨by omega, by omega, by simpa using h3⟩
  · rintro ⟨h1, h2, h3⟩
    exact ⟨⟨v - 2, List.mem_range.mpr (by omega), by omega⟩, by rw [h3]; rfl⟩
theorem zipIdx_filter (p : Bool × Nat → Bool) : ∀ (m : List Bool) (k : Nat), ((m.zipIdx k).filter p).map (·.2) = (((List.range m.length).map (· + k)).filter fun v => p (m.getD (v - k) false, v))
  | [], _ => rfl
  | b :: m, k => by
    have ih := zipIdx_filter p m (k + 1)
    have e : (List.range (b :: m).length).map (· + k) = k :: (List.range m.length).map (· + (k + 1)) := by
      rw [List.length_cons, List.range_succ_eq_map, List.map_cons, List.map_map, Nat.zero_add]
      congr 1
      refine List.map_congr_left fun x _ => ?_
      show x + 1 + k = x + (k + 1)
      omega
    have e2 : (((List.range m.length).map (· + (k + 1))).filter fun v => p ((b :: m).getD (v - k) false, v)) = (((List.range m.length).map (· + (k + 1))).filter fun v => p (m.getD (v - (k + 1)) false, v)) := by
      refine List.filter_congr fun v hv => ?_
      obtain ⟨x, _, rfl⟩ := List.mem_map.mp hv
      rw [show x + (k + 1) - k = x + 1 by omega, show x + (k + 1) - (k + 1) = x by omega, List.getD_cons_succ]
    rw [e, List.zipIdx_cons, List.filter_cons, List.filter_cons, Nat.sub_self, List.getD_cons_zero, e2, ← ih]
    split
    · rw [List.map_cons]
    · rfl
theorem lf_zip (m : List Bool) (k : Nat) (hm : m.length = k + 2) : ((m.zipIdx).filter fun z => decide (2 ≤ z.2) && !z.1).map (fun z => z.2) = lf m := by
  have z := zipIdx_filter (fun z => decide (2 ≤ z.2) && !z.1) m 0
  refine z.trans ?_
  unfold lf
  rw [hm, Nat.add_sub_cancel]
  have e : (List.range (k + 2)).map (· + 0) = 0 :: 1 :: (List.range k).map (· + 2) := by
    rw [List.range_succ_eq_map, List.range_succ_eq_map]
    simp
  rw [e, List.filter_cons, if_neg (by simp), List.filter_cons, if_neg (by simp)]
  refine List.filter_congr fun v hv => ?_
  obtain ⟨x, _, rfl⟩ := List.mem_map.mp hv
  show (decide (2 ≤ x + 2) && !m.getD (x + 2 - 0) false) = _
  rw [decide_eq_true (by omega), Bool.true_and]
  rfl
theorem gaps_eq {l : List Nat} (h : ∀ a ∈ l, 1 ≤ a) : Uw60.gaps l = lf (flags l 1600) := by
  have e : Uw60.MOST * Uw60.MOST = 1600 := rfl
  unfold Uw60.gaps
  rw [table_tab, T_F l h, e]
  exact lf_zip _ 1599 (flags_len l 1600)
/-! ### the greatest common divisor -/
def gd (l : List Nat) : Nat := l.foldl Nat.gcd 0
theorem gd_common (l : List Nat) : Uw60.common l = gd l := rfl
theorem gcd_turn (a b : Nat) : Nat.gcd b (a % b) = Nat.gcd a b := by
  rw [Nat.gcd_comm b, ← Nat.gcd_rec, Nat.gcd_comm]
end NT
/-! The mathematics, second part: of how few. -/
namespace NT

/-- it's the least that holds, or none holds -/
def IsMin (P : Nat → Prop) : Option Nat → Prop
  | none => ∀ c, ¬ P c
  | some c => P c ∧ ∀ d, P d → c ≤ d
theorem IsMin.uniq {P : Nat → Prop} : ∀ {o u : Option Nat}, IsMin P o → IsMin P u → o = u
  | none, none, _, _ => rfl
  | none, some c, h, k => (h c k.1).elim
  | some c, none, h, k => (k c h.1).elim
  | some c, some d, h, k => by
    have := h.2 d k.1
    have := k.2 c h.1
    congr 1
    omega
theorem IsMin.congr {P Q : Nat → Prop} (e : ∀ c, P c ↔ Q c) : ∀ {o : Option Nat}, IsMin P o → IsMin Q o
  | none, h => fun c q => h c ((e c).mpr q)
  | some _, h => ⟨(e _).mp h.1, fun d q => h.2 d ((e d).mpr q)⟩
/-- the less of two -/
def omin : Option Nat → Option Nat → Option Nat
  | none, o => o
  | some a, none => some a
  | some a, some b => some (min a b)
theorem IsMin.or {P Q : Nat → Prop} : ∀ {o u : Option Nat}, IsMin P o → IsMin Q u → IsMin (fun c => P c ∨ Q c) (omin o u)
  | none, none, h, k => fun c q => q.elim (h c) (k c)
  | none, some _, h, k => ⟨.inr k.1, fun d q => q.elim (fun z => (h d z).elim) (k.2 d)⟩
  | some _, none, h, k => ⟨.inl h.1, fun d q => q.elim (h.2 d) (fun z => (k d z).elim)⟩
  | some a, some b, h, k => by
    show (P (min a b) ∨ Q (min a b)) ∧ ∀ d, P d ∨ Q d → min a b ≤ d
    refine ⟨?_, fun d q => q.elim (fun z => Nat.le_trans (Nat.min_le_left _ _) (h.2 d z)) fun z => Nat.le_trans (Nat.min_le_right _ _) (k.2 d z)⟩
    by_cases e : a ≤ b
    · rw [Nat.min_eq_left e]; exact .inl h.1
    · rw [Nat.min_eq_right (by omega)]; exact .inr k.1
theorem IsMin.up {P : Nat → Prop} : ∀ {o : Option Nat}, IsMin P o → IsMin (fun c => 1 ≤ c ∧ P (c - 1)) (o.map (· + 1))
  | none, h => fun c q => h _ q.2
  | some a, h => by
    show (1 ≤ a + 1 ∧ P (a + 1 - 1)) ∧ ∀ d, (1 ≤ d ∧ P (d - 1)) → a + 1 ≤ d
    exact ⟨⟨by omega, by simpa using h.1⟩, fun d q => by have := h.2 _ q.2; have := q.1; omega⟩
theorem IsMin.no {P : Nat → Prop} (h : ∀ c, ¬ P c) : IsMin P none := h

/-- v is a sum of c of them -/
def Rp : List Nat → Nat → Nat → Prop
  | [], v, c => v = 0 ∧ c = 0
  | a :: l, v, c => ∃ k, k * a ≤ v ∧ k ≤ c ∧ Rp l (v - k * a) (c - k)
theorem Rp_zero : ∀ l, Rp l 0 0
  | [] => ⟨rfl, rfl⟩
  | _ :: l => ⟨0, by omega, by omega, by simpa using Rp_zero l⟩
theorem Rp_add {a : Nat} : ∀ {l : List Nat} {v c : Nat}, a ∈ l → Rp l v c → Rp l (v + a) (c + 1)
  | b :: l, v, c, m, ⟨k, k1, k2, k3⟩ => by
    rcases List.mem_cons.mp m with e | m
    · subst e
      refine ⟨k + 1, by rw [Nat.add_mul]; omega, by omega, ?_⟩
      rw [show v + a - (k + 1) * a = v - k * a by rw [Nat.add_mul]; omega, show c + 1 - (k + 1) = c - k by omega]
      exact k3
    · refine ⟨k, by omega, by omega, ?_⟩
      rw [show v + a - k * b = (v - k * b) + a by omega, show c + 1 - k = (c - k) + 1 by omega]
      exact Rp_add m k3
theorem Rp_sub : ∀ {l : List Nat} {v c : Nat}, (∀ a ∈ l, 1 ≤ a) → 0 < v → Rp l v c → ∃ a, a ∈ l ∧ a ≤ v ∧ 1 ≤ c ∧ Rp l (v - a) (c - 1)
  | [], v, c, _, hv, h => by have := h.1; omega
  | b :: l, v, c, hl, hv, ⟨k, k1, k2, k3⟩ => by
    cases k with
    | zero =>
      rw [Nat.zero_mul, Nat.sub_zero, Nat.sub_zero] at k3
      obtain ⟨a, m, a1, a2, a3⟩ := Rp_sub (fun a h => hl a (List.mem_cons_of_mem _ h)) hv k3
      exact ⟨a, List.mem_cons_of_mem _ m, a1, a2, 0, by omega, by omega, by simpa using a3⟩
    | succ k =>
      have e : (k + 1) * b = k * b + b := by rw [Nat.add_mul, Nat.one_mul]
      refine ⟨b, List.mem_cons_self, by omega, by omega, k, by omega, by omega, ?_⟩
      rw [show v - b - k * b = v - (k + 1) * b by omega, show c - 1 - k = c - (k + 1) by omega]
      exact k3
theorem Rp_none : ∀ {l : List Nat} {c : Nat}, (∀ a ∈ l, 1 ≤ a) → Rp l 0 c → c = 0
  | [], _, _, h => h.2
  | b :: l, c, hl, ⟨k, k1, k2, k3⟩ => by
    have hb := hl b List.mem_cons_self
    have hk : k = 0 := by
      cases k with
      | zero => rfl
      | succ k => rw [Nat.add_mul] at k1; omega
    subst hk
    have := Rp_none (fun a h => hl a (List.mem_cons_of_mem _ h)) (by simpa using k3)
    omega

/-! ### the program's rows -/
def FW (b : Nat → Option Nat) (a v : Nat) : Option Nat :=
  omin (b v) (if _h : 1 ≤ a ∧ a ≤ v then (FW b a (v - a)).map (· + 1) else none)
termination_by v
decreasing_by omega
theorem FW_up {b : Nat → Option Nat} {a v : Nat} (ha : 1 ≤ a) (hv : a ≤ v) : FW b a v = omin (b v) ((FW b a (v - a)).map (· + 1)) := by
  rw [FW, dif_pos ⟨ha, hv⟩]
theorem omin_none (o : Option Nat) : omin o none = o := by cases o <;> rfl
theorem FW_low {b : Nat → Option Nat} {a v : Nat} (hv : v < a) : FW b a v = b v := by
  rw [FW, dif_neg (by omega), omin_none]
def Fr : List Nat → Nat → Option Nat
  | [] => fun v => if v = 0 then some 0 else none
  | a :: l => FW (Fr l) a
theorem FW_min {b : Nat → Option Nat} {P : Nat → Nat → Prop} (hb : ∀ v, IsMin (P v) (b v)) {a : Nat} (ha : 1 ≤ a) : ∀ v, IsMin (fun c => ∃ k, k * a ≤ v ∧ k ≤ c ∧ P (v - k * a) (c - k)) (FW b a v) := by
  intro v
  induction v using Nat.strongRecOn with
  | _ v ih =>
    by_cases hv : a ≤ v
    · rw [FW_up ha hv]
      refine ((hb v).or (ih (v - a) (by omega)).up).congr fun c => ⟨?_, ?_⟩
      · rintro (h | ⟨h1, k, k1, k2, k3⟩)
        · exact ⟨0, by omega, by omega, by simpa using h⟩
        · refine ⟨k + 1, by rw [Nat.add_mul]; omega, by omega, ?_⟩
          rw [show v - (k + 1) * a = v - a - k * a by rw [Nat.add_mul]; omega, show c - (k + 1) = c - 1 - k by omega]
          exact k3
      · rintro ⟨k, k1, k2, k3⟩
        cases k with
        | zero => left; simpa using k3
        | succ k =>
          right
          have e : (k + 1) * a = k * a + a := by rw [Nat.add_mul, Nat.one_mul]
          refine ⟨by omega, k, by omega, by omega, ?_⟩
          rw [show v - a - k * a = v - (k + 1) * a by omega, show c - 1 - k = c - (k + 1) by omega]
          exact k3
    · rw [FW_low (by omega)]
      refine (hb v).congr fun c => ⟨fun h => ⟨0, by omega, by omega, by simpa using h⟩, ?_⟩
      rintro ⟨k, k1, k2, k3⟩
      cases k with
      | zero => simpa using k3
      | succ k => rw [Nat.add_mul] at k1; omega
theorem Fr_min : ∀ {l : List Nat}, (∀ a ∈ l, 1 ≤ a) → ∀ v, IsMin (Rp l v) (Fr l v)
  | [], _, v => by
    show IsMin _ (if v = 0 then some 0 else none)
    by_cases h : v = 0
    · rw [if_pos h]
      exact ⟨⟨h, rfl⟩, fun d _ => Nat.zero_le d⟩
    · rw [if_neg h]
      exact fun c q => h q.1
  | a :: l, h, v => FW_min (fun v => Fr_min (fun b m => h b (List.mem_cons_of_mem _ m)) v) (h a List.mem_cons_self) v

/-! ### the specification's table -/
theorem fewTable_len (l : List Nat) : ∀ n, (Uw60.fewTable l n).length = n + 1
  | 0 => rfl
  | n + 1 => by
    show (Uw60.fewTable l n ++ [_]).length = _
    rw [List.length_append, fewTable_len l n]
    rfl
theorem fewTable_get (l : List Nat) : ∀ n k, k ≤ n → (Uw60.fewTable l n).getD k none = Uw60.few l k
  | 0, k, h => by
    have e : k = 0 := by omega
    subst e
    rfl
  | n + 1, k, h => by
    by_cases e : k = n + 1
    · subst e
      rfl
    · show (Uw60.fewTable l n ++ [_]).getD k none = _
      rw [List.getD_eq_getElem?_getD, List.getElem?_append_left (by rw [fewTable_len]; omega), ← List.getD_eq_getElem?_getD]
      exact fewTable_get l n k (by omega)
def fewStep (l : List Nat) (n : Nat) (m : Option Nat) (a : Nat) : Option Nat :=
  if a = 0 ∨ n < a then m else omin m ((Uw60.few l (n - a)).map (· + 1))
theorem few_succ (l : List Nat) (n : Nat) : Uw60.few l (n + 1) = l.foldl (fewStep l (n + 1)) none := by
  unfold Uw60.few
  show (Uw60.fewTable l n ++ [_]).getD (n + 1) none = _
  rw [List.getD_eq_getElem?_getD, List.getElem?_append_right (by rw [fewTable_len]; omega), fewTable_len, Nat.sub_self]
  show List.foldl _ none l = _
  congr 1
  funext m a
  unfold fewStep
  by_cases h : a = 0 ∨ n + 1 < a
  · rw [if_pos h, if_pos h]
  · rw [if_neg h, if_neg h, fewTable_get l n _ (by omega)]
    cases Uw60.few l (n + 1 - a) with
    | none => rw [Option.map_none, omin_none]
    | some k =>
      cases m with
      | none => rfl
      | some j => rfl
theorem fold_min (l : List Nat) (n : Nat) (hl : ∀ a, 1 ≤ a → a ≤ n → IsMin (Rp l (n - a)) (Uw60.few l (n - a))) : ∀ (r : List Nat) (m : Option Nat) (P : Nat → Prop), IsMin P m →
    IsMin (fun c => P c ∨ ∃ a, a ∈ r ∧ 1 ≤ a ∧ a ≤ n ∧ 1 ≤ c ∧ Rp l (n - a) (c - 1)) (r.foldl (fewStep l n) m)
  | [], m, P, h => h.congr fun c => ⟨.inl, fun q => q.elim id fun ⟨a, z, _⟩ => by cases z⟩
  | a :: r, m, P, h => by
    rw [List.foldl_cons]
    unfold fewStep
    by_cases q : a = 0 ∨ n < a
    · rw [if_pos q]
      refine (fold_min l n hl r m P h).congr fun c => ⟨?_, ?_⟩
      · rintro (z | ⟨b, b1, b2⟩)
        · exact .inl z
        · exact .inr ⟨b, List.mem_cons_of_mem _ b1, b2⟩
      · rintro (z | ⟨b, b1, b2, b3, b4⟩)
        · exact .inl z
        · rcases List.mem_cons.mp b1 with e | b1
          · omega
          · exact .inr ⟨b, b1, b2, b3, b4⟩
    · rw [if_neg q]
      refine (fold_min l n hl r _ _ (h.or (hl a (by omega) (by omega)).up)).congr fun c => ⟨?_, ?_⟩
      · rintro ((z | z) | ⟨b, b1, b2⟩)
        · exact .inl z
        · exact .inr ⟨a, List.mem_cons_self, by omega, by omega, z.1, z.2⟩
        · exact .inr ⟨b, List.mem_cons_of_mem _ b1, b2⟩
      · rintro (z | ⟨b, b1, b2, b3, b4, b5⟩)
        · exact .inl (.inl z)
        · rcases List.mem_cons.mp b1 with e | b1
          · subst e
            exact .inl (.inr ⟨b4, b5⟩)
          · exact .inr ⟨b, b1, b2, b3, b4, b5⟩
theorem few_min {l : List Nat} (h : ∀ a ∈ l, 1 ≤ a) : ∀ v, IsMin (Rp l v) (Uw60.few l v) := by
  intro v
  induction v using Nat.strongRecOn with
  | _ v ih =>
    cases v with
    | zero => exact ⟨Rp_zero l, fun d _ => Nat.zero_le d⟩
    | succ n =>
      rw [few_succ]
      refine (fold_min l (n + 1) (fun a a1 a2 => ih _ (by omega)) l none (fun _ => False) (fun _ q => q)).congr fun c => ⟨?_, ?_⟩
      · rintro (z | ⟨a, a1, a2, a3, a4, a5⟩)
        · exact z.elim
        · have := Rp_add a1 a5
          rwa [Nat.sub_add_cancel a3, Nat.sub_add_cancel a4] at this
      · intro z
        obtain ⟨a, a1, a2, a3, a4⟩ := Rp_sub h (by omega) z
        exact .inr ⟨a, a1, h a a1, a2, a3, a4⟩
theorem Fr_few {l : List Nat} (h : ∀ a ∈ l, 1 ≤ a) (v : Nat) : Fr l v = Uw60.few l v := (Fr_min h v).uniq (few_min h v)

/-! ### the rows of how often -/
/-- how often the first is taken, at least -/
def least (b : Nat → Option Nat) (a v m : Nat) : Nat :=
  ((List.range (v / a + 1)).find? fun t => decide ((b (v - t * a)).map (t + ·) = some m)).getD 0
def firstRow : List Nat → Nat → Nat → List Nat
  | [], _, _ => []
  | a :: l, v, m => least (Fr l) a v m :: firstRow l (v - least (Fr l) a v m * a) (m - least (Fr l) a v m)
theorem find_eq {n k : Nat} {p q : Nat → Bool} (hp : ∀ i, i < n → p i = true → i < k ∧ q i = true) (hq : ∀ i, i < k → q i = true → i < n ∧ p i = true) :
    (List.range n).find? p = (List.range k).find? q := by
  cases e : (List.range n).find? p with
  | none =>
    symm
    rw [List.find?_eq_none] at e ⊢
    intro i hi h
    obtain ⟨h1, h2⟩ := hq i (List.mem_range.mp hi) h
    exact e i (List.mem_range.mpr h1) h2
  | some i =>
    symm
    rw [List.find?_range_eq_some] at e ⊢
    obtain ⟨e1, e2, e3⟩ := e
    obtain ⟨z1, z2⟩ := hp i (List.mem_range.mp e2) e1
    refine ⟨z2, List.mem_range.mpr z1, fun j hj => ?_⟩
    have := e3 j hj
    cases z : q j with
    | false => rfl
    | true =>
      obtain ⟨_, w⟩ := hq j (by omega) z
      rw [w] at this
      cases this
theorem find_some {n : Nat} {p : Nat → Bool} {i : Nat} (hi : i < n) (h : p i = true) : ∃ j, (List.range n).find? p = some j := by
  cases e : (List.range n).find? p with
  | some j => exact ⟨j, rfl⟩
  | none =>
    rw [List.find?_eq_none] at e
    exact (e i (List.mem_range.mpr hi) h).elim
theorem row_step {l : List Nat} {a v m : Nat} (h : ∀ b ∈ a :: l, 1 ≤ b) (hm : Fr (a :: l) v = some m) :
    ∃ k, least (Fr l) a v m = k ∧ k ≤ m ∧ k * a ≤ v ∧ Fr l (v - k * a) = some (m - k) ∧ Uw60.rowFor (a :: l) v m = k :: Uw60.rowFor l (v - k * a) (m - k) := by
  have ha : 1 ≤ a := h a List.mem_cons_self
  have hl : ∀ b ∈ l, 1 ≤ b := fun b m => h b (List.mem_cons_of_mem _ m)
  have q := Fr_min h v
  rw [hm] at q
  obtain ⟨⟨k0, k1, k2, k3⟩, q2⟩ := q
  have r0 : Fr l (v - k0 * a) = some (m - k0) := by
    have z := Fr_min hl (v - k0 * a)
    cases e : Fr l (v - k0 * a) with
    | none => rw [e] at z; exact (z _ k3).elim
    | some c =>
      rw [e] at z
      have z1 := z.2 _ k3
      have z2 := q2 (c + k0) ⟨k0, k1, by omega, by rw [Nat.add_sub_cancel]; exact z.1⟩
      congr 1
      omega
  have ef : (List.range (v / a + 1)).find? (fun t => decide ((Fr l (v - t * a)).map (t + ·) = some m)) = (List.range (m + 1)).find? fun k => decide (k * a ≤ v) && Uw60.few l (v - k * a) == some (m - k) := by
    refine find_eq (fun i hi p => ?_) fun i hi p => ?_
    · have hd : i * a ≤ v := Nat.le_trans (Nat.mul_le_mul_right a (by omega : i ≤ v / a)) (Nat.div_mul_le_self v a)
      rw [decide_eq_true_eq] at p
      cases e : Fr l (v - i * a) with
      | none => rw [e] at p; cases p
      | some c =>
        rw [e] at p
        have p' : i + c = m := Option.some.inj p
        refine ⟨by omega, ?_⟩
        rw [← Fr_few hl, e, decide_eq_true hd, Bool.true_and, beq_iff_eq]
        congr 1
        omega
    · rw [Bool.and_eq_true, decide_eq_true_eq, beq_iff_eq, ← Fr_few hl] at p
      have hd : i ≤ v / a := (Nat.le_div_iff_mul_le (by omega)).mpr p.1
      refine ⟨by omega, ?_⟩
      rw [p.2, decide_eq_true_eq]
      show some (i + (m - i)) = some m
      congr 1
      omega
  obtain ⟨k, hk⟩ := find_some (n := v / a + 1) (p := fun t => decide ((Fr l (v - t * a)).map (t + ·) = some m)) (i := k0)
    (by have := (Nat.le_div_iff_mul_le (by omega)).mpr k1; omega) (by rw [r0, decide_eq_true_eq]; show some (k0 + (m - k0)) = some m; congr 1; omega)
  have hk' := hk
  rw [ef] at hk'
  have s := List.find?_some hk'
  have s2 := List.mem_range.mp (List.mem_of_find?_eq_some hk')
  rw [Bool.and_eq_true, decide_eq_true_eq, beq_iff_eq, ← Fr_few hl] at s
  refine ⟨k, by unfold least; rw [hk]; rfl, by omega, s.1, s.2, ?_⟩
  show (match (List.range (m + 1)).find? fun k => decide (k * a ≤ v) && Uw60.few l (v - k * a) == some (m - k) with
    | none => []
    | some k => k :: Uw60.rowFor l (v - k * a) (m - k)) = _
  rw [hk']
theorem row_sum : ∀ {l : List Nat} {v m : Nat}, (∀ b ∈ l, 1 ≤ b) → Fr l v = some m → (Uw60.rowFor l v m).sum = m
  | [], v, m, _, h => by
    have h' : (if v = 0 then some 0 else none) = some m := h
    by_cases e : v = 0
    · rw [if_pos e] at h'
      cases h'
      rfl
    · rw [if_neg e] at h'
      cases h'
  | a :: l, v, m, hl, h => by
    obtain ⟨k, _, k2, _, k4, k5⟩ := row_step hl h
    rw [k5, List.sum_cons, row_sum (fun b m => hl b (List.mem_cons_of_mem _ m)) k4]
    omega
end NT
/-! The mathematics, third part: what games are worth. -/
namespace NT

/-! ### the least number that is missing -/
def lm (xs : List Nat) : Nat := ((List.range xs.length).find? fun k => !xs.contains k).getD xs.length
theorem all_in_len : ∀ (n : Nat) (l : List Nat), (∀ k, k < n → k ∈ l) → n ≤ l.length := fun n l h => by
  have := List.Nodup.length_le_of_subset (l₁ := List.range n) (l₂ := l) List.nodup_range fun k hk => h k (List.mem_range.mp hk)
  rwa [List.length_range] at this
theorem mex_lm (l : List Nat) : Uw60.mex l = lm l := by
  unfold Uw60.mex lm
  cases e : (List.range l.length).find? fun k => !l.contains k with
  | some k =>
    have : (List.range (l.length + 1)).find? (fun k => !l.contains k) = some k := by
      rw [List.find?_range_eq_some] at e ⊢
      exact ⟨e.1, List.mem_range.mpr (by have := List.mem_range.mp e.2.1; omega), e.2.2⟩
    rw [this]
    rfl
  | none =>
    rw [List.find?_eq_none] at e
    have h1 : ∀ k, k < l.length → k ∈ l := fun k hk => by
      have := e k (List.mem_range.mpr hk)
      simpa using this
    have h2 : ¬ l.length ∈ l := fun h => by
      have := all_in_len (l.length + 1) l fun k hk => by
        by_cases q : k = l.length
        · rw [q]; exact h
        · exact h1 k (by omega)
      omega
    have : (List.range (l.length + 1)).find? (fun k => !l.contains k) = some l.length := by
      rw [List.find?_range_eq_some]
      refine ⟨by simpa using h2, List.mem_range.mpr (by omega), fun j hj => ?_⟩
      have := h1 j hj
      simpa using this
    rw [this]
    rfl
theorem mex_reverse (l : List Nat) : Uw60.mex l.reverse = Uw60.mex l := by
  unfold Uw60.mex
  rw [List.length_reverse]
  congr 2
  funext k
  congr 1
  rw [Bool.eq_iff_iff]
  simp

/-! ### the games that a game becomes -/
def gb (m : List Bool) : List (List Bool) := (lf m).map (wn m)
theorem wn_getD {m : List Bool} {g v : Nat} (h : v < m.length) : (wn m g).getD v false = W (fun v => m.getD v false) g v := tab_getD h
theorem lf_wn {m : List Bool} {g v : Nat} : v ∈ lf (wn m g) ↔ v ∈ lf m ∧ W (fun v => m.getD v false) g v = false := by
  rw [lf_mem, lf_mem, wn_len]
  constructor
  · rintro ⟨h1, h2, h3⟩
    rw [wn_getD h2] at h3
    refine ⟨⟨h1, h2, ?_⟩, h3⟩
    cases e : m.getD v false with
    | false => rfl
    | true => rw [W_of e] at h3; cases h3
  · rintro ⟨⟨h1, h2, h3⟩, h4⟩
    exact ⟨h1, h2, by rw [wn_getD h2]; exact h4⟩
theorem lf_nodup (m : List Bool) : (lf m).Nodup := by
  unfold lf
  refine List.Pairwise.filter _ ?_
  refine List.Pairwise.map _ (fun a b (h : a ≠ b) => ?_) List.nodup_range
  show a + 2 ≠ b + 2
  omega
theorem wn_gone {m : List Bool} {g : Nat} (h0 : m.getD 0 false = true) (hg : g ∈ lf m) : ¬ g ∈ lf (wn m g) := fun h => by
  obtain ⟨h1, h2⟩ := lf_wn.mp h
  have := (lf_mem.mp hg).1
  rw [W_up (by omega) (Nat.le_refl _), Nat.sub_self, W_of h0, Bool.or_true] at h2
  cases h2
theorem lf_less {m : List Bool} {g : Nat} (h0 : m.getD 0 false = true) (hg : g ∈ lf m) : (lf (wn m g)).length < (lf m).length := by
  have h1 := List.Nodup.length_le_of_subset (l₁ := g :: lf (wn m g)) (l₂ := lf m) (List.nodup_cons.mpr ⟨wn_gone h0 hg, lf_nodup _⟩) fun v hv => by
    rcases List.mem_cons.mp hv with rfl | hv
    · exact hg
    · exact (lf_wn.mp hv).1
  rw [List.length_cons] at h1
  omega
theorem wn_zero {m : List Bool} {g : Nat} (h0 : m.getD 0 false = true) : (wn m g).getD 0 false = true := by
  have h : 0 < m.length := by
    cases m with
    | nil => cases h0
    | cons b m => simp
  rw [wn_getD h]
  exact W_of h0
/-- a game's worth, so many turns deep -/
def vf : Nat → List Bool → Nat
  | 0, _ => 0
  | k + 1, m => lm ((gb m).map (vf k))
def val (m : List Bool) : Nat := vf (m.length + 1) m
theorem vf_more : ∀ (k : Nat) (m : List Bool), m.getD 0 false = true → (lf m).length < k → vf (k + 1) m = vf k m
  | 0, m, _, h => by omega
  | k + 1, m, h0, h => by
    show lm ((gb m).map (vf (k + 1))) = lm ((gb m).map (vf k))
    congr 1
    refine List.map_congr_left fun x hx => ?_
    obtain ⟨g, hg, rfl⟩ := List.mem_map.mp hx
    exact vf_more k _ (wn_zero h0) (by have := lf_less h0 hg; omega)
theorem lf_short (m : List Bool) : (lf m).length ≤ m.length := by
  unfold lf
  refine Nat.le_trans (List.length_filter_le _ _) ?_
  simp
theorem val_eq {m : List Bool} (h0 : m.getD 0 false = true) : val m = lm ((gb m).map val) := by
  show lm ((gb m).map (vf m.length)) = _
  congr 1
  refine List.map_congr_left fun x hx => ?_
  obtain ⟨g, hg, rfl⟩ := List.mem_map.mp hx
  show vf m.length (wn m g) = vf ((wn m g).length + 1) (wn m g)
  rw [wn_len]
  exact (vf_more _ _ (wn_zero h0) (by have := lf_less h0 hg; have := lf_short m; omega)).symm

/-! ### sets as numbers -/
theorem has_bit (s n : Nat) : Uw60.has s n = s.testBit n := by
  unfold Uw60.has
  rw [Nat.testBit_eq_decide_div_mod_eq, Bool.eq_iff_iff]
  simp
theorem mask_snoc (l : List Nat) (a : Nat) : Uw60.maskOf (l ++ [a]) = Uw60.maskOf l + 2 ^ a := by
  unfold Uw60.maskOf
  rw [List.foldl_append]
  rfl
theorem mask_lt : ∀ (l : List Nat) (b : Nat), l.Pairwise (· < ·) → (∀ a ∈ l, a < b) → Uw60.maskOf l < 2 ^ b := by
  intro l
  induction l using list_snoc_ind with
  | h0 => intro b _ _; exact Nat.two_pow_pos b
  | hs l a ih =>
    intro b hp hb
    rw [List.pairwise_append] at hp
    have h1 := ih a hp.1 fun x hx => hp.2.2 x hx a (by simp)
    have h2 : 2 ^ (a + 1) ≤ 2 ^ b := Nat.pow_le_pow_right (by omega) (by have := hb a (by simp); omega)
    rw [mask_snoc]
    rw [Nat.pow_succ] at h2
    omega
theorem mask_has : ∀ (l : List Nat), l.Pairwise (· < ·) → ∀ n, Uw60.has (Uw60.maskOf l) n = true ↔ n ∈ l := by
  intro l
  induction l using list_snoc_ind with
  | h0 =>
    intro _ n
    rw [has_bit]
    show Nat.testBit 0 n = true ↔ _
    rw [Nat.zero_testBit]
    simp
  | hs l a ih =>
    intro hp n
    rw [List.pairwise_append] at hp
    have hb : ∀ x ∈ l, x < a := fun x hx => hp.2.2 x hx a (by simp)
    have h1 := mask_lt l a hp.1 hb
    rw [has_bit, mask_snoc, Nat.add_comm]
    by_cases e : n = a
    · subst e
      rw [Nat.testBit_two_pow_add_eq, Nat.testBit_lt_two_pow h1]
      simp
    · have ih' := ih hp.1 n
      rw [has_bit] at ih'
      rw [List.mem_append, List.mem_singleton]
      by_cases q : n < a
      · rw [Nat.testBit_two_pow_add_gt q, ih']
        simp [e]
      · have z1 : 2 ^ a + Uw60.maskOf l < 2 ^ n := by
          have h2 : 2 ^ (a + 1) ≤ 2 ^ n := Nat.pow_le_pow_right (by omega) (by omega)
          rw [Nat.pow_succ] at h2
          omega
        rw [Nat.testBit_lt_two_pow z1]
        constructor
        · intro z; cases z
        · rintro (z | z)
          · have := hb n z; omega
          · exact absurd z e
theorem mask_zero {l : List Nat} : Uw60.maskOf l = 0 ↔ l = [] := by
  constructor
  · intro h
    induction l using list_snoc_ind with
    | h0 => rfl
    | hs l a _ =>
      rw [mask_snoc] at h
      have := Nat.two_pow_pos a
      omega
  · rintro rfl
    rfl
theorem lf_sorted (m : List Bool) : (lf m).Pairwise (· < ·) := by
  unfold lf
  refine List.Pairwise.filter _ ?_
  refine List.Pairwise.map _ (fun a b (h : a < b) => ?_) List.pairwise_lt_range
  show a + 2 < b + 2
  omega
theorem sorted_ext : ∀ {l r : List Nat}, l.Pairwise (· < ·) → r.Pairwise (· < ·) → (∀ v, v ∈ l ↔ v ∈ r) → l = r
  | [], [], _, _, _ => rfl
  | [], b :: r, _, _, h => by have := (h b).mpr (by simp); simp at this
  | a :: l, [], _, _, h => by have := (h a).mp (by simp); simp at this
  | a :: l, b :: r, h1, h2, h => by
    rw [List.pairwise_cons] at h1 h2
    have e : a = b := by
      rcases List.mem_cons.mp ((h a).mp (by simp)) with q | q
      · exact q
      · rcases List.mem_cons.mp ((h b).mpr (by simp)) with z | z
        · exact z.symm
        · have := h1.1 b z
          have := h2.1 a q
          omega
    subst e
    rw [sorted_ext h1.2 h2.2 fun v => ?_]
    constructor
    · intro hv
      rcases List.mem_cons.mp ((h v).mp (List.mem_cons_of_mem _ hv)) with q | q
      · have := h1.1 v hv; omega
      · exact q
    · intro hv
      rcases List.mem_cons.mp ((h v).mpr (List.mem_cons_of_mem _ hv)) with q | q
      · have := h2.1 v hv; omega
      · exact q

/-! ### a set and the flags -/
structure Rel (n s : Nat) (m : List Bool) : Prop where
  len : m.length = n
  low : 2 ≤ n
  high : n ≤ 64
  zero : m.getD 0 false = true
  one : m.getD 1 false = false
  has : ∀ h, Uw60.has s h = true ↔ h ∈ lf m
theorem Rel.members {n s : Nat} {m : List Bool} (R : Rel n s m) : Uw60.membersOf s = lf m := by
  unfold Uw60.membersOf
  refine sorted_ext (List.Pairwise.filter _ List.pairwise_lt_range) (lf_sorted m) fun v => ?_
  rw [List.mem_filter, R.has, List.mem_range]
  refine ⟨fun h => h.2, fun h => ⟨?_, h⟩⟩
  have := (lf_mem.mp h).2.1
  have := R.len
  have := R.high
  omega
theorem Rel.isMade {n s : Nat} {m : List Bool} (R : Rel n s m) {v : Nat} (hv : v < n) : Uw60.isMade s v = m.getD v false := by
  unfold Uw60.isMade
  have h := R.has v
  rw [lf_mem, R.len] at h
  by_cases e : v = 1
  · subst e
    rw [R.one]
    rfl
  · have e1 : (v != 1) = true := by simpa using e
    rw [e1, Bool.true_and]
    cases q : m.getD v false with
    | true =>
      cases z : Uw60.has s v with
      | false => rfl
      | true =>
        have := (h.mp z).2.2
        rw [q] at this
        cases this
    | false =>
      have : 2 ≤ v := by
        by_cases z : v = 0
        · subst z
          rw [R.zero] at q
          cases q
        · omega
      rw [h.mpr ⟨this, hv, q⟩]
      rfl
theorem Rel.uniq {n s : Nat} {m r : List Bool} (R : Rel n s m) (S : Rel n s r) : m = r := by
  apply List.ext_getElem?
  intro i
  by_cases h : i < n
  · have e1 := R.isMade h
    have e2 := S.isMade h
    rw [List.getD_eq_getElem?_getD, List.getElem?_eq_getElem (by rw [R.len]; exact h), Option.getD_some] at e1
    rw [List.getD_eq_getElem?_getD, List.getElem?_eq_getElem (by rw [S.len]; exact h), Option.getD_some] at e2
    rw [List.getElem?_eq_getElem (by rw [R.len]; exact h), List.getElem?_eq_getElem (by rw [S.len]; exact h), ← e1, ← e2]
  · rw [List.getElem?_eq_none (by rw [R.len]; omega), List.getElem?_eq_none (by rw [S.len]; omega)]
theorem Rel.left {n s g h : Nat} {m : List Bool} (R : Rel n s m) (hg : g ∈ lf m) (hh : h ∈ lf m) :
    (!(List.range (h / g)).any fun k => Uw60.isMade s (h - (k + 1) * g)) = !W (fun v => m.getD v false) g h := by
  congr 1
  have g2 := (lf_mem.mp hg).1
  have h2 := lf_mem.mp hh
  rw [Bool.eq_iff_iff, List.any_eq_true, W_iff (by omega)]
  constructor
  · rintro ⟨k, k1, k2⟩
    have k3 := (Nat.le_div_iff_mul_le (by omega : 0 < g)).mp (by have := List.mem_range.mp k1; omega : k + 1 ≤ h / g)
    refine ⟨k + 1, k3, ?_⟩
    rw [R.isMade (by have := R.len; omega)] at k2
    exact k2
  · rintro ⟨k, k1, k2⟩
    cases k with
    | zero =>
      rw [Nat.zero_mul, Nat.sub_zero, h2.2.2] at k2
      cases k2
    | succ k =>
      refine ⟨k, List.mem_range.mpr ?_, ?_⟩
      · have := (Nat.le_div_iff_mul_le (by omega : 0 < g)).mpr k1
        omega
      · rw [R.isMade (by have := R.len; omega)]
        exact k2
theorem Rel.after {n s g : Nat} {m : List Bool} (R : Rel n s m) (hg : g ∈ lf m) : Rel n (Uw60.after s g) (wn m g) := by
  refine ⟨(wn_len _ _).trans R.len, R.low, R.high, wn_zero R.zero, ?_, fun h => ?_⟩
  · have := (lf_mem.mp hg).1
    rw [wn_getD (by have := R.len; have := R.low; omega), W_low (by omega)]
    exact R.one
  · unfold Uw60.after
    rw [R.members, mask_has _ (List.Pairwise.filter _ (lf_sorted m)), List.mem_filter, lf_wn]
    constructor
    · rintro ⟨h1, h2⟩
      rw [R.left hg h1] at h2
      exact ⟨h1, by simpa using h2⟩
    · rintro ⟨h1, h2⟩
      refine ⟨h1, ?_⟩
      rw [R.left hg h1, h2]
      rfl

/-! ### the specification's worths, with those that are known -/
def Known (n : Nat) (mm : List (Nat × Nat)) : Prop := ∀ z, z ∈ mm → ∀ m, Rel n z.1 m → z.2 = val m
theorem fold_worth {n f : Nat} (ih : ∀ (mm : List (Nat × Nat)) (s : Nat) (m : List Bool), Known n mm → Rel n s m → (lf m).length < f → (Uw60.worth f mm s).1 = val m ∧ Known n (Uw60.worth f mm s).2)
    {s : Nat} {m : List Bool} (R : Rel n s m) (hf : (lf m).length < f + 1) : ∀ (r : List Nat) (acc : List Nat) (mm : List (Nat × Nat)), (∀ g ∈ r, g ∈ lf m) → Known n mm →
    ∃ mm', Known n mm' ∧ r.foldl (fun (u : List Nat × List (Nat × Nat)) g => let y := Uw60.worth f u.2 (Uw60.after s g)
        (y.1 :: u.1, y.2)) (acc, mm) = ((r.map fun g => val (wn m g)).reverse ++ acc, mm')
  | [], acc, mm, _, K => ⟨mm, K, rfl⟩
  | g :: r, acc, mm, hr, K => by
    have hg := hr g (by simp)
    obtain ⟨e1, K1⟩ := ih mm (Uw60.after s g) (wn m g) K (R.after hg) (by have := lf_less R.zero hg; omega)
    obtain ⟨mm', K', e⟩ := fold_worth ih R hf r (val (wn m g) :: acc) (Uw60.worth f mm (Uw60.after s g)).2 (fun x hx => hr x (List.mem_cons_of_mem _ hx)) K1
    refine ⟨mm', K', ?_⟩
    rw [List.foldl_cons]
    show List.foldl _ ((Uw60.worth f mm (Uw60.after s g)).1 :: acc, (Uw60.worth f mm (Uw60.after s g)).2) r = _
    rw [e1, e]
    simp
theorem worth_val {n : Nat} : ∀ (f : Nat) (mm : List (Nat × Nat)) (s : Nat) (m : List Bool), Known n mm → Rel n s m → (lf m).length < f → (Uw60.worth f mm s).1 = val m ∧ Known n (Uw60.worth f mm s).2
  | 0, _, _, _, _, _, h => by omega
  | f + 1, mm, s, m, K, R, h => by
    unfold Uw60.worth
    cases e : mm.find? (fun z => z.1 == s) with
    | some z =>
      have h1 := List.find?_some e
      have h2 := List.mem_of_find?_eq_some e
      have h3 : z.1 = s := by simpa using h1
      exact ⟨K z h2 m (by rw [h3]; exact R), K⟩
    | none =>
      obtain ⟨mm', K', q⟩ := fold_worth (fun mm s m => worth_val f mm s m) R h (lf m) [] mm (fun g hg => hg) K
      rw [R.members]
      dsimp only at q ⊢
      rw [q]
      have v : Uw60.mex ((List.map (fun g => val (wn m g)) (lf m)).reverse ++ []) = val m := by
        rw [List.append_nil, mex_reverse, mex_lm, val_eq R.zero]
        congr 1
        unfold gb
        rw [List.map_map]
        rfl
      refine ⟨v, ?_⟩
      intro z hz m' R'
      rcases List.mem_cons.mp hz with rfl | hz
      · rw [← R.uniq R']
        exact v
      · exact K' z hz m' R'
theorem Rel.few {n s : Nat} {m : List Bool} (R : Rel n s m) : (lf m).length < 64 := by
  have : (lf m).length ≤ n - 2 := by
    unfold lf
    refine Nat.le_trans (List.length_filter_le _ _) ?_
    rw [R.len]
    simp
  have := R.low
  have := R.high
  omega
theorem known_nil (n : Nat) : Known n [] := fun z hz => by cases hz
theorem Rel.value {n s : Nat} {m : List Bool} (R : Rel n s m) : Uw60.valueOf s = val m := (worth_val 64 [] s m (known_nil n) R R.few).1
/-- by which numbers whoever is to name wins -/
def winsBy (m : List Bool) : List Nat := (lf m).filter fun g => val (wn m g) == 0
theorem Rel.wins {n s : Nat} {m : List Bool} (R : Rel n s m) : Uw60.winning s = winsBy m := by
  unfold Uw60.winning winsBy
  rw [R.members]
  refine List.filter_congr fun g hg => ?_
  rw [(worth_val 64 (Uw60.worth 64 [] s).2 (Uw60.after s g) (wn m g) (worth_val 64 [] s m (known_nil n) R R.few).2 (R.after hg) (R.after hg).few).1]
/-- the first that doesn't make the greatest -/
def notBy (m : List Bool) : Option Nat := (lf m).dropLast.find? fun g => !(wn m g).getD ((lf m).getLastD 0) false
theorem find_ne {a : Nat} {p : Nat → Bool} : ∀ {l : List Nat}, (∀ g ∈ l, g ≠ a) → l.find? (fun g => g != a && p g) = l.find? p
  | [], _ => rfl
  | b :: r, h => by
    rw [List.find?_cons, List.find?_cons, find_ne fun g hg => h g (List.mem_cons_of_mem _ hg)]
    have : (b != a) = true := by simpa using h b (by simp)
    rw [this, Bool.true_and]
theorem find_dropLast {l : List Nat} {p : Nat → Bool} (hn : l.Nodup) : l.find? (fun g => g != l.getLastD 0 && p g) = l.dropLast.find? p := by
  induction l using list_snoc_ind with
  | h0 => rfl
  | hs l a _ =>
    rw [List.dropLast_concat]
    have e : (l ++ [a]).getLastD 0 = a := by simp
    rw [e, List.find?_append]
    have hz : l.find? (fun g => g != a && p g) = l.find? p := by
      have hne : ∀ g ∈ l, g ≠ a := fun g hg => by
        have := (List.nodup_append.mp hn).2.2 g hg a (by simp)
        exact this
      exact find_ne hne
    rw [hz]
    have : List.find? (fun g => g != a && p g) [a] = none := by simp
    rw [this, Option.or_none]
theorem Rel.notEnder {n s : Nat} {m : List Bool} (R : Rel n s m) : Uw60.notEnder s = notBy m := by
  unfold Uw60.notEnder notBy
  rw [R.members, find_dropLast (lf_nodup m)]
  by_cases hn : lf m = []
  · rw [hn]; rfl
  have hl : (lf m).getLastD 0 ∈ lf m := by
    rw [List.getLastD_eq_getLast?, List.getLast?_eq_some_getLast hn]
    exact List.getLast_mem hn
  have key : ∀ g, g ∈ lf m → Uw60.has (Uw60.after s g) ((lf m).getLastD 0) = !(wn m g).getD ((lf m).getLastD 0) false := fun g hg => by
    have h2 := (lf_mem.mp hl)
    rw [Bool.eq_iff_iff, (R.after hg).has, lf_wn, wn_getD h2.2.1]
    constructor
    · rintro ⟨_, z⟩; rw [z]; rfl
    · intro z; exact ⟨hl, by simpa using z⟩
  have : ∀ r : List Nat, (∀ g ∈ r, g ∈ lf m) → r.find? (fun g => Uw60.has (Uw60.after s g) ((lf m).getLastD 0)) = r.find? fun g => !(wn m g).getD ((lf m).getLastD 0) false := by
    intro r
    induction r with
    | nil => intro _; rfl
    | cons b r ih =>
      intro h
      rw [List.find?_cons, List.find?_cons, key b (h b (by simp)), ih fun g hg => h g (List.mem_cons_of_mem _ hg)]
  exact this _ fun g hg => (List.dropLast_sublist _).subset hg
end NT
/-! The mathematics, fourth part: the game at first, how many games there are, their order. -/
namespace NT

/-! ### what is made is closed under sums; few are left: all are small -/
theorem T_add {l : List Nat} {b : Nat} (hb : T l b = true) : ∀ a, T l a = true → T l (a + b) = true := by
  intro a
  induction a using Nat.strongRecOn with
  | _ a ih =>
    intro h
    by_cases ha : 0 < a
    · obtain ⟨x, m, x1, x2, x3⟩ := (T_iff ha).mp h
      rw [T_iff (by omega)]
      refine ⟨x, m, x1, by omega, ?_⟩
      have := ih (a - x) (by omega) x3
      rw [show a + b - x = a - x + b by omega]
      exact this
    · have e : a = 0 := by omega
      subst e
      rw [Nat.zero_add]
      exact hb
theorem F_add {l : List Nat} (hl : ∀ a ∈ l, 1 ≤ a) {a b : Nat} (ha : F l a = true) (hb : F l b = true) : F l (a + b) = true := by
  rw [← T_F l hl] at ha hb ⊢
  exact T_add hb a ha
theorem F_zero (l : List Nat) : F l 0 = true := by
  induction l using list_snoc_ind with
  | h0 => rfl
  | hs l a ih => rw [F_snoc]; exact W_of ih
theorem F_one {l : List Nat} : (∀ a ∈ l, 2 ≤ a) → F l 1 = false := by
  induction l using list_snoc_ind with
  | h0 => intro _; rfl
  | hs l a ih =>
    intro h
    have := h a (by simp)
    rw [F_snoc, W_low (by omega)]
    exact ih fun b hb => h b (List.mem_append_left _ hb)
theorem one_le {l : List Nat} (h : ∀ a ∈ l, 2 ≤ a) : ∀ a ∈ l, 1 ≤ a := fun a m => by have := h a m; omega
theorem gaps_mem {l : List Nat} (h : ∀ a ∈ l, 2 ≤ a) {v : Nat} : v ∈ Uw60.gaps l ↔ 2 ≤ v ∧ v ≤ 1600 ∧ F l v = false := by
  rw [gaps_eq (one_le h), lf_mem, flags_len]
  constructor
  · rintro ⟨h1, h2, h3⟩
    rw [flags, tab_getD (by omega)] at h3
    exact ⟨h1, by omega, h3⟩
  · rintro ⟨h1, h2, h3⟩
    refine ⟨h1, by omega, ?_⟩
    rw [flags, tab_getD (by omega)]
    exact h3
theorem left_small {l : List Nat} (h : ∀ a ∈ l, 2 ≤ a) (hf : (Uw60.gaps l).length ≤ 16) {v : Nat} (hv : v ∈ Uw60.gaps l) : v ≤ 33 := by
  by_cases hs : v ≤ 33
  · exact hs
  · exfalso
    obtain ⟨v1, v2, v3⟩ := (gaps_mem h).mp hv
    have hx : ∀ i, i < 16 → ∀ x, x = (if F l (i + 2) = true then v - (i + 2) else i + 2) → x ∈ Uw60.gaps l ∧ x < v := by
      intro i hi x hx
      by_cases q : F l (i + 2) = true
      · rw [if_pos q] at hx
        refine ⟨(gaps_mem h).mpr ⟨by omega, by omega, ?_⟩, by omega⟩
        cases z : F l x with
        | false => rfl
        | true =>
          have := F_add (one_le h) q z
          rw [show i + 2 + x = v by omega, v3] at this
          cases this
      · rw [if_neg q] at hx
        subst hx
        exact ⟨(gaps_mem h).mpr ⟨by omega, by omega, by simpa using q⟩, by omega⟩
    have := List.Nodup.length_le_of_subset (l₁ := v :: (List.range 16).map fun i => if F l (i + 2) = true then v - (i + 2) else i + 2) (l₂ := Uw60.gaps l) (List.nodup_cons.mpr ⟨?_, ?_⟩) ?_
    · simp at this
      omega
    · intro m
      obtain ⟨i, hi, e⟩ := List.mem_map.mp m
      have := (hx i (List.mem_range.mp hi) v e.symm).2
      omega
    · show List.Pairwise _ _
      rw [List.pairwise_map]
      refine List.Pairwise.imp_of_mem (R := fun a b => a < b) (fun {a b} ha hb hab => ?_) List.pairwise_lt_range
      have ha' := List.mem_range.mp ha
      have hb' := List.mem_range.mp hb
      split <;> split <;> omega
    · intro x hm
      rcases List.mem_cons.mp hm with rfl | hm
      · exact hv
      · obtain ⟨i, hi, e⟩ := List.mem_map.mp hm
        exact (hx i (List.mem_range.mp hi) x e.symm).1

/-! ### the game's flags -/
theorem flags_left {l : List Nat} (h : ∀ a ∈ l, 2 ≤ a) {G : Nat} (hG : G ∈ 1 :: Uw60.gaps l) (hm : ∀ y ∈ 1 :: Uw60.gaps l, y ≤ G) : lf (flags l G) = Uw60.gaps l := by
  refine sorted_ext (lf_sorted _) (by rw [gaps_eq (one_le h)]; exact lf_sorted _) fun v => ?_
  rw [gaps_mem h, lf_mem, flags_len]
  have hG2 : G ≤ 1600 := by
    rcases List.mem_cons.mp hG with e | e
    · omega
    · exact ((gaps_mem h).mp e).2.1
  constructor
  · rintro ⟨h1, h2, h3⟩
    rw [flags, tab_getD (by omega)] at h3
    exact ⟨h1, by omega, h3⟩
  · rintro ⟨h1, h2, h3⟩
    have := hm v (List.mem_cons_of_mem _ ((gaps_mem h).mpr ⟨h1, h2, h3⟩))
    refine ⟨h1, by omega, ?_⟩
    rw [flags, tab_getD (by omega)]
    exact h3
theorem flags_rel {l : List Nat} (h : ∀ a ∈ l, 2 ≤ a) (hf : (Uw60.gaps l).length ≤ 16) {G : Nat} (hG : G ∈ 1 :: Uw60.gaps l) (hm : ∀ y ∈ 1 :: Uw60.gaps l, y ≤ G) : Rel (G + 1) (Uw60.maskOf (Uw60.gaps l)) (flags l G) := by
  have h1 := hm 1 (by simp)
  have h2 : G ≤ 33 := by
    rcases List.mem_cons.mp hG with e | e
    · omega
    · exact left_small h hf e
  refine ⟨flags_len _ _, by omega, by omega, ?_, ?_, fun v => ?_⟩
  · rw [flags, tab_getD (by omega)]; exact F_zero l
  · rw [flags, tab_getD (by omega)]; exact F_one h
  · rw [mask_has _ (by rw [gaps_eq (one_le h)]; exact lf_sorted _), flags_left h hG hm]

/-! ### how many games a game becomes -/
/-- a game that start becomes: more is made, 1 isn't -/
structure Gm (start m : List Bool) : Prop where
  len : m.length = start.length
  zero : m.getD 0 false = true
  one : m.getD 1 false = false
  more : ∀ v, start.getD v false = true → m.getD v false = true
theorem Gm.next {start m : List Bool} {g : Nat} (G : Gm start m) (hg : g ∈ lf m) : Gm start (wn m g) := by
  have g2 := lf_mem.mp hg
  refine ⟨(wn_len _ _).trans G.len, wn_zero G.zero, ?_, fun v hv => ?_⟩
  · rw [wn_getD (by omega), W_low (by omega)]
    exact G.one
  · have hm := G.more v hv
    have : v < m.length := by
      by_cases q : v < m.length
      · exact q
      · rw [List.getD_eq_getElem?_getD, List.getElem?_eq_none (by omega)] at hm
        cases hm
    rw [wn_getD this]
    exact W_of hm
def allB : Nat → List (List Bool)
  | 0 => [[]]
  | k + 1 => (allB k).map (true :: ·) ++ (allB k).map (false :: ·)
theorem allB_len : ∀ k, (allB k).length = 2 ^ k
  | 0 => rfl
  | k + 1 => by
    show ((allB k).map (true :: ·) ++ (allB k).map (false :: ·)).length = _
    rw [List.length_append, List.length_map, List.length_map, allB_len k, Nat.pow_succ]
    omega
theorem allB_mem : ∀ (r : List Bool), r ∈ allB r.length
  | [] => by simp [allB]
  | b :: r => by
    show _ ∈ (allB r.length).map (true :: ·) ++ (allB r.length).map (false :: ·)
    cases b with
    | true => exact List.mem_append_left _ (List.mem_map.mpr ⟨r, allB_mem r, rfl⟩)
    | false => exact List.mem_append_right _ (List.mem_map.mpr ⟨r, allB_mem r, rfl⟩)
theorem Gm.inj {start m r : List Bool} (G : Gm start m) (J : Gm start r) (e : (lf start).map (fun v => m.getD v false) = (lf start).map fun v => r.getD v false) : m = r := by
  have key : ∀ v, v < start.length → m.getD v false = r.getD v false := by
    intro v hv
    cases q : start.getD v false with
    | true => rw [G.more v q, J.more v q]
    | false =>
      by_cases v0 : v = 0
      · rw [v0, G.zero, J.zero]
      · by_cases v1 : v = 1
        · rw [v1, G.one, J.one]
        · exact List.map_inj_left.mp e v (lf_mem.mpr ⟨by omega, hv, q⟩)
  rw [← tab_of m, ← tab_of r, G.len, J.len]
  exact tab_ext key
theorem games_few {start : List Bool} {L : List (List Bool)} (hn : L.Nodup) (hL : ∀ m ∈ L, Gm start m) : L.length ≤ 2 ^ (lf start).length := by
  have h := List.Nodup.length_le_of_subset (l₁ := L.map fun m => (lf start).map fun v => m.getD v false) (l₂ := allB (lf start).length) ?_ ?_
  · rw [List.length_map, allB_len] at h
    exact h
  · show List.Pairwise _ _
    rw [List.pairwise_map]
    exact List.Pairwise.imp_of_mem (fun {a b} ha hb hab e => hab ((hL a ha).inj (hL b hb) e)) hn
  · intro x hx
    obtain ⟨m, hm, rfl⟩ := List.mem_map.mp hx
    have := allB_mem ((lf start).map fun v => m.getD v false)
    rw [List.length_map] at this
    exact this
/-! ### the sum of a game's flags -/
def bi (b : Bool) : Int := if b then 1 else 0
def bsum (m : List Bool) : Int := (m.map bi).sum
theorem bsum_cons (b : Bool) (m : List Bool) : bsum (b :: m) = bi b + bsum m := by
  unfold bsum
  rw [List.map_cons, List.sum_cons]
theorem bi_le {a b : Bool} (h : a = true → b = true) : bi a ≤ bi b := by
  cases a with
  | false => cases b <;> decide
  | true => rw [h rfl]; exact Int.le_refl _
theorem bsum_le : ∀ {m r : List Bool}, m.length = r.length → (∀ v, m.getD v false = true → r.getD v false = true) → bsum m ≤ bsum r
  | [], [], _, _ => Int.le_refl _
  | a :: m, b :: r, hl, h => by
    rw [bsum_cons, bsum_cons]
    have h0 := bi_le (h 0)
    have h1 := bsum_le (m := m) (r := r) (by simpa using hl) fun v => h (v + 1)
    have e1 : (a :: m).getD 0 false = a := rfl
    have e2 : (b :: r).getD 0 false = b := rfl
    rw [e1, e2] at h0
    omega
theorem bsum_lt : ∀ {m r : List Bool} {g : Nat}, m.length = r.length → (∀ v, m.getD v false = true → r.getD v false = true) → m.getD g false = false → r.getD g false = true → bsum m < bsum r
  | [], [], _, _, _, _, h => by cases h
  | a :: m, b :: r, 0, hl, h, h1, h2 => by
    have e1 : a = false := h1
    have e2 : b = true := h2
    subst e1 e2
    rw [bsum_cons, bsum_cons]
    have := bsum_le (m := m) (r := r) (by simpa using hl) fun v => h (v + 1)
    show 0 + bsum m < 1 + bsum r
    omega
  | a :: m, b :: r, g + 1, hl, h, h1, h2 => by
    rw [bsum_cons, bsum_cons]
    have h0 := bi_le (h 0)
    have e1 : (a :: m).getD 0 false = a := rfl
    have e2 : (b :: r).getD 0 false = b := rfl
    rw [e1, e2] at h0
    have := bsum_lt (m := m) (r := r) (g := g) (by simpa using hl) (fun v => h (v + 1)) h1 h2
    omega
theorem wn_more {m : List Bool} {g v : Nat} (h : m.getD v false = true) : (wn m g).getD v false = true := by
  have : v < m.length := by
    by_cases q : v < m.length
    · exact q
    · rw [List.getD_eq_getElem?_getD, List.getElem?_eq_none (by omega)] at h
      cases h
  rw [wn_getD this]
  exact W_of h
theorem wn_sum {m : List Bool} {g : Nat} (h0 : m.getD 0 false = true) (hg : g ∈ lf m) : bsum m < bsum (wn m g) := by
  have g2 := lf_mem.mp hg
  refine bsum_lt (g := g) (wn_len _ _).symm (fun v hv => wn_more hv) g2.2.2 ?_
  rw [wn_getD g2.2.1, W_up (by omega) (Nat.le_refl _), Nat.sub_self, W_of h0, Bool.or_true]
/-- among games in order, most made first, what a game becomes stands ahead of it -/
theorem ahead {L : List (List Bool)} (hs : L.Pairwise fun a b => bsum b ≤ bsum a) {i : Nat} {m x : List Bool} (hi : L[i]? = some m) (h0 : m.getD 0 false = true) (hx : x ∈ gb m) (hL : x ∈ L) : x ∈ L.take i := by
  obtain ⟨g, hg, rfl⟩ := List.mem_map.mp hx
  obtain ⟨j, hj⟩ := List.mem_iff_getElem?.mp hL
  have hlt := wn_sum h0 hg
  by_cases q : j < i
  · exact List.mem_iff_getElem?.mpr ⟨j, by rw [List.getElem?_take, if_pos q]; exact hj⟩
  · exfalso
    by_cases e : j = i
    · subst e
      rw [hi] at hj
      have := Option.some.inj hj
      rw [← this] at hlt
      omega
    · obtain ⟨i1, i2⟩ := List.getElem?_eq_some_iff.mp hi
      obtain ⟨j1, j2⟩ := List.getElem?_eq_some_iff.mp hj
      have := List.pairwise_iff_getElem.mp hs i j i1 j1 (by omega)
      rw [i2, j2] at this
      omega

/-! ### a line's calls -/
theorem calls_turn {f : Nat} {p : Int} {r : List Int} {cs : List (List (List Int))} (h : PyFlat.calls PyUw60.shape (f + 1) (p :: r) = some cs) :
    ((p = 0 ∨ p = 2 ∨ p = 4 ∨ p = 5 ∨ p = 6 ∨ p = 7) ∧ ∃ cs', cs = [[p]] :: cs' ∧ PyFlat.calls PyUw60.shape f r = some cs') ∨
    ((p = 1 ∨ p = 3) ∧ ∃ x r' cs', r = x :: r' ∧ cs = [[p, x]] :: cs' ∧ PyFlat.calls PyUw60.shape f r' = some cs') := by
  unfold PyFlat.calls at h
  have one : ∀ q : Int, p = q → PyUw60.shape q = some (0, 0) → ∃ cs', cs = [[p]] :: cs' ∧ PyFlat.calls PyUw60.shape f r = some cs' := by
    rintro q rfl e
    have e2 : PyFlat.call PyUw60.shape (p :: r) = some ([[p]], r) := by
      simp only [PyFlat.call, e]
      simp [PyFlat.rows]
    rw [e2] at h
    dsimp only at h
    cases z : PyFlat.calls PyUw60.shape f r with
    | none => rw [z] at h; cases h
    | some c =>
      rw [z] at h
      exact ⟨c, (Option.some.inj h).symm, rfl⟩
  have two : ∀ q : Int, p = q → PyUw60.shape q = some (1, 0) → ∃ x r' cs', r = x :: r' ∧ cs = [[p, x]] :: cs' ∧ PyFlat.calls PyUw60.shape f r' = some cs' := by
    rintro q rfl e
    cases r with
    | nil =>
      have e2 : PyFlat.call PyUw60.shape [p] = none := by
        simp only [PyFlat.call, e]
        simp
      rw [e2] at h
      cases h
    | cons x r' =>
      have e2 : PyFlat.call PyUw60.shape (p :: x :: r') = some ([[p, x]], r') := by
        simp only [PyFlat.call, e]
        simp [PyFlat.rows]
      rw [e2] at h
      dsimp only at h
      cases z : PyFlat.calls PyUw60.shape f r' with
      | none => rw [z] at h; cases h
      | some c =>
        rw [z] at h
        exact ⟨x, r', c, rfl, (Option.some.inj h).symm, z⟩
  by_cases e0 : p = 0
  · exact .inl ⟨.inl e0, one 0 e0 rfl⟩
  by_cases e1 : p = 1
  · exact .inr ⟨.inl e1, two 1 e1 rfl⟩
  by_cases e2 : p = 2
  · exact .inl ⟨.inr (.inl e2), one 2 e2 rfl⟩
  by_cases e3 : p = 3
  · exact .inr ⟨.inr e3, two 3 e3 rfl⟩
  by_cases e4 : p = 4
  · exact .inl ⟨.inr (.inr (.inl e4)), one 4 e4 rfl⟩
  by_cases e5 : p = 5
  · exact .inl ⟨.inr (.inr (.inr (.inl e5))), one 5 e5 rfl⟩
  by_cases e6 : p = 6
  · exact .inl ⟨.inr (.inr (.inr (.inr (.inl e6)))), one 6 e6 rfl⟩
  by_cases e7 : p = 7
  · exact .inl ⟨.inr (.inr (.inr (.inr (.inr e7)))), one 7 e7 rfl⟩
  exfalso
  have e : PyUw60.shape p = none := by
    unfold PyUw60.shape
    rw [if_neg e0, if_neg e1, if_neg e2, if_neg e3, if_neg e4, if_neg e5, if_neg e6, if_neg e7]
  have e2 : PyFlat.call PyUw60.shape (p :: r) = none := by
    simp only [PyFlat.call, e]
  rw [e2] at h
  cases h
end NT
/-! The mathematics, fifth part: a line's calls and answers. -/
namespace NT
/-- what is answered from a state on -/
def goOn (s : Uw60.Game) (cs : List (List (List Int))) : List Int := PyFlat.told (PyFlat.played (fun s c => Uw60Neutral.step s (c.headD [])) s (cs.map PyUw60.whole))
/-- a call without a number, one with -/
def Alone (p : Int) (c : Uw60.Call) : Prop := (p = 0 ∧ c = .begins) ∨ (p = 2 ∧ c = .gaps) ∨ (p = 4 ∧ c = .wins) ∨ (p = 5 ∧ c = .worth) ∨ (p = 6 ∧ c = .ender) ∨ (p = 7 ∧ c = .undo)
def WithN (p : Int) (n : Nat) (c : Uw60.Call) : Prop := (p = 1 ∧ c = .names n) ∨ (p = 3 ∧ c = .makes n)
theorem alone_of {p : Int} (h : p = 0 ∨ p = 2 ∨ p = 4 ∨ p = 5 ∨ p = 6 ∨ p = 7) : ∃ c, Alone p c := by
  rcases h with h | h | h | h | h | h
  · exact ⟨_, .inl ⟨h, rfl⟩⟩
  · exact ⟨_, .inr (.inl ⟨h, rfl⟩)⟩
  · exact ⟨_, .inr (.inr (.inl ⟨h, rfl⟩))⟩
  · exact ⟨_, .inr (.inr (.inr (.inl ⟨h, rfl⟩)))⟩
  · exact ⟨_, .inr (.inr (.inr (.inr (.inl ⟨h, rfl⟩))))⟩
  · exact ⟨_, .inr (.inr (.inr (.inr (.inr ⟨h, rfl⟩))))⟩
theorem with_of {p : Int} (n : Nat) (h : p = 1 ∨ p = 3) : ∃ c, WithN p n c := by
  rcases h with h | h
  · exact ⟨_, .inl ⟨h, rfl⟩⟩
  · exact ⟨_, .inr ⟨h, rfl⟩⟩
theorem goOn_nil (s : Uw60.Game) : goOn s [] = [] := rfl
theorem goOn_of {s : Uw60.Game} {c : List (List Int)} {x : Uw60.Call} (cs : List (List (List Int))) (h1 : PyUw60.whole c = c) (h2 : Uw60Neutral.callOf (c.headD []) = some x) :
    goOn s (c :: cs) = ((Uw60Neutral.out (Uw60.step s x).2).length : Int) :: (Uw60Neutral.out (Uw60.step s x).2 ++ goOn (Uw60.step s x).1 cs) := by
  have e : Uw60Neutral.step s (c.headD []) = ((Uw60.step s x).1, Uw60Neutral.out (Uw60.step s x).2) := by
    unfold Uw60Neutral.step
    rw [h2]
  unfold goOn PyFlat.told
  rw [List.map_cons, h1, PyFlat.played, List.flatMap_cons, e]
  rfl
theorem goOn_alone {s : Uw60.Game} {p : Int} {x : Uw60.Call} (cs : List (List (List Int))) (h : Alone p x) :
    goOn s ([[p]] :: cs) = ((Uw60Neutral.out (Uw60.step s x).2).length : Int) :: (Uw60Neutral.out (Uw60.step s x).2 ++ goOn (Uw60.step s x).1 cs) := by
  rcases h with ⟨rfl, rfl⟩ | ⟨rfl, rfl⟩ | ⟨rfl, rfl⟩ | ⟨rfl, rfl⟩ | ⟨rfl, rfl⟩ | ⟨rfl, rfl⟩ <;> exact goOn_of cs rfl rfl
theorem goOn_with {s : Uw60.Game} {p : Int} {n : Nat} {x : Uw60.Call} (cs : List (List (List Int))) (hn : n < 2 ^ 32) (h : WithN p n x) :
    goOn s ([[p, (n : Int)]] :: cs) = ((Uw60Neutral.out (Uw60.step s x).2).length : Int) :: (Uw60Neutral.out (Uw60.step s x).2 ++ goOn (Uw60.step s x).1 cs) := by
  have hnat : Uw60Neutral.nat (n : Int) = true := by
    unfold Uw60Neutral.nat
    rw [decide_eq_true (by omega), decide_eq_true (by omega)]
    rfl
  have one : ∀ (q : Int) (y : Nat → Uw60.Call), Uw60Neutral.nat q = true → (∀ k, Uw60Neutral.callIn [q.toNat, k] = some (y k)) → Uw60Neutral.callOf [q, (n : Int)] = some (y n) := by
    intro q y hq hy
    unfold Uw60Neutral.callOf
    have e : ([q, (n : Int)] : List Int).all Uw60Neutral.nat = true := by simp [hq, hnat]
    rw [if_neg (by rw [e]; decide)]
    show Uw60Neutral.callIn [q.toNat, (n : Int).toNat] = _
    rw [Int.toNat_natCast, hy]
  rcases h with ⟨rfl, rfl⟩ | ⟨rfl, rfl⟩
  · exact goOn_of cs rfl (one 1 .names rfl fun _ => rfl)
  · exact goOn_of cs rfl (one 3 .makes rfl fun _ => rfl)
/-- what is asked: the calls, the whole answer's length -/
theorem asked_of {ns : List Int} (h : PyUw60.answers_asked ns = true) : ∃ cs, PyFlat.calls PyUw60.shape ns.length ns = some cs ∧ PyUw60.answers ns = goOn Uw60Neutral.start cs ∧ (PyUw60.answers ns).length ≤ 10000000 := by
  unfold PyUw60.answers_asked at h
  cases e : PyFlat.calls PyUw60.shape ns.length ns with
  | none => rw [e] at h; cases h
  | some cs =>
    rw [e] at h
    refine ⟨cs, rfl, ?_, ?_⟩
    · unfold PyUw60.answers PyUw60.calls
      rw [e]
      rfl
    · have h2 := (Bool.and_eq_true _ _ ▸ h : _ ∧ _).2
      unfold PyFlat.short at h2
      exact of_decide_eq_true h2
theorem calls_nil (f : Nat) : PyFlat.calls PyUw60.shape f [] = some [] := by
  cases f <;> rfl
theorem calls_zero {p : Int} {r : List Int} : PyFlat.calls PyUw60.shape 0 (p :: r) = none := rfl
end NT
namespace NW
open PySem PySem.Spec PyProof.Rows L2
open NT
/-- the program's statements, by their places -/
def topS (i : Nat) : Stmt := PySem.Challenge.pw_namedinturn_s01_answers.main.body.getD i (.Pass ⟨0, 0, 0, 0⟩)
/-- flags, numbers as values -/
def bV (b : Bool) : V := V.int (bi b)
def fV (m : List Bool) : List V := m.map bV
def nV (l : List Nat) : List V := l.map fun n => V.int (n : Nat)
theorem fV_len (m : List Bool) : (fV m).length = m.length := by simp [fV]
theorem nV_len (l : List Nat) : (nV l).length = l.length := by simp [nV]
theorem fV_get {m : List Bool} {v : Nat} (h : v < m.length) : (fV m)[v]? = some (bV (m.getD v false)) := by
  unfold fV
  rw [List.getElem?_map, List.getD_eq_getElem?_getD, List.getElem?_eq_getElem h]
  rfl
theorem fV_set (m : List Bool) (v : Nat) (b : Bool) : (fV m).set v (bV b) = fV (m.set v b) := by
  unfold fV
  rw [List.map_set]
theorem lineN {n : Nat} (h : n ≤ 16777216) : n ≤ sizeLine := by rw [sizeLine_eq]; exact h
theorem lineL {n : Nat} (h : n < 16777216) : n < sizeLine := by rw [sizeLine_eq]; exact h
theorem same_upd {H H' : Hp} {p : Addr} {o : HO} (s : Same H H') (h : H p = Option.none) : Same H (upd H' p o) := fun b u e => by
  rw [upd_ne (ne_of_none e h)]
  exact s b u e
theorem same_new {H : Hp} {p : Addr} {o : HO} (h : H p = Option.none) : Same H (upd H p o) := same_upd (Same.refl H) h
theorem same_seqT {K : PySem.W.Frag} {H H' : Hp} {a : Addr} {xs : List V} (e : Same H H') (h : SqT K H a xs) : SqT K H' a xs := by
  rcases h with (h | ⟨o, h⟩) | h
  · exact .inl (.inl (e _ _ h))
  · exact .inl (.inr ⟨o, e _ _ h⟩)
  · exact .inr h
theorem bV_one (b : Bool) : (if decide (bV b = V.int 1) = true then (1 : Nat) else 0) = if b = true then 1 else 0 := by
  cases b <;> rfl
theorem dec_one (b : Bool) : decide (bV b = V.int 1) = b := by cases b <;> decide
theorem dec_zero (b : Bool) : decide (bV b = V.int 0) = !b := by cases b <;> decide
theorem ixN_of {n j : Nat} {k : Int} (e : k = (j : Int)) (h : j < n) : ixN n k = some j := by
  subst e
  unfold ixN
  rw [if_pos (by omega), if_pos (by omega)]
  congr 1
end NW
namespace NW
open PySem PySem.Spec PyProof.Rows L2
open NT
/-- with_named -/
abbrev sWith : Stmt := topS 4
def spWith (K : PySem.W.Frag) : Sp := fun vs H Q _ => ∃ (a : Addr) (m : List Bool) (g : Nat), vs = [.ref a, .int (g : Nat)] ∧ SqT K H a (fV m) ∧ 1 ≤ g ∧ g ≤ 10000 ∧ m.length ≤ 10000 ∧
  ∀ H' p, Same H H' → H p = none → H' p = some (.tup (fV (wn m g))) → Q (.ref p) H'
structure TxtW (mg : Str → Option Value) : Prop where
  list : mg "list" = none
  range : mg "range" = none
  len : mg "len" = none
  tuple : mg "tuple" = none
section
variable {P : Program} {w : World} {K : PySem.W.Frag} {mg : Str → Option Value} {base : Heap}
theorem scWith : FnScope ["made", "number", "found", "v"] ["made", "number"] (defScope sWith) := ⟨rfl, rfl, rfl, by decide +kernel, rfl, by decide +kernel, by decide +kernel⟩
theorem ok_with {f : Addr} {fd : FuncData} (F : Fun K "with_named" "with_named" sWith f fd) (T : TxtW mg) : FnOk P w K mg base CX0 1 f fd ["made", "number"] (spWith K) := by
  refine F.ok scWith (fun vs H Q E h => ?_) (fun cdv A outer s H vs Q E hr h => ?_)
  · obtain ⟨a, m, g, rfl, _⟩ := h
    rfl
  · obtain ⟨a, m, g, rfl, hT, g1, g2, hm, k⟩ := h
    refine ⟨_, pss_cons (ps_set (i := 2) scWith.nd rfl (Or.inl rfl) (pe_callTy call_list_of (by rfl) T.list (by decide +kernel) (pa_cons (pv 0) pa_nil)))
      (pss_cons (ps_for PassesOwn.never rfl (pi_range2 (by rfl) T.range (pa_cons (pv 1) (pa_cons (pe_callB call_len_seq (by rfl) T.len PySem.boot_len (pa_cons (pv 2) pa_nil)) pa_nil))) (pg_name (i := 3) scWith.nd rfl (Or.inl rfl))
        (pss_one (ps_if (pt_cmpR op_eq (pe_ix ix_list (pv 2) (pe_op op_sub (pv 3) (pv 1)) (fun _ _ => rfl)) pe_int (nomark _))
          (pss_one (ps_asg pe_int (pg_sub (pv 2) (pv 3) set_list))) pss_nil)))
      (pss_one (ps_ret (pe_callTy call_tuple_of (by rfl) T.tuple (by decide +kernel) (pa_cons (pv 2) pa_nil))))), ?_⟩
    -- found = list(made)
    refine ⟨_, rfl, a, _, rfl, .inr hT, fun l hl => ?_⟩
    -- for v in range(number, len(found))
    refine ⟨_, rfl, _, rfl, l, _, rfl, .inl (SqL.of upd_same), (g : Int), ((fV m).length : Int), rfl, ⟨by omega, by omega, by omega, by rw [fV_len]; omega⟩, ?_⟩
    refine for_range (lo := (g : Int)) (n := (((fV m).length : Int) - (g : Int)).toNat) (fun i σ H' => ∃ v : Option V, σ = [some (.ref a), some (.int (g : Nat)), some (.ref l), v] ∧ Same H H' ∧ H' l = some (.lst (fV (part m g i)))) ?_ ?_ ?_
    · exact ⟨none, rfl, same_new hl, by rw [part_zero]; exact upd_same⟩
    · rintro i σ H' hi ⟨v, rfl, sm, hL⟩
      rw [fV_len] at hi
      have e1 : ((g : Int) + (i : Int)) - (g : Int) = ((i : Nat) : Int) := by omega
      have e2 : ((g : Int) + (i : Int)) = (((g + i : Nat)) : Int) := by omega
      have hz := part_get (m := m) (g := g) (i := i) g1 (by omega)
      refine ⟨_, rfl, _, rfl, _, rfl, _, _, rfl, rfl, l, _, _, bV (W (fun v => m.getD v false) g i), rfl, rfl, SqL.of hL, at_of e1 ?_, rfl, _, rfl, ?_⟩
      · unfold fV
        rw [List.getElem?_map, hz]
        rfl
      · rw [dec_one]
        cases q : W (fun v => m.getD v false) g i with
        | true =>
          refine iteT ?_
          refine ⟨_, rfl, _, rfl, l, _, _, g + i, rfl, rfl, hL, ixN_of e2 (by rw [fV_len, part_len]; omega), ?_⟩
          refine ⟨_, rfl, same_upd sm hl, ?_⟩
          rw [upd_same]
          congr 2
          exact (fV_set _ _ true).trans (congrArg fV (part_yes g1 q))
        | false =>
          refine iteF ?_
          exact ⟨_, rfl, sm, by rw [← part_no g1 q]; exact hL⟩
    · rintro σ H' ⟨v, rfl, sm, hL⟩
      -- return tuple(found)
      refine ⟨_, rfl, l, _, rfl, .inl ⟨SqL.of hL, fun p hp => ?_⟩⟩
      refine k _ p (same_upd sm (sm.free hp)) (sm.free hp) ?_
      rw [upd_same]
      congr 2
      rw [fV_len, show ((m.length : Int) - (g : Int)).toNat = m.length - g by omega, part_end]
end
end NW
/-! Rules that the layer lacks: a tuple times any number from 1 on; a display with one tuple key; list(reversed(a list)); sorted of tuples of ints by their sums, the greatest first. -/
namespace NW
open PySem PySem.Spec PyProof.Rows L2

/-! ### tuple * int -/
theorem tuple_mul_one (l : Addr) (items : Array Value) (n : Nat) (dd : Option Addr) (sl : Array (Option Value)) (u : Tok) :
    Meets (Builtin.«tuple.__mul__» ⟨[.ref l, .int 1 u], []⟩) (fun _ R s => s.heap.get? l = some { cls := .type "tuple", dict := dd, data := .seq items n, slots := sl } ∧ R (.ok (.ret (Value.ref l))) s) :=
  .of_wp fun prog w A R s h => by
    obtain ⟨hp, g, d, tk, os⟩ := s
    obtain ⟨hl, h⟩ := h
    have f1 := AutoSeq1.idx_int
    have c1 : (items.isEmpty || (1 : Int) == 1) = true := by
      rw [Bool.or_eq_true]
      exact .inr rfl
    wp_walk using wpAny_loadPart' hl
    repeat (first
      | (refine wpAny_ite_true (decide_eq_true c1) ?_; wp_walk using wpAny_loadPart' hl))
    exact ⟨_, rfl, h⟩

/-- a tuple times a number from 1 on: itself, or a new one -/
def rTimes (K : PySem.W.Frag) : R2 := fun x y H Q => ∃ (l : Addr) (k : Nat) (xs : List V), x = .ref l ∧ y = .int (k : Nat) ∧ SqT K H l xs ∧ xs ≠ [] ∧ 1 ≤ k ∧ xs.length * k ≤ 1000000 ∧
  (k = 1 → Q (.ref l) H) ∧ (2 ≤ k → ∀ p, H p = none → Q (.ref p) (upd H p (.tup (List.replicate k xs).flatten)))
theorem op_times {X : Cx} : OpR X (binaryOp .Mult) (rTimes X.K) := by
  intro pins s σ H x y v u Q I rx ry h
  obtain ⟨l, k, xs, rfl, rfl, hT, hne, hk, hb, q1, q2⟩ := h
  cases rx
  obtain ⟨t, rfl⟩ := ry
  obtain ⟨its, r, ⟨⟨cls, dd, data, sl⟩, ho, hc, n, hd⟩, hs⟩ := I.tuple hT
  simp only at hc hd
  subst hc hd
  have hlen : its.length = xs.length := r.length.symm
  by_cases one : k = 1
  · subst one
    refine wpAny_binaryOp_repeat_ref (T := "tuple") (U := "int") (by decide) ⟨_, ho, rfl⟩ (fun s' => typeIs_int s' _ t) noFill_tuple_mul F.fills_int_mul F.slot_int_rmul repeat_tuple F.slot_int_index.lookup ?_
    refine call_meets F.slot_int_rmul (typeIs_int s _ t) F.entry_int_rmul (F.args_int_rmul_2 _ _) (int_rmul_tuple _ t l its.toArray n dd sl) ⟨ho, rfl, ⟨_, ho, rfl⟩, ?_⟩
    refine call_meets F.slot_tuple_mul ⟨_, ho, rfl⟩ F.entry_tuple_mul (F.args_tuple_mul_2 _ _) (tuple_mul_one l its.toArray n dd sl t) ⟨ho, ?_⟩
    exact ⟨.ref l, H, I, rfl, q1 rfl⟩
  · have hk2 : 2 ≤ k := by omega
    have hx : 1 ≤ xs.length := by
      cases xs with
      | nil => exact absurd rfl hne
      | cons a b => simp
    have hkb : k ≤ 1000000 := Nat.le_trans (by
      have z := Nat.mul_le_mul_right k hx
      rw [Nat.one_mul] at z
      exact z) hb
    have hz : (its.toArray.size : Nat) = xs.length := by rw [List.size_toArray, hlen]
    have hem : its.toArray.isEmpty = false := by
      cases its with
      | nil => rw [List.length_nil] at hlen; omega
      | cons a b => rfl
    have hm : ((its.toArray.size : Nat) : Int) * ((k : Nat) : Int) ≤ 1000000 := by
      rw [hz, ← Int.natCast_mul]
      omega
    have lf : (List.replicate k its).flatten.length ≤ sizeLine := by
      rw [lm_len_rep_flat, hlen, sizeLine_eq, Nat.mul_comm]
      omega
    have c0 : (decide (((k : Nat) : Int) < -(2 ^ 63)) || decide (((k : Nat) : Int) ≥ 2 ^ 63)) = false := by
      rw [decide_eq_false (by omega), decide_eq_false (by omega)]
      rfl
    have c1 : (its.toArray.isEmpty || ((k : Nat) : Int) == 1) = false := by
      rw [hem, Bool.false_or, beq_eq_false_iff_ne]
      omega
    have c2 : (decide (((k : Nat) : Int) ≤ 0) || its.toArray.isEmpty) = false := by
      rw [hem, Bool.or_false, decide_eq_false (by omega)]
    have c4 : Builtin.Tuple.tupleTooMany (((its.toArray.size : Nat) : Int) * ((k : Nat) : Int)) = false := by
      unfold Builtin.Tuple.tupleTooMany
      rw [sizeLine_eq, decide_eq_false (by omega)]
    have e0 : (((k : Nat) : Int)).toNat = k := Int.toNat_natCast k
    refine wpAny_binaryOp_repeat_ref (T := "tuple") (U := "int") (by decide) ⟨_, ho, rfl⟩ (fun s' => typeIs_int s' _ t) noFill_tuple_mul F.fills_int_mul F.slot_int_rmul repeat_tuple F.slot_int_index.lookup ?_
    refine call_meets F.slot_int_rmul (typeIs_int s _ t) F.entry_int_rmul (F.args_int_rmul_2 _ _) (int_rmul_tuple _ t l its.toArray n dd sl) ⟨ho, rfl, ⟨_, ho, rfl⟩, ?_⟩
    refine call_meets F.slot_tuple_mul ⟨_, ho, rfl⟩ F.entry_tuple_mul (F.args_tuple_mul_2 _ _) (tuple_mulW l its.toArray n dd sl _ t c0 c1 c2 (by omega) c4 (by rw [size_rep, List.size_toArray, e0]; exact lf)) ⟨ho, ?_⟩
    rw [size_rep, e0]
    refine ⟨.ref s.heap.objs.size, _, I.laid (t' := s.toks) (o := .tup (List.replicate k xs).flatten) (fun b ob q => Heap.get?_push_of_some _ q) (Nat.le_refl _) ⟨?_, _, r.rep k, IsTup.new _ _⟩, rfl, q2 hk2 _ (I.hok.fresh (Nat.le_refl _))⟩
    rw [lm_len_rep_flat, sizeLine_eq, Nat.mul_comm]
    omega

/-! ### {k: v}, k a tuple -/
def tDisp1 (tk tv : TE) : TE := fun σ H Q => ∀ p, H p = none → tk σ (upd H p (.dT [])) fun x H1 => tv σ H1 fun y H2 => H2 p = some (.dT []) ∧ ∃ (b : Addr) (k : List Key), x = .ref b ∧ H2 b = some (.tup (k.map kV)) ∧
  Q (.ref p) (upd H2 p (.dT [(k, y)]))
theorem pe_disp1 {X : Cx} {k v : Expr} {tk tv : TE} {pos : Pos} (hu : X.A.units < cLine) (hk : PE X k tk) (hv : PE X v tv) : PE X (.Dict [some k] [v] pos) (tDisp1 tk tv) := by
  refine ⟨fun pins s σ H Q I q => ?_⟩
  have hn := I.hok.fresh (Nat.le_refl s.heap.objs.size)
  have I1 := I.laid (a := s.heap.objs.size) (o := .dT []) (h' := s.heap.push { cls := .type "dict", data := .dict #[] }) (t' := s.toks) (fun _ _ q => Heap.get?_push_of_some _ q) (Nat.le_refl _) (dt_empty s.heap I.big)
  have hsh := zip_pairTrees [some k] [v] X.env pos rfl rfl
  have hp1 : pairTrees [some k] [v] X.env pos ≠ [] := fun e => by
    have := pairTrees_length [some k] [v] X.env pos rfl rfl
    rw [e] at this
    cases this
  have hp2 : (pairTrees [some k] [v] X.env pos).length ≤ 15 := by
    rw [pairTrees_length [some k] [v] X.env pos rfl rfl]
    show 1 ≤ 15
    decide
  rw [arm_eval_Dict, hsh, dictDisplay_pairs _ hp1 (by omega)]
  refine wpAny_bind (wpAny_standAt (wpAny_bind ?_))
  refine wpAny_subDictH (knd := tupleKind (mixKind X.prog X.w)) (Q := fun d s' => wpAny (model X.prog X.w) X.A (pure (Value.ref d)) (EP X pins σ Q) X.xe s') hu hp2 ?_
  refine pairTrees_cons_walk (thn (hk.run pins _ σ _ _ I1 (q _ hn)) fun u s1 ⟨x, H1, I2, rx, q1⟩ => thn (hv.run pins s1 σ H1 _ I2 q1) fun w2 s2 ⟨y, H2, I3, ry, hd, b, ks, ex, eb, q2⟩ => pairTrees_nil_walk ?_)
  subst ex
  obtain rfl : u = Value.ref b := rx
  obtain ⟨z, hdm, xs, rel, dd⟩ := dt_of I3.hok hd
  cases rel
  refine ⟨[(ks, b, w2)], ⟨rfl, rfl, key_of I3.hok eb, True.intro⟩, dd, fun h' tk' dd' hs => wpAny_pure ?_⟩
  obtain ⟨o, es, ep, ho, h2, h3, h4, _, h5⟩ := dd'
  refine ⟨.ref s.heap.objs.size, _, d_write (t' := tk') I3 (by rw [hd]; exact True.intro) hs ⟨o, ho⟩ (ob := .dT [(ks, y)]) ⟨lineN (show 1 ≤ 16777216 by decide), hdm, [(ks, b, w2)], .cons ⟨rfl, ?_, ry⟩ .nil, o, es, ep, ho, h2, h3, h4, h5⟩, rfl, q2⟩
  rw [upd_ne (ne_of eb hd (fun z => nomatch z))]
  exact eb

/-! ### sum of a tuple of ints, as a key -/
theorem preSum_take {its : List Value} {ns : List Int} (hi : IntsAre its ns) : ∀ j, j ≤ ns.length → preSum (fun i => ns.getD i 0) j = (ns.take j).sum
  | 0, _ => by rw [preSum, List.take_zero]; rfl
  | j + 1, h => by
    rw [preSum, preSum_take hi j (by omega), List.take_add_one, List.getElem?_eq_getElem (by omega), List.getD_eq_getElem?_getD, List.getElem?_eq_getElem (by omega)]
    show _ = (List.take j ns ++ [ns[j]]).sum
    rw [List.sum_append, List.sum_singleton]
    rfl
theorem sum_tup {prog : Program} {w : World} {A : Around} {E : Value → Shared → Prop} {s : Shared} {l : Addr} {its : List Value} {ns : List Int} {Q : Value → Shared → Prop} (hh : A.handled = none) (hl : IsTup s.heap l its.toArray) (hi : IntsAre its ns)
    (h : ∀ h' tk t', (∀ b o, s.heap.get? b = some o → h'.get? b = some o) → Q (.int ns.sum t') { s with heap := h', toks := tk }) : wpAny (model prog w) A (call (.builtin "sum") [.ref l]) Q E s := by
  refine call_sum_walkG (wpAny_pyIter_tuple (show s.heap.IsTuple l its.toArray from hl) ?_)
  have hlt : l < s.heap.objs.size := hl.lt
  have hlen := hi.length
  refine ⟨_, _, _, _, _, _, fun i => ns.getD i 0, rfl, Walks.tuple (A := A.in1) hh s.heap.objs.size l (Nat.ne_of_lt hlt) its.toArray, ⟨⟨_, Heap.get?_push_size _ rfl, rfl, rfl⟩, ?_⟩, fun b hb => ?_, fun i v hv => ?_, fun h' tk t' hk => ?_⟩
  · obtain ⟨o, ho, r⟩ := id hl
    exact ⟨o, Heap.get?_push_of_some _ ho, r⟩
  · show b < (s.heap.push _).objs.size
    rw [Heap.size_push]
    simp only [List.mem_cons, List.not_mem_nil, or_false] at hb
    rcases hb with rfl | rfl
    · exact Nat.lt_succ_self _
    · exact Nat.lt_succ_of_lt hlt
  · have hv' : its[i]? = some v := by simpa using hv
    have hi1 : i < its.length := (List.getElem?_eq_some_iff.mp hv').1
    obtain ⟨t, ht⟩ := hi.get i ns[i] (List.getElem?_eq_getElem (by omega))
    rw [hv'] at ht
    cases ht
    refine ⟨t, ?_⟩
    show Value.int ns[i] t = Value.int (ns.getD i 0) t
    rw [List.getD_eq_getElem?_getD, List.getElem?_eq_getElem (by omega)]
    rfl
  · have e : preSum (fun i => ns.getD i 0) its.toArray.size = ns.sum := by
      rw [List.size_toArray, hlen, preSum_take hi _ (Nat.le_refl _), List.take_length]
    rw [e]
    exact h h' tk t' fun b o q => hk b o (fun z => by
      have : b = s.heap.objs.size := by simpa using z
      rw [this] at q
      exact absurd (Heap.lt_size q) (Nat.lt_irrefl _)) (Heap.get?_push_of_some _ q)

/-! ### sorted(e, key=sum, reverse=True) -/
def tSortSum (K : PySem.W.Frag) (ta : TA) : TE := fun σ H Q => ta σ H fun vs H1 => ∃ (a : Addr) (bs : List (Addr × List Int)), vs = [.ref a] ∧ SqL K H1 a (bs.map fun b => V.ref b.1) ∧ (∀ b ∈ bs, H1 b.1 = some (.tup (b.2.map V.int))) ∧
  ∀ (ys : List (Addr × List Int)) (p : Addr), ys.Perm bs → ys.Pairwise (fun u v => v.2.sum ≤ u.2.sum) → H1 p = none → Q (.ref p) (upd H1 p (.lst (ys.map fun b => V.ref b.1)))
theorem each_refs : ∀ {bs : List (Addr × List Int)} {us : List Value}, Vals (bs.map fun b => V.ref b.1) us → PySem.W.EachIs (fun v (b : Addr × List Int) => v = Value.ref b.1) us bs
  | [], _, r => by
    rw [List.map_nil] at r
    cases r
    exact .nil
  | b :: bs, _, r => by
    rw [List.map_cons] at r
    cases r with
    | cons h t => exact .cons h (each_refs t)
theorem refs_each : ∀ {bs : List (Addr × List Int)} {us : List Value}, PySem.W.EachIs (fun v (b : Addr × List Int) => v = Value.ref b.1) us bs → Vals (bs.map fun b => V.ref b.1) us
  | _, _, .nil => .nil
  | _, _, .cons h t => .cons h (refs_each t)
theorem pe_sortSum {X : Cx} {e : Expr} {ta : TA} {p p2 p3 pos k1 k2 : Pos} {j : Nat} (hc : X.calm = true) (hu : X.A.units + 64 < cLine) (hg : Gl X "sorted") (hm : X.mg "sorted" = none) (hg2 : Gl X "sum") (hm2 : X.mg "sum" = none) (ha : PA X [e] ta)
    (hs : backTo pos (starEach [e] X.env) = (false, eval e X.env) :: backTo pos (starEach [] X.env) := by rfl) (hpl : (backTo pos (starEach [e] X.env)).any (·.1) = false := by rfl) :
    PE X (.Call (.Name "sorted" p) [e] [⟨some "key", .Name "sum" p2, k1⟩, ⟨some "reverse", .Constant (.bool true) j p3, k2⟩] pos) (tSortSum X.K ta) := by
  refine ⟨fun pins s σ H Q I h => ?_⟩
  refine wpAny_Call_Name_kw (ld_blt I hg hm (show bootBuiltins "sorted" = some (.builtin "sorted") by decide +kernel) ?_)
  refine PyProof.Rows.callWith_kw ?_ hs hpl (by rfl) (by rfl)
  refine thn (ha.run pos pins s σ H _ I h) fun us s1 ⟨vs, H1, I1, r1, q1⟩ => ?_
  obtain ⟨a, bs, rfl, hL, hT, q⟩ := q1
  obtain rfl := Vals.ref1 r1
  show wpAny _ _ (evalAll [do let v ← eval (.Name "sum" p2) X.env; standAt pos; pure v, do let v ← eval (.Constant (.bool true) j p3) X.env; standAt pos; pure v]) _ _ s1
  refine wpAny_evalAll_cons (wpAny_bind (ld_blt I1 hg2 hm2 (show bootBuiltins "sum" = some (.builtin "sum") by decide +kernel) (wpAny_bind (wpAny_standAt (wpAny_pure ?_)))))
  refine wpAny_evalAll_cons (wpAny_bind (Constant_bool (wpAny_bind (wpAny_standAt (wpAny_pure (wpAny_evalAll_nil ?_))))))
  show wpAny _ _ (call (.builtin "sorted") [.ref a] [(Str.ofString "key", .builtin "sum"), (Str.ofString "reverse", .bool true)]) _ _ s1
  obtain ⟨its, rv, hl, hz⟩ := I1.list hL
  have hh := I1.ok.hd hc
  refine PySem.W.sorted_key_data (b := true) (R := fun v (b : Addr × List Int) => v = Value.ref b.1) (fun b : Addr × List Int => .int b.2.sum) hl.isList (each_refs rv) (PySem.W.AllAlike.of fun _ _ => by simp [PySem.W.alike]) (PySem.W.Sortable.others fun _ => ⟨by simp, by simp⟩)
    (by rw [List.length_map] at hz; exact hz) (fun x _ => ?_) (PyProof.Rows.ksk_s2 _ _ _) (fun _ => PyProof.Rows.ksk_l2 _ _ _) (fun _ => PyProof.Rows.ksk_t5 _ _ _) (fun v x hR hx h tk kp => ?_) (fun out c h' tk kp hfr hD hlen eo => ?_)
  · have hd : (PyData.int x.2.sum).depth = 0 := by simp [PyData.depth]
    omega
  · subst hR
    obtain ⟨_, it2, rv2, ht⟩ := (show ObjOk X.prog X.w H1 s1.heap x.1 (.tup (x.2.map V.int)) from I1.hok _ _ (hT x hx))
    have ht' : IsTup h x.1 it2.toArray := by
      obtain ⟨o, ho, r⟩ := ht
      exact ⟨o, kp _ _ ho, r⟩
    refine sum_tup (s := { s1 with heap := h, toks := tk }) hh ht' rv2.ints fun h2 tk2 t2 k2 => ?_
    exact ⟨h2, tk2, rfl, k2, .int _ _⟩
  · rw [PySem.W.dataGe_int (fun b : Addr × List Int => b.2.sum)] at eo
    have pm := List.mergeSort_perm bs (fun a b : Addr × List Int => decide (b.2.sum ≤ a.2.sum))
    have so := List.pairwise_mergeSort (le := fun a b : Addr × List Int => decide (b.2.sum ≤ a.2.sum)) (fun a b c h1 h2 => by simp only [decide_eq_true_eq] at *; omega) (fun a b => by simp only [Bool.or_eq_true, decide_eq_true_eq]; omega) bs
    generalize bs.mergeSort (fun a b : Addr × List Int => decide (b.2.sum ≤ a.2.sum)) = ys at eo pm so
    have hz2 : (ys.map fun b => V.ref b.1).length ≤ sizeLine := by
      rw [List.length_map, pm.length_eq]
      rw [List.length_map] at hz
      exact hz
    refine ⟨.ref _, upd H1 (s1.heap.objs.size + 1) (.lst (ys.map fun b => V.ref b.1)), I1.laid (t' := tk) kp (Nat.le_succ _) ⟨hz2, out, c, refs_each eo, hD⟩, rfl, q ys _ pm (so.imp fun h => by simpa using h) (I1.hok.fresh (Nat.le_succ _))⟩
end NW
/-! list(reversed(a list)) -/
namespace NW
open PySem PySem.Spec PyProof.Rows L2
section
variable {prog : Program} {w : World} {A : Around} {E : Value → Shared → Prop} {s : Shared}
theorem extend_rev {R : Result → Shared → Prop} {it l S : Addr} {items : Array Value} {c0 : Nat} (hh : A.handled = none) (hit : s.heap.IsRevIter it l ((items.size : Int) - 1)) (hl : s.heap.IsList l items) (hne : l ≠ it) (hn : items.size ≤ sizeLine)
    (hSi : S ≠ it) (hSl : S ≠ l) (hS : s.heap.get? S = some { cls := .type "list", data := .seq #[] c0 })
    (hR : ∀ (h' : Heap) (tk : Nat) (acc : Array Value) (c : Nat), (∀ b o, b ≠ it → b ≠ S → s.heap.get? b = some o → h'.get? b = some o) → h'.get? S = some { cls := .type "list", data := .seq acc c } → ItemsOf (fun i v => items[items.size - 1 - i]? = some v) acc items.size →
      R (.ok (.ret .none)) { s with heap := h', toks := tk }) :
    wpAny (model prog w) A.in1 (Builtin.List.listExtendWith (.ref S) (.ref it) .none)
      (fun fin s' => match fin with | .done f => R (.ok f) s' | .again c' => c'.quiet = true ∧ codeAny (model prog w) A c' R s') (fun e s' => R (.error e) s') s := by
  have W := (Walks.listRev (prog := prog) (w := w) (A := A.in1) hh it l hne items).toS
  have hSf : S ∉ [it, l] := by
    simp only [List.mem_cons, List.not_mem_nil, or_false, not_or]
    exact ⟨hSi, hSl⟩
  have hT : s.TypeIs (.ref it) "list_reverseiterator" := Heap.IsRevIter.typeIs (s := s) hit
  have h1 : Builtin.List.listSameRef (.ref S) (.ref it) = false := by simp [Builtin.List.listSameRef, hSi]
  unfold Builtin.List.listExtendWith
  refine wpAny_bind (wpAny_typeOf hT ?_)
  rw [if_neg (by rw [h1]; decide)]
  refine wpAny_bind (wpAny_pyIter_revIter (s := s) hit ?_)
  refine wpAny_bind (wpAny_holding ?_)
  unfold Builtin.List.listLengthHint
  refine wpAny_bind (wpAny_specialOf hT RT.nolen_lri ?_)
  show wpAny _ A.in1 (specialOf (Value.ref it) (Str.ofString "__length_hint__") >>= _) _ _ _
  refine wpAny_bind (wpAny_specialOf hT RT.hint_lri ?_)
  generalize hid : ("list_reverseiterator.__length_hint__" : String) = id0
  wp_delta
  rw [show splitId id0 = some ("list_reverseiterator", "__length_hint__") from by subst hid; decide +kernel]
  subst hid
  refine wpAny_bind (wpAny_isInstance (b := true) hT (by rw [isSubtype_type]; kernel_rfl) ?_)
  refine wpAny_pure ?_
  rw [if_neg (by decide)]
  have e0 : ((items.size : Nat) : Int) - 1 - ((0 : Nat) : Int) = (items.size : Int) - 1 := by omega
  refine wpAny_pure ⟨plainId_quiet F.plain_extend_loop _, codeAny_extend_loopS W hn _ hSf _ items.size 0 _ _ _ rfl (Nat.zero_le _) ⟨Nat.zero_le _, by rw [e0]; exact hit, hl⟩ hS (ItemsOf.nil _) fun s' acc' c' hm hS' hacc => ?_⟩
  rw [Moved.eq_with hm]
  refine hR s'.heap s'.toks acc' c' (fun b o hb hbS e => hm.heap b o (fun hmem => ?_) e) hS' hacc
  rcases List.mem_cons.mp hmem with e' | hmem
  · exact hbS e'
  · exact hb (List.mem_singleton.mp hmem)
theorem call_list_rev {it l : Addr} {items : Array Value} {Q : Value → Shared → Prop} (hh : A.handled = none) (hit : s.heap.IsRevIter it l ((items.size : Int) - 1)) (hl : s.heap.IsList l items) (hne : l ≠ it) (hn : items.size ≤ sizeLine)
    (hQ : ∀ (h' : Heap) (tk : Nat) (acc : Array Value) (c : Nat), (∀ b o, b ≠ it → s.heap.get? b = some o → h'.get? b = some o) → h'.get? s.heap.objs.size = some { cls := .type "list", data := .seq acc c } → ItemsOf (fun i v => items[items.size - 1 - i]? = some v) acc items.size →
      Q (.ref s.heap.objs.size) { s with heap := h', toks := tk }) :
    wpAny (model prog w) A (call (.type "list") [.ref it]) Q E s := by
  obtain ⟨oi, hoi, _⟩ := id hit
  obtain ⟨ol, hol, _⟩ := id hl
  have li : it < s.heap.objs.size := Heap.lt_size hoi
  have ll : l < s.heap.objs.size := Heap.lt_size hol
  refine callType_codes (Q₁ := fun obj s₁ => obj = .ref s.heap.objs.size ∧ s₁ = { s with heap := s.heap.push { cls := .type "list", data := .seq #[] } }) F.called_list (F.typeCall_list_1 _) F.entry_list_init (code_list_new _ ⟨rfl, rfl⟩) fun obj s₁ h₁ => ?_
  obtain ⟨rfl, rfl⟩ := h₁
  have hS : (s.heap.push { cls := .type "list", data := .seq #[] }).get? s.heap.objs.size = some { cls := .type "list", data := .seq #[] } := Heap.get?_push_size _ rfl
  refine ⟨⟨_, hS, rfl⟩, F.args_list_init_2 _ _, ?_⟩
  show wpAny _ A.in1.in1 (do let old ← Builtin.List.listItems (.ref s.heap.objs.size); Builtin.List.listUpdate (.ref s.heap.objs.size) (fun _ => #[]); letGo old.toList.reverse; Builtin.List.listExtendWith (.ref s.heap.objs.size) (.ref it) .none) _ _ _
  refine wpAny_bind ?_
  unfold Builtin.List.listItems
  refine wpAny_bind (wpAny_seqItems hS rfl (wpAny_pure ?_))
  show wpAny _ A.in1.in1 (updateSeq s.heap.objs.size (fun _ => #[]) >>= fun _ => letGo (#[] : Array Value).toList.reverse >>= fun _ => Builtin.List.listExtendWith (.ref s.heap.objs.size) (.ref it) .none) _ _ _
  refine wpAny_bind (wpAny_updateSeq hS rfl ?_)
  have hS2 := Heap.get?_update_self (Obj.mapSeq (fun _ => (#[] : Array Value))) hS rfl
  have oth : ∀ b o, s.heap.get? b = some o → ((s.heap.push { cls := .type "list", data := .seq #[] }).update s.heap.objs.size (Obj.mapSeq (fun _ => (#[] : Array Value)))).get? b = some o := fun b o e =>
    (Heap.get?_update_other _ _ (Nat.ne_of_gt (Heap.lt_size e))).trans (Heap.get?_push_of_some _ e)
  refine wpAny_bind (wpAny_letGo ?_)
  refine extend_rev (A := A.in1) hh (hit.at fun o e => oth _ _ e) (hl.at fun o e => oth _ _ e) hne hn (Nat.ne_of_gt li) (Nat.ne_of_gt ll) hS2 fun h' tk acc c hk hS' hacc => ?_
  exact ⟨rfl, hQ h' tk acc c (fun b o hb e => hk b o hb (Nat.ne_of_lt (Heap.lt_size e)) (oth b o e)) hS' hacc⟩
end
/-- list(reversed(x)), x a list: a new list -/
def tLstRev (K : PySem.W.Frag) (te : TE) : TE := fun σ H Q => te σ H fun v H1 => ∃ (a : Addr) (xs : List V), v = .ref a ∧ SqL K H1 a xs ∧ ∀ q, H1 q = none → Q (.ref q) (upd H1 q (.lst xs.reverse))
theorem pe_lstRev {X : Cx} {e : Expr} {te : TE} {p p2 pos pos2 : Pos} (hc : X.calm = true) (hg : Gl X "list") (hm : X.mg "list" = none) (hg2 : Gl X "reversed") (hm2 : X.mg "reversed" = none) (he : PE X e te)
    (hs : starEach [e] X.env = (false, eval e X.env) :: starEach [] X.env := by rfl)
    (hs2 : starEach [.Call (.Name "reversed" p2) [e] [] pos2] X.env = (false, eval (.Call (.Name "reversed" p2) [e] [] pos2) X.env) :: starEach [] X.env := by rfl) :
    PE X (.Call (.Name "list" p) [.Call (.Name "reversed" p2) [e] [] pos2] [] pos) (tLstRev X.K te) := by
  refine ⟨fun pins s σ H Q I h => ?_⟩
  refine Call_ (ld_blt I hg hm boot_list (callWith_type1 (args_cons (Call_ (ld_blt I hg2 hm2 boot_reversed (callWith_type1 (args_cons (thn (he.run pins s σ H _ I h) fun u s1 ⟨v, H1, I1, r1, q1⟩ => args_nil ?_) hs) hs rfl))) hs2) hs2 rfl))
  obtain ⟨a, xs, ev, hq, q⟩ := q1
  subst ev
  obtain rfl : u = Value.ref a := r1
  obtain ⟨its, rv, p', hz⟩ := I1.list hq
  refine call_reversed_list p'.isList (args_nil ?_)
  have k0 : ∀ b o, s1.heap.get? b = some o → (s1.heap.push (revObj a ((its.toArray.size : Int) - 1))).get? b = some o := fun b o e => Heap.get?_push_of_some _ e
  have I2 : Inv X pins σ H1 { s1 with heap := s1.heap.push (revObj a ((its.toArray.size : Int) - 1)) } := I1.kept (t' := s1.toks) k0
  have hl := p'.isList
  obtain ⟨ol, hol, _⟩ := id hl
  have hne : a ≠ s1.heap.objs.size := Nat.ne_of_lt (Heap.lt_size hol)
  have hn : its.toArray.size ≤ sizeLine := by rw [List.size_toArray, ← rv.length]; exact hz
  refine call_list_rev (s := { s1 with heap := s1.heap.push (revObj a ((its.toArray.size : Int) - 1)) }) (I1.ok.hd hc) ⟨_, Heap.get?_push_size _ rfl, rfl, rfl⟩ (hl.push _) hne hn fun h' tk acc c hk hD hi => ?_
  have hfr : H1 (s1.heap.objs.size + 1) = none := I1.hok.fresh (Nat.le_succ _)
  have hD' : h'.get? (s1.heap.objs.size + 1) = some { cls := .type "list", data := .seq acc c } := by
    have z : (s1.heap.push (revObj a ((its.toArray.size : Int) - 1))).objs.size = s1.heap.objs.size + 1 := Heap.size_push _ _
    rw [← z]
    exact hD
  have hac : acc.toList.length = xs.length := by
    rw [Array.length_toList, hi.1, List.size_toArray, rv.length]
  have vr : Vals xs.reverse acc.toList := RT.vals_rev rv hi
  have e1 : (s1.heap.push (revObj a ((its.toArray.size : Int) - 1))).objs.size = s1.heap.objs.size + 1 := Heap.size_push _ _
  have I3 := I2.laid (a := s1.heap.objs.size + 1) (o := .lst xs.reverse) (h' := (s1.heap.push (revObj a ((its.toArray.size : Int) - 1))).push { cls := .type "list", data := .seq acc c }) (t' := s1.toks) (fun b o e => Heap.get?_push_of_some _ e) (Nat.le_of_eq e1)
    ⟨by rw [List.length_reverse]; exact hz, acc.toList, c, vr, by rw [Array.toArray_toList, ← e1]; exact Heap.get?_push_size _ rfl⟩
  have nI : s1.heap.objs.size ≠ s1.heap.objs.size + 1 := Nat.ne_of_lt (Nat.lt_succ_self _)
  obtain ⟨f0, f1, f2, f3, f4, f5⟩ := I1.fpOk (H' := upd H1 (s1.heap.objs.size + 1) (.lst xs.reverse)) (b := s1.heap.objs.size) (Nat.le_refl _) (by rw [upd_ne nI]; exact I1.hok.fresh (Nat.le_refl _))
  have I4 := I3.turned (h' := h') (t' := tk) (it := s1.heap.objs.size) (fun b o hb e => by
    by_cases z : b = s1.heap.objs.size + 1
    · subst z
      have q2 : ((s1.heap.push (revObj a ((its.toArray.size : Int) - 1))).push { cls := .type "list", data := .seq acc c }).get? (s1.heap.objs.size + 1) = some { cls := .type "list", data := .seq acc c } := by
        rw [← e1]
        exact Heap.get?_push_size _ rfl
      have e' := e
      rw [q2] at e'
      rw [hD', e']
    · refine hk b o hb ?_
      have q3 := Heap.get?_push_ne (s1.heap.push (revObj a ((its.toArray.size : Int) - 1))) b { cls := .type "list", data := .seq acc c } (by rw [e1]; exact z)
      rw [← q3]
      exact e) f0 f1 f3 f4 f5
  refine ⟨.ref (s1.heap.objs.size + 1), _, I4, ?_, q _ hfr⟩
  show Value.ref _ = Value.ref _
  rw [e1]
end NW
namespace NW
open PySem PySem.Spec PyProof.Rows L2
open NT
/-! ### sums.py -/
abbrev sNone : Stmt := topS 3
abbrev sFlags : Stmt := topS 5
abbrev sLeft : Stmt := topS 6
abbrev sCd : Stmt := topS 7
abbrev sDiv : Stmt := topS 8
abbrev sAll : Stmt := topS 9
def spNone : Sp := fun vs H Q _ => ∃ n : Nat, vs = [.int (n : Nat)] ∧ 1 ≤ n ∧ n ≤ 9000 ∧ ∀ H' p, Same H H' → H p = none → H' p = some (.tup (fV (flags [] n))) → Q (.ref p) H'
/-- what is left, not to be looked into -/
@[irreducible] def gp (l : List Nat) : List Nat := Uw60.gaps l
theorem gp_eq (l : List Nat) : gp l = Uw60.gaps l := by
  unfold gp
  rfl
/-- numbers that may be named, as they lie in a list -/
structure NamedAt (K : PySem.W.Frag) (H : Hp) (a : Addr) (l : List Nat) : Prop where
  at_ : SqL K H a (nV l)
  low : ∀ x ∈ l, 2 ≤ x
  high : ∀ x ∈ l, x ≤ 40
  len : l.length ≤ 12
theorem NamedAt.same {K : PySem.W.Frag} {H H' : Hp} {a : Addr} {l : List Nat} (N : NamedAt K H a l) (s : Same H H') : NamedAt K H' a l := ⟨s.seq N.at_, N.low, N.high, N.len⟩
def spFlags (K : PySem.W.Frag) : Sp := fun vs H Q _ => ∃ (a : Addr) (l : List Nat) (n : Nat), vs = [.ref a, .int (n : Nat)] ∧ NamedAt K H a l ∧ 1 ≤ n ∧ n ≤ 9000 ∧ ∀ H' p, Same H H' → H p = none → H' p = some (.tup (fV (flags l n))) → Q (.ref p) H'
def spLeft (K : PySem.W.Frag) : Sp := fun vs H Q _ => ∃ (a : Addr) (m : List Bool), vs = [.ref a] ∧ SqT K H a (fV m) ∧ m.length ≤ 10000 ∧ ∀ H' p, Same H H' → H p = none → H' p = some (.lst (nV (lf m))) → Q (.ref p) H'
def spCd : Sp := fun vs H Q _ => ∃ (x y : Nat), vs = [.int (x : Nat), .int (y : Nat)] ∧ Q (.int (Nat.gcd x y : Nat)) H
def spDiv (K : PySem.W.Frag) : Sp := fun vs H Q _ => ∃ (a : Addr) (l : List Nat), vs = [.ref a] ∧ SqL K H a (nV l) ∧ Q (.int (gd l : Nat)) H
def spAll (K : PySem.W.Frag) : Sp := fun vs H Q _ => ∃ (a : Addr) (l : List Nat), vs = [.ref a] ∧ NamedAt K H a l ∧ ∀ H' p, Same H H' → H p = none → H' p = some (.lst (nV (gp l))) → Q (.ref p) H'
theorem nV_get {l : List Nat} {i : Nat} {y : V} (h : (nV l)[i]? = some y) : ∃ x, l[i]? = some x ∧ y = V.int (x : Nat) := by
  unfold nV at h
  rw [List.getElem?_map] at h
  cases e : l[i]? with
  | none => rw [e] at h; cases h
  | some x =>
    rw [e] at h
    exact ⟨x, rfl, (Option.some.inj h).symm⟩
theorem take_more {α : Type} {l : List α} {i : Nat} {x : α} (h : l[i]? = some x) : l.take (i + 1) = l.take i ++ [x] := by
  rw [List.take_add_one, h]
  rfl
theorem wn_fit (m : List Bool) (g : Nat) : (fV (wn m g)).length = m.length := by rw [fV_len, wn_len]
section
variable {P : Program} {w : World} {K : PySem.W.Frag} {mg : Str → Option Value} {base : Heap}
theorem scNone : FnScope ["most"] ["most"] (defScope sNone) := ⟨rfl, rfl, rfl, by decide +kernel, rfl, by decide +kernel, by decide +kernel⟩
theorem ok_none {f : Addr} {fd : FuncData} (F : Fun K "flags_of_none" "flags_of_none" sNone f fd) : FnOk P w K mg base CX0 1 f fd ["most"] spNone := by
  refine F.ok scNone (fun vs H Q E h => ?_) (fun cdv A outer s H vs Q E hr h => ?_)
  · obtain ⟨n, rfl, _⟩ := h
    rfl
  · obtain ⟨n, rfl, n1, n2, k⟩ := h
    refine ⟨_, pss_one (ps_ret (pe_op op_catT (pe_tup (pa_cons pe_int pa_nil)) (pe_op op_times (pe_tup (pa_cons pe_int pa_nil)) (pv 0)))), ?_⟩
    refine ⟨lineN (show 1 ≤ 16777216 by decide), fun p hp => ⟨lineN (show 1 ≤ 16777216 by decide), fun q hq => ⟨_, rfl, ?_⟩⟩⟩
    have hpq : p ≠ q := ne_of_none upd_same hq
    have eL : (List.replicate n [V.int 0]).flatten = fV (List.replicate n false) := by
      unfold fV
      rw [List.map_replicate]
      clear k n1 n2
      induction n with
      | zero => rfl
      | succ n ih => rw [List.replicate_succ, List.flatten_cons, ih, List.replicate_succ]; rfl
    have e1 : fV (flags [] n) = V.int 1 :: fV (List.replicate n false) := by rw [flags_nil]; rfl
    have fin : ∀ (H2 : Hp) (r : Addr), Same (upd (upd H p (.tup [.int 1])) q (.tup [.int 0])) H2 → SqT K H2 r (fV (List.replicate n false)) → rCatT K (.ref p) (.ref r) H2 Q := by
      intro H2 r sm hr2
      refine ⟨p, r, [.int 1], fV (List.replicate n false), rfl, rfl, SqT.of (sm _ _ (by rw [upd_ne hpq]; exact upd_same)), hr2, (by simp), ?_, fun e => ?_, fun _ z hz => ?_⟩
      · rw [fV_len, List.length_replicate]
        exact lineN (show 1 + n ≤ 16777216 by omega)
      · have := congrArg List.length e
        rw [fV_len, List.length_replicate] at this
        simp at this
        omega
      · have s0 : Same H (upd (upd H p (.tup [.int 1])) q (.tup [.int 0])) := (same_new hp).trans (same_new hq)
        refine k _ z (same_upd (s0.trans sm) ((s0.trans sm).free hz)) ((s0.trans sm).free hz) ?_
        rw [upd_same, e1]
        rfl
    refine ⟨q, n, [.int 0], rfl, rfl, SqT.of upd_same, (by simp), n1, (by show 1 * n ≤ 1000000; omega), fun e => ?_, fun n2' z hz => ?_⟩
    · subst e
      exact fin _ q (Same.refl _) (SqT.of upd_same)
    · refine fin _ z (same_new hz) (SqT.of ?_)
      rw [upd_same, eL]
theorem scFlags : FnScope ["named", "most", "found", "number"] ["named", "most"] (defScope sFlags) := ⟨rfl, rfl, rfl, by decide +kernel, rfl, by decide +kernel, by decide +kernel⟩
theorem ok_flags {f fN fW : Addr} {fd fdN fdW : FuncData} (F : Fun K "flags_of" "flags_of" sFlags f fd) (GN : FnOk P w K mg base CX0 1 fN fdN ["most"] spNone) (mN : mg "flags_of_none" = some (.ref fN)) (kN : PySem.W.keepIn K (.ref fN) = true) (bN : Binds K fdN ["most"] [])
    (GW : FnOk P w K mg base CX0 1 fW fdW ["made", "number"] (spWith K)) (mW : mg "with_named" = some (.ref fW)) (kW : PySem.W.keepIn K (.ref fW) = true) (bW : Binds K fdW ["made", "number"] []) :
    FnOk P w K mg base CX0 2 f fd ["named", "most"] (spFlags K) := by
  refine F.ok scFlags (fun vs H Q E h => ?_) (fun cdv A outer s H vs Q E hr h => ?_)
  · obtain ⟨a, l, n, rfl, _⟩ := h
    rfl
  · obtain ⟨a, l, n, rfl, hN, n1, n2, k⟩ := h
    refine ⟨_, pss_cons (ps_set (i := 2) scFlags.nd rfl (Or.inl rfl) (pe_call GN hr (by rfl) mN kN bN .nil pass0 (pa_cons (pv 1) pa_nil)))
      (pss_cons (ps_for PassesOwn.never rfl (pi_list (pv 0)) (pg_name (i := 3) scFlags.nd rfl (Or.inl rfl))
        (pss_one (ps_set (i := 2) scFlags.nd rfl (Or.inl rfl) (pe_call GW hr (by rfl) mW kW bW .nil pass0 (pa_cons (pv 2) (pa_cons (pv 3) pa_nil))))))
      (pss_one (ps_ret (pv 2)))), ?_⟩
    refine ⟨_, rfl, n, rfl, n1, n2, fun H1 p s1 hp h1 => ?_⟩
    refine ⟨_, rfl, a, rfl, ⟨_, s1.seq hN.at_⟩, for_list (K := K) (a := a) (xs := nV l) (fun i σ H' => ∃ (v : Option V) (q : Addr), σ = [some (.ref a), some (.int (n : Nat)), some (.ref q), v] ∧ Same H H' ∧ H q = none ∧ H' q = some (.tup (fV (flags (l.take i) n))))
      ⟨none, p, rfl, s1, hp, h1⟩ (fun i σ H' _ ⟨_, _, _, sm, _⟩ => sm.seq hN.at_) ?_ ?_⟩
    · rintro i y σ H' hi ⟨v, q, rfl, sm, hq, hq'⟩
      obtain ⟨x, hx, rfl⟩ := nV_get hi
      have hxm : x ∈ l := List.mem_of_getElem? hx
      refine ⟨_, rfl, _, rfl, q, flags (l.take i) n, x, rfl, SqT.of hq', ?_, ?_, ?_, fun H2 r s2 hr2 h2 => ?_⟩
      · have := hN.low x hxm; omega
      · have := hN.high x hxm; omega
      · rw [flags_len]; omega
      · refine ⟨_, r, rfl, sm.trans s2, sm.free hr2, ?_⟩
        rw [take_more hx, flags_snoc]
        exact h2
    · rintro σ H' ⟨v, q, rfl, sm, hq, hq'⟩
      rw [nV_len, List.take_length] at hq'
      exact ⟨_, rfl, k _ q sm hq hq'⟩
/-- what left_in has found behind i turns -/
def lfi (m : List Bool) (i : Nat) : List Nat := ((List.range i).map (· + 2)).filter fun v => !m.getD v false
theorem lfi_end (m : List Bool) : lfi m (m.length - 2) = lf m := rfl
theorem lfi_succ (m : List Bool) (i : Nat) : lfi m (i + 1) = if m.getD (i + 2) false = true then lfi m i else lfi m i ++ [i + 2] := by
  unfold lfi
  rw [List.range_succ, List.map_append, List.filter_append]
  cases q : m.getD (i + 2) false with
  | true => simp at q; simp [q]
  | false => simp at q; simp [q]
theorem lfi_len (m : List Bool) (i : Nat) : (lfi m i).length ≤ i := by
  unfold lfi
  refine Nat.le_trans (List.length_filter_le _ _) ?_
  simp
theorem nV_snoc (l : List Nat) (x : Nat) : nV (l ++ [x]) = nV l ++ [V.int (x : Nat)] := by
  unfold nV
  rw [List.map_append]
  rfl
structure TxtL (mg : Str → Option Value) : Prop where
  range : mg "range" = none
  len : mg "len" = none
  least : ∃ t, mg "LEAST_NAMED" = some (.int 2 t)
theorem scLeft : FnScope ["made", "v"] ["made"] (defScope sLeft) := ⟨rfl, rfl, rfl, by decide +kernel, rfl, by decide +kernel, by decide +kernel⟩
theorem ok_left {f : Addr} {fd : FuncData} (F : Fun K "left_in" "left_in" sLeft f fd) (T : TxtL mg) : FnOk P w K mg base CX0 1 f fd ["made"] (spLeft K) := by
  refine F.ok scLeft (fun vs H Q E h => ?_) (fun cdv A outer s H vs Q E hr h => ?_)
  · obtain ⟨a, m, rfl, _⟩ := h
    rfl
  · obtain ⟨a, m, rfl, hT, hm, k⟩ := h
    obtain ⟨t, mL⟩ := T.least
    refine ⟨_, pss_one (ps_ret (pe_lc (own := [("v", 1)]) (g := gName 1) (by rfl) scLeft.nd
      (pi_range2 (by rfl) T.range (pa_cons (pe_glob (v := .int 2) (by rfl) mL ⟨_, rfl⟩) (pa_cons (pe_callB call_len_seq (by rfl) T.len PySem.boot_len (pa_cons (pv 0) pa_nil)) pa_nil)))
      (blkOk_by (own := [("v", 1)]) (N := ["made", "v"]) (sc := defScope sLeft) (by decide +kernel)) (fun _ _ _ _ _ => pg_name (i := 1) scLeft.nd rfl (Or.inl rfl))
      (fun _ _ _ _ _ => pts_one (pt_cmpR op_eq (pe_ix (r := rIxT K) ix_tup (pv 0) (pv 1) (fun _ _ => rfl)) pe_int (nomark _))) (fun _ _ _ _ _ => pv 1))), ?_⟩
    have hl : (fV m).length = m.length := fV_len m
    refine ⟨_, rfl, a, _, rfl, .inr hT, 2, ((fV m).length : Int), rfl, ⟨by decide, by decide, by omega, by omega⟩, fun D hD => ?_⟩
    refine lc_range (lo := 2) (n := (((fV m).length : Int) - 2).toNat) (fun i H' => Same H H' ∧ H' D = some (.lst (nV (lfi m i)))) ⟨same_new hD, upd_same⟩ ?_ ?_
    · rintro i H' hi ⟨sm, hL⟩
      have hi' : i + 2 < m.length := by omega
      have e2 : ((2 : Int) + (i : Int)) = ((i + 2 : Nat) : Int) := by omega
      refine ⟨rfl, _, rfl, _, rfl, a, _, _, bV (m.getD (i + 2) false), rfl, rfl, same_seqT sm hT, at_of e2 (fV_get hi'), rfl, _, rfl, ?_⟩
      rw [dec_zero, lfi_succ]
      cases q : m.getD (i + 2) false with
      | true => exact iteF ⟨sm, hL⟩
      | false =>
        refine iteT ⟨_, rfl, _, hL, ?_, same_upd sm hD, ?_⟩
        · have := lfi_len m i
          rw [nV_len]
          exact lineL (by omega)
        · rw [upd_same, if_neg (by decide), nV_snoc, e2]
    · rintro H' ⟨sm, hL⟩
      refine k _ D sm hD ?_
      rw [hL, ← lfi_end]
      congr 4
      omega
theorem scCd : FnScope ["one", "other"] ["one", "other"] (defScope sCd) := ⟨rfl, rfl, rfl, by decide +kernel, rfl, by decide +kernel, by decide +kernel⟩
theorem ok_cd {f : Addr} {fd : FuncData} (F : Fun K "common_divisor" "common_divisor" sCd f fd) : FnOk P w K mg base CX0 1 f fd ["one", "other"] spCd := by
  refine F.ok scCd (fun vs H Q E h => ?_) (fun cdv A outer s H vs Q E hr h => ?_)
  · obtain ⟨x, y, rfl, _⟩ := h
    rfl
  · obtain ⟨x, y, rfl, k⟩ := h
    refine ⟨_, pss_cons (ps_while PassesOwn.never (pt_cmpR op_gt (pv 1) pe_int (nomark _))
        (pss_one (ps_par (i := 0) (j := 1) (by rfl) scCd.nd rfl rfl (by decide) rfl rfl (pa_cons (pv 1) (pa_cons (pe_op op_mod (pv 0) (pv 1)) pa_nil)) (by rfl))))
      (pss_one (ps_ret (pv 0))), ?_⟩
    refine ⟨fun n σ H' => ∃ a b : Nat, σ = [some (.int (a : Nat)), some (.int (b : Nat))] ∧ H' = H ∧ n = b ∧ Nat.gcd a b = Nat.gcd x y, ⟨y, x, y, rfl, rfl, rfl, rfl⟩, ?_⟩
    rintro n σ H' ⟨a, b, rfl, rfl, rfl, hg⟩
    refine ⟨_, rfl, _, _, rfl, rfl, _, rfl, ?_⟩
    by_cases c : (0 : Int) < (n : Int)
    · rw [decide_eq_true c]
      refine iteT ⟨fun σ' H2 => ∃ a' b' : Nat, σ' = [some (.int (a' : Nat)), some (.int (b' : Nat))] ∧ H2 = H' ∧ b' < n ∧ Nat.gcd a' b' = Nat.gcd x y, ?_, ?_⟩
      · rintro σ' H2 ⟨a', b', rfl, rfl, hb, hg'⟩
        exact ⟨b', hb, a', b', rfl, rfl, rfl, hg'⟩
      · refine ⟨_, rfl, _, rfl, _, rfl, _, _, rfl, rfl, c, _, _, rfl, n, a % n, rfl, rfl, Nat.mod_lt _ (by omega), ?_⟩
        rw [gcd_turn, hg]
    · rw [decide_eq_false c]
      have e : n = 0 := by omega
      subst e
      rw [Nat.gcd_zero_right] at hg
      subst hg
      exact iteF ⟨_, rfl, k⟩
theorem scDiv : FnScope ["named", "found", "number"] ["named"] (defScope sDiv) := ⟨rfl, rfl, rfl, by decide +kernel, rfl, by decide +kernel, by decide +kernel⟩
theorem ok_div {f fC : Addr} {fd fdC : FuncData} (F : Fun K "divisor_of" "divisor_of" sDiv f fd) (GC : FnOk P w K mg base CX0 1 fC fdC ["one", "other"] spCd) (mC : mg "common_divisor" = some (.ref fC)) (kC : PySem.W.keepIn K (.ref fC) = true) (bC : Binds K fdC ["one", "other"] []) :
    FnOk P w K mg base CX0 2 f fd ["named"] (spDiv K) := by
  refine F.ok scDiv (fun vs H Q E h => ?_) (fun cdv A outer s H vs Q E hr h => ?_)
  · obtain ⟨a, l, rfl, _⟩ := h
    rfl
  · obtain ⟨a, l, rfl, hL, k⟩ := h
    refine ⟨_, pss_cons (ps_set (i := 1) scDiv.nd rfl (Or.inl rfl) pe_int)
      (pss_cons (ps_for PassesOwn.never rfl (pi_list (pv 0)) (pg_name (i := 2) scDiv.nd rfl (Or.inl rfl))
        (pss_one (ps_set (i := 1) scDiv.nd rfl (Or.inl rfl) (pe_call GC hr (by rfl) mC kC bC .nil pass0 (pa_cons (pv 1) (pa_cons (pv 2) pa_nil))))))
      (pss_one (ps_ret (pv 1)))), ?_⟩
    refine ⟨_, rfl, a, rfl, ⟨_, hL⟩, for_list (K := K) (a := a) (xs := nV l) (fun i σ H' => ∃ v : Option V, σ = [some (.ref a), some (.int (gd (l.take i) : Nat)), v] ∧ H' = H)
      ⟨none, rfl, rfl⟩ (fun i σ H' _ ⟨_, _, e⟩ => by rw [e]; exact hL) ?_ ?_⟩
    · rintro i y σ H' hi ⟨v, rfl, rfl⟩
      obtain ⟨x, hx, rfl⟩ := nV_get hi
      refine ⟨_, rfl, _, rfl, gd (l.take i), x, rfl, some (.int (x : Nat)), ?_, rfl⟩
      rw [take_more hx]
      unfold gd
      rw [List.foldl_append]
      rfl
    · rintro σ H' ⟨v, rfl, rfl⟩
      rw [nV_len, List.take_length]
      exact ⟨_, rfl, k⟩
theorem scAll : FnScope ["named"] ["named"] (defScope sAll) := ⟨rfl, rfl, rfl, by decide +kernel, rfl, by decide +kernel, by decide +kernel⟩
theorem ok_all {f fF fL : Addr} {fd fdF fdL : FuncData} (F : Fun K "all_left" "all_left" sAll f fd) (GF : FnOk P w K mg base CX0 2 fF fdF ["named", "most"] (spFlags K)) (mF : mg "flags_of" = some (.ref fF)) (kF : PySem.W.keepIn K (.ref fF) = true) (bF : Binds K fdF ["named", "most"] [])
    (GL : FnOk P w K mg base CX0 1 fL fdL ["made"] (spLeft K)) (mL : mg "left_in" = some (.ref fL)) (kL : PySem.W.keepIn K (.ref fL) = true) (bL : Binds K fdL ["made"] []) (mA : ∃ t, mg "FARTHEST" = some (.int 1600 t)) :
    FnOk P w K mg base CX0 3 f fd ["named"] (spAll K) := by
  refine F.ok scAll (fun vs H Q E h => ?_) (fun cdv A outer s H vs Q E hr h => ?_)
  · obtain ⟨a, l, rfl, _⟩ := h
    rfl
  · obtain ⟨a, l, rfl, hN, k⟩ := h
    obtain ⟨t, mA⟩ := mA
    have hr1 : Room 1 _ := hr.mono (by decide)
    refine ⟨_, pss_one (ps_ret (pe_call GL hr1 (by rfl) mL kL bL .nil pass0 (pa_cons (pe_call GF hr (by rfl) mF kF bF .nil pass0 (pa_cons (pv 0) (pa_cons (pe_glob (v := .int 1600) (by rfl) mA ⟨_, rfl⟩) pa_nil))) pa_nil))), ?_⟩
    refine ⟨_, rfl, a, l, 1600, rfl, hN, by decide, by decide, fun H1 p s1 hp h1 => ?_⟩
    refine ⟨p, flags l 1600, rfl, SqT.of h1, by rw [flags_len]; decide, fun H2 q s2 hq h2 => ?_⟩
    refine k _ q (s1.trans s2) (s1.free hq) ?_
    rw [h2, gp_eq, gaps_eq (one_le hN.low)]
end
end NW
namespace NW
open PySem PySem.Spec PyProof.Rows L2
open NT
/-! ### enders.py -/
abbrev sMade : Stmt := topS 11
abbrev sEnder : Stmt := topS 12
def spMade (K : PySem.W.Frag) : Sp := fun vs H Q _ => ∃ (a : Addr) (m : List Bool) (g G : Nat), vs = [.ref a, .int (g : Nat), .int (G : Nat)] ∧ SqT K H a (fV m) ∧ 1 ≤ g ∧ g ≤ 10000 ∧ m.length ≤ 10000 ∧ G < m.length ∧
  ∀ H', Same H H' → Q (.bl ((wn m g).getD G false)) H'
/-- what ender_told answers -/
def enderL (m : List Bool) : List Int := match notBy m with
  | none => [1, ((lf m).getLastD 0 : Nat)]
  | some a => [0, ((lf m).getLastD 0 : Nat), (a : Nat)]
def spEnder (K : PySem.W.Frag) : Sp := fun vs H Q _ => ∃ (a : Addr) (m : List Bool), vs = [.ref a] ∧ SqT K H a (fV m) ∧ m.length ≤ 10000 ∧ lf m ≠ [] ∧ ∀ H' p, Same H H' → H p = none → H' p = some (.lst ((enderL m).map V.int)) → Q (.ref p) H'
theorem nV_last {l : List Nat} (h : l ≠ []) : atI (nV l) (-1) = some (V.int (l.getLastD 0 : Nat)) := by
  have e : l = l.dropLast ++ [l.getLastD 0] := by
    rw [List.getLastD_eq_getLast?, List.getLast?_eq_some_getLast h]
    exact (List.dropLast_concat_getLast h).symm
  have e2 : nV l = nV l.dropLast ++ [V.int (l.getLastD 0 : Nat)] := by
    rw [← nV_snoc, ← e]
  rw [e2]
  exact atI_last _ _
theorem cut_last (xs : List V) : cutV xs none (some (-1)) = xs.dropLast := by
  unfold cutV
  have e1 : HT.sIx xs.length 0 none = 0 := rfl
  have e2 : HT.sIx xs.length xs.length (some (-1)) = xs.length - 1 := by
    unfold HT.sIx
    dsimp only
    split <;> omega
  rw [e1, e2, List.drop_zero, Nat.sub_zero, List.dropLast_eq_take]
theorem nV_dropLast (l : List Nat) : (nV l).dropLast = nV l.dropLast := by
  unfold nV
  rw [List.map_dropLast]
theorem find_at {α : Type} {p : α → Bool} {l : List α} {i : Nat} {x : α} (h : (l.take i).find? p = none) (hx : l[i]? = some x) (hp : p x = true) : l.find? p = some x := by
  have e : l = l.take i ++ x :: l.drop (i + 1) := by
    obtain ⟨hi, e⟩ := List.getElem?_eq_some_iff.mp hx
    rw [← e, List.getElem_cons_drop, List.take_append_drop]
  rw [e, List.find?_append, h, Option.none_or, List.find?_cons, hp]
theorem find_next {α : Type} {p : α → Bool} {l : List α} {i : Nat} {x : α} (h : (l.take i).find? p = none) (hx : l[i]? = some x) (hp : p x = false) : (l.take (i + 1)).find? p = none := by
  rw [take_more hx, List.find?_append, h, Option.none_or, List.find?_cons, hp]
  rfl
section
variable {P : Program} {w : World} {K : PySem.W.Frag} {mg : Str → Option Value} {base : Heap}
theorem scMade : FnScope ["made", "number", "greatest"] ["made", "number", "greatest"] (defScope sMade) := ⟨rfl, rfl, rfl, by decide +kernel, rfl, by decide +kernel, by decide +kernel⟩
theorem ok_made {f fW : Addr} {fd fdW : FuncData} (F : Fun K "is_made_with" "is_made_with" sMade f fd) (GW : FnOk P w K mg base CX0 1 fW fdW ["made", "number"] (spWith K)) (mW : mg "with_named" = some (.ref fW)) (kW : PySem.W.keepIn K (.ref fW) = true) (bW : Binds K fdW ["made", "number"] []) :
    FnOk P w K mg base CX0 2 f fd ["made", "number", "greatest"] (spMade K) := by
  refine F.ok scMade (fun vs H Q E h => ?_) (fun cdv A outer s H vs Q E hr h => ?_)
  · obtain ⟨a, m, g, G, rfl, _⟩ := h
    rfl
  · obtain ⟨a, m, g, G, rfl, hT, g1, g2, hm, hG, k⟩ := h
    refine ⟨_, pss_one (ps_ret (pe_cmpR op_eq (pe_ix ix_tup (pe_call GW hr (by rfl) mW kW bW .nil pass0 (pa_cons (pv 0) (pa_cons (pv 1) pa_nil))) (pv 2) (fun _ _ => rfl)) pe_int (nomark _))), ?_⟩
    refine ⟨_, rfl, _, rfl, a, m, g, rfl, hT, g1, g2, hm, fun H1 p s1 hp h1 => ?_⟩
    refine ⟨_, rfl, p, _, _, bV ((wn m g).getD G false), rfl, rfl, SqT.of h1, atI_nat (fV_get (by rw [wn_len]; exact hG)), rfl, ?_⟩
    rw [dec_one]
    exact k _ s1
theorem scEnder : FnScope ["made", "left", "greatest", "number"] ["made"] (defScope sEnder) := ⟨rfl, rfl, rfl, by decide +kernel, rfl, by decide +kernel, by decide +kernel⟩
theorem ok_ender {f fL fM : Addr} {fd fdL fdM : FuncData} (F : Fun K "ender_told" "ender_told" sEnder f fd) (GL : FnOk P w K mg base CX0 1 fL fdL ["made"] (spLeft K)) (mL : mg "left_in" = some (.ref fL)) (kL : PySem.W.keepIn K (.ref fL) = true) (bL : Binds K fdL ["made"] [])
    (GM : FnOk P w K mg base CX0 2 fM fdM ["made", "number", "greatest"] (spMade K)) (mM : mg "is_made_with" = some (.ref fM)) (kM : PySem.W.keepIn K (.ref fM) = true) (bM : Binds K fdM ["made", "number", "greatest"] []) :
    FnOk P w K mg base CX0 3 f fd ["made"] (spEnder K) := by
  refine F.ok scEnder (fun vs H Q E h => ?_) (fun cdv A outer s H vs Q E hr h => ?_)
  · obtain ⟨a, m, rfl, _⟩ := h
    rfl
  · obtain ⟨a, m, rfl, hT, hm, hne, k⟩ := h
    have hr1 : Room 1 _ := hr.mono (by decide)
    refine ⟨_, pss_cons (ps_set (i := 1) scEnder.nd rfl (Or.inl rfl) (pe_call GL hr1 (by rfl) mL kL bL .nil pass0 (pa_cons (pv 0) pa_nil)))
      (pss_cons (ps_set (i := 2) scEnder.nd rfl (Or.inl rfl) (pe_ix ix_list (pv 1) (pe_un un_neg pe_int) (fun _ _ => rfl)))
      (pss_cons (ps_for PassesOwn.never rfl (pi_list (pe_slice sl_list (pv 1) po_none (po_some (pe_un un_neg pe_int)))) (pg_name (i := 3) scEnder.nd rfl (Or.inl rfl))
        (pss_one (ps_if (pt_not (pt_val (pe_call GM hr (by rfl) mM kM bM .nil pass0 (pa_cons (pv 0) (pa_cons (pv 3) (pa_cons (pv 2) pa_nil)))))) (pss_one (ps_ret (pe_lst (pa_cons pe_int (pa_cons (pv 2) (pa_cons (pv 3) pa_nil)))))) pss_nil)))
      (pss_one (ps_ret (pe_lst (pa_cons pe_int (pa_cons (pv 2) pa_nil))))))), ?_⟩
    refine ⟨_, rfl, a, m, rfl, hT, hm, fun H1 l s1 hl h1 => ?_⟩
    refine ⟨_, rfl, _, rfl, l, _, _, _, rfl, rfl, SqL.of h1, nV_last hne, ?_⟩
    have hG := lf_mem.mp (show (lf m).getLastD 0 ∈ lf m by
      rw [List.getLastD_eq_getLast?, List.getLast?_eq_some_getLast hne]
      exact List.getLast_mem hne)
    refine ⟨_, rfl, _, rfl, _, rfl, l, _, rfl, SqL.of h1, fun q hq => ⟨q, rfl, ⟨_, SqL.of upd_same⟩, ?_⟩⟩
    rw [show (-(1 : Int)) = -1 from rfl, cut_last, nV_dropLast]
    have s2 := same_upd (o := .lst (nV (lf m).dropLast)) s1 (s1.free hq)
    refine for_list (K := K) (a := q) (xs := nV (lf m).dropLast) (fun i σ H' => ∃ v : Option V, σ = [some (.ref a), some (.ref l), some (.int ((lf m).getLastD 0 : Nat)), v] ∧ Same (upd H1 q (.lst (nV (lf m).dropLast))) H' ∧
        ((lf m).dropLast.take i).find? (fun g => !(wn m g).getD ((lf m).getLastD 0) false) = none) ⟨none, rfl, Same.refl _, rfl⟩ (fun i σ H' _ ⟨_, _, sm, _⟩ => SqL.of (sm _ _ upd_same)) ?_ ?_
    · rintro i y σ H' hi ⟨v, rfl, sm, hf⟩
      obtain ⟨x, hx, rfl⟩ := nV_get hi
      have hxm := lf_mem.mp ((List.dropLast_sublist _).subset (List.mem_of_getElem? hx))
      refine ⟨_, rfl, _, rfl, _, rfl, a, m, x, (lf m).getLastD 0, rfl, same_seqT (s2.trans sm) hT, by omega, by omega, hm, hG.2.1, fun H2 s3 => ⟨_, rfl, ?_⟩⟩
      cases c : (wn m x).getD ((lf m).getLastD 0) false with
      | false =>
        refine iteT ⟨_, rfl, _, rfl, (by show 3 ≤ sizeLine; exact lineN (by decide)), fun r hr' => ?_⟩
        have s4 := (s2.trans sm).trans s3
        refine k _ r (same_upd s4 (s4.free hr')) (s4.free hr') ?_
        rw [upd_same]
        unfold enderL
        have e : notBy m = some x := find_at hf hx (by rw [c]; rfl)
        rw [e]
        rfl
      | true =>
        exact iteF ⟨some (.int (x : Nat)), rfl, sm.trans s3, find_next hf hx (by rw [c]; rfl)⟩
    · rintro σ H' ⟨v, rfl, sm, hf⟩
      rw [nV_len, List.take_length] at hf
      refine ⟨_, rfl, (by show 2 ≤ sizeLine; exact lineN (by decide)), fun r hr' => ?_⟩
      have s4 := s2.trans sm
      refine k _ r (same_upd s4 (s4.free hr')) (s4.free hr') ?_
      rw [upd_same]
      unfold enderL
      have e : notBy m = none := hf
      rw [e]
      rfl
end
end NW
namespace NW
open PySem PySem.Spec PyProof.Rows L2
open NT
/-! ### fewest.py -/
abbrev sFN : Stmt := topS 15
abbrev sFW : Stmt := topS 16
abbrev sFR : Stmt := topS 17
abbrev sLT : Stmt := topS 18
abbrev sFirst : Stmt := topS 19
/-- of how few, as the program has it -/
def oI : Option Nat → Int
  | none => -1
  | some k => (k : Nat)
def rowL (r : Nat → Option Nat) (n : Nat) : List Int := (List.range (n + 1)).map fun v => oI (r v)
def rowV (r : Nat → Option Nat) (n : Nat) : List V := (rowL r n).map V.int
theorem rowV_len (r : Nat → Option Nat) (n : Nat) : (rowV r n).length = n + 1 := by simp [rowV, rowL]
theorem rowV_get {r : Nat → Option Nat} {n v : Nat} (h : v ≤ n) : (rowV r n)[v]? = some (V.int (oI (r v))) := by
  unfold rowV rowL
  rw [List.getElem?_map, List.getElem?_map, List.getElem?_range (by omega)]
  rfl
theorem rowV_set {r : Nat → Option Nat} {n v : Nat} {o : Option Nat} (h : v ≤ n) : (rowV r n).set v (V.int (oI o)) = rowV (fun u => if u = v then o else r u) n := by
  apply List.ext_getElem?
  intro i
  rw [List.getElem?_set]
  by_cases hi : i ≤ n
  · by_cases e : v = i
    · subst e
      rw [if_pos rfl, if_pos (by rw [rowV_len]; omega), rowV_get h, if_pos rfl]
    · rw [if_neg e, rowV_get hi, rowV_get hi, if_neg (fun q => e q.symm)]
  · rw [List.getElem?_eq_none (l := rowV _ n) (by rw [rowV_len]; omega), List.getElem?_eq_none (l := rowV _ n) (by rw [rowV_len]; omega)]
    by_cases e : v = i
    · subst e
      rw [if_pos rfl, if_neg (by rw [rowV_len]; omega)]
    · rw [if_neg e]
theorem rowV_ext {r q : Nat → Option Nat} {n : Nat} (h : ∀ v, v ≤ n → r v = q v) : rowV r n = rowV q n := by
  unfold rowV rowL
  congr 1
  exact List.map_congr_left fun v hv => by rw [h v (by have := List.mem_range.mp hv; omega)]
/-- in the middle of fewest_with -/
def mid (b : Nat → Option Nat) (g i : Nat) : Nat → Option Nat := fun v => if v < g + i then FW b g v else b v
theorem mid_zero (b : Nat → Option Nat) (g : Nat) : mid b g 0 = b := by
  funext v
  unfold mid
  by_cases h : v < g + 0
  · rw [if_pos h, FW_low (by omega)]
  · rw [if_neg h]
theorem mid_next {b : Nat → Option Nat} {g i : Nat} (hg : 1 ≤ g) : (fun u => if u = g + i then omin (b (g + i)) ((FW b g i).map (· + 1)) else mid b g i u) = mid b g (i + 1) := by
  funext v
  unfold mid
  by_cases e : v = g + i
  · subst e
    rw [if_pos rfl, if_pos (by omega), FW_up (v := g + i) hg (by omega), Nat.add_sub_cancel_left]
  · rw [if_neg e]
    by_cases h : v < g + i
    · rw [if_pos h, if_pos (by omega)]
    · rw [if_neg h, if_neg (by omega)]
theorem mid_same {b : Nat → Option Nat} {g i : Nat} (hg : 1 ≤ g) (h : omin (b (g + i)) ((FW b g i).map (· + 1)) = b (g + i)) : mid b g i = mid b g (i + 1) := by
  rw [← mid_next hg, h]
  funext v
  by_cases e : v = g + i
  · subst e
    rw [if_pos rfl]
    unfold mid
    rw [if_neg (by omega)]
  · rw [if_neg e]
theorem oI_no (o : Option Nat) : decide (V.int (oI o) = V.int (-1)) = o.isNone := by
  rw [dec_int]
  cases o with
  | none => rfl
  | some k =>
    show ((k : Int) == -1) = false
    rw [beq_eq_false_iff_ne]
    omega
structure TxtF (mg : Str → Option Value) : Prop where
  list : mg "list" = none
  range : mg "range" = none
  len : mg "len" = none
  reversed : mg "reversed" = none
  enumerate : mg "enumerate" = none
  no : ∃ t, mg "NOT_MADE" = some (.int (-1) t)
def spFN : Sp := fun vs H Q _ => ∃ n : Nat, vs = [.int (n : Nat)] ∧ n ≤ 9000 ∧ ∀ H' p, Same H H' → H p = none → H' p = some (.lst (rowV (Fr []) n)) → Q (.ref p) H'
def spFW (K : PySem.W.Frag) : Sp := fun vs H Q _ => ∃ (a : Addr) (b : Nat → Option Nat) (n g : Nat), vs = [.ref a, .int (g : Nat)] ∧ SqL K H a (rowV b n) ∧ 1 ≤ g ∧ g ≤ 9000 ∧ n ≤ 9000 ∧
  ∀ H' p, Same H H' → H p = none → H' p = some (.lst (rowV (FW b g) n)) → Q (.ref p) H'
/-- the rows' lists -/
structure RowsAt (H : Hp) (as : List Addr) (l : List Nat) (n : Nat) : Prop where
  len : as.length = l.length + 1
  row : ∀ k p, as[k]? = some p → H p = some (.lst (rowV (Fr (l.drop k)) n))
theorem RowsAt.same {H H' : Hp} {as : List Addr} {l : List Nat} {n : Nat} (R : RowsAt H as l n) (s : Same H H') : RowsAt H' as l n := ⟨R.len, fun k p h => s _ _ (R.row k p h)⟩
def spFR (K : PySem.W.Frag) : Sp := fun vs H Q _ => ∃ (a : Addr) (l : List Nat) (n : Nat), vs = [.ref a, .int (n : Nat)] ∧ NamedAt K H a l ∧ n ≤ 9000 ∧
  ∀ H' p as, Same H H' → H p = none → H' p = some (.lst (as.map V.ref)) → RowsAt H' as l n → Q (.ref p) H'
def spLT (K : PySem.W.Frag) : Sp := fun vs H Q _ => ∃ (a c : Addr) (own : List V) (b : Nat → Option Nat) (n g v m : Nat), vs = [.ref a, .ref c, .int (g : Nat), .int (v : Nat)] ∧ SqL K H a own ∧ own[v]? = some (V.int (m : Nat)) ∧ SqL K H c (rowV b n) ∧ v ≤ n ∧ n ≤ 9000 ∧
  1 ≤ g ∧ g ≤ 9000 ∧ Q (.int (least b g v m : Nat)) H
def spFirst (K : PySem.W.Frag) : Sp := fun vs H Q _ => ∃ (a : Addr) (l : List Nat) (n : Nat), vs = [.ref a, .int (n : Nat)] ∧ NamedAt K H a l ∧ n ≤ 9000 ∧
  (Uw60.few l n = none → ∀ H', Same H H' → Q .non H') ∧ (∀ m, Uw60.few l n = some m → ∀ H' p, Same H H' → H p = none → H' p = some (.lst (nV (Uw60.rowFor l n m))) → Q (.ref p) H')
section
variable {P : Program} {w : World} {K : PySem.W.Frag} {mg : Str → Option Value} {base : Heap}
theorem scFN : FnScope ["most"] ["most"] (defScope sFN) := ⟨rfl, rfl, rfl, by decide +kernel, rfl, by decide +kernel, by decide +kernel⟩
theorem ok_FN {f : Addr} {fd : FuncData} (F : Fun K "fewest_of_none" "fewest_of_none" sFN f fd) (T : TxtF mg) : FnOk P w K mg base CX0 1 f fd ["most"] spFN := by
  refine F.ok scFN (fun vs H Q E h => ?_) (fun cdv A outer s H vs Q E hr h => ?_)
  · obtain ⟨n, rfl, _⟩ := h
    rfl
  · obtain ⟨n, rfl, n2, k⟩ := h
    obtain ⟨t, mN⟩ := T.no
    refine ⟨_, pss_one (ps_ret (pe_op op_cat (pe_lst (pa_cons pe_int pa_nil)) (pe_op op_rep (pe_lst (pa_cons (pe_glob (v := .int (-1)) (by rfl) mN ⟨_, rfl⟩) pa_nil)) (pv 0)))), ?_⟩
    refine ⟨lineN (show 1 ≤ 16777216 by decide), fun p hp => ⟨lineN (show 1 ≤ 16777216 by decide), fun q hq => ⟨_, rfl, ?_⟩⟩⟩
    have hpq : p ≠ q := ne_of_none upd_same hq
    have s0 : Same H (upd (upd H p (.lst [.int 0])) q (.lst [.int (-1)])) := (same_new hp).trans (same_new hq)
    have eL : (List.replicate n [V.int (-1)]).flatten = List.replicate n (V.int (-1)) := by
      clear k n2
      induction n with
      | zero => rfl
      | succ n ih => rw [List.replicate_succ, List.flatten_cons, ih, List.replicate_succ]; rfl
    have e1 : rowV (Fr []) n = V.int 0 :: List.replicate n (V.int (-1)) := by
      apply List.ext_getElem?
      intro i
      by_cases hi : i ≤ n
      · rw [rowV_get hi]
        cases i with
        | zero => rfl
        | succ i =>
          rw [List.getElem?_cons_succ, List.getElem?_replicate, if_pos (by omega)]
          rfl
      · rw [List.getElem?_eq_none (by rw [rowV_len]; omega), List.getElem?_eq_none (by simp; omega)]
    refine ⟨q, n, [.int (-1)], rfl, rfl, upd_same, by omega, by omega, ?_, fun r hr2 => ?_⟩
    · rw [Int.toNat_natCast]
      exact lineN (show 1 * n ≤ 16777216 by omega)
    · rw [Int.toNat_natCast, eL]
      have hpr : p ≠ r := ne_of_none (o := .lst [.int 0]) (by rw [upd_ne hpq]; exact upd_same) hr2
      refine ⟨p, r, [.int 0], List.replicate n (.int (-1)), rfl, rfl, ?_, upd_same, ?_, fun z hz => ?_⟩
      · rw [upd_ne hpr, upd_ne hpq]
        exact upd_same
      · rw [List.length_replicate]
        exact lineN (show 1 + n ≤ 16777216 by omega)
      · have s1 := s0.trans (same_new (o := .lst (List.replicate n (.int (-1)))) hr2)
        refine k _ z (same_upd s1 (s1.free hz)) (s1.free hz) ?_
        rw [upd_same, e1]
        rfl
theorem scFW : FnScope ["behind", "number", "found", "v", "before"] ["behind", "number"] (defScope sFW) := ⟨rfl, rfl, rfl, by decide +kernel, rfl, by decide +kernel, by decide +kernel⟩
theorem ok_FW {f : Addr} {fd : FuncData} (F : Fun K "fewest_with" "fewest_with" sFW f fd) (T : TxtF mg) : FnOk P w K mg base CX0 1 f fd ["behind", "number"] (spFW K) := by
  refine F.ok scFW (fun vs H Q E h => ?_) (fun cdv A outer s H vs Q E hr h => ?_)
  · obtain ⟨a, b, n, g, rfl, _⟩ := h
    rfl
  · obtain ⟨a, b, n, g, rfl, hB, g1, g2, hn, k⟩ := h
    obtain ⟨t, mN⟩ := T.no
    refine ⟨_, pss_cons (ps_set (i := 2) scFW.nd rfl (Or.inl rfl) (pe_callTy call_list_of (by rfl) T.list (by decide +kernel) (pa_cons (pv 0) pa_nil)))
      (pss_cons (ps_for PassesOwn.never rfl (pi_range2 (by rfl) T.range (pa_cons (pv 1) (pa_cons (pe_callB call_len_seq (by rfl) T.len PySem.boot_len (pa_cons (pv 2) pa_nil)) pa_nil))) (pg_name (i := 3) scFW.nd rfl (Or.inl rfl))
        (pss_cons (ps_set (i := 4) scFW.nd rfl (Or.inl rfl) (pe_ix ix_list (pv 2) (pe_op op_sub (pv 3) (pv 1)) (fun _ _ => rfl)))
        (pss_one (ps_if (PW.pt (pw_and (pt_cmpR op_ne (pv 4) (pe_glob (v := .int (-1)) (by rfl) mN ⟨_, rfl⟩) (nomark _))
            (pw_and1 (PW.pt (pw_or (pt_cmpR op_eq (pe_ix ix_list (pv 2) (pv 3) (fun _ _ => rfl)) (pe_glob (v := .int (-1)) (by rfl) mN ⟨_, rfl⟩) (nomark _))
              (pw_or1 (pt_cmpR op_lt (pe_op op_add (pv 4) pe_int) (pe_ix ix_list (pv 2) (pv 3) (fun _ _ => rfl)) (nomark _))))))))
          (pss_one (ps_asg (pe_op op_add (pv 4) pe_int) (pg_sub (pv 2) (pv 3) set_list))) pss_nil))))
      (pss_one (ps_ret (pv 2)))), ?_⟩
    refine ⟨_, rfl, a, _, rfl, .inl hB, fun l hl => ?_⟩
    refine ⟨_, rfl, _, rfl, l, _, rfl, .inl (SqL.of upd_same), (g : Int), ((rowV b n).length : Int), rfl, ⟨by omega, by omega, by omega, by rw [rowV_len]; omega⟩, ?_⟩
    refine for_range (lo := (g : Int)) (n := (((rowV b n).length : Int) - (g : Int)).toNat) (fun i σ H' => ∃ (v u : Option V), σ = [some (.ref a), some (.int (g : Nat)), some (.ref l), v, u] ∧ Same H H' ∧ H' l = some (.lst (rowV (mid b g i) n))) ?_ ?_ ?_
    · exact ⟨none, none, rfl, same_new hl, by rw [mid_zero]; exact upd_same⟩
    · rintro i σ H' hi ⟨v, u, rfl, sm, hL⟩
      rw [rowV_len] at hi
      have hgi : g + i ≤ n := by omega
      have e1 : ((g : Int) + (i : Int)) - (g : Int) = ((i : Nat) : Int) := by omega
      have e2 : ((g : Int) + (i : Int)) = (((g + i : Nat)) : Int) := by omega
      have z1 : (rowV (mid b g i) n)[i]? = some (V.int (oI (FW b g i))) := by
        rw [rowV_get (by omega)]
        unfold mid
        rw [if_pos (by omega)]
      have z2 : (rowV (mid b g i) n)[g + i]? = some (V.int (oI (b (g + i)))) := by
        rw [rowV_get hgi]
        unfold mid
        rw [if_neg (by omega)]
      refine ⟨_, rfl, _, rfl, _, rfl, _, _, rfl, rfl, l, _, _, _, rfl, rfl, SqL.of hL, at_of e1 z1, ?_⟩
      refine ⟨_, rfl, rfl, _, rfl, ?_⟩
      rw [oI_no]
      cases hF : FW b g i with
      | none =>
        refine iteF (iteF ⟨_, _, rfl, sm, ?_⟩)
        rw [← mid_same g1 (by rw [hF]; exact omin_none _)]
        exact hL
      | some c =>
        refine iteT ⟨_, rfl, _, rfl, l, _, _, _, rfl, rfl, SqL.of hL, at_of e2 z2, rfl, _, rfl, ?_⟩
        rw [oI_no]
        have put : ∀ σ' : L2.St, σ' = [some (.ref a), some (.int (g : Nat)), some (.ref l), some (.int ((g : Int) + (i : Int))), some (.int (c : Nat))] → omin (b (g + i)) (some (c + 1)) = some (c + 1) →
            tAsg (tOp (rI0 fun i j => .int (i + j)) (tVar 4) (tC (.int 1))) (gSub (tVar 2) (tVar 3) rSetL) { nx := fun σ H' => ∃ (v u : Option V), σ = [some (.ref a), some (.int (g : Nat)), some (.ref l), v, u] ∧ Same H H' ∧ H' l = some (.lst (rowV (mid b g (i + 1)) n)), rt := Q, bk := fun _ _ => False, ct := fun _ _ => False } σ' H' := by
          rintro σ' rfl ho
          refine ⟨_, rfl, _, _, rfl, rfl, _, rfl, _, rfl, l, _, _, g + i, rfl, rfl, hL, ixN_of e2 (by rw [rowV_len]; omega), _, _, rfl, same_upd sm hl, ?_⟩
          rw [upd_same]
          congr 2
          have q := rowV_set (r := mid b g i) (n := n) (v := g + i) (o := some (c + 1)) hgi
          rw [← mid_next g1, hF]
          show _ = rowV (fun u => if u = g + i then omin (b (g + i)) (some (c + 1)) else mid b g i u) n
          rw [ho, ← q]
          rfl
        cases hb : b (g + i) with
        | none =>
          refine iteT (iteT ?_)
          exact put _ rfl (by rw [hb]; rfl)
        | some j =>
          refine iteF ⟨_, rfl, _, _, rfl, rfl, _, rfl, _, rfl, l, _, _, _, rfl, rfl, SqL.of hL, at_of e2 z2, ?_⟩
          rw [hb]
          refine ⟨_, _, rfl, rfl, _, rfl, ?_⟩
          show if decide ((c : Int) + 1 < (j : Int)) = true then _ else _
          by_cases hlt : (c : Int) + 1 < (j : Int)
          · rw [decide_eq_true hlt]
            refine iteT ?_
            exact put _ rfl (by rw [hb]; show some (min j (c + 1)) = _; rw [Nat.min_eq_right (by omega)])
          · rw [decide_eq_false hlt]
            refine iteF ⟨_, _, rfl, sm, ?_⟩
            rw [← mid_same g1 (by rw [hF, hb]; show some (min j (c + 1)) = _; rw [Nat.min_eq_left (by omega)])]
            exact hL
    · rintro σ H' ⟨v, u, rfl, sm, hL⟩
      refine ⟨_, rfl, k _ l sm hl ?_⟩
      rw [hL]
      congr 2
      refine rowV_ext fun v hv => ?_
      unfold mid
      rw [rowV_len]
      by_cases c : v < g + (((n + 1 : Nat) : Int) - (g : Int)).toNat
      · rw [if_pos c]
      · omega
end
end NW
namespace NW
open PySem PySem.Spec PyProof.Rows L2
open NT
/-- over enumerate(a list that the body leaves as it is) -/
theorem for_enum {K : PySem.W.Frag} {a : Addr} {xs : List V} {g : TG} {tb : TS} {D : Ends} {σ : L2.St} {H : Hp} (Pv : Nat → L2.St → Hp → Prop) (h0 : Pv 0 σ H) (hl : ∀ i σ H, i ≤ xs.length → Pv i σ H → SqL K H a xs)
    (hs : ∀ i x T σ H, xs[i]? = some x → H T = none → Pv i σ H → g (.ref T) σ (upd H T (.tup [.int (i : Nat), x])) fun σ2 H2 => tb { D with nx := Pv (i + 1), ct := Pv (i + 1), bk := D.nx } σ2 H2) (hd : ∀ σ H, Pv xs.length σ H → D.nx σ H) :
    ∃ W : Nat → Nat → L2.St → Hp → Prop, (∃ m, W 0 m σ H) ∧ ∀ i m σ H, W i m σ H →
      ((Ite K a).stop i H ∧ D.nx σ H) ∨ ((Ite K a).go i H ∧ ∃ N : L2.St → Hp → Prop, (∀ σ' H', N σ' H' → ∃ m', m' < m ∧ W (i + 1) m' σ' H') ∧ ∀ x H', (Ite K a).yld i H x H' → g x σ H' fun σ2 H2 => tb { D with nx := N, ct := N, bk := D.nx } σ2 H2) := by
  refine ⟨fun i m σ H => m + i = xs.length ∧ Pv i σ H, ⟨xs.length, rfl, h0⟩, ?_⟩
  rintro i m σ H ⟨hm, p⟩
  have q := hl i σ H (by omega) p
  by_cases hlt : i < xs.length
  · refine .inr ⟨⟨xs, xs[i], q, List.getElem?_eq_getElem hlt⟩, Pv (i + 1), fun σ' H' p' => ⟨m - 1, by omega, by omega, p'⟩, ?_⟩
    rintro v H' ⟨T, x, rfl, hT, rfl, hx⟩
    exact hs i x T σ H (hx xs q) hT p
  · have e : i = xs.length := by omega
    subst e
    exact .inl ⟨⟨xs, q, Nat.le_refl _⟩, hd σ H p⟩
section
variable {P : Program} {w : World} {K : PySem.W.Frag} {mg : Str → Option Value} {base : Heap}
theorem scFR : FnScope ["named", "most", "rows", "number"] ["named", "most"] (defScope sFR) := ⟨rfl, rfl, rfl, by decide +kernel, rfl, by decide +kernel, by decide +kernel⟩
/-- in the middle of fewest_rows -/
structure RowsMid (H : Hp) (q : Addr) (as : List Addr) (l : List Nat) (n i : Nat) : Prop where
  at_ : H q = some (.lst (as.map V.ref))
  len : as.length = i + 1
  row : ∀ j p, as[j]? = some p → p ≠ q ∧ H p = some (.lst (rowV (Fr (l.drop (l.length - j))) n))
theorem ok_FR {f fN fW : Addr} {fd fdN fdW : FuncData} (F : Fun K "fewest_rows" "fewest_rows" sFR f fd) (T : TxtF mg) (GN : FnOk P w K mg base CX0 1 fN fdN ["most"] spFN) (mN : mg "fewest_of_none" = some (.ref fN)) (kN : PySem.W.keepIn K (.ref fN) = true) (bN : Binds K fdN ["most"] [])
    (GW : FnOk P w K mg base CX0 1 fW fdW ["behind", "number"] (spFW K)) (mW : mg "fewest_with" = some (.ref fW)) (kW : PySem.W.keepIn K (.ref fW) = true) (bW : Binds K fdW ["behind", "number"] []) : FnOk P w K mg base CX0 2 f fd ["named", "most"] (spFR K) := by
  refine F.ok scFR (fun vs H Q E h => ?_) (fun cdv A outer s H vs Q E hr h => ?_)
  · obtain ⟨a, l, n, rfl, _⟩ := h
    rfl
  · obtain ⟨a, l, n, rfl, hN, hn, k⟩ := h
    refine ⟨_, pss_cons (ps_set (i := 2) scFR.nd rfl (Or.inl rfl) (pe_lst (pa_cons (pe_call GN hr (by rfl) mN kN bN .nil pass0 (pa_cons (pv 1) pa_nil)) pa_nil)))
      (pss_cons (ps_for PassesOwn.never rfl (pi_reversed (by rfl) T.reversed (pa_cons (pv 0) pa_nil)) (pg_name (i := 3) scFR.nd rfl (Or.inl rfl))
        (pss_one (ps_expr (pe_bm PySem.F.plainAttrs_list PySem.F.slot_list_append PySem.F.type_list_append mt_append (pv 2)
          (pa_cons (pe_call GW hr (by rfl) mW kW bW .nil pass0 (pa_cons (pe_ix ix_list (pv 2) (pe_un un_neg pe_int) (fun _ _ => rfl)) (pa_cons (pv 3) pa_nil))) pa_nil)))))
      (pss_one (ps_ret (pe_lstRev (by rfl) (by rfl) T.list (by rfl) T.reversed (pv 2))))), ?_⟩
    refine ⟨_, rfl, n, rfl, hn, fun H1 p s1 hp h1 => ⟨lineN (show 1 ≤ 16777216 by decide), fun q hq => ?_⟩⟩
    have s2 : Same H (upd H1 q (.lst [.ref p])) := same_upd s1 (s1.free hq)
    have hHq : H q = none := s1.free hq
    refine ⟨_, rfl, a, nV l, rfl, s2.seq hN.at_, RT.for_Itv (K := K) (a := a) (xs := nV l) (fun i σ H' => ∃ (v : Option V) (as : List Addr), σ = [some (.ref a), some (.int (n : Nat)), some (.ref q), v] ∧ Same H H' ∧ RowsMid H' q as l n i)
      ⟨none, [p], rfl, s2, upd_same, rfl, fun j r hj => ?_⟩ (fun i σ H' ⟨_, _, _, sm, _⟩ => sm.seq hN.at_) ?_ ?_⟩
    · have e : j = 0 ∧ r = p := by
        cases j with
        | zero => exact ⟨rfl, (Option.some.inj hj).symm⟩
        | succ j => simp at hj
      obtain ⟨rfl, rfl⟩ := e
      have hne : r ≠ q := ne_of_none h1 hq
      refine ⟨hne, ?_⟩
      rw [upd_ne hne, Nat.sub_zero, List.drop_length]
      exact h1
    · rintro i y σ H' hi hy ⟨v, as, rfl, sm, R⟩
      obtain ⟨x, hx, rfl⟩ := nV_get hy
      rw [nV_len] at hi hx
      have hxm : x ∈ l := List.mem_of_getElem? hx
      have hil : i < as.length := by rw [R.len]; omega
      have hlast := R.row i as[i] (List.getElem?_eq_getElem hil)
      have hl12 := hN.len
      have eA : as.map V.ref = (as.take i).map V.ref ++ [V.ref as[i]] := by
        have : as = as.take i ++ [as[i]] := by
          have e := take_more (List.getElem?_eq_getElem hil)
          rw [← e, List.take_of_length_le (by rw [R.len]; omega)]
        rw [← List.map_singleton, ← List.map_append, ← this]
      refine ⟨_, rfl, .inl ⟨rfl, _, SqL.of R.at_⟩, _, rfl, _, rfl, q, _, _, V.ref as[i], rfl, rfl, SqL.of R.at_, ?_, _, rfl, as[i], Fr (l.drop (l.length - i)), n, x, rfl, SqL.of hlast.2, ?_, ?_, hn, fun H2 r s3 hr2 h2 => ?_⟩
      · rw [eA]
        exact atI_last _ _
      · have := hN.low x hxm; omega
      · have := hN.high x hxm; omega
      · have hq2 := s3 _ _ R.at_
        refine ⟨q, _, _, rfl, rfl, hq2, ?_, some (.int (x : Nat)), as ++ [r], rfl, fun b o e => ?_, ?_, ?_, fun j z hj => ?_⟩
        · rw [List.length_map, R.len]
          exact lineL (by omega)
        · rw [upd_ne (ne_of_none e hHq)]
          exact s3 _ _ (sm _ _ e)
        · rw [upd_same, List.map_append]
          rfl
        · rw [List.length_append, R.len]
          rfl
        · by_cases hji : j < as.length
          · rw [List.getElem?_append_left hji] at hj
            obtain ⟨a1, a2⟩ := R.row j z hj
            exact ⟨a1, by rw [upd_ne a1]; exact s3 _ _ a2⟩
          · rw [List.getElem?_append_right (by omega)] at hj
            have ej : j = i + 1 := by
              have : j - as.length = 0 := by
                cases e : j - as.length with
                | zero => rfl
                | succ k => rw [e] at hj; simp at hj
              rw [R.len] at this hji
              omega
            subst ej
            rw [R.len, Nat.sub_self] at hj
            have ez : r = z := Option.some.inj hj
            subst ez
            have hrq : r ≠ q := fun e => by
              rw [e, R.at_] at hr2
              cases hr2
            refine ⟨hrq, ?_⟩
            rw [upd_ne hrq, h2]
            congr 3
            have hd : l.drop (l.length - (i + 1)) = x :: l.drop (l.length - i) := by
              have hx' : l[l.length - (i + 1)]? = some x := by
                rw [← hx]
                congr 1
                omega
              obtain ⟨hb, he⟩ := List.getElem?_eq_some_iff.mp hx'
              rw [List.drop_eq_getElem_cons hb, he]
              congr 2
              omega
            rw [hd]
            rfl
    · rintro σ H' ⟨v, as, rfl, sm, R⟩
      rw [nV_len] at R
      refine ⟨_, rfl, q, _, rfl, SqL.of R.at_, fun z hz => ?_⟩
      refine k _ z as.reverse (same_upd sm (sm.free hz)) (sm.free hz) ?_ ⟨by rw [List.length_reverse, R.len], fun j r hj => ?_⟩
      · rw [upd_same, List.map_reverse]
      · have hjl : j < as.length := by
          have := (List.getElem?_eq_some_iff.mp hj).1
          rw [List.length_reverse] at this
          exact this
        rw [List.getElem?_reverse hjl] at hj
        obtain ⟨a1, a2⟩ := R.row _ r hj
        have e : l.length - (as.length - 1 - j) = j := by
          have := R.len
          omega
        rw [upd_ne (ne_of_none a2 hz), a2, e]
theorem scLT : FnScope ["own", "behind", "number", "rest", "times", "further"] ["own", "behind", "number", "rest"] (defScope sLT) := ⟨rfl, rfl, rfl, by decide +kernel, rfl, by decide +kernel, by decide +kernel⟩
theorem ok_LT {f : Addr} {fd : FuncData} (F : Fun K "least_times" "least_times" sLT f fd) (T : TxtF mg) : FnOk P w K mg base CX0 1 f fd ["own", "behind", "number", "rest"] (spLT K) := by
  refine F.ok scLT (fun vs H Q E h => ?_) (fun cdv A outer s H vs Q E hr h => ?_)
  · obtain ⟨a, c, own, b, n, g, v, m, rfl, _⟩ := h
    rfl
  · obtain ⟨a, c, own, b, n, g, v, m, rfl, hO, hm, hB, hv, hn, g1, g2, k⟩ := h
    obtain ⟨t, mN⟩ := T.no
    refine ⟨_, pss_cons (ps_for PassesOwn.never rfl (pi_range1 (by rfl) T.range (pa_cons (pe_op op_add (pe_op op_fdiv (pv 3) (pv 2)) pe_int) pa_nil)) (pg_name (i := 4) scLT.nd rfl (Or.inl rfl))
        (pss_cons (ps_set (i := 5) scLT.nd rfl (Or.inl rfl) (pe_ix ix_list (pv 1) (pe_op op_sub (pv 3) (pe_op op_mul (pv 4) (pv 2))) (fun _ _ => rfl)))
        (pss_one (ps_if (PW.pt (pw_and (pt_cmpR op_ne (pv 5) (pe_glob (v := .int (-1)) (by rfl) mN ⟨_, rfl⟩) (nomark _))
          (pw_and1 (pt_cmpR op_eq (pe_op op_add (pv 4) (pv 5)) (pe_ix ix_list (pv 0) (pv 3) (fun _ _ => rfl)) (nomark _))))) (pss_one (ps_ret (pv 4))) pss_nil))))
      (pss_one (ps_ret pe_int)), ?_⟩
    have ed : ((v : Int) / (g : Int)) = ((v / g : Nat) : Int) := (Int.natCast_ediv v g).symm
    have hle : (v : Int) / (g : Int) ≤ (v : Int) := by
      rw [ed]
      have := Nat.div_le_self v g
      exact Int.ofNat_le.mpr this
    have hge : (0 : Int) ≤ (v : Int) / (g : Int) := by
      rw [ed]
      exact Int.natCast_nonneg _
    have en : ((v : Int) / (g : Int) + 1).toNat = v / g + 1 := by
      rw [ed]
      exact Int.toNat_natCast (v / g + 1)
    refine ⟨_, rfl, _, rfl, _, _, rfl, rfl, ⟨by omega, by omega⟩, _, _, rfl, rfl, ((v : Int) / (g : Int) + 1), rfl, by omega, by omega, ?_⟩
    refine for_range (lo := 0) (n := ((v : Int) / (g : Int) + 1).toNat) (fun i σ H' => ∃ x y : Option V, σ = [some (.ref a), some (.ref c), some (.int (g : Nat)), some (.int (v : Nat)), x, y] ∧ H' = H ∧
      ((List.range (v / g + 1)).take i).find? (fun t => decide ((b (v - t * g)).map (t + ·) = some m)) = none) ⟨none, none, rfl, rfl, rfl⟩ ?_ ?_
    · rintro i σ H' hi ⟨x, y, rfl, rfl, hf⟩
      have hi' : i < v / g + 1 := by rw [en] at hi; exact hi
      have hx : (List.range (v / g + 1))[i]? = some i := List.getElem?_range hi'
      have hig : i * g ≤ v := Nat.le_trans (Nat.mul_le_mul_right g (by omega : i ≤ v / g)) (Nat.div_mul_le_self v g)
      have e0 : (0 : Int) + (i : Int) = ((i : Nat) : Int) := by omega
      rw [e0]
      have e1 : ((v : Int) - ((i : Nat) : Int) * (g : Int)) = ((v - i * g : Nat) : Int) := by
        rw [← Int.natCast_mul]
        omega
      refine ⟨_, rfl, _, rfl, _, rfl, _, rfl, _, _, rfl, rfl, .inl ⟨by omega, by omega⟩, _, _, rfl, rfl, c, _, _, _, rfl, rfl, hB, at_of e1 (rowV_get (by omega)), ?_⟩
      refine ⟨_, rfl, rfl, _, rfl, ?_⟩
      rw [oI_no]
      cases hb : b (v - i * g) with
      | none =>
        refine iteF (iteF ⟨some (.int (i : Nat)), some (.int (oI none)), rfl, rfl, find_next hf hx ?_⟩)
        rw [hb]
        rfl
      | some d =>
        refine iteT ⟨_, rfl, _, rfl, _, _, rfl, rfl, _, rfl, _, rfl, a, _, _, _, rfl, rfl, hO, atI_nat hm, rfl, _, rfl, ?_⟩
        rw [dec_int]
        by_cases e : i + d = m
        · have ee : (((i : Nat) : Int) + oI (some d) == ((m : Nat) : Int)) = true := by
            rw [beq_iff_eq]
            show ((i : Nat) : Int) + ((d : Nat) : Int) = _
            omega
          rw [ee]
          refine iteT ⟨_, rfl, ?_⟩
          have fa := find_at hf hx (by rw [hb, decide_eq_true_eq]; show some (i + d) = some m; rw [e])
          have el : least b g v m = i := by
            unfold least
            rw [fa]
            rfl
          rw [el] at k
          exact k
        · have ee : (((i : Nat) : Int) + oI (some d) == ((m : Nat) : Int)) = false := by
            rw [beq_eq_false_iff_ne]
            show ¬ ((i : Nat) : Int) + ((d : Nat) : Int) = _
            omega
          rw [ee]
          refine iteF ⟨some (.int (i : Nat)), some (.int (oI (some d))), rfl, rfl, find_next hf hx ?_⟩
          rw [hb, decide_eq_false_iff_not]
          exact fun q => e (Option.some.inj q)
    · rintro σ H' ⟨x, y, rfl, rfl, hf⟩
      rw [en, List.take_of_length_le (by simp)] at hf
      have el : least b g v m = 0 := by
        unfold least
        rw [hf]
        rfl
      rw [el] at k
      exact k
end
end NW
namespace NW
open PySem PySem.Spec PyProof.Rows L2
open NT
section
variable {P : Program} {w : World} {K : PySem.W.Frag} {mg : Str → Option Value} {base : Heap}
theorem scFirst : FnScope ["named", "total", "rows", "found", "rest", "k", "number", "times"] ["named", "total"] (defScope sFirst) := ⟨rfl, rfl, rfl, by decide +kernel, rfl, by decide +kernel, by decide +kernel⟩
/-- in the middle of first_row -/
structure FirstMid (l : List Nat) (n m0 i : Nat) (pre : List Nat) (r m : Nat) : Prop where
  eq : pre ++ Uw60.rowFor (l.drop i) r m = Uw60.rowFor l n m0
  few : Fr (l.drop i) r = some m
  le : r ≤ n
  len : pre.length = i
theorem FirstMid.next {l : List Nat} {n m0 i : Nat} {pre : List Nat} {r m x : Nat} (hl : ∀ b ∈ l, 1 ≤ b) (hx : l[i]? = some x) (M : FirstMid l n m0 i pre r m) :
    least (Fr (l.drop (i + 1))) x r m * x ≤ r ∧ FirstMid l n m0 (i + 1) (pre ++ [least (Fr (l.drop (i + 1))) x r m]) (r - least (Fr (l.drop (i + 1))) x r m * x) (m - least (Fr (l.drop (i + 1))) x r m) := by
  obtain ⟨hi, he⟩ := List.getElem?_eq_some_iff.mp hx
  have hd : l.drop i = x :: l.drop (i + 1) := by rw [List.drop_eq_getElem_cons hi, he]
  have hm := M.few
  rw [hd] at hm
  obtain ⟨k, k1, k2, k3, k4, k5⟩ := row_step (fun b hb => hl b (by rw [← hd] at hb; exact List.mem_of_mem_drop hb)) hm
  rw [k1]
  refine ⟨k3, ?_, k4, by have := M.le; omega, by rw [List.length_append, M.len]; rfl⟩
  rw [← M.eq, hd, k5, List.append_assoc]
  rfl
theorem ok_first {f fR fT : Addr} {fd fdR fdT : FuncData} (F : Fun K "first_row" "first_row" sFirst f fd) (T : TxtF mg) (GR : FnOk P w K mg base CX0 2 fR fdR ["named", "most"] (spFR K)) (mR : mg "fewest_rows" = some (.ref fR)) (kR : PySem.W.keepIn K (.ref fR) = true) (bR : Binds K fdR ["named", "most"] [])
    (GT : FnOk P w K mg base CX0 1 fT fdT ["own", "behind", "number", "rest"] (spLT K)) (mT : mg "least_times" = some (.ref fT)) (kT : PySem.W.keepIn K (.ref fT) = true) (bT : Binds K fdT ["own", "behind", "number", "rest"] []) :
    FnOk P w K mg base CX0 3 f fd ["named", "total"] (spFirst K) := by
  refine F.ok scFirst (fun vs H Q E h => ?_) (fun cdv A outer s H vs Q E hr h => ?_)
  · obtain ⟨a, l, n, rfl, _⟩ := h
    rfl
  · obtain ⟨a, l, n, rfl, hN, hn, kN, kS⟩ := h
    obtain ⟨t, mN⟩ := T.no
    have hr1 : Room 1 _ := hr.mono (by decide)
    have h1l := one_le hN.low
    refine ⟨_, pss_cons (ps_set (i := 2) scFirst.nd rfl (Or.inl rfl) (pe_call GR hr (by rfl) mR kR bR .nil pass0 (pa_cons (pv 0) (pa_cons (pv 1) pa_nil))))
      (pss_cons (ps_if (pt_cmpR op_eq (pe_ix ix_list (pe_ix ix_list (pv 2) pe_int (fun _ _ => rfl)) (pv 1) (fun _ _ => rfl)) (pe_glob (v := .int (-1)) (by rfl) mN ⟨_, rfl⟩) (nomark _)) (pss_one (ps_ret pe_non)) pss_nil)
      (pss_cons (ps_set (i := 3) scFirst.nd rfl (Or.inl rfl) (pe_lst pa_nil))
      (pss_cons (ps_set (i := 4) scFirst.nd rfl (Or.inl rfl) (pv 1))
      (pss_cons (ps_for PassesOwn.never rfl (pi_enum (by rfl) T.enumerate (pa_cons (pv 0) pa_nil)) (pg_tup rfl (pgs_cons (pg_name (i := 5) scFirst.nd rfl (Or.inl rfl)) (pgs_cons (pg_name (i := 6) scFirst.nd rfl (Or.inl rfl)) pgs_nil)))
        (pss_cons (ps_set (i := 7) scFirst.nd rfl (Or.inl rfl) (pe_call GT hr1 (by rfl) mT kT bT .nil pass0 (pa_cons (pe_ix ix_list (pv 2) (pv 5) (fun _ _ => rfl)) (pa_cons (pe_ix ix_list (pv 2) (pe_op op_add (pv 5) pe_int) (fun _ _ => rfl)) (pa_cons (pv 6) (pa_cons (pv 4) pa_nil))))))
        (pss_cons (ps_expr (pe_bm PySem.F.plainAttrs_list PySem.F.slot_list_append PySem.F.type_list_append mt_append (pv 3) (pa_cons (pv 7) pa_nil)))
        (pss_one (ps_set (i := 4) scFirst.nd rfl (Or.inl rfl) (pe_op op_sub (pv 4) (pe_op op_mul (pv 7) (pv 6))))))))
      (pss_one (ps_ret (pv 3))))))), ?_⟩
    refine ⟨_, rfl, _, rfl, a, l, n, rfl, hN, hn, fun Hr q as s1 hq h1 R => ?_⟩
    have h0 : (as.map V.ref)[0]? = some (V.ref (as[0]'(by rw [R.len]; omega))) := by
      rw [List.getElem?_map, List.getElem?_eq_getElem (by rw [R.len]; omega)]
      rfl
    have r0 := R.row 0 (as[0]'(by rw [R.len]; omega)) (List.getElem?_eq_getElem _)
    rw [List.drop_zero] at r0
    refine ⟨_, rfl, q, _, _, _, rfl, rfl, SqL.of h1, atI_nat (j := 0) h0, _, rfl, _, _, _, _, rfl, rfl, SqL.of r0, atI_nat (rowV_get (Nat.le_refl n)), rfl, _, rfl, ?_⟩
    rw [oI_no]
    cases hf : Fr l n with
    | none => exact iteT (kN (by rw [← Fr_few h1l]; exact hf) _ s1)
    | some m0 =>
      refine iteF ⟨Nat.zero_le _, fun z hz => ?_⟩
      refine ⟨_, rfl, ?_⟩
      have sA : Same Hr (upd Hr z (.lst [])) := same_new hz
      have hlen := hN.len
      refine ⟨_, rfl, a, nV l, rfl, (s1.trans sA).seq hN.at_, for_enum (K := K) (a := a) (xs := nV l) (fun i σ H' => ∃ (r m : Nat) (pre : List Nat) (x y u : Option V), σ = [some (.ref a), some (.int (n : Nat)), some (.ref q), some (.ref z), some (.int (r : Nat)), x, y, u] ∧ Same Hr H' ∧ H' z = some (.lst (nV pre)) ∧ FirstMid l n m0 i pre r m)
        ⟨n, m0, [], none, none, none, rfl, sA, upd_same, rfl, by rw [List.drop_zero]; exact hf, Nat.le_refl _, rfl⟩ (fun i σ H' _ ⟨_, _, _, _, _, _, _, sm, _⟩ => (s1.trans sm).seq hN.at_) ?_ ?_⟩
      · rintro i y T σ H' hi hT ⟨r, m, pre, x0, y0, u0, rfl, sm, hz', M⟩
        obtain ⟨x, hx, rfl⟩ := nV_get hi
        have hxm : x ∈ l := List.mem_of_getElem? hx
        have hil : i < l.length := (List.getElem?_eq_some_iff.mp hx).1
        have sm2 : Same Hr (upd H' T (.tup [.int (i : Nat), .int (x : Nat)])) := same_upd sm (sm.free hT)
        have hz2 : upd H' T (.tup [.int (i : Nat), .int (x : Nat)]) z = some (.lst (nV pre)) := by rw [upd_ne (ne_of_none hz' hT)]; exact hz'
        have R2 := R.same sm2
        have i1 : i < as.length := by rw [R.len]; omega
        have i2 : i + 1 < as.length := by rw [R.len]; omega
        have a1 : (as.map V.ref)[i]? = some (V.ref as[i]) := by rw [List.getElem?_map, List.getElem?_eq_getElem i1]; rfl
        have a2 : (as.map V.ref)[i + 1]? = some (V.ref as[i + 1]) := by rw [List.getElem?_map, List.getElem?_eq_getElem i2]; rfl
        have b1 := R2.row i as[i] (List.getElem?_eq_getElem i1)
        have b2 := R2.row (i + 1) as[i + 1] (List.getElem?_eq_getElem i2)
        have hx2 := hN.low x hxm
        have hx40 := hN.high x hxm
        have hrn := M.le
        obtain ⟨k3, M'⟩ := M.next h1l hx
        refine ⟨T, _, rfl, SqT.of upd_same, rfl, _, _, rfl, _, _, rfl, rfl, ?_⟩
        refine ⟨_, rfl, _, rfl, q, _, _, _, rfl, rfl, SqL.of (sm2 _ _ h1), atI_nat a1, _, rfl, _, rfl, _, _, rfl, rfl, q, _, _, _, rfl, rfl, SqL.of (sm2 _ _ h1), at_of (j := i + 1) (by omega) a2, _, rfl, _, rfl, ?_⟩
        refine ⟨as[i], as[i + 1], _, Fr (l.drop (i + 1)), n, x, r, m, rfl, SqL.of b1, ?_, SqL.of b2, hrn, hn, by omega, by omega, ?_⟩
        · rw [rowV_get hrn, M.few]
          rfl
        · refine ⟨_, rfl, .inl ⟨rfl, _, SqL.of hz2⟩, _, rfl, z, _, _, rfl, rfl, hz2, ?_, ?_⟩
          · rw [nV_len, M.len]
            exact lineL (by omega)
          · generalize least (Fr (l.drop (i + 1))) x r m = kk at k3 M' ⊢
            have hkk : kk ≤ 9000 := by
              have z1 := Nat.mul_le_mul_left kk (show 1 ≤ x by omega)
              rw [Nat.mul_one] at z1
              omega
            refine ⟨_, rfl, _, rfl, _, rfl, _, _, rfl, rfl, .inl ⟨by omega, by omega⟩, _, _, rfl, rfl, ?_⟩
            refine ⟨r - kk * x, m - kk, pre ++ [kk], some (.int (i : Nat)), some (.int (x : Nat)), some (.int (kk : Nat)), ?_, same_upd sm2 hz, ?_, M'⟩
            · have e : ((r : Int) - ((kk : Nat) : Int) * ((x : Nat) : Int)) = ((r - kk * x : Nat) : Int) := by
                rw [← Int.natCast_mul]
                omega
              rw [← e]
              rfl
            · rw [upd_same, nV_snoc]
      · rintro σ H' ⟨r, m, pre, x0, y0, u0, rfl, sm, hz', M⟩
        rw [nV_len] at M
        refine ⟨_, rfl, kS m0 (by rw [← Fr_few h1l]; exact hf) _ z (s1.trans sm) (s1.free hz) ?_⟩
        have e := M.eq
        rw [List.drop_length] at e
        rw [hz', ← e]
        show _ = some (HO.lst (nV (pre ++ [])))
        rw [List.append_nil]
end
end NW
namespace NW
open PySem PySem.Spec PyProof.Rows L2
open NT
/-! ### worths.py -/
abbrev sBy : Stmt := topS 21
abbrev sFrom : Stmt := topS 22
abbrev sLM : Stmt := topS 23
/-- games, each at its address -/
abbrev Gms := List (Addr × List Bool)
def refs (gs : Gms) : List V := gs.map fun x => V.ref x.1
def GamesAt (H : Hp) (gs : Gms) : Prop := ∀ x ∈ gs, H x.1 = some (.tup (fV x.2))
theorem GamesAt.same {H H' : Hp} {gs : Gms} (G : GamesAt H gs) (s : Same H H') : GamesAt H' gs := fun x hx => s _ _ (G x hx)
theorem GamesAt.upd {H : Hp} {gs : Gms} {p : Addr} {o u : HO} (G : GamesAt H gs) (h : H p = some u) (hn : ∀ xs, u ≠ .tup xs) : GamesAt (upd H p o) gs := fun x hx => by
  have e : x.1 ≠ p := ne_of (G x hx) h fun z => hn _ z.symm
  rw [upd_ne e]
  exact G x hx
theorem refs_len (gs : Gms) : (refs gs).length = gs.length := by simp [refs]
theorem refs_get {gs : Gms} {i : Nat} {y : V} (h : (refs gs)[i]? = some y) : ∃ x, gs[i]? = some x ∧ y = V.ref x.1 := by
  unfold refs at h
  rw [List.getElem?_map] at h
  cases e : gs[i]? with
  | none => rw [e] at h; cases h
  | some x =>
    rw [e] at h
    exact ⟨x, rfl, (Option.some.inj h).symm⟩
theorem refs_at_ {gs : Gms} {i : Nat} {x : Addr × List Bool} (h : gs[i]? = some x) : (refs gs)[i]? = some (V.ref x.1) := by
  unfold refs
  rw [List.getElem?_map, h]
  rfl
def keyOf (m : List Bool) : List Key := m.map fun b => Sum.inl (bi b)
theorem keyOf_V (m : List Bool) : (keyOf m).map kV = fV m := by
  unfold keyOf fV
  rw [List.map_map]
  rfl
theorem bi_inj {a b : Bool} (h : bi a = bi b) : a = b := by
  cases a <;> cases b <;> first | rfl | (exact absurd h (by decide))
theorem keyOf_inj : ∀ {m r : List Bool}, keyOf m = keyOf r → m = r
  | [], [], _ => rfl
  | a :: m, b :: r, h => by
    have h' : (Sum.inl (bi a) : Key) :: keyOf m = Sum.inl (bi b) :: keyOf r := h
    injection h' with h1 h2
    rw [bi_inj (Sum.inl.inj h1), keyOf_inj h2]
theorem GamesAt.key {H : Hp} {gs : Gms} (G : GamesAt H gs) {x : Addr × List Bool} (hx : x ∈ gs) : H x.1 = some (.tup ((keyOf x.2).map kV)) := by
  rw [keyOf_V]
  exact G x hx
/-- a dict over games -/
def tabG (f : List Bool → V) (l : List (List Bool)) : List (List Key × V) := l.map fun m => (keyOf m, f m)
theorem tabG_in {f : List Bool → V} {m : List Bool} : ∀ {l : List (List Bool)}, m ∈ l → valV (tabG f l) (keyOf m) = some (f m)
  | a :: l, h => by
    show valV ((keyOf a, f a) :: tabG f l) (keyOf m) = _
    by_cases e : a = m
    · subst e
      rw [valV_pos rfl]
    · rw [valV_neg fun z => e (keyOf_inj z)]
      exact tabG_in ((List.mem_cons.mp h).resolve_left fun z => e z.symm)
theorem tabG_out {f : List Bool → V} {m : List Bool} : ∀ {l : List (List Bool)}, ¬ m ∈ l → valV (tabG f l) (keyOf m) = none
  | [], _ => rfl
  | a :: l, h => by
    show valV ((keyOf a, f a) :: tabG f l) (keyOf m) = _
    rw [valV_neg fun z => h (by rw [keyOf_inj z]; exact List.mem_cons_self)]
    exact tabG_out fun z => h (List.mem_cons_of_mem _ z)
theorem tabG_put {f : List Bool → V} {m : List Bool} {l : List (List Bool)} (h : ¬ m ∈ l) : putK (tabG f l) (keyOf m) (f m) = tabG f (l ++ [m]) := by
  rw [putK_new _ (tabG_out h)]
  unfold tabG
  rw [List.map_append]
  rfl
theorem tabG_len (f : List Bool → V) (l : List (List Bool)) : (tabG f l).length = l.length := by simp [tabG]
def spBy (K : PySem.W.Frag) : Sp := fun vs H Q _ => ∃ (a : Addr) (m : List Bool), vs = [.ref a] ∧ SqT K H a (fV m) ∧ m.length ≤ 10000 ∧
  ∀ H' p gs, Same H H' → H p = none → H' p = some (.lst (refs gs)) → gs.map (·.2) = gb m → GamesAt H' gs → Q (.ref p) H'
/-- what a game must be of which the worth is asked -/
structure StartOk (m : List Bool) : Prop where
  gm : Gm m m
  few : (lf m).length ≤ 16
  len : m.length ≤ 64
def spFrom : Sp := fun vs H Q _ => ∃ (a : Addr) (m : List Bool), vs = [.ref a] ∧ H a = some (.tup (fV m)) ∧ StartOk m ∧
  ∀ H' p gs, Same H H' → H p = none → H' p = some (.lst (refs gs)) → GamesAt H' gs → gs.length ≤ 65536 → (gs.map (·.2)).Nodup → m ∈ gs.map (·.2) → (∀ x ∈ gs.map (·.2), Gm m x ∧ ∀ y ∈ gb x, y ∈ gs.map (·.2)) → Q (.ref p) H'
def spLM (K : PySem.W.Frag) : Sp := fun vs H Q _ => ∃ (a : Addr) (l : List Nat), vs = [.ref a] ∧ SqL K H a (nV l) ∧ l.length ≤ 10000 ∧ Q (.int (lm l : Nat)) H
structure TxtB (mg : Str → Option Value) : Prop where
  range : mg "range" = none
  len : mg "len" = none
section
variable {P : Program} {w : World} {K : PySem.W.Frag} {mg : Str → Option Value} {base : Heap}
theorem scBy : FnScope ["made", "number"] ["made"] (defScope sBy) := ⟨rfl, rfl, rfl, by decide +kernel, rfl, by decide +kernel, by decide +kernel⟩
theorem ok_by {f fL fW : Addr} {fd fdL fdW : FuncData} (F : Fun K "games_by_one" "games_by_one" sBy f fd) (GL : FnOk P w K mg base CX0 1 fL fdL ["made"] (spLeft K)) (mL : mg "left_in" = some (.ref fL)) (kL : PySem.W.keepIn K (.ref fL) = true) (bL : Binds K fdL ["made"] [])
    (GW : FnOk P w K mg base CX0 1 fW fdW ["made", "number"] (spWith K)) (mW : mg "with_named" = some (.ref fW)) (kW : PySem.W.keepIn K (.ref fW) = true) (bW : Binds K fdW ["made", "number"] []) :
    FnOk P w K mg base CX0 2 f fd ["made"] (spBy K) := by
  refine F.ok scBy (fun vs H Q E h => ?_) (fun cdv A outer s H vs Q E hr h => ?_)
  · obtain ⟨a, m, rfl, _⟩ := h
    rfl
  · obtain ⟨a, m, rfl, hT, hm, k⟩ := h
    refine ⟨_, pss_one (ps_ret (pe_lc (own := [("number", 1)]) (g := gName 1) (tt := tYes) (by rfl) scBy.nd
      (pi_list (pe_call GL hr (by rfl) mL kL bL .nil pass0 (pa_cons (pv 0) pa_nil)))
      (blkOk_by (own := [("number", 1)]) (N := ["made", "number"]) (sc := defScope sBy) (by decide +kernel)) (fun _ _ _ _ _ => pg_name (i := 1) scBy.nd rfl (Or.inl rfl))
      (fun _ _ _ _ _ => pts_nil) (fun _ _ _ _ _ => pe_call GW hr (by rfl) mW kW bW .nil pass0 (pa_cons (pv 0) (pa_cons (pv 1) pa_nil))))), ?_⟩
    refine ⟨_, rfl, a, m, rfl, hT, hm, fun H1 l s1 hl h1 => ⟨l, rfl, ⟨_, SqL.of h1⟩, fun D hD => ?_⟩⟩
    have hHD : H D = none := s1.free hD
    refine lc_list (K := K) (a := l) (xs := nV (lf m)) (fun i H' => Same H1 H' ∧ ∃ gs : Gms, H' D = some (.lst (refs gs)) ∧ gs.map (·.2) = ((lf m).take i).map (wn m) ∧ GamesAt H' gs)
      ⟨same_new hD, [], upd_same, rfl, fun x hx => nomatch hx⟩ (fun i H' _ ⟨sm, _⟩ => SqL.of (sm _ _ h1)) ?_ ?_
    · rintro i y H' hi ⟨sm, gs, hL, hg, G⟩
      obtain ⟨x, hx, rfl⟩ := nV_get hi
      have hxm := lf_mem.mp (List.mem_of_getElem? hx)
      have hil : i < (lf m).length := (List.getElem?_eq_some_iff.mp hx).1
      have hsh := lf_short m
      refine ⟨rfl, ?_⟩
      simp only [tYes, if_true]
      refine ⟨_, rfl, _, rfl, a, m, x, rfl, same_seqT (s1.trans sm) hT, by omega, by omega, hm, fun H2 r s2 hr2 h2 => ?_⟩
      refine ⟨refs gs, s2 _ _ hL, ?_, fun b o e => ?_, gs ++ [(r, wn m x)], ?_, ?_, ?_⟩
      · have := congrArg List.length hg
        rw [List.length_map, List.length_map, List.length_take] at this
        rw [refs_len]
        exact lineL (by omega)
      · rw [upd_ne (ne_of_none e hD)]
        exact s2 _ _ (sm _ _ e)
      · rw [upd_same]
        unfold refs
        rw [List.map_append]
        rfl
      · rw [List.map_append, hg, take_more hx, List.map_append]
        rfl
      · refine GamesAt.upd (u := .lst (refs gs)) (fun z hz => ?_) (s2 _ _ hL) (fun xs e => nomatch e)
        rcases List.mem_append.mp hz with q | q
        · exact s2 _ _ (G z q)
        · rw [List.mem_singleton.mp q]
          exact h2
    · rintro H' ⟨sm, gs, hL, hg, G⟩
      rw [nV_len, List.take_length] at hg
      exact k _ D gs (s1.trans sm) hHD hL hg G
theorem scLM : FnScope ["some", "number"] ["some"] (defScope sLM) := ⟨rfl, rfl, rfl, by decide +kernel, rfl, by decide +kernel, by decide +kernel⟩
theorem inV_nat (k : Nat) (l : List Nat) : inV (V.int (k : Nat)) (nV l) = l.contains k := by
  unfold inV nV
  rw [List.any_map, List.contains_eq_any_beq]
  congr 1
  funext x
  show eqV (V.int (x : Nat)) (V.int (k : Nat)) = (k == x)
  rw [Bool.eq_iff_iff]
  simp only [eqV, beq_iff_eq]
  constructor
  · intro h; omega
  · intro h; omega
theorem flat_nV (l : List Nat) : (nV l).all flatV = true := by
  unfold nV
  rw [List.all_map]
  exact List.all_eq_true.mpr fun x _ => rfl
theorem ok_LM {f : Addr} {fd : FuncData} (F : Fun K "least_missing" "least_missing" sLM f fd) (T : TxtB mg) : FnOk P w K mg base CX0 1 f fd ["some"] (spLM K) := by
  refine F.ok scLM (fun vs H Q E h => ?_) (fun cdv A outer s H vs Q E hr h => ?_)
  · obtain ⟨a, l, rfl, _⟩ := h
    rfl
  · obtain ⟨a, l, rfl, hL, hl, k⟩ := h
    refine ⟨_, pss_cons (ps_for PassesOwn.never rfl (pi_range1 (by rfl) T.range (pa_cons (pe_callB call_len_seq (by rfl) T.len PySem.boot_len (pa_cons (pv 0) pa_nil)) pa_nil)) (pg_name (i := 1) scLM.nd rfl (Or.inl rfl))
        (pss_one (ps_if (pt_cmpR op_notIn_seq (pv 1) (pv 0) (by rfl)) (pss_one (ps_ret (pv 1))) pss_nil)))
      (pss_one (ps_ret (pe_callB call_len_seq (by rfl) T.len PySem.boot_len (pa_cons (pv 0) pa_nil)))), ?_⟩
    refine ⟨_, rfl, a, _, rfl, .inl hL, ((nV l).length : Int), rfl, by omega, by rw [nV_len]; omega, ?_⟩
    refine for_range (lo := 0) (n := ((nV l).length : Int).toNat) (fun i σ H' => ∃ x : Option V, σ = [some (.ref a), x] ∧ H' = H ∧ ((List.range l.length).take i).find? (fun k => !l.contains k) = none) ⟨none, rfl, rfl, rfl⟩ ?_ ?_
    · rintro i σ H' hi ⟨x, rfl, rfl, hf⟩
      rw [nV_len] at hi
      have hi' : i < l.length := by omega
      have hx : (List.range l.length)[i]? = some i := List.getElem?_range hi'
      rw [show (0 : Int) + (i : Int) = ((i : Nat) : Int) by omega]
      refine ⟨_, rfl, _, rfl, a, _, rfl, .inl hL, rfl, flat_nV l, _, rfl, ?_⟩
      rw [if_pos rfl, inV_nat]
      cases c : l.contains i with
      | false =>
        refine iteT ⟨_, rfl, ?_⟩
        have e : lm l = i := by
          unfold lm
          rw [find_at hf hx (by rw [c]; rfl)]
          rfl
        rw [e] at k
        exact k
      | true => exact iteF ⟨some (.int (i : Nat)), rfl, rfl, find_next hf hx (by rw [c]; rfl)⟩
    · rintro σ H' ⟨x, rfl, rfl, hf⟩
      rw [nV_len, Int.toNat_natCast, List.take_of_length_le (by simp)] at hf
      have e : lm l = l.length := by
        unfold lm
        rw [hf]
        rfl
      rw [e] at k
      refine ⟨_, rfl, a, _, rfl, .inl hL, ?_⟩
      rw [nV_len]
      exact k
end
end NW
namespace NW
open PySem PySem.Spec PyProof.Rows L2
open NT
/-- found and is_met of games_from, as they stand -/
structure Met (H : Hp) (q d : Addr) (m : List Bool) (gs : Gms) : Prop where
  lst : H q = some (.lst (refs gs))
  dic : H d = some (.dT (tabG (fun _ => V.bl true) (gs.map (·.2))))
  gms : GamesAt H gs
  nd : (gs.map (·.2)).Nodup
  all : ∀ x ∈ gs.map (·.2), Gm m x
  st : m ∈ gs.map (·.2)
theorem Met.few {H : Hp} {q d : Addr} {m : List Bool} {gs : Gms} (M : Met H q d m gs) (S : StartOk m) : gs.length ≤ 65536 := by
  have h := games_few M.nd M.all
  rw [List.length_map] at h
  have h2 : 2 ^ (lf m).length ≤ 2 ^ 16 := Nat.pow_le_pow_right (by decide) S.few
  omega
/-- all that was tracked but two stands -/
def Same2 (q d : Addr) (H H' : Hp) : Prop := ∀ b o, H b = some o → b ≠ q → b ≠ d → H' b = some o
theorem Met.call {H H' : Hp} {q d : Addr} {m : List Bool} {gs : Gms} (M : Met H q d m gs) (s : Same H H') : Met H' q d m gs := ⟨s _ _ M.lst, s _ _ M.dic, M.gms.same s, M.nd, M.all, M.st⟩
theorem same_upd2 {H H' : Hp} {q : Addr} {o : HO} (s : Same H H') (h : H q = none) : Same H (upd H' q o) := same_upd s h
section
variable {P : Program} {w : World} {K : PySem.W.Frag} {mg : Str → Option Value} {base : Heap}
theorem scFrom : FnScope ["start", "found", "is_met", "at", "made"] ["start"] (defScope sFrom) := ⟨rfl, rfl, rfl, by decide +kernel, rfl, by decide +kernel, by decide +kernel⟩
theorem ok_from {f fB : Addr} {fd fdB : FuncData} (F : Fun K "games_from" "games_from" sFrom f fd) (mLen : mg "len" = none) (GB : FnOk P w K mg base CX0 2 fB fdB ["made"] (spBy K)) (mB : mg "games_by_one" = some (.ref fB)) (kB : PySem.W.keepIn K (.ref fB) = true) (bB : Binds K fdB ["made"] []) :
    FnOk P w K mg base CX0 3 f fd ["start"] spFrom := by
  refine F.ok scFrom (fun vs H Q E h => ?_) (fun cdv A outer s H vs Q E hr h => ?_)
  · obtain ⟨a, m, rfl, _⟩ := h
    rfl
  · obtain ⟨a, m, rfl, hT, S, k⟩ := h
    have hu := hu_of hr
    refine ⟨_, pss_cons (ps_set (i := 1) scFrom.nd rfl (Or.inl rfl) (pe_lst (pa_cons (pv 0) pa_nil)))
      (pss_cons (ps_set (i := 2) scFrom.nd rfl (Or.inl rfl) (pe_disp1 (Nat.lt_of_succ_lt hu) (pv 0) pe_bl))
      (pss_cons (ps_set (i := 3) scFrom.nd rfl (Or.inl rfl) pe_int)
      (pss_cons (ps_while PassesOwn.never (pt_cmpR op_lt (pv 3) (pe_callB call_len_seq (by rfl) mLen PySem.boot_len (pa_cons (pv 1) pa_nil)) (nomark _))
        (pss_cons (ps_for PassesOwn.never rfl (pi_list (pe_call GB hr (by rfl) mB kB bB .nil pass0 (pa_cons (pe_ix ix_list (pv 1) (pv 3) (fun _ _ => rfl)) pa_nil))) (pg_name (i := 4) scFrom.nd rfl (Or.inl rfl))
          (pss_one (ps_if (pt_cmp (pc_dnotin hu (pv 4) (pv 2)))
            (pss_cons (ps_dput hu (pv 2) (pv 4) pe_bl rfl)
            (pss_one (ps_expr (pe_bm PySem.F.plainAttrs_list PySem.F.slot_list_append PySem.F.type_list_append mt_append (pv 1) (pa_cons (pv 4) pa_nil))))) pss_nil)))
        (pss_one (ps_set (i := 3) scFrom.nd rfl (Or.inl rfl) (pe_op op_add (pv 3) pe_int)))))
      (pss_one (ps_ret (pv 1)))))), ?_⟩
    -- found = [start]
    refine ⟨_, rfl, lineN (show 1 ≤ 16777216 by decide), fun q hq => ?_⟩
    -- is_met = {start: True}
    have hTq : upd H q (.lst [.ref a]) a = some (.tup (fV m)) := by rw [upd_ne (ne_of_none hT hq)]; exact hT
    intro d hd
    have hqd : q ≠ d := ne_of_none upd_same hd
    have hda : a ≠ d := ne_of_none hTq hd
    refine ⟨_, rfl, upd_same, a, keyOf m, rfl, by rw [upd_ne hda, keyOf_V]; exact hTq, ?_⟩
    -- at = 0
    generalize hH0 : upd (upd (upd H q (.lst [.ref a])) d (.dT [])) d (.dT [(keyOf m, .bl true)]) = H0
    have hHd : H d = none := by
      have z := hd
      rw [upd_ne hqd.symm] at z
      exact z
    have s0 : Same H H0 := by
      rw [← hH0, upd_upd]
      exact same_upd (same_new hq) hHd
    have M0 : Met H0 q d m [(a, m)] := by
      refine ⟨?_, ?_, ?_, by simp, fun x hx => ?_, by simp⟩
      · rw [← hH0, upd_ne hqd, upd_ne hqd, upd_same]
        rfl
      · rw [← hH0, upd_same]
        rfl
      · intro x hx
        rw [List.mem_singleton.mp hx, ← hH0, upd_ne hda, upd_ne hda]
        exact hTq
      · have e : x = m := by simpa using hx
        rw [e]
        exact S.gm
    clear hH0
    refine ⟨fun n σ H' => ∃ (i : Nat) (gs : Gms) (v : Option V), σ = [some (.ref a), some (.ref q), some (.ref d), some (.int (i : Nat)), v] ∧ Same H H' ∧ Met H' q d m gs ∧ i ≤ gs.length ∧ n = 65536 - i ∧
      ∀ j, j < i → ∀ x, gs[j]? = some x → ∀ y ∈ gb x.2, y ∈ gs.map (·.2), ⟨65536, 0, [(a, m)], none, rfl, s0, M0, Nat.zero_le _, rfl, fun j hj => absurd hj (Nat.not_lt_zero j)⟩, ?_⟩
    rintro n σ H' ⟨i, gs, v, rfl, sm, M, hi, rfl, hcl⟩
    have hfew := M.few S
    refine ⟨_, rfl, _, rfl, q, _, rfl, .inl (SqL.of M.lst), _, _, rfl, rfl, _, rfl, ?_⟩
    rw [refs_len]
    by_cases c : ((i : Nat) : Int) < ((gs.length : Nat) : Int)
    · rw [decide_eq_true c]
      have hil : i < gs.length := by omega
      obtain ⟨g, hg⟩ : ∃ g, gs[i]? = some g := ⟨_, List.getElem?_eq_getElem hil⟩
      have hgm : g ∈ gs := List.mem_of_getElem? hg
      have hGg : Gm m g.2 := M.all _ (List.mem_map.mpr ⟨g, hgm, rfl⟩)
      have hlen : g.2.length ≤ 64 := by rw [hGg.len]; exact S.len
      refine iteT ⟨fun σ' H2 => ∃ (gs2 : Gms) (v : Option V), σ' = [some (.ref a), some (.ref q), some (.ref d), some (.int ((i + 1 : Nat))), v] ∧ Same H H2 ∧ Met H2 q d m gs2 ∧ i + 1 ≤ gs2.length ∧
        ∀ j, j < i + 1 → ∀ x, gs2[j]? = some x → ∀ y ∈ gb x.2, y ∈ gs2.map (·.2), ?_, ?_⟩
      · rintro σ' H2 ⟨gs2, v2, rfl, sm2, M2, hi2, hcl2⟩
        exact ⟨65536 - (i + 1), by omega, i + 1, gs2, v2, rfl, sm2, M2, hi2, rfl, hcl2⟩
      · -- for made in games_by_one(found[at])
        refine ⟨_, rfl, _, rfl, q, _, _, _, rfl, rfl, SqL.of M.lst, atI_nat (refs_at_ hg), g.1, g.2, rfl, SqT.of (M.gms g hgm), by omega, fun H1 p bs s1 hp h1 hbs G1 => ⟨p, rfl, ⟨_, SqL.of h1⟩, ?_⟩⟩
        have M1 := M.call s1
        have hbm : ∀ x ∈ bs, x.2 ∈ gb g.2 := fun x hx => by rw [← hbs]; exact List.mem_map.mpr ⟨x, hx, rfl⟩
        have hpq : p ≠ q := fun e => by rw [e, M.lst] at hp; cases hp
        have hpd : p ≠ d := fun e => by rw [e, M.dic] at hp; cases hp
        refine for_list (K := K) (a := p) (xs := refs bs) (fun t σ H2 => ∃ (ex : Gms) (v : Option V), σ = [some (.ref a), some (.ref q), some (.ref d), some (.int (i : Nat)), v] ∧ Same H H2 ∧ H2 p = some (.lst (refs bs)) ∧ GamesAt H2 bs ∧ Met H2 q d m (gs ++ ex) ∧
          ∀ x ∈ bs.take t, x.2 ∈ (gs ++ ex).map (·.2)) ⟨[], v, rfl, sm.trans s1, h1, G1, by rw [List.append_nil]; exact M1, fun x hx => nomatch hx⟩ (fun _ _ _ _ ⟨_, _, _, _, h, _⟩ => SqL.of h) ?_ ?_
        · rintro t y σ H2 ht ⟨ex, v2, rfl, sm2, hp2, G2, M2, hin⟩
          obtain ⟨x, hx, rfl⟩ := refs_get ht
          have hxm : x ∈ bs := List.mem_of_getElem? hx
          have hf2 := M2.few S
          refine ⟨_, rfl, _, rfl, d, _, rfl, DGet.t M2.dic (G2.key hxm), _, rfl, ?_⟩
          by_cases hm2 : x.2 ∈ (gs ++ ex).map (·.2)
          · rw [tabG_in hm2]
            refine iteF ⟨ex, some (.ref x.1), rfl, sm2, hp2, G2, M2, fun z hz => ?_⟩
            rw [take_more hx] at hz
            rcases List.mem_append.mp hz with e | e
            · exact hin z e
            · rw [List.mem_singleton.mp e]
              exact hm2
          · rw [tabG_out hm2]
            refine iteT ?_
            have hqd2 : q ≠ d := hqd
            have hl : (tabG (fun _ => V.bl true) ((gs ++ ex).map (·.2))).length < sizeLine := by
              rw [tabG_len, List.length_map]
              exact lineL (by omega)
            refine ⟨_, rfl, _, rfl, d, _, rfl, DPut.t M2.dic (G2.key hxm) hl, ?_⟩
            have hq2 : upd H2 d (.dT (putK (tabG (fun _ => V.bl true) ((gs ++ ex).map (·.2))) (keyOf x.2) (.bl true))) q = some (.lst (refs (gs ++ ex))) := by rw [upd_ne hqd]; exact M2.lst
            refine ⟨_, rfl, .inl ⟨rfl, _, SqL.of hq2⟩, _, rfl, q, _, _, rfl, rfl, hq2, ?_, ex ++ [x], some (.ref x.1), rfl, ?_, ?_, ?_, ?_, fun z hz => ?_⟩
            · rw [refs_len]
              exact lineL (by omega)
            · exact same_upd (same_upd sm2 hHd) hq
            · rw [upd_ne hpq, upd_ne hpd]
              exact hp2
            · exact (G2.upd M2.dic (fun xs e => nomatch e)).upd hq2 (fun xs e => nomatch e)
            · have hxg : Gm m x.2 := by
                obtain ⟨n, hn, e⟩ := List.mem_map.mp (hbm x hxm)
                rw [← e]
                exact hGg.next hn
              have em : (gs ++ (ex ++ [x])).map (·.2) = (gs ++ ex).map (·.2) ++ [x.2] := by rw [← List.append_assoc, List.map_append]; rfl
              refine ⟨?_, ?_, ?_, ?_, fun y hy => ?_, ?_⟩
              · rw [upd_same, ← List.append_assoc]
                unfold refs
                rw [List.map_append (l₂ := [x])]
                rfl
              · rw [upd_ne hqd.symm, upd_same, em, ← tabG_put (f := fun _ => V.bl true) hm2]
              · have G3 : GamesAt H2 (gs ++ (ex ++ [x])) := fun y hy => by
                  rw [← List.append_assoc] at hy
                  rcases List.mem_append.mp hy with e | e
                  · exact M2.gms y e
                  · rw [List.mem_singleton.mp e]
                    exact G2 x hxm
                exact (G3.upd M2.dic (fun xs e => nomatch e)).upd hq2 (fun xs e => nomatch e)
              · rw [em]
                exact nd_snoc M2.nd hm2
              · rw [em] at hy
                rcases List.mem_append.mp hy with e | e
                · exact M2.all y e
                · rw [List.mem_singleton.mp e]
                  exact hxg
              · rw [em]
                exact List.mem_append_left _ M2.st
            · have em : (gs ++ (ex ++ [x])).map (·.2) = (gs ++ ex).map (·.2) ++ [x.2] := by rw [← List.append_assoc, List.map_append]; rfl
              rw [em]
              rw [take_more hx] at hz
              rcases List.mem_append.mp hz with e | e
              · exact List.mem_append_left _ (hin z e)
              · rw [List.mem_singleton.mp e]
                exact List.mem_append_right _ (by simp)
        · rintro σ H2 ⟨ex, v2, rfl, sm2, hp2, G2, M2, hin⟩
          rw [refs_len, List.take_length] at hin
          refine ⟨_, rfl, _, _, rfl, rfl, gs ++ ex, v2, rfl, sm2, M2, by rw [List.length_append]; omega, fun j hj x hx y hy => ?_⟩
          rw [List.getElem?_append_left (by omega)] at hx
          by_cases hji : j < i
          · have := hcl j hji x hx y hy
            rw [List.map_append]
            exact List.mem_append_left _ this
          · have e : j = i := by omega
            subst e
            rw [hg] at hx
            cases hx
            rw [← hbs] at hy
            obtain ⟨z, hz, rfl⟩ := List.mem_map.mp hy
            exact hin z hz
    · rw [decide_eq_false c]
      refine iteF ⟨_, rfl, k _ q gs sm hq M.lst M.gms hfew M.nd M.st fun x hx => ⟨M.all x hx, ?_⟩⟩
      obtain ⟨z, hz, rfl⟩ := List.mem_map.mp hx
      obtain ⟨j, hj⟩ := List.mem_iff_getElem?.mp hz
      have hjl := (List.getElem?_eq_some_iff.mp hj).1
      exact hcl j (by omega) z hj
end
end NW
namespace NW
open PySem PySem.Spec PyProof.Rows L2
open NT
abbrev sWorths : Stmt := topS 24
abbrev sWorth : Stmt := topS 25
abbrev sWin : Stmt := topS 26
/-- a worth as a value -/
def wV (m : List Bool) : V := V.int (val m : Nat)
/-- the dict knows the worths of these -/
def Knows (kvs : List (List Key × V)) (l : List (List Bool)) : Prop := ∀ x ∈ l, valV kvs (keyOf x) = some (wV x)
def spWorths : Sp := fun vs H Q _ => ∃ (a : Addr) (m : List Bool), vs = [.ref a] ∧ H a = some (.tup (fV m)) ∧ StartOk m ∧
  ∀ H' d kvs, Same H H' → H d = none → H' d = some (.dT kvs) → Knows kvs (m :: gb m) → Q (.ref d) H'
def spWorth : Sp := fun vs H Q _ => ∃ (a : Addr) (m : List Bool), vs = [.ref a] ∧ H a = some (.tup (fV m)) ∧ StartOk m ∧ ∀ H', Same H H' → Q (.int (val m : Nat)) H'
def spWin : Sp := fun vs H Q _ => ∃ (a : Addr) (m : List Bool), vs = [.ref a] ∧ H a = some (.tup (fV m)) ∧ StartOk m ∧ ∀ H' p, Same H H' → H p = none → H' p = some (.lst (nV (winsBy m))) → Q (.ref p) H'
theorem Knows.put {kvs : List (List Key × V)} {l : List (List Bool)} {m : List Bool} (h : Knows kvs l) : Knows (putK kvs (keyOf m) (wV m)) (l ++ [m]) := fun x hx => by
  rw [valV_put]
  by_cases e : keyOf x = keyOf m
  · rw [if_pos e, keyOf_inj e]
  · rw [if_neg e]
    rcases List.mem_append.mp hx with q | q
    · exact h x q
    · exact absurd (by rw [List.mem_singleton.mp q]) e
theorem fV_ints (m : List Bool) : fV m = (m.map bi).map V.int := by
  unfold fV
  rw [List.map_map]
  rfl
def unI (x : Addr × List Int) : Addr × List Bool := (x.1, x.2.map fun i => i == 1)
theorem unI_of (x : Addr × List Bool) : unI (x.1, x.2.map bi) = x := by
  obtain ⟨a, m⟩ := x
  unfold unI
  have e : (m.map bi).map (fun i => i == 1) = m := by
    rw [List.map_map]
    refine Eq.trans (List.map_congr_left (g := id) fun b _ => ?_) (List.map_id m)
    cases b <;> rfl
  show (a, (m.map bi).map fun i => i == 1) = (a, m)
  rw [e]
theorem perm_back {bs : Gms} {ys : List (Addr × List Int)} (h : ys.Perm (bs.map fun x => (x.1, x.2.map bi))) : ∃ zs : Gms, ys = zs.map (fun x => (x.1, x.2.map bi)) ∧ zs.Perm bs := by
  refine ⟨ys.map unI, ?_, ?_⟩
  · rw [List.map_map]
    refine Eq.symm (Eq.trans (List.map_congr_left (g := id) fun y hy => ?_) (List.map_id ys))
    obtain ⟨x, _, rfl⟩ := List.mem_map.mp (h.mem_iff.mp hy)
    show ((unI (x.1, x.2.map bi)).1, (unI (x.1, x.2.map bi)).2.map bi) = (x.1, x.2.map bi)
    rw [unI_of]
  · have h2 := h.map unI
    rw [List.map_map] at h2
    have e : bs.map (unI ∘ fun x => (x.1, x.2.map bi)) = bs := by
      refine Eq.trans (List.map_congr_left (g := id) fun y hy => ?_) (List.map_id bs)
      exact unI_of y
    rw [e] at h2
    exact h2
structure TxtS (mg : Str → Option Value) : Prop where
  sorted : mg "sorted" = none
  sum : mg "sum" = none
section
variable {P : Program} {w : World} {K : PySem.W.Frag} {mg : Str → Option Value} {base : Heap}
theorem scWorths : FnScope ["start", "found", "made", "further"] ["start"] (defScope sWorths) := ⟨rfl, rfl, rfl, by decide +kernel, rfl, by decide +kernel, by decide +kernel⟩
theorem ok_worths {f fF fL fB : Addr} {fd fdF fdL fdB : FuncData} (F : Fun K "worths_from" "worths_from" sWorths f fd) (T : TxtS mg) (GF : FnOk P w K mg base CX0 3 fF fdF ["start"] spFrom) (mF : mg "games_from" = some (.ref fF)) (kF : PySem.W.keepIn K (.ref fF) = true) (bF : Binds K fdF ["start"] [])
    (GL : FnOk P w K mg base CX0 1 fL fdL ["some"] (spLM K)) (mL : mg "least_missing" = some (.ref fL)) (kL : PySem.W.keepIn K (.ref fL) = true) (bL : Binds K fdL ["some"] [])
    (GB : FnOk P w K mg base CX0 2 fB fdB ["made"] (spBy K)) (mB : mg "games_by_one" = some (.ref fB)) (kB : PySem.W.keepIn K (.ref fB) = true) (bB : Binds K fdB ["made"] []) :
    FnOk P w K mg base CX0 4 f fd ["start"] spWorths := by
  refine F.ok scWorths (fun vs H Q E h => ?_) (fun cdv A outer s H vs Q E hr h => ?_)
  · obtain ⟨a, m, rfl, _⟩ := h
    rfl
  · obtain ⟨a, m, rfl, hT, S, k⟩ := h
    have hu := hu_of hr
    have hr1 : Room 1 _ := hr.mono (by decide)
    have hr2 : Room 2 _ := hr.mono (by decide)
    refine ⟨_, pss_cons (ps_set (i := 1) scWorths.nd rfl (Or.inr rfl) pe_dnewT)
      (pss_cons (ps_for PassesOwn.never rfl (pi_list (pe_sortSum (by rfl) hr.units (by rfl) T.sorted (by rfl) T.sum (pa_cons (pe_call GF hr (by rfl) mF kF bF .nil pass0 (pa_cons (pv 0) pa_nil)) pa_nil))) (pg_name (i := 2) scWorths.nd rfl (Or.inl rfl))
        (pss_one (ps_dput hu (pv 1) (pv 2) (pe_call GL hr1 (by rfl) mL kL bL .nil pass0 (pa_cons
          (pe_lc (own := [("further", 3)]) (g := gName 3) (tt := tYes) (by rfl) scWorths.nd (pi_list (pe_call GB hr2 (by rfl) mB kB bB .nil pass0 (pa_cons (pv 2) pa_nil)))
            (blkOk_by (own := [("further", 3)]) (N := ["start", "found", "made", "further"]) (sc := defScope sWorths) (by decide +kernel)) (fun _ _ _ _ _ => pg_name (i := 3) scWorths.nd rfl (Or.inl rfl))
            (fun _ _ _ _ _ => pts_nil) (fun _ _ _ _ _ => pe_dget hu (pv 1) (pv 3) (fun _ _ => rfl))) pa_nil)) rfl)))
      (pss_one (ps_ret (pv 1)))), ?_⟩
    intro d hd
    have sD : Same H (upd H d (.dT [])) := same_new hd
    refine ⟨_, rfl, a, m, rfl, sD _ _ hT, S, fun H1 p gs s1 hp h1 G1 hfew hnd hst hall => ?_⟩
    refine ⟨p, gs.map (fun x => (x.1, x.2.map bi)), rfl, SqL.of ?_, fun b hb => ?_, fun ys q pm so hq => ⟨q, rfl, ⟨_, SqL.of upd_same⟩, ?_⟩⟩
    · rw [h1]
      unfold refs
      rw [List.map_map]
      rfl
    · obtain ⟨x, hx, rfl⟩ := List.mem_map.mp hb
      show H1 x.1 = some (.tup ((x.2.map bi).map V.int))
      rw [← fV_ints]
      exact G1 x hx
    · -- the sorted games
      obtain ⟨zs, hzs, hzp⟩ : ∃ zs : Gms, ys = zs.map (fun x => (x.1, x.2.map bi)) ∧ zs.Perm gs := by
        exact perm_back pm
      subst hzs
      have hso : (zs.map (·.2)).Pairwise fun u v => bsum v ≤ bsum u := by
        rw [List.pairwise_map] at so ⊢
        exact so
      have hmem : ∀ x, x ∈ zs.map (·.2) ↔ x ∈ gs.map (·.2) := fun x => (hzp.map (·.2)).mem_iff
      have eR : (zs.map (fun x => (x.1, x.2.map bi))).map (fun b => V.ref b.1) = refs zs := by
        unfold refs
        rw [List.map_map]
        rfl
      rw [eR]
      have s2 : Same (upd H d (.dT [])) (upd H1 q (.lst (refs zs))) := same_upd s1 (s1.free hq)
      have hqd : q ≠ d := fun e => by
        have z := s1 d _ upd_same
        rw [e, z] at hq
        cases hq
      have G2 : GamesAt (upd H1 q (.lst (refs zs))) zs := fun x hx => by
        have z := G1 x (hzp.mem_iff.mp hx)
        rw [upd_ne (ne_of_none z hq)]
        exact z
      have hHq : H q = none := by
        have z := s1.free hq
        rw [upd_ne hqd] at z
        exact z
      refine for_list (K := K) (a := q) (xs := refs zs) (fun i σ H' => ∃ (v : Option V) (kvs : List (List Key × V)), σ = [some (.ref a), some (.ref d), v, none] ∧ Same H H' ∧ H' q = some (.lst (refs zs)) ∧ GamesAt H' zs ∧ H' d = some (.dT kvs) ∧ kvs.length ≤ i ∧ Knows kvs ((zs.map (·.2)).take i))
        ⟨none, [], rfl, sD.trans s2, upd_same, G2, s2 _ _ upd_same, Nat.le_refl _, fun x hx => nomatch hx⟩ (fun _ _ _ _ ⟨_, _, _, _, h, _⟩ => SqL.of h) ?_ ?_
      · rintro i y σ H' hi ⟨v, kvs, rfl, sm, hL, G, hD, hlen, hK⟩
        obtain ⟨x, hx, rfl⟩ := refs_get hi
        have hxm : x ∈ zs := List.mem_of_getElem? hx
        have hx2 : (zs.map (·.2))[i]? = some x.2 := by rw [List.getElem?_map, hx]; rfl
        have hxg := hall x.2 ((hmem _).mp (List.mem_map.mpr ⟨x, hxm, rfl⟩))
        have hx0 : x.2.getD 0 false = true := hxg.1.zero
        have hxl : x.2.length ≤ 64 := by rw [hxg.1.len]; exact S.len
        have hil : i < zs.length := (List.getElem?_eq_some_iff.mp hx).1
        have hzl : zs.length = gs.length := hzp.length_eq
        have hin : ∀ y ∈ gb x.2, valV kvs (keyOf y) = some (wV y) := fun y hy => hK y (ahead hso hx2 hx0 hy ((hmem _).mpr (hxg.2 y hy)))
        -- [found[further] for further in games_by_one(made)]
        refine ⟨_, rfl, x.1, x.2, rfl, SqT.of (G x hxm), by omega, fun H2 p2 bs s3 hp2 h2 hbs G3 => ⟨p2, rfl, ⟨_, SqL.of h2⟩, fun D hDn => ?_⟩⟩
        have hbl : bs.length ≤ 64 := by
          have e := congrArg List.length hbs
          unfold gb at e
          rw [List.length_map, List.length_map] at e
          have := lf_short x.2
          omega
        have hd2 : H2 d = some (.dT kvs) := s3 _ _ hD
        refine lc_list (K := K) (a := p2) (xs := refs bs) (fun t H3 => Same H2 H3 ∧ H3 D = some (.lst (nV ((bs.take t).map fun x => val x.2)))) ⟨same_new hDn, upd_same⟩ (fun _ _ _ ⟨z, _⟩ => SqL.of (z _ _ h2)) ?_ ?_
        · rintro t y H3 ht ⟨sm3, hD3⟩
          obtain ⟨z, hz, rfl⟩ := refs_get ht
          have hzm : z ∈ bs := List.mem_of_getElem? hz
          have hzb : z.2 ∈ gb x.2 := by rw [← hbs]; exact List.mem_map.mpr ⟨z, hzm, rfl⟩
          refine ⟨rfl, ?_⟩
          simp only [tYes, if_true]
          refine ⟨_, rfl, _, rfl, d, wV z.2, rfl, ?_, ?_⟩
          · rw [← hin z.2 hzb]
            exact DGet.t (sm3 _ _ hd2) ((G3.same sm3).key hzm)
          · refine ⟨_, hD3, ?_, same_upd sm3 hDn, ?_⟩
            · rw [nV_len, List.length_map, List.length_take]
              exact lineL (by omega)
            · rw [upd_same, take_more hz, List.map_append]
              exact congrArg (fun l => some (HO.lst l)) (nV_snoc _ (val z.2)).symm
        · rintro H3 ⟨sm3, hD3⟩
          rw [refs_len, List.take_length] at hD3
          have e1 : bs.map (fun x => val x.2) = (gb x.2).map val := by
            rw [← hbs, List.map_map]
            rfl
          rw [e1] at hD3
          refine ⟨D, (gb x.2).map val, rfl, SqL.of hD3, ?_, ?_⟩
          · rw [← e1, List.length_map]
            omega
          · rw [← val_eq hx0]
            have sm4 : Same H' H3 := s3.trans sm3
            have hdT : H3 d = some (.dT kvs) := sm4 _ _ hD
            have hxk := (G.same sm4).key hxm
            refine ⟨_, rfl, _, rfl, d, _, rfl, DPut.t hdT hxk (lineL (by omega)), some (.ref x.1), _, rfl, ?_, ?_, ?_, upd_same, ?_, ?_⟩
            · exact same_upd (sm.trans sm4) hd
            · rw [upd_ne hqd]
              exact sm4 _ _ hL
            · exact (G.same sm4).upd hdT (fun xs e => nomatch e)
            · have := length_putK kvs (keyOf x.2) (wV x.2)
              exact Nat.le_trans this (by omega)
            · rw [take_more hx2]
              exact hK.put
      · rintro σ H' ⟨v, kvs, rfl, sm, hL, G, hD, hlen, hK⟩
        rw [refs_len, List.take_of_length_le (by rw [List.length_map]; exact Nat.le_refl _)] at hK
        refine ⟨_, rfl, k _ d kvs sm hd hD fun x hx => hK x ((hmem x).mpr ?_)⟩
        rcases List.mem_cons.mp hx with e | e
        · rw [e]; exact hst
        · exact (hall m hst).2 x e
theorem scWorth : FnScope ["start"] ["start"] (defScope sWorth) := ⟨rfl, rfl, rfl, by decide +kernel, rfl, by decide +kernel, by decide +kernel⟩
theorem ok_worth {f fW : Addr} {fd fdW : FuncData} (F : Fun K "worth_of" "worth_of" sWorth f fd) (GW : FnOk P w K mg base CX0 4 fW fdW ["start"] spWorths) (mW : mg "worths_from" = some (.ref fW)) (kW : PySem.W.keepIn K (.ref fW) = true) (bW : Binds K fdW ["start"] []) :
    FnOk P w K mg base CX0 5 f fd ["start"] spWorth := by
  refine F.ok scWorth (fun vs H Q E h => ?_) (fun cdv A outer s H vs Q E hr h => ?_)
  · obtain ⟨a, m, rfl, _⟩ := h
    rfl
  · obtain ⟨a, m, rfl, hT, S, k⟩ := h
    have hu := hu_of hr
    refine ⟨_, pss_one (ps_ret (pe_dget hu (pe_call GW hr (by rfl) mW kW bW .nil pass0 (pa_cons (pv 0) pa_nil)) (pv 0) (fun _ _ => rfl))), ?_⟩
    refine ⟨_, rfl, a, m, rfl, hT, S, fun H1 d kvs s1 hd h1 hK => ⟨_, rfl, d, wV m, rfl, ?_, k _ s1⟩⟩
    rw [← hK m List.mem_cons_self]
    refine DGet.t h1 ?_
    rw [keyOf_V]
    exact s1 _ _ hT
theorem scWin : FnScope ["start", "worths", "number"] ["start"] (defScope sWin) := ⟨rfl, rfl, rfl, by decide +kernel, rfl, by decide +kernel, by decide +kernel⟩
theorem ok_win {f fW fL fN : Addr} {fd fdW fdL fdN : FuncData} (F : Fun K "winning_in" "winning_in" sWin f fd) (GW : FnOk P w K mg base CX0 4 fW fdW ["start"] spWorths) (mW : mg "worths_from" = some (.ref fW)) (kW : PySem.W.keepIn K (.ref fW) = true) (bW : Binds K fdW ["start"] [])
    (GL : FnOk P w K mg base CX0 1 fL fdL ["made"] (spLeft K)) (mL : mg "left_in" = some (.ref fL)) (kL : PySem.W.keepIn K (.ref fL) = true) (bL : Binds K fdL ["made"] [])
    (GN : FnOk P w K mg base CX0 1 fN fdN ["made", "number"] (spWith K)) (mN : mg "with_named" = some (.ref fN)) (kN : PySem.W.keepIn K (.ref fN) = true) (bN : Binds K fdN ["made", "number"] []) :
    FnOk P w K mg base CX0 5 f fd ["start"] spWin := by
  refine F.ok scWin (fun vs H Q E h => ?_) (fun cdv A outer s H vs Q E hr h => ?_)
  · obtain ⟨a, m, rfl, _⟩ := h
    rfl
  · obtain ⟨a, m, rfl, hT, S, k⟩ := h
    have hu := hu_of hr
    have hr1 : Room 1 _ := hr.mono (by decide)
    refine ⟨_, pss_cons (ps_set (i := 1) scWin.nd rfl (Or.inr rfl) (pe_call GW hr (by rfl) mW kW bW .nil pass0 (pa_cons (pv 0) pa_nil)))
      (pss_one (ps_ret (pe_lc (own := [("number", 2)]) (g := gName 2) (by rfl) scWin.nd (pi_list (pe_call GL hr1 (by rfl) mL kL bL .nil pass0 (pa_cons (pv 0) pa_nil)))
        (blkOk_by (own := [("number", 2)]) (N := ["start", "worths", "number"]) (sc := defScope sWin) (by decide +kernel)) (fun _ _ _ _ _ => pg_name (i := 2) scWin.nd rfl (Or.inl rfl))
        (fun _ _ _ _ _ => pts_one (pt_cmpR op_eq (pe_dget hu (pv 1) (pe_call GN hr1 (by rfl) mN kN bN .nil pass0 (pa_cons (pv 0) (pa_cons (pv 2) pa_nil))) (fun _ _ => rfl)) pe_int (nomark _))) (fun _ _ _ _ _ => pv 2)))), ?_⟩
    refine ⟨_, rfl, a, m, rfl, hT, S, fun H1 d kvs s1 hd h1 hK => ?_⟩
    have hlen := S.len
    refine ⟨_, rfl, a, m, rfl, SqT.of (s1 _ _ hT), by omega, fun H2 l s2 hl h2 => ⟨l, rfl, ⟨_, SqL.of h2⟩, fun D hD => ?_⟩⟩
    have s12 := s1.trans s2
    refine lc_list (K := K) (a := l) (xs := nV (lf m)) (fun i H' => Same H2 H' ∧ H' D = some (.lst (nV (((lf m).take i).filter fun g => val (wn m g) == 0)))) ⟨same_new hD, upd_same⟩ (fun _ _ _ ⟨sm, _⟩ => SqL.of (sm _ _ h2)) ?_ ?_
    · rintro i y H' hi ⟨sm, hL⟩
      obtain ⟨x, hx, rfl⟩ := nV_get hi
      have hxm := List.mem_of_getElem? hx
      have hx2 := lf_mem.mp hxm
      have hil : i < (lf m).length := (List.getElem?_eq_some_iff.mp hx).1
      have hfew := S.few
      refine ⟨rfl, _, rfl, _, rfl, _, rfl, a, m, x, rfl, SqT.of (sm _ _ (s12 _ _ hT)), by omega, by omega, by omega, fun H3 p s3 hp h3 => ?_⟩
      refine ⟨d, wV (wn m x), rfl, ?_, rfl, _, rfl, ?_⟩
      · rw [← hK (wn m x) (List.mem_cons_of_mem _ (List.mem_map.mpr ⟨x, hxm, rfl⟩))]
        refine DGet.t (s3 _ _ (sm _ _ (s2 _ _ h1))) ?_
        rw [keyOf_V]
        exact h3
      · have e : decide (wV (wn m x) = V.int 0) = (val (wn m x) == 0) := by
          unfold wV
          rw [dec_int, Bool.eq_iff_iff, beq_iff_eq, beq_iff_eq]
          omega
        rw [e, take_more hx, List.filter_append]
        cases c : val (wn m x) == 0 with
        | false =>
          refine iteF ⟨sm.trans s3, ?_⟩
          rw [List.filter_cons, c]
          rw [if_neg (by decide), List.filter_nil, List.append_nil]
          exact s3 _ _ hL
        | true =>
          refine iteT ⟨_, rfl, _, s3 _ _ hL, ?_, same_upd (sm.trans s3) hD, ?_⟩
          · rw [nV_len]
            have := List.length_filter_le (fun g => val (wn m g) == 0) ((lf m).take i)
            rw [List.length_take] at this
            exact lineL (by omega)
          · rw [upd_same, List.filter_cons, c, if_pos rfl, List.filter_nil, nV_snoc]
    · rintro H' ⟨sm, hL⟩
      rw [nV_len, List.take_length] at hL
      exact k _ D (s12.trans sm) (s12.free hD) hL
end
end NW
namespace NW
open PySem PySem.Spec PyProof.Rows L2
open NT
/-! ### game.py: data; the answers as values -/
def dN (l : List Nat) : List PyData := l.map fun n => PyData.int (n : Nat)
theorem dp_all {K : PySem.W.Frag} {H : Hp} : ∀ l : List Nat, DpAll K H (nV l) (dN l)
  | [] => .nil
  | _ :: l => .cons (.int _) (dp_all l)
theorem dp_nat {K : PySem.W.Frag} {H : Hp} {a : Addr} {l : List Nat} (h : SqL K H a (nV l)) : Dp K H (.ref a) (.list (dN l)) := .lst h (dp_all l)
theorem lay_all : ∀ l : List Nat, PyData.canLayAll0 (dN l) = true
  | [] => by simp [dN, PyData.canLayAll0]
  | n :: l => by
    have := lay_all l
    unfold dN at this ⊢
    rw [List.map_cons]
    simp [PyData.canLayAll0, PyData.canLay0, this]
theorem depth_all : ∀ l : List Nat, PyData.depthAll (dN l) = 0
  | [] => by simp [dN, PyData.depthAll]
  | n :: l => by
    have := depth_all l
    unfold dN at this ⊢
    rw [List.map_cons]
    simp [PyData.depthAll, PyData.depth, this]
theorem shaped_nat (l : List Nat) : SeqAt.shaped (.list (dN l)) = true := by
  unfold SeqAt.shaped
  rw [Bool.and_eq_true, decide_eq_true_eq]
  constructor
  · simp [PyData.canLay0, lay_all]
  · simp [PyData.depth, depth_all]
theorem eqv_empty (l : List Nat) : PyData.eqv (.list (dN l)) (.list (dN [])) = l.isEmpty := by
  cases l with
  | nil => simp [dN, PyData.eqv, PyData.eqvAll]
  | cons a l => simp [dN, PyData.eqv, PyData.eqvAll]

def ans (a : Uw60.Ans) : List V := (Uw60Neutral.out a).map V.int
theorem ans_ok (z : Int) : ans (Uw60.ok z) = [V.int z] := rfl
theorem ans_mk (z : Int) (l : List Nat) : ans ⟨z, l⟩ = V.int z :: nV l := by
  unfold ans Uw60Neutral.out nV
  rw [List.map_cons, List.map_map]
  rfl
theorem told_no {l : List Nat} (h : ¬ gd l = 1) : ans (Uw60.told l) = [V.int (gd l : Nat)] := by
  unfold Uw60.told
  rw [gd_common, if_neg h, ans_mk]
  rfl
theorem told_one {l : List Nat} (h : gd l = 1) : ans (Uw60.told l) = [V.int (gd l : Nat), V.int ((gp l).length : Nat)] := by
  unfold Uw60.told
  rw [gd_common, if_pos h, ans_mk, gp_eq]
  rfl
/-- a game lies at x, these being named -/
def gF (p : Addr) : List (Str × V) := putF "named" (.ref p) []
theorem gF_named (p : Addr) : (gF p).lookup ("named" : Str) = some (.ref p) := (lookup_putF _ _ _ _).trans (if_pos rfl)
theorem gF_other (p : Addr) {m : Str} (h : ¬ m = "named") : (gF p).lookup m = none := ((lookup_putF _ _ _ _).trans (if_neg h)).trans rfl
theorem gF_put (p q : Addr) : putF "named" (.ref q) (gF p) = gF q := if_pos rfl
theorem gF_len (p : Addr) : (gF p).length < 1000 := (by decide : 1 < 1000)
structure GameAt (C : Addr) (H : Hp) (x : Addr) (l : List Nat) : Prop where
  ex : ∃ dx p, H x = some (.ins C dx (gF p)) ∧ H p = some (.lst (nV l))
  low : ∀ y ∈ l, 2 ≤ y
  high : ∀ y ∈ l, y ≤ 40
  len : l.length ≤ 12
theorem GameAt.same {C : Addr} {H H' : Hp} {x : Addr} {l : List Nat} (G : GameAt C H x l) (s : Same H H') : GameAt C H' x l := by
  obtain ⟨dx, p, h1, h2⟩ := G.ex
  exact ⟨⟨dx, p, s _ _ h1, s _ _ h2⟩, G.low, G.high, G.len⟩
theorem GameAt.named {C : Addr} {H : Hp} {x p : Addr} {l : List Nat} {K : PySem.W.Frag} (G : GameAt C H x l) (h : H p = some (.lst (nV l))) : NamedAt K H p l := ⟨SqL.of h, G.low, G.high, G.len⟩
/-- all but x stands -/
def Other (x : Addr) (H H' : Hp) : Prop := ∀ b o, H b = some o → b ≠ x → H' b = some o
theorem Other.of {x : Addr} {H H' : Hp} (s : Same H H') : Other x H H' := fun b o e _ => s b o e
/-- the list of those named is none that was tracked, but the one that it was -/
def Apart (x : Addr) (H H' : Hp) : Prop := ∀ q, H q ≠ none → (∀ C dx p, H x = some (.ins C dx (gF p)) → p ≠ q) → ∀ C dx p, H' x = some (.ins C dx (gF p)) → p ≠ q
theorem gF_inj {p q : Addr} (h : gF p = gF q) : p = q := by
  have h1 := gF_named p
  rw [h, gF_named q] at h1
  exact (V.ref.inj (Option.some.inj h1)).symm
theorem apart_same {x : Addr} {H H' : Hp} {o : HO} (hx : H x = some o) (s : Same H H') : Apart x H H' := fun q _ h C dx p e => h C dx p (by
  have z := s _ _ hx
  rw [e] at z
  rw [hx, ← z])
theorem apart_new {C x z dx : Addr} {H H' : Hp} (hx : H' x = some (.ins C dx (gF z))) (hz : H z = none) : Apart x H H' := fun q hq _ C' dx' p e => by
  rw [hx] at e
  injection e with e1
  injection e1 with e2 e3 e4
  have e5 := gF_inj e4
  subst e5
  intro e6
  rw [← e6] at hq
  exact hq hz
/-- what a call's method promises -/
def Does (C : Addr) (c : Uw60.Call) (args : List V) (vs : List V) (H : Hp) (Q : VK) : Prop := ∃ (x : Addr) (l : List Nat), vs = .ref x :: args ∧ GameAt C H x l ∧
  ∀ H' p, Other x H H' → Apart x H H' → H p = none → H' p = some (.lst (ans (Uw60.step ⟨l⟩ c).2)) → GameAt C H' x (Uw60.step ⟨l⟩ c).1.named → Q (.ref p) H'
/-- a method's answer that leaves the game as it is -/
theorem Does.keep {C : Addr} {c : Uw60.Call} {H H' : Hp} {Q : VK} {x p : Addr} {l : List Nat} {zs : List V} (G : GameAt C H x l)
    (k : ∀ H' p, Other x H H' → Apart x H H' → H p = none → H' p = some (.lst (ans (Uw60.step ⟨l⟩ c).2)) → GameAt C H' x (Uw60.step ⟨l⟩ c).1.named → Q (.ref p) H') (s : Same H H') (hp : H p = none) (h : H' p = some (.lst zs))
    (h1 : (Uw60.step ⟨l⟩ c).1 = ⟨l⟩) (h2 : zs = ans (Uw60.step ⟨l⟩ c).2) : Q (.ref p) H' := by
  obtain ⟨dx, p0, hx, _⟩ := G.ex
  refine k _ p (Other.of s) (apart_same hx s) hp (by rw [← h2]; exact h) ?_
  rw [h1]
  exact G.same s
structure GTxt (K : PySem.W.Frag) (C : Addr) : Prop where
  cl : Cls K C
  nN : NoAttr K C "named"
def spInit (C : Addr) : Sp := fun vs H Q _ => ∃ (x dx : Addr), vs = [.ref x] ∧ H x = some (.ins C dx []) ∧ ∀ H', Other x H H' → GameAt C H' x [] → Q .non H'
def spBegins (C : Addr) : Sp := fun vs H Q _ => Does C .begins [] vs H Q
def spTold (C : Addr) : Sp := fun vs H Q _ => ∃ (x : Addr) (l : List Nat), vs = [.ref x] ∧ GameAt C H x l ∧ ∀ H' p, Same H H' → H p = none → H' p = some (.lst (ans (Uw60.told l))) → Q (.ref p) H'
def spNames (C : Addr) : Sp := fun vs H Q _ => ∃ n : Nat, Does C (.names n) [.int (n : Nat)] vs H Q
def spUndo (C : Addr) : Sp := fun vs H Q _ => Does C .undo [] vs H Q
def spGaps (C : Addr) : Sp := fun vs H Q _ => Does C .gaps [] vs H Q
def spMakes (C : Addr) : Sp := fun vs H Q _ => ∃ n : Nat, Does C (.makes n) [.int (n : Nat)] vs H Q
abbrev sG (j : Nat) : Stmt := inClass (topS 47) j
structure TxtC (mg : Str → Option Value) : Prop where
  len : mg "len" = none
  sum : mg "sum" = none
  max : mg "max" = none
  int : mg "int" = none
  c1 : ∃ t, mg "LEAST_NAMED" = some (.int 2 t)
  c2 : ∃ t, mg "MOST_NUMBER" = some (.int 40 t)
  c3 : ∃ t, mg "MOST_NAMED" = some (.int 12 t)
  c4 : ∃ t, mg "MOST_TOTAL" = some (.int 300 t)
  c5 : ∃ t, mg "MOST_LEFT" = some (.int 16 t)
  r1 : ∃ t, mg "OUT_OF_RANGE" = some (.int (-1) t)
  r3 : ∃ t, mg "NOT_A_SUM" = some (.int (-3) t)
  r4 : ∃ t, mg "MADE_ALREADY" = some (.int (-4) t)
  r5 : ∃ t, mg "TOO_MANY_NAMED" = some (.int (-5) t)
  r6 : ∃ t, mg "HAS_DIVISOR" = some (.int (-6) t)
  r7 : ∃ t, mg "TOO_MANY_LEFT" = some (.int (-7) t)
  r8 : ∃ t, mg "NONE_LEFT" = some (.int (-8) t)
  r9 : ∃ t, mg "NONE_NAMED" = some (.int (-9) t)
section
variable {P : Program} {w : World} {K : PySem.W.Frag} {mg : Str → Option Value} {base : Heap} {C : Addr}
theorem scI : FnScope ["self"] ["self"] (defScope (sG 0)) := ⟨rfl, rfl, rfl, by decide +kernel, rfl, by decide +kernel, by decide +kernel⟩
theorem ok_init {f : Addr} {fd : FuncData} (F : Fun K "__init__" "Game.__init__" (sG 0) f fd) (T : GTxt K C) : FnOk P w K mg base CX0 1 f fd ["self"] (spInit C) := by
  refine F.ok scI (fun vs H Q E h => ?_) (fun cdv A outer s H vs Q E hr h => ?_)
  · obtain ⟨x, dx, rfl, _⟩ := h
    rfl
  · obtain ⟨x, dx, rfl, hx, k⟩ := h
    refine ⟨_, pss_one (ps_fld (pv 0) (pe_lst pa_nil) rfl), ?_⟩
    refine ⟨Nat.zero_le _, fun p hp => ⟨_, rfl, x, C, dx, [], rfl, ?_, T.cl, T.nN, (by decide : 0 < 1000), ?_⟩⟩
    · rw [upd_ne (ne_of_none hx hp)]
      exact hx
    · refine k _ (fun b o e hb => ?_) ⟨⟨dx, p, upd_same, ?_⟩, (fun y hy => nomatch hy), (fun y hy => nomatch hy), Nat.zero_le _⟩
      · rw [upd_ne hb, upd_ne (ne_of_none e hp)]
        exact e
      · rw [upd_ne (ne_of_none hx hp).symm]
        exact upd_same
theorem scBe : FnScope ["self"] ["self"] (defScope (sG 1)) := ⟨rfl, rfl, rfl, by decide +kernel, rfl, by decide +kernel, by decide +kernel⟩
theorem ok_begins {f : Addr} {fd : FuncData} (F : Fun K "begins" "Game.begins" (sG 1) f fd) (T : GTxt K C) : FnOk P w K mg base CX0 1 f fd ["self"] (spBegins C) := by
  refine F.ok scBe (fun vs H Q E h => ?_) (fun cdv A outer s H vs Q E hr h => ?_)
  · obtain ⟨x, l, rfl, _⟩ := h
    rfl
  · obtain ⟨x, l, rfl, G, k⟩ := h
    obtain ⟨dx, p0, hx, hp0⟩ := G.ex
    refine ⟨_, pss_cons (ps_fld (pv 0) (pe_lst pa_nil) rfl) (pss_one (ps_ret (pe_lst (pa_cons pe_int pa_nil)))), ?_⟩
    refine ⟨Nat.zero_le _, fun p hp => ⟨_, rfl, x, C, dx, gF p0, rfl, ?_, T.cl, T.nN, gF_len _, ?_⟩⟩
    · rw [upd_ne (ne_of_none hx hp)]
      exact hx
    · rw [gF_put]
      refine ⟨lineN (show 1 ≤ 16777216 by decide), fun q hq => ?_⟩
      have hpx : p ≠ x := (ne_of_none hx hp).symm
      have hxq : x ≠ q := ne_of_none upd_same hq
      have hpq : p ≠ q := ne_of_none (o := .lst []) (by rw [upd_ne hpx]; exact upd_same) hq
      refine k _ q (fun b o e hb => ?_) (apart_new (z := p) (by rw [upd_ne hxq]; exact upd_same) hp) ?_ upd_same ⟨⟨dx, p, ?_, ?_⟩, (fun y hy => nomatch hy), (fun y hy => nomatch hy), Nat.zero_le _⟩
      · have hbp : b ≠ p := ne_of_none e hp
        have hbq : b ≠ q := ne_of_none (o := o) (by rw [upd_ne hb, upd_ne hbp]; exact e) hq
        rw [upd_ne hbq, upd_ne hb, upd_ne hbp]
        exact e
      · rw [upd_ne hxq.symm, upd_ne hpq.symm] at hq
        exact hq
      · rw [upd_ne hxq]
        exact upd_same
      · rw [upd_ne hpq, upd_ne hpx]
        exact upd_same
theorem scTold : FnScope ["self", "divisor"] ["self"] (defScope (sG 2)) := ⟨rfl, rfl, rfl, by decide +kernel, rfl, by decide +kernel, by decide +kernel⟩
theorem ok_told {f fD fA : Addr} {fd fdD fdA : FuncData} (F : Fun K "told" "Game.told" (sG 2) f fd) (T : GTxt K C) (TC : TxtC mg) (GD : FnOk P w K mg base CX0 2 fD fdD ["named"] (spDiv K)) (mD : mg "divisor_of" = some (.ref fD)) (kD : PySem.W.keepIn K (.ref fD) = true) (bD : Binds K fdD ["named"] [])
    (GA : FnOk P w K mg base CX0 3 fA fdA ["named"] (spAll K)) (mA : mg "all_left" = some (.ref fA)) (kA : PySem.W.keepIn K (.ref fA) = true) (bA : Binds K fdA ["named"] []) : FnOk P w K mg base CX0 4 f fd ["self"] (spTold C) := by
  refine F.ok scTold (fun vs H Q E h => ?_) (fun cdv A outer s H vs Q E hr h => ?_)
  · obtain ⟨x, l, rfl, _⟩ := h
    rfl
  · obtain ⟨x, l, rfl, G, k⟩ := h
    obtain ⟨dx, p, hx, hp⟩ := G.ex
    have hr2 : Room 2 _ := hr.mono (by decide)
    refine ⟨_, pss_cons (ps_set (i := 1) scTold.nd rfl (Or.inl rfl) (pe_call GD hr2 (by rfl) mD kD bD .nil pass0 (pa_cons (pe_fld (pv 0) rfl) pa_nil)))
      (pss_cons (ps_if (pt_cmpR op_ne (pv 1) pe_int (nomark _)) (pss_one (ps_ret (pe_lst (pa_cons (pv 1) pa_nil)))) pss_nil)
      (pss_one (ps_ret (pe_lst (pa_cons (pv 1) (pa_cons (pe_callB call_len_seq (by rfl) TC.len PySem.boot_len (pa_cons (pe_call GA hr (by rfl) mA kA bA .nil pass0 (pa_cons (pe_fld (pv 0) rfl) pa_nil)) pa_nil)) pa_nil)))))), ?_⟩
    refine ⟨_, rfl, x, C, dx, _, _, rfl, hx, T.cl, T.nN, gF_named p, p, l, rfl, SqL.of hp, ?_⟩
    refine ⟨_, rfl, rfl, _, rfl, ?_⟩
    rw [dec_int]
    by_cases c : gd l = 1
    · have e : (((gd l : Nat) : Int) == 1) = true := by rw [c]; rfl
      rw [e]
      refine iteF ⟨_, rfl, _, rfl, x, C, dx, _, _, rfl, hx, T.cl, T.nN, gF_named p, p, l, rfl, G.named hp, fun H1 q s1 hq h1 => ⟨q, _, rfl, .inl (SqL.of h1), lineN (show 2 ≤ 16777216 by decide), fun r hr' => ?_⟩⟩
      refine k _ r (same_upd s1 (s1.free hr')) (s1.free hr') ?_
      rw [upd_same, told_one c, nV_len]
    · have e : (((gd l : Nat) : Int) == 1) = false := by
        rw [beq_eq_false_iff_ne]
        omega
      rw [e]
      refine iteT ⟨_, rfl, lineN (show 1 ≤ 16777216 by decide), fun r hr' => ?_⟩
      refine k _ r (same_new hr') hr' ?_
      rw [upd_same, told_no c]
end
end NW
namespace NW
open PySem PySem.Spec PyProof.Rows L2
open NT
theorem step_names (l : List Nat) (n : Nat) : Uw60.step ⟨l⟩ (.names n) = if n < 2 ∨ 40 < n then (⟨l⟩, Uw60.ok (-1)) else if Uw60.made l n = true then (⟨l⟩, Uw60.ok (-4)) else if 12 ≤ l.length then (⟨l⟩, Uw60.ok (-5)) else (⟨l ++ [n]⟩, Uw60.told (l ++ [n])) := rfl
theorem step_gaps (l : List Nat) : Uw60.step ⟨l⟩ .gaps = (⟨l⟩, if gd l ≠ 1 then Uw60.ok (-6) else ⟨((gp l).length : Nat), gp l⟩) := by
  rw [gp_eq]
  rfl
theorem step_makes (l : List Nat) (n : Nat) : Uw60.step ⟨l⟩ (.makes n) = (⟨l⟩, if 300 < n then Uw60.ok (-1) else match Uw60.few l n with
    | none => Uw60.ok (-3)
    | some m => ⟨(m : Nat), Uw60.rowFor l n m⟩) := rfl
theorem nV_sum (l : List Nat) : (l.map fun n => ((n : Nat) : Int)).sum = ((l.sum : Nat) : Int) := by
  induction l with
  | nil => rfl
  | cons a l ih =>
    rw [List.map_cons, List.sum_cons, ih, List.sum_cons]
    omega
theorem nV_ints (l : List Nat) : nV l = (l.map fun n => ((n : Nat) : Int)).map V.int := by
  unfold nV
  rw [List.map_map]
  rfl
theorem row_len {l : List Nat} : ∀ {n m : Nat}, (Uw60.rowFor l n m).length ≤ l.length := by
  induction l with
  | nil => intro n m; exact Nat.le_refl _
  | cons a l ih =>
    intro n m
    unfold Uw60.rowFor
    cases (List.range (m + 1)).find? (fun k => decide (k * a ≤ n) && Uw60.few l (n - k * a) == some (m - k)) with
    | none => exact Nat.zero_le _
    | some k => exact Nat.succ_le_succ ih
theorem gaps_len {l : List Nat} (h : ∀ a ∈ l, 2 ≤ a) : (gp l).length ≤ 1601 := by
  rw [gp_eq, gaps_eq (one_le h)]
  have := lf_short (flags l 1600)
  rw [flags_len] at this
  exact this
section
variable {P : Program} {w : World} {K : PySem.W.Frag} {mg : Str → Option Value} {base : Heap} {C : Addr}
theorem scNames : FnScope ["self", "number"] ["self", "number"] (defScope (sG 3)) := ⟨rfl, rfl, rfl, by decide +kernel, rfl, by decide +kernel, by decide +kernel⟩
theorem ok_names {f fF fT : Addr} {fd fdF fdT : FuncData} (F : Fun K "names" "Game.names" (sG 3) f fd) (T : GTxt K C) (TC : TxtC mg) (GF : FnOk P w K mg base CX0 2 fF fdF ["named", "most"] (spFlags K)) (mF : mg "flags_of" = some (.ref fF)) (kF : PySem.W.keepIn K (.ref fF) = true) (bF : Binds K fdF ["named", "most"] [])
    (GT : FnOk P w K mg base CX0 4 fT fdT ["self"] (spTold C)) (mT : Meth K C "told" fT) (bT : Binds K fdT ["self"] []) : FnOk P w K mg base CX0 5 f fd ["self", "number"] (spNames C) := by
  refine F.ok scNames (fun vs H Q E h => ?_) (fun cdv A outer s H vs Q E hr h => ?_)
  · obtain ⟨n, x, l, rfl, _⟩ := h
    rfl
  · obtain ⟨n, x, l, rfl, G, k⟩ := h
    obtain ⟨dx, p, hx, hp⟩ := G.ex
    obtain ⟨t1, c1⟩ := TC.c1
    obtain ⟨t2, c2⟩ := TC.c2
    obtain ⟨t3, c3⟩ := TC.c3
    obtain ⟨t4, r1⟩ := TC.r1
    obtain ⟨t5, r4⟩ := TC.r4
    obtain ⟨t6, r5⟩ := TC.r5
    have hr2 : Room 2 _ := hr.mono (by decide)
    refine ⟨_, pss_cons (ps_if (PW.pt (pw_or (pt_cmpR op_lt (pv 1) (pe_glob (v := .int 2) (by rfl) c1 ⟨_, rfl⟩) (nomark _)) (pw_or1 (pt_cmpR op_gt (pv 1) (pe_glob (v := .int 40) (by rfl) c2 ⟨_, rfl⟩) (nomark _)))))
        (pss_one (ps_ret (pe_lst (pa_cons (pe_glob (v := .int (-1)) (by rfl) r1 ⟨_, rfl⟩) pa_nil)))) pss_nil)
      (pss_cons (ps_if (pt_cmpR op_eq (pe_ix ix_tup (pe_call GF hr2 (by rfl) mF kF bF .nil pass0 (pa_cons (pe_fld (pv 0) rfl) (pa_cons (pv 1) pa_nil))) (pv 1) (fun _ _ => rfl)) pe_int (nomark _))
        (pss_one (ps_ret (pe_lst (pa_cons (pe_glob (v := .int (-4)) (by rfl) r4 ⟨_, rfl⟩) pa_nil)))) pss_nil)
      (pss_cons (ps_if (pt_cmpR op_ge (pe_callB call_len_seq (by rfl) TC.len PySem.boot_len (pa_cons (pe_fld (pv 0) rfl) pa_nil)) (pe_glob (v := .int 12) (by rfl) c3 ⟨_, rfl⟩) (nomark _))
        (pss_one (ps_ret (pe_lst (pa_cons (pe_glob (v := .int (-5)) (by rfl) r5 ⟨_, rfl⟩) pa_nil)))) pss_nil)
      (pss_cons (ps_fld (pv 0) (pe_op op_cat (pe_fld (pv 0) rfl) (pe_lst (pa_cons (pv 1) pa_nil))) rfl)
      (pss_one (ps_ret (pe_meth0 (pv 0) T.cl mT GT hr bT .nil pass0)))))), ?_⟩
    have out : ∀ (z : Int), ¬ (2 ≤ n ∧ n ≤ 40) → (∀ H' r, H' = H → H' r = none → Q (.ref r) (upd H' r (.lst [.int (-1)]))) := fun _ hn H' r e hr' => by
      subst e
      refine Does.keep G k (same_new hr') hr' upd_same ?_ ?_
      · rw [step_names, if_pos (by omega)]
      · rw [step_names, if_pos (by omega)]
        rfl
    refine ⟨_, rfl, _, _, rfl, rfl, _, rfl, ?_⟩
    by_cases h2 : ((n : Nat) : Int) < 2
    · rw [decide_eq_true h2]
      refine iteT (iteT ⟨lineN (show 1 ≤ 16777216 by decide), fun r hr' => out 0 (by omega) _ r rfl hr'⟩)
    · rw [decide_eq_false h2]
      refine iteF ⟨_, rfl, _, _, rfl, rfl, _, rfl, ?_⟩
      by_cases h40 : (40 : Int) < ((n : Nat) : Int)
      · rw [decide_eq_true h40]
        refine iteT ⟨lineN (show 1 ≤ 16777216 by decide), fun r hr' => out 0 (by omega) _ r rfl hr'⟩
      · rw [decide_eq_false h40]
        refine iteF ?_
        have hn : ¬ (n < 2 ∨ 40 < n) := by omega
        refine ⟨_, rfl, x, C, dx, _, _, rfl, hx, T.cl, T.nN, gF_named p, _, rfl, p, l, n, rfl, G.named hp, by omega, by omega, fun H1 q s1 hq h1 => ?_⟩
        refine ⟨_, rfl, q, _, _, bV (NT.F l n), rfl, rfl, SqT.of h1, atI_nat ?_, rfl, _, rfl, ?_⟩
        · rw [fV_get (by rw [flags_len]; omega), flags, tab_getD (by omega)]
        rw [dec_one]
        have hx1 := s1 _ _ hx
        have hp1 := s1 _ _ hp
        cases hm : NT.F l n with
        | true =>
          refine iteT ⟨lineN (show 1 ≤ 16777216 by decide), fun r hr' => ?_⟩
          refine Does.keep G k (same_upd s1 (s1.free hr')) (s1.free hr') upd_same ?_ ?_
          · rw [step_names, if_neg hn, made_F (one_le G.low), if_pos hm]
          · rw [step_names, if_neg hn, made_F (one_le G.low), if_pos hm]
            rfl
        | false =>
          refine iteF ⟨_, rfl, x, C, dx, _, _, rfl, hx1, T.cl, T.nN, gF_named p, p, _, rfl, .inl (SqL.of hp1), _, _, rfl, rfl, _, rfl, ?_⟩
          rw [nV_len]
          by_cases h12 : (12 : Int) ≤ ((l.length : Nat) : Int)
          · rw [decide_eq_true h12]
            refine iteT ⟨lineN (show 1 ≤ 16777216 by decide), fun r hr' => ?_⟩
            refine Does.keep G k (same_upd s1 (s1.free hr')) (s1.free hr') upd_same ?_ ?_
            · rw [step_names, if_neg hn, made_F (one_le G.low), if_neg (by rw [hm]; decide), if_pos (by omega)]
            · rw [step_names, if_neg hn, made_F (one_le G.low), if_neg (by rw [hm]; decide), if_pos (by omega)]
              rfl
          · rw [decide_eq_false h12]
            refine iteF ?_
            have hl := G.len
            refine ⟨_, rfl, x, C, dx, _, _, rfl, hx1, T.cl, T.nN, gF_named p, _, rfl, lineN (show 1 ≤ 16777216 by decide), fun u hu => ?_⟩
            have hpu : p ≠ u := ne_of_none hp1 hu
            have hxu : x ≠ u := ne_of_none hx1 hu
            refine ⟨p, u, _, _, rfl, rfl, by rw [upd_ne hpu]; exact hp1, upd_same, ?_, fun z hz => ?_⟩
            · rw [nV_len]
              exact lineN (show l.length + 1 ≤ 16777216 by omega)
            · have hxz : x ≠ z := ne_of_none (o := .ins C dx (gF p)) (by rw [upd_ne hxu]; exact hx1) hz
              refine ⟨_, rfl, x, C, dx, gF p, rfl, by rw [upd_ne hxz, upd_ne hxu]; exact hx1, T.cl, T.nN, gF_len _, ?_⟩
              rw [gF_put]
              have e1 : nV l ++ [V.int (n : Nat)] = nV (l ++ [n]) := (nV_snoc l n).symm
              rw [e1]
              generalize hH2 : upd (upd (upd H1 u (.lst [.int (n : Nat)])) z (.lst (nV (l ++ [n])))) x (.ins C dx (gF z)) = H2
              have hsn : (Uw60.step ⟨l⟩ (.names n)) = (⟨l ++ [n]⟩, Uw60.told (l ++ [n])) := by
                rw [step_names, if_neg hn, made_F (one_le G.low), if_neg (by rw [hm]; decide), if_neg (by omega)]
              have oth : Other x H H2 := fun b o e hb => by
                have hb1 := s1 b o e
                have hbu : b ≠ u := ne_of_none hb1 hu
                have hbz : b ≠ z := ne_of_none (o := o) (by rw [upd_ne hbu]; exact hb1) hz
                rw [← hH2, upd_ne hb, upd_ne hbz, upd_ne hbu]
                exact hb1
              have hx2 : H2 x = some (.ins C dx (gF z)) := by rw [← hH2, upd_same]
              have G2 : GameAt C H2 x (l ++ [n]) := by
                refine ⟨⟨dx, z, hx2, by rw [← hH2, upd_ne hxz.symm, upd_same]⟩, fun y hy => ?_, fun y hy => ?_, ?_⟩
                · rcases List.mem_append.mp hy with q | q
                  · exact G.low y q
                  · rw [List.mem_singleton.mp q]; omega
                · rcases List.mem_append.mp hy with q | q
                  · exact G.high y q
                  · rw [List.mem_singleton.mp q]; omega
                · rw [List.length_append, List.length_singleton]; omega
              refine ⟨_, rfl, x, dx, _, rfl, hx2, gF_other z (by decide +kernel), x, l ++ [n], rfl, G2, fun H3 r s3 hr3 h3 => ?_⟩
              have hHz : H z = none := by
                cases e : H z with
                | none => rfl
                | some o =>
                  have h1 := s1 z o e
                  have h2 : z ≠ u := ne_of_none h1 hu
                  rw [upd_ne h2, h1] at hz
                  cases hz
              have hHr : H r = none := by
                cases e : H r with
                | none => rfl
                | some o =>
                  by_cases hb : r = x
                  · rw [hb, hx2] at hr3
                    cases hr3
                  · rw [oth r o e hb] at hr3
                    cases hr3
              refine k _ r (fun b o e hb => s3 _ _ (oth b o e hb)) (apart_new (s3 _ _ hx2) hHz) hHr ?_ ?_
              · rw [hsn]
                exact h3
              · rw [hsn]
                exact G2.same s3
theorem scUndo : FnScope ["self"] ["self"] (defScope (sG 4)) := ⟨rfl, rfl, rfl, by decide +kernel, rfl, by decide +kernel, by decide +kernel⟩
theorem ok_undo {f fT : Addr} {fd fdT : FuncData} (F : Fun K "undo" "Game.undo" (sG 4) f fd) (T : GTxt K C) (TC : TxtC mg)
    (GT : FnOk P w K mg base CX0 4 fT fdT ["self"] (spTold C)) (mT : Meth K C "told" fT) (bT : Binds K fdT ["self"] []) : FnOk P w K mg base CX0 5 f fd ["self"] (spUndo C) := by
  refine F.ok scUndo (fun vs H Q E h => ?_) (fun cdv A outer s H vs Q E hr h => ?_)
  · obtain ⟨x, l, rfl, _⟩ := h
    rfl
  · obtain ⟨x, l, rfl, G, k⟩ := h
    obtain ⟨dx, p, hx, hp⟩ := G.ex
    obtain ⟨t9, r9⟩ := TC.r9
    refine ⟨_, pss_cons (ps_if (pt_cmpR (op_eqD hr.units) (pe_fld (pv 0) rfl) (pe_lst pa_nil) (nomark _)) (pss_one (ps_ret (pe_lst (pa_cons (pe_glob (v := .int (-9)) (by rfl) r9 ⟨_, rfl⟩) pa_nil)))) pss_nil)
      (pss_cons (ps_fld (pv 0) (pe_slice sl_list (pe_fld (pv 0) rfl) po_none (po_some (pe_un un_neg pe_int))) rfl)
      (pss_one (ps_ret (pe_meth0 (pv 0) T.cl mT GT hr bT .nil pass0)))), ?_⟩
    refine ⟨_, rfl, x, C, dx, _, _, rfl, hx, T.cl, T.nN, gF_named p, Nat.zero_le _, fun u hu => ?_⟩
    have hpu : p ≠ u := ne_of_none hp hu
    have hxu : x ≠ u := ne_of_none hx hu
    have su : Same H (upd H u (.lst [])) := same_new hu
    refine ⟨_, _, dp_nat (l := l) (SqL.of (su _ _ hp)), dp_nat (l := []) (SqL.of upd_same), shaped_nat l, shaped_nat [], _, rfl, ?_⟩
    rw [eqv_empty]
    cases l with
    | nil =>
      refine iteT ⟨lineN (show 1 ≤ 16777216 by decide), fun r hr' => ?_⟩
      exact Does.keep G k (same_upd su (su.free hr')) (su.free hr') upd_same rfl rfl
    | cons y l0 =>
      refine iteF ?_
      generalize hll : y :: l0 = l at *
      have hne : l ≠ [] := by rw [← hll]; exact List.cons_ne_nil _ _
      refine ⟨_, rfl, x, C, dx, _, _, rfl, su _ _ hx, T.cl, T.nN, gF_named p, _, rfl, _, rfl, p, _, rfl, SqL.of (su _ _ hp), fun z hz => ?_⟩
      rw [show (-(1 : Int)) = -1 from rfl, cut_last, nV_dropLast]
      have hxz : x ≠ z := ne_of_none (su _ _ hx) hz
      refine ⟨_, rfl, x, C, dx, gF p, rfl, by rw [upd_ne hxz]; exact su _ _ hx, T.cl, T.nN, gF_len _, ?_⟩
      rw [gF_put]
      generalize hH2 : upd (upd (upd H u (.lst [])) z (.lst (nV l.dropLast))) x (.ins C dx (gF z)) = H2
      have hsn : (Uw60.step ⟨l⟩ .undo) = (⟨l.dropLast⟩, Uw60.told l.dropLast) := by
        show (match l.getLast? with
          | none => ((⟨l⟩ : Uw60.Game), Uw60.ok (-9))
          | some _ => (⟨l.dropLast⟩, Uw60.told l.dropLast)) = _
        rw [List.getLast?_eq_some_getLast hne]
      have oth : Other x H H2 := fun b o e hb => by
        have hb1 := su b o e
        have hbz : b ≠ z := ne_of_none hb1 hz
        rw [← hH2, upd_ne hb, upd_ne hbz]
        exact hb1
      have hx2 : H2 x = some (.ins C dx (gF z)) := by rw [← hH2, upd_same]
      have G2 : GameAt C H2 x l.dropLast := by
        refine ⟨⟨dx, z, hx2, by rw [← hH2, upd_ne hxz.symm, upd_same]⟩, fun v hv => G.low v ((List.dropLast_sublist _).subset hv), fun v hv => G.high v ((List.dropLast_sublist _).subset hv), ?_⟩
        have := G.len
        rw [List.length_dropLast]
        omega
      refine ⟨_, rfl, x, dx, _, rfl, hx2, gF_other z (by decide +kernel), x, l.dropLast, rfl, G2, fun H3 r s3 hr3 h3 => ?_⟩
      have hHz : H z = none := su.free hz
      have hHr : H r = none := by
        cases e : H r with
        | none => rfl
        | some o =>
          by_cases hb : r = x
          · rw [hb, hx2] at hr3
            cases hr3
          · rw [oth r o e hb] at hr3
            cases hr3
      refine k _ r (fun b o e hb => s3 _ _ (oth b o e hb)) (apart_new (s3 _ _ hx2) hHz) hHr ?_ ?_
      · rw [hsn]
        exact h3
      · rw [hsn]
        exact G2.same s3
theorem scGaps : FnScope ["self", "left"] ["self"] (defScope (sG 5)) := ⟨rfl, rfl, rfl, by decide +kernel, rfl, by decide +kernel, by decide +kernel⟩
theorem ok_gaps {f fD fA : Addr} {fd fdD fdA : FuncData} (F : Fun K "gaps" "Game.gaps" (sG 5) f fd) (T : GTxt K C) (TC : TxtC mg) (GD : FnOk P w K mg base CX0 2 fD fdD ["named"] (spDiv K)) (mD : mg "divisor_of" = some (.ref fD)) (kD : PySem.W.keepIn K (.ref fD) = true) (bD : Binds K fdD ["named"] [])
    (GA : FnOk P w K mg base CX0 3 fA fdA ["named"] (spAll K)) (mA : mg "all_left" = some (.ref fA)) (kA : PySem.W.keepIn K (.ref fA) = true) (bA : Binds K fdA ["named"] []) : FnOk P w K mg base CX0 4 f fd ["self"] (spGaps C) := by
  refine F.ok scGaps (fun vs H Q E h => ?_) (fun cdv A outer s H vs Q E hr h => ?_)
  · obtain ⟨x, l, rfl, _⟩ := h
    rfl
  · obtain ⟨x, l, rfl, G, k⟩ := h
    obtain ⟨dx, p, hx, hp⟩ := G.ex
    obtain ⟨t6, r6⟩ := TC.r6
    have hr2 : Room 2 _ := hr.mono (by decide)
    refine ⟨_, pss_cons (ps_if (pt_cmpR op_ne (pe_call GD hr2 (by rfl) mD kD bD .nil pass0 (pa_cons (pe_fld (pv 0) rfl) pa_nil)) pe_int (nomark _)) (pss_one (ps_ret (pe_lst (pa_cons (pe_glob (v := .int (-6)) (by rfl) r6 ⟨_, rfl⟩) pa_nil)))) pss_nil)
      (pss_cons (ps_set (i := 1) scGaps.nd rfl (Or.inl rfl) (pe_call GA hr (by rfl) mA kA bA .nil pass0 (pa_cons (pe_fld (pv 0) rfl) pa_nil)))
      (pss_one (ps_ret (pe_op op_cat (pe_lst (pa_cons (pe_callB call_len_seq (by rfl) TC.len PySem.boot_len (pa_cons (pv 1) pa_nil)) pa_nil)) (pv 1))))), ?_⟩
    refine ⟨_, rfl, x, C, dx, _, _, rfl, hx, T.cl, T.nN, gF_named p, p, l, rfl, SqL.of hp, rfl, _, rfl, ?_⟩
    rw [dec_int]
    by_cases c : gd l = 1
    · have e : (((gd l : Nat) : Int) == 1) = true := by rw [c]; rfl
      rw [e]
      refine iteF ⟨_, rfl, x, C, dx, _, _, rfl, hx, T.cl, T.nN, gF_named p, p, l, rfl, G.named hp, fun H1 q s1 hq h1 => ?_⟩
      have hgl := gaps_len G.low
      refine ⟨_, rfl, q, _, rfl, .inl (SqL.of h1), lineN (show 1 ≤ 16777216 by decide), fun u hu => ⟨_, rfl, u, q, _, nV (gp l), rfl, rfl, upd_same, ?_, ?_, fun r hr' => ?_⟩⟩
      · rw [upd_ne (ne_of_none h1 hu)]
        exact h1
      · rw [nV_len]
        exact lineN (show 1 + _ ≤ 16777216 by omega)
      · have s2 : Same H (upd H1 u (.lst [.int ((nV (gp l)).length : Nat)])) := same_upd s1 (s1.free hu)
        refine Does.keep G k (same_upd s2 (s2.free hr')) (s2.free hr') upd_same rfl ?_
        rw [step_gaps]
        show _ = ans (if gd l ≠ 1 then _ else _)
        rw [if_neg (by omega), ans_mk, nV_len]
        rfl
    · have e : (((gd l : Nat) : Int) == 1) = false := by
        rw [beq_eq_false_iff_ne]
        omega
      rw [e]
      refine iteT ⟨lineN (show 1 ≤ 16777216 by decide), fun r hr' => ?_⟩
      refine Does.keep G k (same_new hr') hr' upd_same rfl ?_
      rw [step_gaps]
      show _ = ans (if gd l ≠ 1 then _ else _)
      rw [if_pos c]
      rfl
theorem scMakes : FnScope ["self", "total", "row"] ["self", "total"] (defScope (sG 6)) := ⟨rfl, rfl, rfl, by decide +kernel, rfl, by decide +kernel, by decide +kernel⟩
theorem ok_makes {f fR : Addr} {fd fdR : FuncData} (F : Fun K "makes" "Game.makes" (sG 6) f fd) (T : GTxt K C) (TC : TxtC mg) (GR : FnOk P w K mg base CX0 3 fR fdR ["named", "total"] (spFirst K)) (mR : mg "first_row" = some (.ref fR)) (kR : PySem.W.keepIn K (.ref fR) = true) (bR : Binds K fdR ["named", "total"] []) :
    FnOk P w K mg base CX0 4 f fd ["self", "total"] (spMakes C) := by
  refine F.ok scMakes (fun vs H Q E h => ?_) (fun cdv A outer s H vs Q E hr h => ?_)
  · obtain ⟨n, x, l, rfl, _⟩ := h
    rfl
  · obtain ⟨n, x, l, rfl, G, k⟩ := h
    obtain ⟨dx, p, hx, hp⟩ := G.ex
    obtain ⟨t1, c4⟩ := TC.c4
    obtain ⟨t2, r1⟩ := TC.r1
    obtain ⟨t3, r3⟩ := TC.r3
    refine ⟨_, pss_cons (ps_if (pt_cmpR op_gt (pv 1) (pe_glob (v := .int 300) (by rfl) c4 ⟨_, rfl⟩) (nomark _)) (pss_one (ps_ret (pe_lst (pa_cons (pe_glob (v := .int (-1)) (by rfl) r1 ⟨_, rfl⟩) pa_nil)))) pss_nil)
      (pss_cons (ps_set (i := 2) scMakes.nd rfl (Or.inl rfl) (pe_call GR hr (by rfl) mR kR bR .nil pass0 (pa_cons (pe_fld (pv 0) rfl) (pa_cons (pv 1) pa_nil))))
      (pss_cons (ps_if (pt_cmp (pc_isN (pv 2))) (pss_one (ps_ret (pe_lst (pa_cons (pe_glob (v := .int (-3)) (by rfl) r3 ⟨_, rfl⟩) pa_nil)))) pss_nil)
      (pss_one (ps_ret (pe_op op_cat (pe_lst (pa_cons (pe_callB (cr_sum rfl) (by rfl) TC.sum (by decide +kernel) (pa_cons (pv 2) pa_nil)) pa_nil)) (pv 2)))))), ?_⟩
    refine ⟨_, rfl, _, _, rfl, rfl, _, rfl, ?_⟩
    by_cases c : (300 : Int) < ((n : Nat) : Int)
    · rw [decide_eq_true c]
      refine iteT ⟨lineN (show 1 ≤ 16777216 by decide), fun r hr' => ?_⟩
      refine Does.keep G k (same_new hr') hr' upd_same rfl ?_
      rw [step_makes]
      show _ = ans (if 300 < n then _ else _)
      rw [if_pos (by omega)]
      rfl
    · rw [decide_eq_false c]
      refine iteF ⟨_, rfl, x, C, dx, _, _, rfl, hx, T.cl, T.nN, gF_named p, _, rfl, p, l, n, rfl, G.named hp, by omega, fun hf H1 s1 => ?_, fun m hf H1 q s1 hq h1 => ?_⟩
      · refine ⟨_, rfl, _, rfl, ?_⟩
        refine iteT ⟨lineN (show 1 ≤ 16777216 by decide), fun r hr' => ?_⟩
        refine Does.keep G k (same_upd s1 (s1.free hr')) (s1.free hr') upd_same rfl ?_
        rw [step_makes]
        show _ = ans (if 300 < n then _ else _)
        rw [if_neg (by omega), hf]
        rfl
      · refine ⟨_, rfl, _, rfl, ?_⟩
        refine iteF ?_
        have hrl : (Uw60.rowFor l n m).length ≤ l.length := row_len
        have hl := G.len
        refine ⟨_, rfl, q, (Uw60.rowFor l n m).map (fun n => ((n : Nat) : Int)), rfl, SqL.of (by rw [← nV_ints]; exact h1), lineN (show 1 ≤ 16777216 by decide), fun u hu => ⟨_, rfl, u, q, _, nV (Uw60.rowFor l n m), rfl, rfl, upd_same, ?_, ?_, fun r hr' => ?_⟩⟩
        · rw [upd_ne (ne_of_none h1 hu)]
          exact h1
        · rw [nV_len]
          exact lineN (show 1 + _ ≤ 16777216 by omega)
        · have s2 := same_upd (o := .lst [.int ((Uw60.rowFor l n m).map (fun n => ((n : Nat) : Int))).sum]) s1 (s1.free hu)
          refine Does.keep G k (same_upd s2 (s2.free hr')) (s2.free hr') upd_same rfl ?_
          rw [step_makes]
          show _ = ans (if 300 < n then _ else _)
          rw [if_neg (by omega), hf]
          show _ = ans ⟨(m : Nat), Uw60.rowFor l n m⟩
          rw [ans_mk, nV_sum, row_sum (one_le G.low) (by rw [Fr_few (one_le G.low)]; exact hf)]
          rfl
end
end NW
namespace NW
open PySem PySem.Spec PyProof.Rows L2
open NT
/-- why a game's worth isn't told -/
def refusal (l : List Nat) : Int := if gd l ≠ 1 then -6 else if 16 < (gp l).length then -7 else 0
theorem step_small (l : List Nat) (f : Nat → Uw60.Ans) : (⟨l⟩ : Uw60.Game).small f = if refusal l = 0 then f (Uw60.maskOf (gp l)) else Uw60.ok (refusal l) := by
  unfold refusal Uw60.Game.small Uw60.Game.whole
  show (if gd l ≠ 1 then Uw60.ok (-6) else (if Uw60.FEW < (Uw60.gaps l).length then Uw60.ok (-7) else f (Uw60.maskOf (Uw60.gaps l)))) = _
  rw [← gp_eq]
  by_cases c : gd l ≠ 1
  · rw [if_pos c, if_pos c, if_neg (by decide)]
  · rw [if_neg c, if_neg c]
    by_cases d : 16 < (gp l).length
    · have d' : Uw60.FEW < (gp l).length := d
      rw [if_pos d', if_pos d, if_neg (by decide)]
    · have d' : ¬ Uw60.FEW < (gp l).length := d
      rw [if_neg d', if_neg d, if_pos rfl]
theorem refusal_few {l : List Nat} (h : refusal l = 0) : (gp l).length ≤ 16 := by
  unfold refusal at h
  by_cases c : gd l ≠ 1
  · rw [if_pos c] at h
    cases h
  · rw [if_neg c] at h
    by_cases d : 16 < (gp l).length
    · rw [if_pos d] at h
      cases h
    · omega
/-- the greatest that is left, or 1 -/
structure Top (l : List Nat) (G : Nat) : Prop where
  mem : G ∈ 1 :: gp l
  most : ∀ y ∈ 1 :: gp l, y ≤ G
theorem Top.rel {l : List Nat} {G : Nat} (t : Top l G) (h : ∀ a ∈ l, 2 ≤ a) (hf : (gp l).length ≤ 16) : Rel (G + 1) (Uw60.maskOf (gp l)) (flags l G) := by
  have h1 := t.mem
  have h2 := t.most
  rw [gp_eq] at h1 h2 hf ⊢
  exact flags_rel h hf h1 h2
theorem Top.left {l : List Nat} {G : Nat} (t : Top l G) (h : ∀ a ∈ l, 2 ≤ a) : lf (flags l G) = gp l := by
  have h1 := t.mem
  have h2 := t.most
  rw [gp_eq] at h1 h2 ⊢
  exact flags_left h h1 h2
theorem Top.start {l : List Nat} {G : Nat} (t : Top l G) (h : ∀ a ∈ l, 2 ≤ a) (hf : (gp l).length ≤ 16) : StartOk (flags l G) := by
  have R := t.rel h hf
  refine ⟨⟨rfl, R.zero, R.one, fun v hv => hv⟩, by rw [t.left h]; exact hf, by rw [R.len]; exact R.high⟩
def spRefused (C : Addr) : Sp := fun vs H Q _ => ∃ (x : Addr) (l : List Nat), vs = [.ref x] ∧ GameAt C H x l ∧ ∀ H', Same H H' → Q (.int (refusal l)) H'
def spGF (C : Addr) : Sp := fun vs H Q _ => ∃ (x : Addr) (l : List Nat), vs = [.ref x] ∧ GameAt C H x l ∧ ∀ H' p G, Same H H' → H p = none → Top l G → H' p = some (.tup (fV (flags l G))) → Q (.ref p) H'
def spWins (C : Addr) : Sp := fun vs H Q _ => Does C .wins [] vs H Q
def spWorthM (C : Addr) : Sp := fun vs H Q _ => Does C .worth [] vs H Q
def spEnderM (C : Addr) : Sp := fun vs H Q _ => Does C .ender [] vs H Q
section
variable {P : Program} {w : World} {K : PySem.W.Frag} {mg : Str → Option Value} {base : Heap} {C : Addr}
theorem scRef : FnScope ["self"] ["self"] (defScope (sG 7)) := ⟨rfl, rfl, rfl, by decide +kernel, rfl, by decide +kernel, by decide +kernel⟩
theorem ok_refused {f fD fA : Addr} {fd fdD fdA : FuncData} (F : Fun K "refused" "Game.refused" (sG 7) f fd) (T : GTxt K C) (TC : TxtC mg) (GD : FnOk P w K mg base CX0 2 fD fdD ["named"] (spDiv K)) (mD : mg "divisor_of" = some (.ref fD)) (kD : PySem.W.keepIn K (.ref fD) = true) (bD : Binds K fdD ["named"] [])
    (GA : FnOk P w K mg base CX0 3 fA fdA ["named"] (spAll K)) (mA : mg "all_left" = some (.ref fA)) (kA : PySem.W.keepIn K (.ref fA) = true) (bA : Binds K fdA ["named"] []) : FnOk P w K mg base CX0 4 f fd ["self"] (spRefused C) := by
  refine F.ok scRef (fun vs H Q E h => ?_) (fun cdv A outer s H vs Q E hr h => ?_)
  · obtain ⟨x, l, rfl, _⟩ := h
    rfl
  · obtain ⟨x, l, rfl, G, k⟩ := h
    obtain ⟨dx, p, hx, hp⟩ := G.ex
    obtain ⟨t5, c5⟩ := TC.c5
    obtain ⟨t6, r6⟩ := TC.r6
    obtain ⟨t7, r7⟩ := TC.r7
    have hr2 : Room 2 _ := hr.mono (by decide)
    refine ⟨_, pss_cons (ps_if (pt_cmpR op_ne (pe_call GD hr2 (by rfl) mD kD bD .nil pass0 (pa_cons (pe_fld (pv 0) rfl) pa_nil)) pe_int (nomark _)) (pss_one (ps_ret (pe_glob (v := .int (-6)) (by rfl) r6 ⟨_, rfl⟩))) pss_nil)
      (pss_cons (ps_if (pt_cmpR op_gt (pe_callB call_len_seq (by rfl) TC.len PySem.boot_len (pa_cons (pe_call GA hr (by rfl) mA kA bA .nil pass0 (pa_cons (pe_fld (pv 0) rfl) pa_nil)) pa_nil)) (pe_glob (v := .int 16) (by rfl) c5 ⟨_, rfl⟩) (nomark _)) (pss_one (ps_ret (pe_glob (v := .int (-7)) (by rfl) r7 ⟨_, rfl⟩))) pss_nil)
      (pss_one (ps_ret pe_int))), ?_⟩
    refine ⟨_, rfl, x, C, dx, _, _, rfl, hx, T.cl, T.nN, gF_named p, p, l, rfl, SqL.of hp, rfl, _, rfl, ?_⟩
    rw [dec_int]
    unfold refusal at k
    by_cases c : gd l = 1
    · have e : (((gd l : Nat) : Int) == 1) = true := by rw [c]; rfl
      rw [e]
      rw [if_neg (by omega)] at k
      refine iteF ⟨_, rfl, x, C, dx, _, _, rfl, hx, T.cl, T.nN, gF_named p, p, l, rfl, G.named hp, fun H1 q s1 hq h1 => ⟨q, _, rfl, .inl (SqL.of h1), _, _, rfl, rfl, _, rfl, ?_⟩⟩
      rw [nV_len]
      by_cases d : (16 : Int) < (((gp l).length : Nat) : Int)
      · rw [decide_eq_true d]
        rw [if_pos (by omega)] at k
        exact iteT (k _ s1)
      · rw [decide_eq_false d]
        rw [if_neg (by omega)] at k
        exact iteF (k _ s1)
    · have e : (((gd l : Nat) : Int) == 1) = false := by
        rw [beq_eq_false_iff_ne]
        omega
      rw [e]
      rw [if_pos c] at k
      exact iteT (k _ (Same.refl _))
theorem scGF : FnScope ["self"] ["self"] (defScope (sG 8)) := ⟨rfl, rfl, rfl, by decide +kernel, rfl, by decide +kernel, by decide +kernel⟩
theorem ok_GF {f fF fA : Addr} {fd fdF fdA : FuncData} (F : Fun K "flags" "Game.flags" (sG 8) f fd) (T : GTxt K C) (TC : TxtC mg) (GF : FnOk P w K mg base CX0 2 fF fdF ["named", "most"] (spFlags K)) (mF : mg "flags_of" = some (.ref fF)) (kF : PySem.W.keepIn K (.ref fF) = true) (bF : Binds K fdF ["named", "most"] [])
    (GA : FnOk P w K mg base CX0 3 fA fdA ["named"] (spAll K)) (mA : mg "all_left" = some (.ref fA)) (kA : PySem.W.keepIn K (.ref fA) = true) (bA : Binds K fdA ["named"] []) : FnOk P w K mg base CX0 4 f fd ["self"] (spGF C) := by
  refine F.ok scGF (fun vs H Q E h => ?_) (fun cdv A outer s H vs Q E hr h => ?_)
  · obtain ⟨x, l, rfl, _⟩ := h
    rfl
  · obtain ⟨x, l, rfl, G, k⟩ := h
    obtain ⟨dx, p, hx, hp⟩ := G.ex
    have hr2 : Room 2 _ := hr.mono (by decide)
    refine ⟨_, pss_one (ps_ret (pe_call GF hr2 (by rfl) mF kF bF .nil pass0 (pa_cons (pe_fld (pv 0) rfl) (pa_cons
      (pe_callB (cr_max rfl) (by rfl) TC.max (by decide +kernel) (pa_cons (pe_op op_cat (pe_lst (pa_cons pe_int pa_nil)) (pe_call GA hr (by rfl) mA kA bA .nil pass0 (pa_cons (pe_fld (pv 0) rfl) pa_nil))) pa_nil)) pa_nil)))), ?_⟩
    refine ⟨_, rfl, x, C, dx, _, _, rfl, hx, T.cl, T.nN, gF_named p, lineN (show 1 ≤ 16777216 by decide), fun u hu => ?_⟩
    have su : Same H (upd H u (.lst [.int 1])) := same_new hu
    refine ⟨_, rfl, x, C, dx, _, _, rfl, su _ _ hx, T.cl, T.nN, gF_named p, p, l, rfl, (G.same su).named (su _ _ hp), fun H1 q s1 hq h1 => ?_⟩
    have hgl := gaps_len G.low
    refine ⟨u, q, [.int 1], nV (gp l), rfl, rfl, s1 _ _ upd_same, h1, ?_, fun z hz => ?_⟩
    · rw [nV_len]
      exact lineN (show 1 + _ ≤ 16777216 by omega)
    · refine ⟨z, (1 :: gp l).map (fun n => ((n : Nat) : Int)), rfl, SqL.of ?_, ?_, fun m hm hmost => ?_⟩
      · rw [upd_same, ← nV_ints]
        rfl
      · rw [List.length_map, List.length_cons]
        omega
      · obtain ⟨g, hg, rfl⟩ := List.mem_map.mp hm
        have top : Top l g := ⟨hg, fun y hy => by
          have := hmost ((y : Nat) : Int) (List.mem_map.mpr ⟨y, hy, rfl⟩)
          omega⟩
        have s2 := same_upd (o := .lst ([.int 1] ++ nV (gp l))) (su.trans s1) ((su.trans s1).free hz)
        have g1 := top.most 1 (by simp)
        have g2 : g ≤ 1600 := by
          rcases List.mem_cons.mp hg with e | e
          · omega
          · rw [gp_eq] at e; exact ((gaps_mem G.low).mp e).2.1
        refine ⟨p, l, g, rfl, (G.same s2).named (s2 _ _ hp), g1, by omega, fun H2 r s3 hr3 h3 => ?_⟩
        exact k _ r g (s2.trans s3) (s2.free hr3) top h3
theorem scWins : FnScope ["self", "refusal", "winning"] ["self"] (defScope (sG 9)) := ⟨rfl, rfl, rfl, by decide +kernel, rfl, by decide +kernel, by decide +kernel⟩
theorem ok_wins {f fR fG fW : Addr} {fd fdR fdG fdW : FuncData} (F : Fun K "wins" "Game.wins" (sG 9) f fd) (T : GTxt K C) (TC : TxtC mg) (GR : FnOk P w K mg base CX0 4 fR fdR ["self"] (spRefused C)) (mR : Meth K C "refused" fR) (bR : Binds K fdR ["self"] [])
    (GG : FnOk P w K mg base CX0 4 fG fdG ["self"] (spGF C)) (mG : Meth K C "flags" fG) (bG : Binds K fdG ["self"] []) (GW : FnOk P w K mg base CX0 5 fW fdW ["start"] spWin) (mW : mg "winning_in" = some (.ref fW)) (kW : PySem.W.keepIn K (.ref fW) = true) (bW : Binds K fdW ["start"] []) :
    FnOk P w K mg base CX0 6 f fd ["self"] (spWins C) := by
  refine F.ok scWins (fun vs H Q E h => ?_) (fun cdv A outer s H vs Q E hr h => ?_)
  · obtain ⟨x, l, rfl, _⟩ := h
    rfl
  · obtain ⟨x, l, rfl, G, k⟩ := h
    obtain ⟨dx, p, hx, hp⟩ := G.ex
    have hr4 : Room 4 _ := hr.mono (by decide)
    refine ⟨_, pss_cons (ps_set (i := 1) scWins.nd rfl (Or.inl rfl) (pe_meth0 (pv 0) T.cl mR GR hr4 bR .nil pass0))
      (pss_cons (ps_if (pt_cmpR op_ne (pv 1) pe_int (nomark _)) (pss_one (ps_ret (pe_lst (pa_cons (pv 1) pa_nil)))) pss_nil)
      (pss_cons (ps_set (i := 2) scWins.nd rfl (Or.inl rfl) (pe_call GW hr (by rfl) mW kW bW .nil pass0 (pa_cons (pe_meth0 (pv 0) T.cl mG GG hr4 bG .nil pass0) pa_nil)))
      (pss_one (ps_ret (pe_op op_cat (pe_lst (pa_cons (pe_callTy call_int1 (by rfl) TC.int (by decide +kernel) (pa_cons (pe_cmpR (op_neD hr.units) (pv 2) (pe_lst pa_nil) (nomark _)) pa_nil)) pa_nil)) (pv 2)))))), ?_⟩
    refine ⟨_, rfl, x, dx, _, rfl, hx, gF_other p (by decide +kernel), x, l, rfl, G, fun H1 s1 => ?_⟩
    refine ⟨_, rfl, rfl, _, rfl, ?_⟩
    rw [dec_int]
    have hst : Uw60.step ⟨l⟩ .wins = (⟨l⟩, if refusal l = 0 then (⟨if (Uw60.winning (Uw60.maskOf (gp l))).isEmpty = true then 0 else 1, Uw60.winning (Uw60.maskOf (gp l))⟩ : Uw60.Ans) else Uw60.ok (refusal l)) :=
      congrArg (Prod.mk (⟨l⟩ : Uw60.Game)) (step_small l fun s => ⟨if (Uw60.winning s).isEmpty = true then 0 else 1, Uw60.winning s⟩)
    by_cases c : refusal l = 0
    · have e : (refusal l == 0) = true := by rw [c]; rfl
      rw [e]
      have hf := refusal_few c
      refine iteF ⟨_, rfl, x, dx, _, rfl, s1 _ _ hx, gF_other p (by decide +kernel), x, l, rfl, G.same s1, fun H2 q g s2 hq top h2 => ?_⟩
      have R := top.rel G.low hf
      have eW : Uw60.winning (Uw60.maskOf (gp l)) = winsBy (flags l g) := R.wins
      refine ⟨q, flags l g, rfl, h2, top.start G.low hf, fun H3 r s3 hr3 h3 => ?_⟩
      refine ⟨_, rfl, Nat.zero_le _, fun u hu => ?_⟩
      have su : Same H3 (upd H3 u (.lst [])) := same_new hu
      have hru : r ≠ u := ne_of_none h3 hu
      refine ⟨_, _, dp_nat (l := winsBy (flags l g)) (SqL.of (su _ _ h3)), dp_nat (l := []) (SqL.of upd_same), shaped_nat _, shaped_nat [], ?_⟩
      refine .inr ⟨_, rfl, lineN (show 1 ≤ 16777216 by decide), fun z hz => ?_⟩
      have hwl : (winsBy (flags l g)).length ≤ 64 := by
        unfold winsBy
        have h1 := List.length_filter_le (fun x => val (wn (flags l g) x) == 0) (lf (flags l g))
        have h4 := lf_short (flags l g)
        have h5 := R.len
        have h6 := R.high
        omega
      refine ⟨_, rfl, z, r, _, nV (winsBy (flags l g)), rfl, rfl, upd_same, ?_, ?_, fun y hy => ?_⟩
      · rw [upd_ne (ne_of_none (su _ _ h3) hz)]
        exact su _ _ h3
      · rw [nV_len]
        exact lineN (show 1 + _ ≤ 16777216 by omega)
      · have sA := ((s1.trans s2).trans s3).trans su
        have sB := same_upd (o := .lst [.int (if (!PyData.eqv (.list (dN (winsBy (flags l g)))) (.list (dN []))) = true then 1 else 0)]) sA (sA.free hz)
        refine Does.keep G k (same_upd sB (sB.free hy)) (sB.free hy) upd_same (by rw [hst]) ?_
        rw [hst]
        show _ = ans (if refusal l = 0 then _ else _)
        rw [if_pos c, eW, ans_mk, eqv_empty]
        cases winsBy (flags l g) with
        | nil => rfl
        | cons a b => rfl
    · have e : (refusal l == 0) = false := by
        rw [beq_eq_false_iff_ne]
        exact c
      rw [e]
      refine iteT ⟨_, rfl, lineN (show 1 ≤ 16777216 by decide), fun r hr' => ?_⟩
      refine Does.keep G k (same_upd s1 (s1.free hr')) (s1.free hr') upd_same (by rw [hst]) ?_
      rw [hst]
      show _ = ans (if refusal l = 0 then _ else _)
      rw [if_neg c]
      rfl
theorem scWo : FnScope ["self", "refusal"] ["self"] (defScope (sG 10)) := ⟨rfl, rfl, rfl, by decide +kernel, rfl, by decide +kernel, by decide +kernel⟩
theorem ok_wo {f fR fG fW : Addr} {fd fdR fdG fdW : FuncData} (F : Fun K "worth" "Game.worth" (sG 10) f fd) (T : GTxt K C) (GR : FnOk P w K mg base CX0 4 fR fdR ["self"] (spRefused C)) (mR : Meth K C "refused" fR) (bR : Binds K fdR ["self"] [])
    (GG : FnOk P w K mg base CX0 4 fG fdG ["self"] (spGF C)) (mG : Meth K C "flags" fG) (bG : Binds K fdG ["self"] []) (GW : FnOk P w K mg base CX0 5 fW fdW ["start"] spWorth) (mW : mg "worth_of" = some (.ref fW)) (kW : PySem.W.keepIn K (.ref fW) = true) (bW : Binds K fdW ["start"] []) :
    FnOk P w K mg base CX0 6 f fd ["self"] (spWorthM C) := by
  refine F.ok scWo (fun vs H Q E h => ?_) (fun cdv A outer s H vs Q E hr h => ?_)
  · obtain ⟨x, l, rfl, _⟩ := h
    rfl
  · obtain ⟨x, l, rfl, G, k⟩ := h
    obtain ⟨dx, p, hx, hp⟩ := G.ex
    have hr4 : Room 4 _ := hr.mono (by decide)
    refine ⟨_, pss_cons (ps_set (i := 1) scWo.nd rfl (Or.inl rfl) (pe_meth0 (pv 0) T.cl mR GR hr4 bR .nil pass0))
      (pss_cons (ps_if (pt_cmpR op_ne (pv 1) pe_int (nomark _)) (pss_one (ps_ret (pe_lst (pa_cons (pv 1) pa_nil)))) pss_nil)
      (pss_one (ps_ret (pe_lst (pa_cons (pe_call GW hr (by rfl) mW kW bW .nil pass0 (pa_cons (pe_meth0 (pv 0) T.cl mG GG hr4 bG .nil pass0) pa_nil)) pa_nil))))), ?_⟩
    refine ⟨_, rfl, x, dx, _, rfl, hx, gF_other p (by decide +kernel), x, l, rfl, G, fun H1 s1 => ?_⟩
    refine ⟨_, rfl, rfl, _, rfl, ?_⟩
    rw [dec_int]
    have hst : Uw60.step ⟨l⟩ .worth = (⟨l⟩, if refusal l = 0 then Uw60.ok (Uw60.valueOf (Uw60.maskOf (gp l)) : Nat) else Uw60.ok (refusal l)) :=
      congrArg (Prod.mk (⟨l⟩ : Uw60.Game)) (step_small l fun s => Uw60.ok (Uw60.valueOf s : Nat))
    by_cases c : refusal l = 0
    · have e : (refusal l == 0) = true := by rw [c]; rfl
      rw [e]
      have hf := refusal_few c
      refine iteF ⟨_, rfl, x, dx, _, rfl, s1 _ _ hx, gF_other p (by decide +kernel), x, l, rfl, G.same s1, fun H2 q g s2 hq top h2 => ?_⟩
      have R := top.rel G.low hf
      refine ⟨q, flags l g, rfl, h2, top.start G.low hf, fun H3 s3 => ⟨lineN (show 1 ≤ 16777216 by decide), fun y hy => ?_⟩⟩
      have sA := (s1.trans s2).trans s3
      refine Does.keep G k (same_upd sA (sA.free hy)) (sA.free hy) upd_same (by rw [hst]) ?_
      rw [hst]
      show _ = ans (if refusal l = 0 then _ else _)
      rw [if_pos c, R.value]
      rfl
    · have e : (refusal l == 0) = false := by
        rw [beq_eq_false_iff_ne]
        exact c
      rw [e]
      refine iteT ⟨_, rfl, lineN (show 1 ≤ 16777216 by decide), fun r hr' => ?_⟩
      refine Does.keep G k (same_upd s1 (s1.free hr')) (s1.free hr') upd_same (by rw [hst]) ?_
      rw [hst]
      show _ = ans (if refusal l = 0 then _ else _)
      rw [if_neg c]
      rfl
theorem scEn : FnScope ["self", "refusal"] ["self"] (defScope (sG 11)) := ⟨rfl, rfl, rfl, by decide +kernel, rfl, by decide +kernel, by decide +kernel⟩
theorem ok_en {f fR fG fA fE : Addr} {fd fdR fdG fdA fdE : FuncData} (F : Fun K "ender" "Game.ender" (sG 11) f fd) (T : GTxt K C) (TC : TxtC mg) (GR : FnOk P w K mg base CX0 4 fR fdR ["self"] (spRefused C)) (mR : Meth K C "refused" fR) (bR : Binds K fdR ["self"] [])
    (GG : FnOk P w K mg base CX0 4 fG fdG ["self"] (spGF C)) (mG : Meth K C "flags" fG) (bG : Binds K fdG ["self"] []) (GA : FnOk P w K mg base CX0 3 fA fdA ["named"] (spAll K)) (mA : mg "all_left" = some (.ref fA)) (kA : PySem.W.keepIn K (.ref fA) = true) (bA : Binds K fdA ["named"] [])
    (GE : FnOk P w K mg base CX0 3 fE fdE ["made"] (spEnder K)) (mE : mg "ender_told" = some (.ref fE)) (kE : PySem.W.keepIn K (.ref fE) = true) (bE : Binds K fdE ["made"] []) :
    FnOk P w K mg base CX0 5 f fd ["self"] (spEnderM C) := by
  refine F.ok scEn (fun vs H Q E h => ?_) (fun cdv A outer s H vs Q E hr h => ?_)
  · obtain ⟨x, l, rfl, _⟩ := h
    rfl
  · obtain ⟨x, l, rfl, G, k⟩ := h
    obtain ⟨dx, p, hx, hp⟩ := G.ex
    obtain ⟨t8, r8⟩ := TC.r8
    have hr3 : Room 3 _ := hr.mono (by decide)
    refine ⟨_, pss_cons (ps_set (i := 1) scEn.nd rfl (Or.inl rfl) (pe_meth0 (pv 0) T.cl mR GR hr bR .nil pass0))
      (pss_cons (ps_if (pt_cmpR op_ne (pv 1) pe_int (nomark _)) (pss_one (ps_ret (pe_lst (pa_cons (pv 1) pa_nil)))) pss_nil)
      (pss_cons (ps_if (pt_cmpR (op_eqD hr.units) (pe_call GA hr3 (by rfl) mA kA bA .nil pass0 (pa_cons (pe_fld (pv 0) rfl) pa_nil)) (pe_lst pa_nil) (nomark _)) (pss_one (ps_ret (pe_lst (pa_cons (pe_glob (v := .int (-8)) (by rfl) r8 ⟨_, rfl⟩) pa_nil)))) pss_nil)
      (pss_one (ps_ret (pe_call GE hr3 (by rfl) mE kE bE .nil pass0 (pa_cons (pe_meth0 (pv 0) T.cl mG GG hr bG .nil pass0) pa_nil)))))), ?_⟩
    refine ⟨_, rfl, x, dx, _, rfl, hx, gF_other p (by decide +kernel), x, l, rfl, G, fun H1 s1 => ?_⟩
    refine ⟨_, rfl, rfl, _, rfl, ?_⟩
    rw [dec_int]
    have hst : Uw60.step ⟨l⟩ .ender = (⟨l⟩, if refusal l = 0 then (if Uw60.maskOf (gp l) = 0 then Uw60.ok (-8) else match Uw60.notEnder (Uw60.maskOf (gp l)) with
        | none => (⟨1, [(Uw60.membersOf (Uw60.maskOf (gp l))).getLastD 0]⟩ : Uw60.Ans)
        | some a => ⟨0, [(Uw60.membersOf (Uw60.maskOf (gp l))).getLastD 0, a]⟩) else Uw60.ok (refusal l)) :=
      congrArg (Prod.mk (⟨l⟩ : Uw60.Game)) (step_small l fun s => if s = 0 then Uw60.ok (-8) else match Uw60.notEnder s with
        | none => ⟨1, [(Uw60.membersOf s).getLastD 0]⟩
        | some a => ⟨0, [(Uw60.membersOf s).getLastD 0, a]⟩)
    by_cases c : refusal l = 0
    · have e : (refusal l == 0) = true := by rw [c]; rfl
      rw [e]
      have hf := refusal_few c
      have hx1 := s1 _ _ hx
      have hp1 := s1 _ _ hp
      refine iteF ⟨_, rfl, x, C, dx, _, _, rfl, hx1, T.cl, T.nN, gF_named p, p, l, rfl, (G.same s1).named hp1, fun H2 q s2 hq h2 => ⟨Nat.zero_le _, fun u hu => ?_⟩⟩
      have su : Same H2 (upd H2 u (.lst [])) := same_new hu
      refine ⟨_, _, dp_nat (l := gp l) (SqL.of (su _ _ h2)), dp_nat (l := []) (SqL.of upd_same), shaped_nat _, shaped_nat [], _, rfl, ?_⟩
      rw [eqv_empty]
      have sA := (s1.trans s2).trans su
      cases hg : (gp l).isEmpty with
      | true =>
        have hg' : gp l = [] := List.isEmpty_iff.mp hg
        refine iteT ⟨lineN (show 1 ≤ 16777216 by decide), fun y hy => ?_⟩
        refine Does.keep G k (same_upd sA (sA.free hy)) (sA.free hy) upd_same (by rw [hst]) ?_
        rw [hst]
        show _ = ans (if refusal l = 0 then _ else _)
        rw [if_pos c, if_pos (mask_zero.mpr hg')]
        rfl
      | false =>
        have hg' : gp l ≠ [] := fun z => by rw [z] at hg; cases hg
        refine iteF ⟨_, rfl, x, dx, _, rfl, sA _ _ hx, gF_other p (by decide +kernel), x, l, rfl, G.same sA, fun H3 r g s3 hr3 top h3 => ?_⟩
        have R := top.rel G.low hf
        have hlf : lf (flags l g) = gp l := top.left G.low
        have sB := sA.trans s3
        refine ⟨r, flags l g, rfl, SqT.of h3, ?_, by rw [hlf]; exact hg', fun H4 y s4 hy h4 => ?_⟩
        · have h5 := R.len
          have h6 := R.high
          omega
        · refine Does.keep G k (sB.trans s4) (sB.free hy) h4 (by rw [hst]) ?_
          rw [hst]
          show _ = ans (if refusal l = 0 then _ else _)
          rw [if_pos c, if_neg (fun z => hg' (mask_zero.mp z)), R.notEnder, R.members]
          unfold enderL
          cases notBy (flags l g) with
          | none => rfl
          | some a => rfl
    · have e : (refusal l == 0) = false := by
        rw [beq_eq_false_iff_ne]
        exact c
      rw [e]
      refine iteT ⟨_, rfl, lineN (show 1 ≤ 16777216 by decide), fun r hr' => ?_⟩
      refine Does.keep G k (same_upd s1 (s1.free hr')) (s1.free hr') upd_same (by rw [hst]) ?_
      rw [hst]
      show _ = ans (if refusal l = 0 then _ else _)
      rw [if_neg c]
      rfl
end
end NW
namespace NW
open PySem PySem.Spec PyProof.Rows L2
open NT
abbrev sHas : Stmt := topS 48
abbrev sAW : Stmt := topS 49
abbrev sAA : Stmt := topS 50
abbrev sAns : Stmt := topS 51
/-- a call's answer at a game -/
def Res (C x : Addr) (l : List Nat) (c : Uw60.Call) (H : Hp) (Q : VK) : Prop := GameAt C H x l ∧
  ∀ H' p, Other x H H' → Apart x H H' → H p = none → H' p = some (.lst (ans (Uw60.step ⟨l⟩ c).2)) → GameAt C H' x (Uw60.step ⟨l⟩ c).1.named → Q (.ref p) H'
def spHas : Sp := fun vs H Q _ => ∃ c : Int, vs = [.int c] ∧ Q (.bl (decide (c = 1) || decide (c = 3))) H
def spAW (C : Addr) : Sp := fun vs H Q _ => ∃ (x : Addr) (l : List Nat) (p : Int) (n : Nat) (c : Uw60.Call), vs = [.ref x, .int p, .int (n : Nat)] ∧ WithN p n c ∧ Res C x l c H Q
def spAA (C : Addr) : Sp := fun vs H Q _ => ∃ (x : Addr) (l : List Nat) (p : Int) (c : Uw60.Call), vs = [.ref x, .int p] ∧ Alone p c ∧ Res C x l c H Q
def spAns (K : PySem.W.Frag) : Sp := fun vs H Q _ => ∃ (a : Addr) (ns : List Int), vs = [.ref a] ∧ SqL K H a (ns.map V.int) ∧ ns.length ≤ 100 ∧ (∀ z ∈ ns, 0 ≤ z ∧ z ≤ 4294967295) ∧ PyUw60.answers_asked ns = true ∧
  ∀ (H' : Hp) (p : Addr), H' p = some (.lst ((PyUw60.answers ns).map V.int)) → Q (.ref p) H'
structure TxtN (mg : Str → Option Value) : Prop where
  c0 : ∃ t, mg "BEGINS" = some (.int 0 t)
  c1 : ∃ t, mg "NAMES" = some (.int 1 t)
  c2 : ∃ t, mg "GAPS" = some (.int 2 t)
  c3 : ∃ t, mg "MAKES" = some (.int 3 t)
  c4 : ∃ t, mg "WINS" = some (.int 4 t)
  c5 : ∃ t, mg "WORTH" = some (.int 5 t)
  c6 : ∃ t, mg "ENDER" = some (.int 6 t)
section
variable {P : Program} {w : World} {K : PySem.W.Frag} {mg : Str → Option Value} {base : Heap} {C : Addr}
theorem scHas : FnScope ["call"] ["call"] (defScope sHas) := ⟨rfl, rfl, rfl, by decide +kernel, rfl, by decide +kernel, by decide +kernel⟩
theorem dec_ii (i j : Int) : decide (V.int i = V.int j) = decide (i = j) := by
  rw [dec_int]
  rfl
theorem ok_has {f : Addr} {fd : FuncData} (F : Fun K "has_number" "has_number" sHas f fd) (T : TxtN mg) : FnOk P w K mg base CX0 1 f fd ["call"] spHas := by
  refine F.ok scHas (fun vs H Q E h => ?_) (fun cdv A outer s H vs Q E hr h => ?_)
  · obtain ⟨c, rfl, _⟩ := h
    rfl
  · obtain ⟨c, rfl, k⟩ := h
    obtain ⟨t1, c1⟩ := T.c1
    obtain ⟨t3, c3⟩ := T.c3
    refine ⟨_, pss_one (ps_ret (pe_or (pe_cmpR op_eq (pv 0) (pe_glob (v := .int 1) (by rfl) c1 ⟨_, rfl⟩) (nomark _)) (pe_one (pe_cmpR op_eq (pv 0) (pe_glob (v := .int 3) (by rfl) c3 ⟨_, rfl⟩) (nomark _))))), ?_⟩
    refine ⟨_, rfl, rfl, _, rfl, ?_⟩
    rw [dec_ii]
    cases h1 : decide (c = 1) with
    | true =>
      rw [h1, Bool.true_or] at k
      exact iteT k
    | false =>
      rw [h1, Bool.false_or] at k
      refine iteF ⟨_, rfl, rfl, ?_⟩
      rw [dec_ii]
      exact k
theorem scAW : FnScope ["game", "call", "number"] ["game", "call", "number"] (defScope sAW) := ⟨rfl, rfl, rfl, by decide +kernel, rfl, by decide +kernel, by decide +kernel⟩
theorem ok_AW {f fN fM : Addr} {fd fdN fdM : FuncData} (F : Fun K "answer_with" "answer_with" sAW f fd) (T : TxtN mg) (G : GTxt K C) (GN : FnOk P w K mg base CX0 5 fN fdN ["self", "number"] (spNames C)) (mN : Meth K C "names" fN) (bN : Binds K fdN ["self", "number"] [])
    (GM : FnOk P w K mg base CX0 4 fM fdM ["self", "total"] (spMakes C)) (mM : Meth K C "makes" fM) (bM : Binds K fdM ["self", "total"] []) : FnOk P w K mg base CX0 6 f fd ["game", "call", "number"] (spAW C) := by
  refine F.ok scAW (fun vs H Q E h => ?_) (fun cdv A outer s H vs Q E hr h => ?_)
  · obtain ⟨x, l, p, n, c, rfl, _⟩ := h
    rfl
  · obtain ⟨x, l, p, n, c, rfl, hw, g, k⟩ := h
    obtain ⟨t1, c1⟩ := T.c1
    obtain ⟨dx, p0, hx, hp0⟩ := g.ex
    have hr4 : Room 4 _ := hr.mono (by decide)
    refine ⟨_, pss_cons (ps_if (pt_cmpR op_eq (pv 1) (pe_glob (v := .int 1) (by rfl) c1 ⟨_, rfl⟩) (nomark _)) (pss_one (ps_ret (pe_meth (pv 0) G.cl mN GN hr bN .nil pass0 (pa_cons (pv 2) pa_nil)))) pss_nil)
      (pss_one (ps_ret (pe_meth (pv 0) G.cl mM GM hr4 bM .nil pass0 (pa_cons (pv 2) pa_nil)))), ?_⟩
    refine ⟨_, rfl, rfl, _, rfl, ?_⟩
    rw [dec_ii]
    rcases hw with ⟨rfl, rfl⟩ | ⟨rfl, rfl⟩
    · exact iteT ⟨_, rfl, x, dx, _, rfl, hx, gF_other p0 (by decide +kernel), _, rfl, n, x, l, rfl, g, k⟩
    · exact iteF ⟨_, rfl, x, dx, _, rfl, hx, gF_other p0 (by decide +kernel), _, rfl, n, x, l, rfl, g, k⟩
theorem scAA : FnScope ["game", "call"] ["game", "call"] (defScope sAA) := ⟨rfl, rfl, rfl, by decide +kernel, rfl, by decide +kernel, by decide +kernel⟩
theorem ok_AA {f f0 f2 f4 f5 f6 f7 : Addr} {fd fd0 fd2 fd4 fd5 fd6 fd7 : FuncData} (F : Fun K "answer_alone" "answer_alone" sAA f fd) (T : TxtN mg) (G : GTxt K C)
    (G0 : FnOk P w K mg base CX0 1 f0 fd0 ["self"] (spBegins C)) (m0 : Meth K C "begins" f0) (b0 : Binds K fd0 ["self"] [])
    (G2 : FnOk P w K mg base CX0 4 f2 fd2 ["self"] (spGaps C)) (m2 : Meth K C "gaps" f2) (b2 : Binds K fd2 ["self"] [])
    (G4 : FnOk P w K mg base CX0 6 f4 fd4 ["self"] (spWins C)) (m4 : Meth K C "wins" f4) (b4 : Binds K fd4 ["self"] [])
    (G5 : FnOk P w K mg base CX0 6 f5 fd5 ["self"] (spWorthM C)) (m5 : Meth K C "worth" f5) (b5 : Binds K fd5 ["self"] [])
    (G6 : FnOk P w K mg base CX0 5 f6 fd6 ["self"] (spEnderM C)) (m6 : Meth K C "ender" f6) (b6 : Binds K fd6 ["self"] [])
    (G7 : FnOk P w K mg base CX0 5 f7 fd7 ["self"] (spUndo C)) (m7 : Meth K C "undo" f7) (b7 : Binds K fd7 ["self"] []) : FnOk P w K mg base CX0 7 f fd ["game", "call"] (spAA C) := by
  refine F.ok scAA (fun vs H Q E h => ?_) (fun cdv A outer s H vs Q E hr h => ?_)
  · obtain ⟨x, l, p, c, rfl, _⟩ := h
    rfl
  · obtain ⟨x, l, p, c, rfl, hw, g, k⟩ := h
    obtain ⟨t0, c0⟩ := T.c0
    obtain ⟨t2, c2⟩ := T.c2
    obtain ⟨t4, c4⟩ := T.c4
    obtain ⟨t5, c5⟩ := T.c5
    obtain ⟨t6, c6⟩ := T.c6
    obtain ⟨dx, p0, hx, hp0⟩ := g.ex
    refine ⟨_, pss_cons (ps_if (pt_cmpR op_eq (pv 1) (pe_glob (v := .int 0) (by rfl) c0 ⟨_, rfl⟩) (nomark _)) (pss_one (ps_ret (pe_meth0 (pv 0) G.cl m0 G0 (hr.mono (by decide)) b0 .nil pass0))) pss_nil)
      (pss_cons (ps_if (pt_cmpR op_eq (pv 1) (pe_glob (v := .int 2) (by rfl) c2 ⟨_, rfl⟩) (nomark _)) (pss_one (ps_ret (pe_meth0 (pv 0) G.cl m2 G2 (hr.mono (by decide)) b2 .nil pass0))) pss_nil)
      (pss_cons (ps_if (pt_cmpR op_eq (pv 1) (pe_glob (v := .int 4) (by rfl) c4 ⟨_, rfl⟩) (nomark _)) (pss_one (ps_ret (pe_meth0 (pv 0) G.cl m4 G4 hr b4 .nil pass0))) pss_nil)
      (pss_cons (ps_if (pt_cmpR op_eq (pv 1) (pe_glob (v := .int 5) (by rfl) c5 ⟨_, rfl⟩) (nomark _)) (pss_one (ps_ret (pe_meth0 (pv 0) G.cl m5 G5 hr b5 .nil pass0))) pss_nil)
      (pss_cons (ps_if (pt_cmpR op_eq (pv 1) (pe_glob (v := .int 6) (by rfl) c6 ⟨_, rfl⟩) (nomark _)) (pss_one (ps_ret (pe_meth0 (pv 0) G.cl m6 G6 (hr.mono (by decide)) b6 .nil pass0))) pss_nil)
      (pss_one (ps_ret (pe_meth0 (pv 0) G.cl m7 G7 (hr.mono (by decide)) b7 .nil pass0))))))), ?_⟩
    refine ⟨_, rfl, rfl, _, rfl, ?_⟩
    rw [dec_ii]
    rcases hw with ⟨rfl, rfl⟩ | ⟨rfl, rfl⟩ | ⟨rfl, rfl⟩ | ⟨rfl, rfl⟩ | ⟨rfl, rfl⟩ | ⟨rfl, rfl⟩
    · exact iteT ⟨_, rfl, x, dx, _, rfl, hx, gF_other p0 (by decide +kernel), x, l, rfl, g, k⟩
    · refine iteF ⟨_, rfl, rfl, _, rfl, ?_⟩
      exact iteT ⟨_, rfl, x, dx, _, rfl, hx, gF_other p0 (by decide +kernel), x, l, rfl, g, k⟩
    · refine iteF ⟨_, rfl, rfl, _, rfl, iteF ⟨_, rfl, rfl, _, rfl, ?_⟩⟩
      exact iteT ⟨_, rfl, x, dx, _, rfl, hx, gF_other p0 (by decide +kernel), x, l, rfl, g, k⟩
    · refine iteF ⟨_, rfl, rfl, _, rfl, iteF ⟨_, rfl, rfl, _, rfl, iteF ⟨_, rfl, rfl, _, rfl, ?_⟩⟩⟩
      exact iteT ⟨_, rfl, x, dx, _, rfl, hx, gF_other p0 (by decide +kernel), x, l, rfl, g, k⟩
    · refine iteF ⟨_, rfl, rfl, _, rfl, iteF ⟨_, rfl, rfl, _, rfl, iteF ⟨_, rfl, rfl, _, rfl, iteF ⟨_, rfl, rfl, _, rfl, ?_⟩⟩⟩⟩
      exact iteT ⟨_, rfl, x, dx, _, rfl, hx, gF_other p0 (by decide +kernel), x, l, rfl, g, k⟩
    · refine iteF ⟨_, rfl, rfl, _, rfl, iteF ⟨_, rfl, rfl, _, rfl, iteF ⟨_, rfl, rfl, _, rfl, iteF ⟨_, rfl, rfl, _, rfl, iteF ?_⟩⟩⟩⟩
      exact ⟨_, rfl, x, dx, _, rfl, hx, gF_other p0 (by decide +kernel), x, l, rfl, g, k⟩
end
end NW
namespace NW
open PySem PySem.Spec PyProof.Rows L2
open NT
/-- where answers' loop stands: i of the line are read, fl is answered, l is named -/
structure Turn (C x q : Addr) (ns : List Int) (H0 H : Hp) (i : Nat) (l : List Nat) (fl : List Int) (f : Nat) (cs : List (List (List Int))) : Prop where
  same : Same H0 H
  gm : GameAt C H x l
  lst : H q = some (.lst (fl.map V.int))
  ap : ∀ C dx p, H x = some (.ins C dx (gF p)) → p ≠ q
  rd : PyFlat.calls PyUw60.shape f (ns.drop i) = some cs
  eq : fl ++ goOn ⟨l⟩ cs = PyUw60.answers ns
  le : i ≤ ns.length
theorem Turn.xq {C x q : Addr} {ns : List Int} {H0 H : Hp} {i : Nat} {l : List Nat} {fl : List Int} {f : Nat} {cs : List (List (List Int))} (T : Turn C x q ns H0 H i l fl f cs) : x ≠ q := fun e => by
  obtain ⟨dx, p, h1, h2⟩ := T.gm.ex
  have h := T.lst
  rw [← e, h1] at h
  cases h
theorem Turn.next {C x q : Addr} {ns : List Int} {H0 H H1 : Hp} {i i' : Nat} {l l' : List Nat} {fl out : List Int} {f f' : Nat} {cs cs' : List (List (List Int))} (T : Turn C x q ns H0 H i l fl f cs) (hx : H0 x = none) (hq : H0 q = none)
    (o : Other x H H1) (a : Apart x H H1) (g : GameAt C H1 x l') (rd : PyFlat.calls PyUw60.shape f' (ns.drop i') = some cs') (le : i' ≤ ns.length)
    (e : goOn ⟨l⟩ cs = (out.length : Int) :: (out ++ goOn ⟨l'⟩ cs')) : Turn C x q ns H0 (upd (upd H1 q (.lst (fl.map V.int ++ [V.int (out.length : Nat)]))) q (.lst ((fl.map V.int ++ [V.int (out.length : Nat)]) ++ out.map V.int))) i' l' (fl ++ (out.length : Int) :: out) f' cs' := by
  have xq := T.xq
  have q0 : H q ≠ none := by rw [T.lst]; exact fun e => nomatch e
  have ap := a q q0 T.ap
  obtain ⟨dx, p1, h1, h2⟩ := g.ex
  have p1q := ap _ _ _ h1
  rw [upd_upd]
  refine ⟨fun b u eb => ?_, ⟨⟨dx, p1, ?_, ?_⟩, g.low, g.high, g.len⟩, ?_, fun C' dx' p' e' => ?_, rd, ?_, le⟩
  · rw [upd_ne (ne_of_none eb hq)]
    exact o _ _ (T.same _ _ eb) (ne_of_none eb hx)
  · rw [upd_ne xq]; exact h1
  · rw [upd_ne p1q]; exact h2
  · rw [upd_same, List.map_append, List.map_cons, List.append_assoc]
    rfl
  · rw [upd_ne xq] at e'
    exact ap _ _ _ e'
  · rw [← T.eq, e, List.append_assoc]
    rfl
theorem Turn.room {C x q : Addr} {ns : List Int} {H0 H : Hp} {i : Nat} {l l' : List Nat} {fl out : List Int} {f : Nat} {cs cs' : List (List (List Int))} (T : Turn C x q ns H0 H i l fl f cs) (h : (PyUw60.answers ns).length ≤ 10000000)
    (e : goOn ⟨l⟩ cs = (out.length : Int) :: (out ++ goOn ⟨l'⟩ cs')) : fl.length + 1 + out.length ≤ 10000000 := by
  rw [← T.eq, e] at h
  simp only [List.length_append, List.length_cons] at h
  omega
section
variable {P : Program} {w : World} {K : PySem.W.Frag} {mg : Str → Option Value} {base : Heap} {C : Addr}
theorem scAns : FnScope ["calls", "game", "found", "at", "call", "answer"] ["calls"] (defScope sAns) := ⟨rfl, rfl, rfl, by decide +kernel, rfl, by decide +kernel, by decide +kernel⟩
theorem ok_ans {f fI fH fN fA : Addr} {fd fdI fdH fdN fdA : FuncData} (F : Fun K "answers" "answers" sAns f fd) (mLen : mg "len" = none) (M : Mk K C fI) (mC : mg "Game" = some (.ref C)) (GI : FnOk P w K mg base CX0 1 fI fdI ["self"] (spInit C)) (bI : Binds K fdI ["self"] [])
    (GH : FnOk P w K mg base CX0 1 fH fdH ["call"] spHas) (mH : mg "has_number" = some (.ref fH)) (kH : PySem.W.keepIn K (.ref fH) = true) (bH : Binds K fdH ["call"] [])
    (GN : FnOk P w K mg base CX0 6 fN fdN ["game", "call", "number"] (spAW C)) (mN : mg "answer_with" = some (.ref fN)) (kN : PySem.W.keepIn K (.ref fN) = true) (bN : Binds K fdN ["game", "call", "number"] [])
    (GA : FnOk P w K mg base CX0 7 fA fdA ["game", "call"] (spAA C)) (mA : mg "answer_alone" = some (.ref fA)) (kA : PySem.W.keepIn K (.ref fA) = true) (bA : Binds K fdA ["game", "call"] []) : FnOk P w K mg base CX0 8 f fd ["calls"] (spAns K) := by
  refine F.ok scAns (fun vs H Q E h => ?_) (fun cdv A outer s H vs Q E hr h => ?_)
  · obtain ⟨a, ns, rfl, _⟩ := h
    rfl
  · obtain ⟨a, ns, rfl, hS, hlen, hb, hask, k⟩ := h
    have hr2 : Room 2 _ := hr.mono (by decide)
    have hr1 : Room 1 _ := hr.mono (by decide)
    have hr6 : Room 6 _ := hr.mono (by decide)
    refine ⟨_, pss_cons (ps_set (i := 1) scAns.nd rfl (Or.inl rfl) (pe_make0 M GI hr2 rfl mC bI .nil pass0))
      (pss_cons (ps_set (i := 2) scAns.nd rfl (Or.inl rfl) (pe_lst pa_nil))
      (pss_cons (ps_set (i := 3) scAns.nd rfl (Or.inl rfl) pe_int)
      (pss_cons (ps_while PassesOwn.never (pt_cmpR op_lt (pv 3) (pe_callB call_len_seq (by rfl) mLen PySem.boot_len (pa_cons (pv 0) pa_nil)) (nomark _))
        (pss_cons (ps_set (i := 4) scAns.nd rfl (Or.inl rfl) (pe_ix ix_list (pv 0) (pv 3) (fun _ _ => rfl)))
        (pss_cons (ps_if (pt_val (pe_call GH hr1 (by rfl) mH kH bH .nil pass0 (pa_cons (pv 4) pa_nil)))
          (pss_cons (ps_set (i := 5) scAns.nd rfl (Or.inl rfl) (pe_call GN hr6 (by rfl) mN kN bN .nil pass0 (pa_cons (pv 1) (pa_cons (pv 4) (pa_cons (pe_ix ix_list (pv 0) (pe_op op_add (pv 3) pe_int) (fun _ _ => rfl)) pa_nil)))))
          (pss_one (ps_set (i := 3) scAns.nd rfl (Or.inl rfl) (pe_op op_add (pv 3) pe_int))))
          (pss_cons (ps_set (i := 5) scAns.nd rfl (Or.inl rfl) (pe_call GA hr (by rfl) mA kA bA .nil pass0 (pa_cons (pv 1) (pa_cons (pv 4) pa_nil))))
          (pss_one (ps_set (i := 3) scAns.nd rfl (Or.inl rfl) (pe_op op_add (pv 3) pe_int)))))
        (pss_cons (ps_expr (pe_bm PySem.F.plainAttrs_list PySem.F.slot_list_append PySem.F.type_list_append mt_append (pv 2) (pa_cons (pe_callB call_len_seq (by rfl) mLen PySem.boot_len (pa_cons (pv 5) pa_nil)) pa_nil)))
        (pss_one (ps_expr (pe_bm PySem.F.plainAttrs_list PySem.F.slot_list_extend PySem.F.type_list_extend mt_extend (pv 2) (pa_cons (pv 5) pa_nil))))))))
      (pss_one (ps_ret (pv 2)))))), ?_⟩
    obtain ⟨cs0, hc0, ha0, hl0⟩ := asked_of hask
    -- game = Game()
    intro x dx nx ndx nex
    refine ⟨x, dx, rfl, upd_same, fun H1 o1 G1 => ⟨rfl, ?_⟩⟩
    have s1 : Same H H1 := Same.made nx ndx o1
    -- found = []
    refine ⟨Nat.zero_le _, fun q hq => ?_⟩
    -- at = 0
    have T0 : Turn C x q ns H (upd H1 q (.lst [])) 0 [] [] ns.length cs0 := by
      obtain ⟨d1, p1, g1, g2⟩ := G1.ex
      refine ⟨same_upd s1 (s1.free hq), G1.same (same_new hq), upd_same, fun C' d' p' e' => ?_, hc0, ha0.symm, Nat.zero_le _⟩
      rw [upd_ne (ne_of_none g1 hq), g1] at e'
      injection e' with e1
      injection e1 with e2 e3 e4
      rw [← gF_inj e4]
      exact ne_of_none g2 hq
    have hq0 : H q = none := s1.free hq
    refine ⟨fun n σ H' => ∃ (i : Nat) (l : List Nat) (fl : List Int) (g : Nat) (cs : List (List (List Int))) (v w : Option V), σ = [some (.ref a), some (.ref x), some (.ref q), some (.int (i : Nat)), v, w] ∧ Turn C x q ns H H' i l fl g cs ∧ n = ns.length - i,
      ⟨_, 0, [], [], ns.length, cs0, none, none, rfl, T0, rfl⟩, ?_⟩
    rintro n σ H' ⟨i, l, fl, g, cs, v, w, rfl, T, rfl⟩
    have hS' := T.same.seq hS
    refine ⟨_, rfl, _, rfl, a, _, rfl, .inl hS', _, _, rfl, rfl, _, rfl, ?_⟩
    rw [List.length_map]
    by_cases c : ((i : Nat) : Int) < ((ns.length : Nat) : Int)
    · rw [decide_eq_true c]
      have hil : i < ns.length := by omega
      obtain ⟨z, hz⟩ : ∃ z, ns[i]? = some z := ⟨_, List.getElem?_eq_getElem hil⟩
      have hdr : ns.drop i = z :: ns.drop (i + 1) := by
        rw [List.drop_eq_getElem_cons hil]
        rw [List.getElem?_eq_getElem hil] at hz
        rw [Option.some.inj hz]
      have hzV : (ns.map V.int)[i]? = some (V.int z) := by rw [List.getElem?_map, hz]; rfl
      have hrd := T.rd
      rw [hdr] at hrd
      obtain ⟨g', rfl⟩ : ∃ g', g = g' + 1 := by
        cases g with
        | zero => rw [calls_zero] at hrd; cases hrd
        | succ g' => exact ⟨g', rfl⟩
      -- call = calls[at]; if has_number(call)
      refine iteT ⟨fun σ' H2 => ∃ (i2 : Nat) (l2 : List Nat) (fl2 : List Int) (g2 : Nat) (cs2 : List (List (List Int))) (v2 w2 : Option V), i < i2 ∧ σ' = [some (.ref a), some (.ref x), some (.ref q), some (.int (i2 : Nat)), v2, w2] ∧ Turn C x q ns H H2 i2 l2 fl2 g2 cs2, ?_, ?_⟩
      · rintro σ' H2 ⟨i2, l2, fl2, g2, cs2, v2, w2, hi2, rfl, T2⟩
        exact ⟨ns.length - i2, by omega, i2, l2, fl2, g2, cs2, v2, w2, rfl, T2, rfl⟩
      refine ⟨_, rfl, _, rfl, a, _, _, _, rfl, rfl, hS', atI_nat hzV, _, rfl, z, rfl, _, rfl, ?_⟩
      rcases calls_turn hrd with ⟨hk, cs', rfl, hcs⟩ | ⟨hk, y, r', cs', hr', rfl, hcs⟩
      · have e13 : (decide (z = 1) || decide (z = 3)) = false := by
          rw [decide_eq_false (by omega), decide_eq_false (by omega)]
          rfl
        rw [e13]
        obtain ⟨cc, hcc⟩ := alone_of hk
        have eg := goOn_alone (s := ⟨l⟩) cs' hcc
        have hrm := T.room hl0 eg
        refine iteF ⟨_, rfl, _, rfl, x, l, z, cc, rfl, hcc, T.gm, fun H2 p o a2 hp hp2 g2 => ⟨_, rfl, _, _, rfl, rfl, ?_⟩⟩
        have T2 := T.next nx hq0 o a2 g2 hcs (by omega) eg
        have hq2 : H2 q = some (.lst (fl.map V.int)) := o _ _ T.lst T.xq.symm
        have hpq : p ≠ q := (ne_of_none T.lst hp).symm
        refine ⟨_, rfl, .inl ⟨rfl, _, SqL.of hq2⟩, _, rfl, p, _, rfl, .inl (SqL.of hp2), q, _, _, rfl, rfl, hq2, ?_, ?_⟩
        · rw [List.length_map]
          exact lineL (by omega)
        · refine ⟨_, rfl, .inl ⟨rfl, _, SqL.of upd_same⟩, _, rfl, q, p, _, ans (Uw60.step ⟨l⟩ cc).2, rfl, rfl, upd_same, ?_, ?_, ?_⟩
          · rw [upd_ne hpq]; exact hp2
          · rw [List.length_append, List.length_map, ans, List.length_map]
            exact lineN (show _ + 1 + _ ≤ 16777216 by omega)
          · have e9 : (ans (Uw60.step ⟨l⟩ cc).2).length = (Uw60Neutral.out (Uw60.step ⟨l⟩ cc).2).length := List.length_map _
            rw [← e9] at T2
            exact ⟨i + 1, _, _, g', cs', _, _, by omega, rfl, T2⟩
      · have e13 : (decide (z = 1) || decide (z = 3)) = true := by
          rcases hk with rfl | rfl <;> rfl
        rw [e13]
        have hi1 : i + 1 < ns.length := by
          have e := congrArg List.length hr'
          rw [List.length_drop, List.length_cons] at e
          omega
        have hy : ns[i + 1]? = some y := by
          rw [List.drop_eq_getElem_cons hi1] at hr'
          rw [List.getElem?_eq_getElem hi1]
          injection hr' with e1 e2
          rw [e1]
        have hyV : (ns.map V.int)[i + 1]? = some (V.int y) := by rw [List.getElem?_map, hy]; rfl
        have hcs2 : PyFlat.calls PyUw60.shape g' (ns.drop (i + 2)) = some cs' := by
          rw [List.drop_eq_getElem_cons hi1] at hr'
          injection hr' with e1 e2
          rw [e2]
          exact hcs
        obtain ⟨y1, y2⟩ := hb y (List.mem_of_getElem? hy)
        obtain ⟨m, rfl⟩ : ∃ m : Nat, y = (m : Int) := ⟨y.toNat, by omega⟩
        obtain ⟨cc, hcc⟩ := with_of m hk
        have eg := goOn_with (s := ⟨l⟩) cs' (show m < 2 ^ 32 by omega) hcc
        have hrm := T.room hl0 eg
        refine iteT ⟨_, rfl, _, rfl, _, rfl, _, rfl, _, _, rfl, rfl, a, _, _, _, rfl, rfl, hS', atI_nat (j := i + 1) hyV, x, l, z, m, cc, rfl, hcc, T.gm, fun H2 p o a2 hp hp2 g2 => ⟨_, rfl, _, _, rfl, rfl, ?_⟩⟩
        have T2 := T.next nx hq0 o a2 g2 hcs2 (by omega) eg
        have hq2 : H2 q = some (.lst (fl.map V.int)) := o _ _ T.lst T.xq.symm
        have hpq : p ≠ q := (ne_of_none T.lst hp).symm
        refine ⟨_, rfl, .inl ⟨rfl, _, SqL.of hq2⟩, _, rfl, p, _, rfl, .inl (SqL.of hp2), q, _, _, rfl, rfl, hq2, ?_, ?_⟩
        · rw [List.length_map]
          exact lineL (by omega)
        · refine ⟨_, rfl, .inl ⟨rfl, _, SqL.of upd_same⟩, _, rfl, q, p, _, ans (Uw60.step ⟨l⟩ cc).2, rfl, rfl, upd_same, ?_, ?_, ?_⟩
          · rw [upd_ne hpq]; exact hp2
          · rw [List.length_append, List.length_map, ans, List.length_map]
            exact lineN (show _ + 1 + _ ≤ 16777216 by omega)
          · have e9 : (ans (Uw60.step ⟨l⟩ cc).2).length = (Uw60Neutral.out (Uw60.step ⟨l⟩ cc).2).length := List.length_map _
            rw [← e9] at T2
            exact ⟨i + 2, _, _, g', cs', _, _, by omega, rfl, T2⟩
    · rw [decide_eq_false c]
      have e : ns.drop i = [] := List.drop_eq_nil_of_le (by omega)
      have hrd := T.rd
      rw [e, calls_nil] at hrd
      have e2 : cs = [] := (Option.some.inj hrd).symm
      have e3 := T.eq
      rw [e2, goOn_nil, List.append_nil] at e3
      refine iteF ⟨_, rfl, k _ q ?_⟩
      rw [← e3]
      exact T.lst
end
end NW
namespace NW
open PySem PySem.Spec PyProof.Rows L2
open NT
/-- what the top has written keeps answers' promise -/
theorem all_mk {P : Program} {w : World} {K : PySem.W.Frag} {h : Heap} {mg : Str → Option Value} {fa C f_t0 f_t1 f_t2 f_t3 f_t4 f_t5 f_t6 f_t7 f_t8 f_t9 f_t10 f_t11 f_t12 f_t13 f_t14 f_t15 f_t16 f_t17 f_t18 f_t19 f_t20 f_t21 f_t22 f_t23 f_m0 f_m1 f_m2 f_m3 f_m4 f_m5 f_m6 f_m7 f_m8 f_m9 f_m10 f_m11 : Addr} (X : K.In h) (G : h.Ns mainGlobals mg) (hfa : mg "answers" = some (.ref fa))
    {od_t0 an_t0 od_t1 an_t1 od_t2 an_t2 od_t3 an_t3 od_t4 an_t4 od_t5 an_t5 od_t6 an_t6 od_t7 an_t7 od_t8 an_t8 od_t9 an_t9 od_t10 an_t10 od_t11 an_t11 od_t12 an_t12 od_t13 an_t13 od_t14 an_t14 od_t15 an_t15 od_t16 an_t16 od_t17 an_t17 od_t18 an_t18 od_t19 an_t19 od_t20 an_t20 od_t21 an_t21 od_t22 an_t22 od_t23 an_t23 od_m0 an_m0 od_m1 an_m1 od_m2 an_m2 od_m3 an_m3 od_m4 an_m4 od_m5 an_m5 od_m6 an_m6 od_m7 an_m7 od_m8 an_m8 od_m9 an_m9 od_m10 an_m10 od_m11 an_m11 : Option Addr} {sl_t0 sl_t1 sl_t2 sl_t3 sl_t4 sl_t5 sl_t6 sl_t7 sl_t8 sl_t9 sl_t10 sl_t11 sl_t12 sl_t13 sl_t14 sl_t15 sl_t16 sl_t17 sl_t18 sl_t19 sl_t20 sl_t21 sl_t22 sl_t23 sl_m0 sl_m1 sl_m2 sl_m3 sl_m4 sl_m5 sl_m6 sl_m7 sl_m8 sl_m9 sl_m10 sl_m11 : Array (Option Value)} {oc_t0 kV_t0 dc_t0 pm_t0 cd_t0 ct_t0 oc_t1 kV_t1 dc_t1 pm_t1 cd_t1 ct_t1 oc_t2 kV_t2 dc_t2 pm_t2 cd_t2 ct_t2 oc_t3 kV_t3 dc_t3 pm_t3 cd_t3 ct_t3 oc_t4 kV_t4 dc_t4 pm_t4 cd_t4 ct_t4 oc_t5 kV_t5 dc_t5 pm_t5 cd_t5 ct_t5 oc_t6 kV_t6 dc_t6 pm_t6 cd_t6 ct_t6 oc_t7 kV_t7 dc_t7 pm_t7 cd_t7 ct_t7 oc_t8 kV_t8 dc_t8 pm_t8 cd_t8 ct_t8 oc_t9 kV_t9 dc_t9 pm_t9 cd_t9 ct_t9 oc_t10 kV_t10 dc_t10 pm_t10 cd_t10 ct_t10 oc_t11 kV_t11 dc_t11 pm_t11 cd_t11 ct_t11 oc_t12 kV_t12 dc_t12 pm_t12 cd_t12 ct_t12 oc_t13 kV_t13 dc_t13 pm_t13 cd_t13 ct_t13 oc_t14 kV_t14 dc_t14 pm_t14 cd_t14 ct_t14 oc_t15 kV_t15 dc_t15 pm_t15 cd_t15 ct_t15 oc_t16 kV_t16 dc_t16 pm_t16 cd_t16 ct_t16 oc_t17 kV_t17 dc_t17 pm_t17 cd_t17 ct_t17 oc_t18 kV_t18 dc_t18 pm_t18 cd_t18 ct_t18 oc_t19 kV_t19 dc_t19 pm_t19 cd_t19 ct_t19 oc_t20 kV_t20 dc_t20 pm_t20 cd_t20 ct_t20 oc_t21 kV_t21 dc_t21 pm_t21 cd_t21 ct_t21 oc_t22 kV_t22 dc_t22 pm_t22 cd_t22 ct_t22 oc_t23 kV_t23 dc_t23 pm_t23 cd_t23 ct_t23 oc_m0 kV_m0 dc_m0 pm_m0 cd_m0 ct_m0 oc_m1 kV_m1 dc_m1 pm_m1 cd_m1 ct_m1 oc_m2 kV_m2 dc_m2 pm_m2 cd_m2 ct_m2 oc_m3 kV_m3 dc_m3 pm_m3 cd_m3 ct_m3 oc_m4 kV_m4 dc_m4 pm_m4 cd_m4 ct_m4 oc_m5 kV_m5 dc_m5 pm_m5 cd_m5 ct_m5 oc_m6 kV_m6 dc_m6 pm_m6 cd_m6 ct_m6 oc_m7 kV_m7 dc_m7 pm_m7 cd_m7 ct_m7 oc_m8 kV_m8 dc_m8 pm_m8 cd_m8 ct_m8 oc_m9 kV_m9 dc_m9 pm_m9 cd_m9 ct_m9 oc_m10 kV_m10 dc_m10 pm_m10 cd_m10 ct_m10 oc_m11 kV_m11 dc_m11 pm_m11 cd_m11 ct_m11 : Value} {k_0 k_1 k_2 k_3 k_4 k_5 k_6 k_7 k_8 k_9 k_10 k_11 k_12 k_13 k_14 k_15 k_16 k_17 k_18 k_19 k_20 k_21 : Tok}
    (aC : PySem.W.nsIn K mainGlobals "Game" = some (some (.ref C)))
    (a_t0 : PySem.W.nsIn K mainGlobals "flags_of_none" = some (some (.ref f_t0))) (l_t0 : K.lookup f_t0 = some ⟨oc_t0, od_t0, .func (PySem.W.fnOf "flags_of_none" "flags_of_none" (defArgs sNone) (defBody sNone) (defScope sNone) .none kV_t0 dc_t0 pm_t0 an_t0 cd_t0 ct_t0), sl_t0⟩) (c_t0 : PySem.W.codeIn K cd_t0 "flags_of_none" = true) (k_t0 : PySem.W.keepIn K (.ref f_t0) = true)
    (a_t1 : PySem.W.nsIn K mainGlobals "with_named" = some (some (.ref f_t1))) (l_t1 : K.lookup f_t1 = some ⟨oc_t1, od_t1, .func (PySem.W.fnOf "with_named" "with_named" (defArgs sWith) (defBody sWith) (defScope sWith) .none kV_t1 dc_t1 pm_t1 an_t1 cd_t1 ct_t1), sl_t1⟩) (c_t1 : PySem.W.codeIn K cd_t1 "with_named" = true) (k_t1 : PySem.W.keepIn K (.ref f_t1) = true)
    (a_t2 : PySem.W.nsIn K mainGlobals "flags_of" = some (some (.ref f_t2))) (l_t2 : K.lookup f_t2 = some ⟨oc_t2, od_t2, .func (PySem.W.fnOf "flags_of" "flags_of" (defArgs sFlags) (defBody sFlags) (defScope sFlags) .none kV_t2 dc_t2 pm_t2 an_t2 cd_t2 ct_t2), sl_t2⟩) (c_t2 : PySem.W.codeIn K cd_t2 "flags_of" = true) (k_t2 : PySem.W.keepIn K (.ref f_t2) = true)
    (a_t3 : PySem.W.nsIn K mainGlobals "left_in" = some (some (.ref f_t3))) (l_t3 : K.lookup f_t3 = some ⟨oc_t3, od_t3, .func (PySem.W.fnOf "left_in" "left_in" (defArgs sLeft) (defBody sLeft) (defScope sLeft) .none kV_t3 dc_t3 pm_t3 an_t3 cd_t3 ct_t3), sl_t3⟩) (c_t3 : PySem.W.codeIn K cd_t3 "left_in" = true) (k_t3 : PySem.W.keepIn K (.ref f_t3) = true)
    (a_t4 : PySem.W.nsIn K mainGlobals "common_divisor" = some (some (.ref f_t4))) (l_t4 : K.lookup f_t4 = some ⟨oc_t4, od_t4, .func (PySem.W.fnOf "common_divisor" "common_divisor" (defArgs sCd) (defBody sCd) (defScope sCd) .none kV_t4 dc_t4 pm_t4 an_t4 cd_t4 ct_t4), sl_t4⟩) (c_t4 : PySem.W.codeIn K cd_t4 "common_divisor" = true) (k_t4 : PySem.W.keepIn K (.ref f_t4) = true)
    (a_t5 : PySem.W.nsIn K mainGlobals "divisor_of" = some (some (.ref f_t5))) (l_t5 : K.lookup f_t5 = some ⟨oc_t5, od_t5, .func (PySem.W.fnOf "divisor_of" "divisor_of" (defArgs sDiv) (defBody sDiv) (defScope sDiv) .none kV_t5 dc_t5 pm_t5 an_t5 cd_t5 ct_t5), sl_t5⟩) (c_t5 : PySem.W.codeIn K cd_t5 "divisor_of" = true) (k_t5 : PySem.W.keepIn K (.ref f_t5) = true)
    (a_t6 : PySem.W.nsIn K mainGlobals "all_left" = some (some (.ref f_t6))) (l_t6 : K.lookup f_t6 = some ⟨oc_t6, od_t6, .func (PySem.W.fnOf "all_left" "all_left" (defArgs sAll) (defBody sAll) (defScope sAll) .none kV_t6 dc_t6 pm_t6 an_t6 cd_t6 ct_t6), sl_t6⟩) (c_t6 : PySem.W.codeIn K cd_t6 "all_left" = true) (k_t6 : PySem.W.keepIn K (.ref f_t6) = true)
    (a_t7 : PySem.W.nsIn K mainGlobals "is_made_with" = some (some (.ref f_t7))) (l_t7 : K.lookup f_t7 = some ⟨oc_t7, od_t7, .func (PySem.W.fnOf "is_made_with" "is_made_with" (defArgs sMade) (defBody sMade) (defScope sMade) .none kV_t7 dc_t7 pm_t7 an_t7 cd_t7 ct_t7), sl_t7⟩) (c_t7 : PySem.W.codeIn K cd_t7 "is_made_with" = true) (k_t7 : PySem.W.keepIn K (.ref f_t7) = true)
    (a_t8 : PySem.W.nsIn K mainGlobals "ender_told" = some (some (.ref f_t8))) (l_t8 : K.lookup f_t8 = some ⟨oc_t8, od_t8, .func (PySem.W.fnOf "ender_told" "ender_told" (defArgs sEnder) (defBody sEnder) (defScope sEnder) .none kV_t8 dc_t8 pm_t8 an_t8 cd_t8 ct_t8), sl_t8⟩) (c_t8 : PySem.W.codeIn K cd_t8 "ender_told" = true) (k_t8 : PySem.W.keepIn K (.ref f_t8) = true)
    (a_t9 : PySem.W.nsIn K mainGlobals "fewest_of_none" = some (some (.ref f_t9))) (l_t9 : K.lookup f_t9 = some ⟨oc_t9, od_t9, .func (PySem.W.fnOf "fewest_of_none" "fewest_of_none" (defArgs sFN) (defBody sFN) (defScope sFN) .none kV_t9 dc_t9 pm_t9 an_t9 cd_t9 ct_t9), sl_t9⟩) (c_t9 : PySem.W.codeIn K cd_t9 "fewest_of_none" = true) (k_t9 : PySem.W.keepIn K (.ref f_t9) = true)
    (a_t10 : PySem.W.nsIn K mainGlobals "fewest_with" = some (some (.ref f_t10))) (l_t10 : K.lookup f_t10 = some ⟨oc_t10, od_t10, .func (PySem.W.fnOf "fewest_with" "fewest_with" (defArgs sFW) (defBody sFW) (defScope sFW) .none kV_t10 dc_t10 pm_t10 an_t10 cd_t10 ct_t10), sl_t10⟩) (c_t10 : PySem.W.codeIn K cd_t10 "fewest_with" = true) (k_t10 : PySem.W.keepIn K (.ref f_t10) = true)
    (a_t11 : PySem.W.nsIn K mainGlobals "fewest_rows" = some (some (.ref f_t11))) (l_t11 : K.lookup f_t11 = some ⟨oc_t11, od_t11, .func (PySem.W.fnOf "fewest_rows" "fewest_rows" (defArgs sFR) (defBody sFR) (defScope sFR) .none kV_t11 dc_t11 pm_t11 an_t11 cd_t11 ct_t11), sl_t11⟩) (c_t11 : PySem.W.codeIn K cd_t11 "fewest_rows" = true) (k_t11 : PySem.W.keepIn K (.ref f_t11) = true)
    (a_t12 : PySem.W.nsIn K mainGlobals "least_times" = some (some (.ref f_t12))) (l_t12 : K.lookup f_t12 = some ⟨oc_t12, od_t12, .func (PySem.W.fnOf "least_times" "least_times" (defArgs sLT) (defBody sLT) (defScope sLT) .none kV_t12 dc_t12 pm_t12 an_t12 cd_t12 ct_t12), sl_t12⟩) (c_t12 : PySem.W.codeIn K cd_t12 "least_times" = true) (k_t12 : PySem.W.keepIn K (.ref f_t12) = true)
    (a_t13 : PySem.W.nsIn K mainGlobals "first_row" = some (some (.ref f_t13))) (l_t13 : K.lookup f_t13 = some ⟨oc_t13, od_t13, .func (PySem.W.fnOf "first_row" "first_row" (defArgs sFirst) (defBody sFirst) (defScope sFirst) .none kV_t13 dc_t13 pm_t13 an_t13 cd_t13 ct_t13), sl_t13⟩) (c_t13 : PySem.W.codeIn K cd_t13 "first_row" = true) (k_t13 : PySem.W.keepIn K (.ref f_t13) = true)
    (a_t14 : PySem.W.nsIn K mainGlobals "games_by_one" = some (some (.ref f_t14))) (l_t14 : K.lookup f_t14 = some ⟨oc_t14, od_t14, .func (PySem.W.fnOf "games_by_one" "games_by_one" (defArgs sBy) (defBody sBy) (defScope sBy) .none kV_t14 dc_t14 pm_t14 an_t14 cd_t14 ct_t14), sl_t14⟩) (c_t14 : PySem.W.codeIn K cd_t14 "games_by_one" = true) (k_t14 : PySem.W.keepIn K (.ref f_t14) = true)
    (a_t15 : PySem.W.nsIn K mainGlobals "games_from" = some (some (.ref f_t15))) (l_t15 : K.lookup f_t15 = some ⟨oc_t15, od_t15, .func (PySem.W.fnOf "games_from" "games_from" (defArgs sFrom) (defBody sFrom) (defScope sFrom) .none kV_t15 dc_t15 pm_t15 an_t15 cd_t15 ct_t15), sl_t15⟩) (c_t15 : PySem.W.codeIn K cd_t15 "games_from" = true) (k_t15 : PySem.W.keepIn K (.ref f_t15) = true)
    (a_t16 : PySem.W.nsIn K mainGlobals "least_missing" = some (some (.ref f_t16))) (l_t16 : K.lookup f_t16 = some ⟨oc_t16, od_t16, .func (PySem.W.fnOf "least_missing" "least_missing" (defArgs sLM) (defBody sLM) (defScope sLM) .none kV_t16 dc_t16 pm_t16 an_t16 cd_t16 ct_t16), sl_t16⟩) (c_t16 : PySem.W.codeIn K cd_t16 "least_missing" = true) (k_t16 : PySem.W.keepIn K (.ref f_t16) = true)
    (a_t17 : PySem.W.nsIn K mainGlobals "worths_from" = some (some (.ref f_t17))) (l_t17 : K.lookup f_t17 = some ⟨oc_t17, od_t17, .func (PySem.W.fnOf "worths_from" "worths_from" (defArgs sWorths) (defBody sWorths) (defScope sWorths) .none kV_t17 dc_t17 pm_t17 an_t17 cd_t17 ct_t17), sl_t17⟩) (c_t17 : PySem.W.codeIn K cd_t17 "worths_from" = true) (k_t17 : PySem.W.keepIn K (.ref f_t17) = true)
    (a_t18 : PySem.W.nsIn K mainGlobals "worth_of" = some (some (.ref f_t18))) (l_t18 : K.lookup f_t18 = some ⟨oc_t18, od_t18, .func (PySem.W.fnOf "worth_of" "worth_of" (defArgs sWorth) (defBody sWorth) (defScope sWorth) .none kV_t18 dc_t18 pm_t18 an_t18 cd_t18 ct_t18), sl_t18⟩) (c_t18 : PySem.W.codeIn K cd_t18 "worth_of" = true) (k_t18 : PySem.W.keepIn K (.ref f_t18) = true)
    (a_t19 : PySem.W.nsIn K mainGlobals "winning_in" = some (some (.ref f_t19))) (l_t19 : K.lookup f_t19 = some ⟨oc_t19, od_t19, .func (PySem.W.fnOf "winning_in" "winning_in" (defArgs sWin) (defBody sWin) (defScope sWin) .none kV_t19 dc_t19 pm_t19 an_t19 cd_t19 ct_t19), sl_t19⟩) (c_t19 : PySem.W.codeIn K cd_t19 "winning_in" = true) (k_t19 : PySem.W.keepIn K (.ref f_t19) = true)
    (a_t20 : PySem.W.nsIn K mainGlobals "has_number" = some (some (.ref f_t20))) (l_t20 : K.lookup f_t20 = some ⟨oc_t20, od_t20, .func (PySem.W.fnOf "has_number" "has_number" (defArgs sHas) (defBody sHas) (defScope sHas) .none kV_t20 dc_t20 pm_t20 an_t20 cd_t20 ct_t20), sl_t20⟩) (c_t20 : PySem.W.codeIn K cd_t20 "has_number" = true) (k_t20 : PySem.W.keepIn K (.ref f_t20) = true)
    (a_t21 : PySem.W.nsIn K mainGlobals "answer_with" = some (some (.ref f_t21))) (l_t21 : K.lookup f_t21 = some ⟨oc_t21, od_t21, .func (PySem.W.fnOf "answer_with" "answer_with" (defArgs sAW) (defBody sAW) (defScope sAW) .none kV_t21 dc_t21 pm_t21 an_t21 cd_t21 ct_t21), sl_t21⟩) (c_t21 : PySem.W.codeIn K cd_t21 "answer_with" = true) (k_t21 : PySem.W.keepIn K (.ref f_t21) = true)
    (a_t22 : PySem.W.nsIn K mainGlobals "answer_alone" = some (some (.ref f_t22))) (l_t22 : K.lookup f_t22 = some ⟨oc_t22, od_t22, .func (PySem.W.fnOf "answer_alone" "answer_alone" (defArgs sAA) (defBody sAA) (defScope sAA) .none kV_t22 dc_t22 pm_t22 an_t22 cd_t22 ct_t22), sl_t22⟩) (c_t22 : PySem.W.codeIn K cd_t22 "answer_alone" = true) (k_t22 : PySem.W.keepIn K (.ref f_t22) = true)
    (a_t23 : PySem.W.nsIn K mainGlobals "answers" = some (some (.ref f_t23))) (l_t23 : K.lookup f_t23 = some ⟨oc_t23, od_t23, .func (PySem.W.fnOf "answers" "answers" (defArgs sAns) (defBody sAns) (defScope sAns) .none kV_t23 dc_t23 pm_t23 an_t23 cd_t23 ct_t23), sl_t23⟩) (c_t23 : PySem.W.codeIn K cd_t23 "answers" = true) (k_t23 : PySem.W.keepIn K (.ref f_t23) = true)
    (a_m0 : PySem.W.findIn K (.ref C) "__init__" = some (some (.ref f_m0))) (i_m0 : PySem.W.isFn K (.ref f_m0) = true) (l_m0 : K.lookup f_m0 = some ⟨oc_m0, od_m0, .func (PySem.W.fnOf "__init__" "Game.__init__" (defArgs (sG 0)) (defBody (sG 0)) (defScope (sG 0)) .none kV_m0 dc_m0 pm_m0 an_m0 cd_m0 ct_m0), sl_m0⟩) (c_m0 : PySem.W.codeIn K cd_m0 "Game.__init__" = true) (k_m0 : PySem.W.keepIn K (.ref f_m0) = true)
    (a_m1 : PySem.W.findIn K (.ref C) "begins" = some (some (.ref f_m1))) (i_m1 : PySem.W.isFn K (.ref f_m1) = true) (l_m1 : K.lookup f_m1 = some ⟨oc_m1, od_m1, .func (PySem.W.fnOf "begins" "Game.begins" (defArgs (sG 1)) (defBody (sG 1)) (defScope (sG 1)) .none kV_m1 dc_m1 pm_m1 an_m1 cd_m1 ct_m1), sl_m1⟩) (c_m1 : PySem.W.codeIn K cd_m1 "Game.begins" = true) (k_m1 : PySem.W.keepIn K (.ref f_m1) = true)
    (a_m2 : PySem.W.findIn K (.ref C) "told" = some (some (.ref f_m2))) (i_m2 : PySem.W.isFn K (.ref f_m2) = true) (l_m2 : K.lookup f_m2 = some ⟨oc_m2, od_m2, .func (PySem.W.fnOf "told" "Game.told" (defArgs (sG 2)) (defBody (sG 2)) (defScope (sG 2)) .none kV_m2 dc_m2 pm_m2 an_m2 cd_m2 ct_m2), sl_m2⟩) (c_m2 : PySem.W.codeIn K cd_m2 "Game.told" = true) (k_m2 : PySem.W.keepIn K (.ref f_m2) = true)
    (a_m3 : PySem.W.findIn K (.ref C) "names" = some (some (.ref f_m3))) (i_m3 : PySem.W.isFn K (.ref f_m3) = true) (l_m3 : K.lookup f_m3 = some ⟨oc_m3, od_m3, .func (PySem.W.fnOf "names" "Game.names" (defArgs (sG 3)) (defBody (sG 3)) (defScope (sG 3)) .none kV_m3 dc_m3 pm_m3 an_m3 cd_m3 ct_m3), sl_m3⟩) (c_m3 : PySem.W.codeIn K cd_m3 "Game.names" = true) (k_m3 : PySem.W.keepIn K (.ref f_m3) = true)
    (a_m4 : PySem.W.findIn K (.ref C) "undo" = some (some (.ref f_m4))) (i_m4 : PySem.W.isFn K (.ref f_m4) = true) (l_m4 : K.lookup f_m4 = some ⟨oc_m4, od_m4, .func (PySem.W.fnOf "undo" "Game.undo" (defArgs (sG 4)) (defBody (sG 4)) (defScope (sG 4)) .none kV_m4 dc_m4 pm_m4 an_m4 cd_m4 ct_m4), sl_m4⟩) (c_m4 : PySem.W.codeIn K cd_m4 "Game.undo" = true) (k_m4 : PySem.W.keepIn K (.ref f_m4) = true)
    (a_m5 : PySem.W.findIn K (.ref C) "gaps" = some (some (.ref f_m5))) (i_m5 : PySem.W.isFn K (.ref f_m5) = true) (l_m5 : K.lookup f_m5 = some ⟨oc_m5, od_m5, .func (PySem.W.fnOf "gaps" "Game.gaps" (defArgs (sG 5)) (defBody (sG 5)) (defScope (sG 5)) .none kV_m5 dc_m5 pm_m5 an_m5 cd_m5 ct_m5), sl_m5⟩) (c_m5 : PySem.W.codeIn K cd_m5 "Game.gaps" = true) (k_m5 : PySem.W.keepIn K (.ref f_m5) = true)
    (a_m6 : PySem.W.findIn K (.ref C) "makes" = some (some (.ref f_m6))) (i_m6 : PySem.W.isFn K (.ref f_m6) = true) (l_m6 : K.lookup f_m6 = some ⟨oc_m6, od_m6, .func (PySem.W.fnOf "makes" "Game.makes" (defArgs (sG 6)) (defBody (sG 6)) (defScope (sG 6)) .none kV_m6 dc_m6 pm_m6 an_m6 cd_m6 ct_m6), sl_m6⟩) (c_m6 : PySem.W.codeIn K cd_m6 "Game.makes" = true) (k_m6 : PySem.W.keepIn K (.ref f_m6) = true)
    (a_m7 : PySem.W.findIn K (.ref C) "refused" = some (some (.ref f_m7))) (i_m7 : PySem.W.isFn K (.ref f_m7) = true) (l_m7 : K.lookup f_m7 = some ⟨oc_m7, od_m7, .func (PySem.W.fnOf "refused" "Game.refused" (defArgs (sG 7)) (defBody (sG 7)) (defScope (sG 7)) .none kV_m7 dc_m7 pm_m7 an_m7 cd_m7 ct_m7), sl_m7⟩) (c_m7 : PySem.W.codeIn K cd_m7 "Game.refused" = true) (k_m7 : PySem.W.keepIn K (.ref f_m7) = true)
    (a_m8 : PySem.W.findIn K (.ref C) "flags" = some (some (.ref f_m8))) (i_m8 : PySem.W.isFn K (.ref f_m8) = true) (l_m8 : K.lookup f_m8 = some ⟨oc_m8, od_m8, .func (PySem.W.fnOf "flags" "Game.flags" (defArgs (sG 8)) (defBody (sG 8)) (defScope (sG 8)) .none kV_m8 dc_m8 pm_m8 an_m8 cd_m8 ct_m8), sl_m8⟩) (c_m8 : PySem.W.codeIn K cd_m8 "Game.flags" = true) (k_m8 : PySem.W.keepIn K (.ref f_m8) = true)
    (a_m9 : PySem.W.findIn K (.ref C) "wins" = some (some (.ref f_m9))) (i_m9 : PySem.W.isFn K (.ref f_m9) = true) (l_m9 : K.lookup f_m9 = some ⟨oc_m9, od_m9, .func (PySem.W.fnOf "wins" "Game.wins" (defArgs (sG 9)) (defBody (sG 9)) (defScope (sG 9)) .none kV_m9 dc_m9 pm_m9 an_m9 cd_m9 ct_m9), sl_m9⟩) (c_m9 : PySem.W.codeIn K cd_m9 "Game.wins" = true) (k_m9 : PySem.W.keepIn K (.ref f_m9) = true)
    (a_m10 : PySem.W.findIn K (.ref C) "worth" = some (some (.ref f_m10))) (i_m10 : PySem.W.isFn K (.ref f_m10) = true) (l_m10 : K.lookup f_m10 = some ⟨oc_m10, od_m10, .func (PySem.W.fnOf "worth" "Game.worth" (defArgs (sG 10)) (defBody (sG 10)) (defScope (sG 10)) .none kV_m10 dc_m10 pm_m10 an_m10 cd_m10 ct_m10), sl_m10⟩) (c_m10 : PySem.W.codeIn K cd_m10 "Game.worth" = true) (k_m10 : PySem.W.keepIn K (.ref f_m10) = true)
    (a_m11 : PySem.W.findIn K (.ref C) "ender" = some (some (.ref f_m11))) (i_m11 : PySem.W.isFn K (.ref f_m11) = true) (l_m11 : K.lookup f_m11 = some ⟨oc_m11, od_m11, .func (PySem.W.fnOf "ender" "Game.ender" (defArgs (sG 11)) (defBody (sG 11)) (defScope (sG 11)) .none kV_m11 dc_m11 pm_m11 an_m11 cd_m11 ct_m11), sl_m11⟩) (c_m11 : PySem.W.codeIn K cd_m11 "Game.ender" = true) (k_m11 : PySem.W.keepIn K (.ref f_m11) = true)
    (pg : PySem.W.plainGet K C Str.empty = true) (hd : PySem.W.hasDictIn K C = true) (po : PySem.W.plainOver K C = true) (sa : PySem.W.findIn K (.ref C) "__setattr__" = some (some (.builtin "object.__setattr__"))) (mk : PySem.W.makesIn K C = true) (kc : PySem.W.keepIn K (.ref C) = true)
    (nN : PySem.W.findIn K (.ref C) "named" = some none)
    (z_0 : PySem.W.nsIn K mainGlobals "FARTHEST" = some (some (.int (1600) k_0)))
    (z_1 : PySem.W.nsIn K mainGlobals "LEAST_NAMED" = some (some (.int (2) k_1)))
    (z_2 : PySem.W.nsIn K mainGlobals "NOT_MADE" = some (some (.int (-1) k_2)))
    (z_3 : PySem.W.nsIn K mainGlobals "MOST_NUMBER" = some (some (.int (40) k_3)))
    (z_4 : PySem.W.nsIn K mainGlobals "MOST_NAMED" = some (some (.int (12) k_4)))
    (z_5 : PySem.W.nsIn K mainGlobals "MOST_TOTAL" = some (some (.int (300) k_5)))
    (z_6 : PySem.W.nsIn K mainGlobals "MOST_LEFT" = some (some (.int (16) k_6)))
    (z_7 : PySem.W.nsIn K mainGlobals "OUT_OF_RANGE" = some (some (.int (-1) k_7)))
    (z_8 : PySem.W.nsIn K mainGlobals "NOT_A_SUM" = some (some (.int (-3) k_8)))
    (z_9 : PySem.W.nsIn K mainGlobals "MADE_ALREADY" = some (some (.int (-4) k_9)))
    (z_10 : PySem.W.nsIn K mainGlobals "TOO_MANY_NAMED" = some (some (.int (-5) k_10)))
    (z_11 : PySem.W.nsIn K mainGlobals "HAS_DIVISOR" = some (some (.int (-6) k_11)))
    (z_12 : PySem.W.nsIn K mainGlobals "TOO_MANY_LEFT" = some (some (.int (-7) k_12)))
    (z_13 : PySem.W.nsIn K mainGlobals "NONE_LEFT" = some (some (.int (-8) k_13)))
    (z_14 : PySem.W.nsIn K mainGlobals "NONE_NAMED" = some (some (.int (-9) k_14)))
    (z_15 : PySem.W.nsIn K mainGlobals "BEGINS" = some (some (.int (0) k_15)))
    (z_16 : PySem.W.nsIn K mainGlobals "NAMES" = some (some (.int (1) k_16)))
    (z_17 : PySem.W.nsIn K mainGlobals "GAPS" = some (some (.int (2) k_17)))
    (z_18 : PySem.W.nsIn K mainGlobals "MAKES" = some (some (.int (3) k_18)))
    (z_19 : PySem.W.nsIn K mainGlobals "WINS" = some (some (.int (4) k_19)))
    (z_20 : PySem.W.nsIn K mainGlobals "WORTH" = some (some (.int (5) k_20)))
    (z_21 : PySem.W.nsIn K mainGlobals "ENDER" = some (some (.int (6) k_21)))
    (b_list : PySem.W.nsIn K mainGlobals "list" = some none) (b_range : PySem.W.nsIn K mainGlobals "range" = some none) (b_len : PySem.W.nsIn K mainGlobals "len" = some none) (b_tuple : PySem.W.nsIn K mainGlobals "tuple" = some none) (b_reversed : PySem.W.nsIn K mainGlobals "reversed" = some none) (b_enumerate : PySem.W.nsIn K mainGlobals "enumerate" = some none) (b_sorted : PySem.W.nsIn K mainGlobals "sorted" = some none) (b_sum : PySem.W.nsIn K mainGlobals "sum" = some none) (b_max : PySem.W.nsIn K mainGlobals "max" = some none) (b_int : PySem.W.nsIn K mainGlobals "int" = some none) :
    ∃ fd : FuncData, (∀ (s : Shared) (us : List Value), us.length = (["calls"] : List Str).length → BindsTo s fd ⟨us, []⟩ ((["calls"] : List Str).zip us)) ∧ ∀ base : Heap, K.In base → base.Ns mainGlobals mg → FnOk P w K mg base CX0 8 fa fd ["calls"] (spAns K) := by
  have e := hfa.symm.trans (PySem.W.mg_of X G a_t23)
  cases e
  have T : GTxt K C := ⟨⟨pg, hd, po, sa⟩, nN⟩
  have TW : TxtW mg := ⟨PySem.W.mg_none_of X G b_list, PySem.W.mg_none_of X G b_range, PySem.W.mg_none_of X G b_len, PySem.W.mg_none_of X G b_tuple⟩
  have TL : TxtL mg := ⟨PySem.W.mg_none_of X G b_range, PySem.W.mg_none_of X G b_len, ⟨_, PySem.W.mg_of X G z_1⟩⟩
  have TF : TxtF mg := ⟨PySem.W.mg_none_of X G b_list, PySem.W.mg_none_of X G b_range, PySem.W.mg_none_of X G b_len, PySem.W.mg_none_of X G b_reversed, PySem.W.mg_none_of X G b_enumerate, ⟨_, PySem.W.mg_of X G z_2⟩⟩
  have TB : TxtB mg := ⟨PySem.W.mg_none_of X G b_range, PySem.W.mg_none_of X G b_len⟩
  have TS : TxtS mg := ⟨PySem.W.mg_none_of X G b_sorted, PySem.W.mg_none_of X G b_sum⟩
  have TC : TxtC mg := ⟨PySem.W.mg_none_of X G b_len, PySem.W.mg_none_of X G b_sum, PySem.W.mg_none_of X G b_max, PySem.W.mg_none_of X G b_int, ⟨_, PySem.W.mg_of X G z_1⟩, ⟨_, PySem.W.mg_of X G z_3⟩, ⟨_, PySem.W.mg_of X G z_4⟩, ⟨_, PySem.W.mg_of X G z_5⟩, ⟨_, PySem.W.mg_of X G z_6⟩, ⟨_, PySem.W.mg_of X G z_7⟩, ⟨_, PySem.W.mg_of X G z_8⟩, ⟨_, PySem.W.mg_of X G z_9⟩, ⟨_, PySem.W.mg_of X G z_10⟩, ⟨_, PySem.W.mg_of X G z_11⟩, ⟨_, PySem.W.mg_of X G z_12⟩, ⟨_, PySem.W.mg_of X G z_13⟩, ⟨_, PySem.W.mg_of X G z_14⟩⟩
  have TN : TxtN mg := ⟨⟨_, PySem.W.mg_of X G z_15⟩, ⟨_, PySem.W.mg_of X G z_16⟩, ⟨_, PySem.W.mg_of X G z_17⟩, ⟨_, PySem.W.mg_of X G z_18⟩, ⟨_, PySem.W.mg_of X G z_19⟩, ⟨_, PySem.W.mg_of X G z_20⟩, ⟨_, PySem.W.mg_of X G z_21⟩⟩
  have F_t0 := fun_mk (st := sNone) l_t0 c_t0 k_t0
  have B_t0 := F_t0.binds (ps := ["most"]) fun _ _ _ _ _ _ us hl => match us, hl with | [_], _ => rfl
  have F_t1 := fun_mk (st := sWith) l_t1 c_t1 k_t1
  have B_t1 := F_t1.binds (ps := ["made", "number"]) fun _ _ _ _ _ _ us hl => match us, hl with | [_, _], _ => rfl
  have F_t2 := fun_mk (st := sFlags) l_t2 c_t2 k_t2
  have B_t2 := F_t2.binds (ps := ["named", "most"]) fun _ _ _ _ _ _ us hl => match us, hl with | [_, _], _ => rfl
  have F_t3 := fun_mk (st := sLeft) l_t3 c_t3 k_t3
  have B_t3 := F_t3.binds (ps := ["made"]) fun _ _ _ _ _ _ us hl => match us, hl with | [_], _ => rfl
  have F_t4 := fun_mk (st := sCd) l_t4 c_t4 k_t4
  have B_t4 := F_t4.binds (ps := ["one", "other"]) fun _ _ _ _ _ _ us hl => match us, hl with | [_, _], _ => rfl
  have F_t5 := fun_mk (st := sDiv) l_t5 c_t5 k_t5
  have B_t5 := F_t5.binds (ps := ["named"]) fun _ _ _ _ _ _ us hl => match us, hl with | [_], _ => rfl
  have F_t6 := fun_mk (st := sAll) l_t6 c_t6 k_t6
  have B_t6 := F_t6.binds (ps := ["named"]) fun _ _ _ _ _ _ us hl => match us, hl with | [_], _ => rfl
  have F_t7 := fun_mk (st := sMade) l_t7 c_t7 k_t7
  have B_t7 := F_t7.binds (ps := ["made", "number", "greatest"]) fun _ _ _ _ _ _ us hl => match us, hl with | [_, _, _], _ => rfl
  have F_t8 := fun_mk (st := sEnder) l_t8 c_t8 k_t8
  have B_t8 := F_t8.binds (ps := ["made"]) fun _ _ _ _ _ _ us hl => match us, hl with | [_], _ => rfl
  have F_t9 := fun_mk (st := sFN) l_t9 c_t9 k_t9
  have B_t9 := F_t9.binds (ps := ["most"]) fun _ _ _ _ _ _ us hl => match us, hl with | [_], _ => rfl
  have F_t10 := fun_mk (st := sFW) l_t10 c_t10 k_t10
  have B_t10 := F_t10.binds (ps := ["behind", "number"]) fun _ _ _ _ _ _ us hl => match us, hl with | [_, _], _ => rfl
  have F_t11 := fun_mk (st := sFR) l_t11 c_t11 k_t11
  have B_t11 := F_t11.binds (ps := ["named", "most"]) fun _ _ _ _ _ _ us hl => match us, hl with | [_, _], _ => rfl
  have F_t12 := fun_mk (st := sLT) l_t12 c_t12 k_t12
  have B_t12 := F_t12.binds (ps := ["own", "behind", "number", "rest"]) fun _ _ _ _ _ _ us hl => match us, hl with | [_, _, _, _], _ => rfl
  have F_t13 := fun_mk (st := sFirst) l_t13 c_t13 k_t13
  have B_t13 := F_t13.binds (ps := ["named", "total"]) fun _ _ _ _ _ _ us hl => match us, hl with | [_, _], _ => rfl
  have F_t14 := fun_mk (st := sBy) l_t14 c_t14 k_t14
  have B_t14 := F_t14.binds (ps := ["made"]) fun _ _ _ _ _ _ us hl => match us, hl with | [_], _ => rfl
  have F_t15 := fun_mk (st := sFrom) l_t15 c_t15 k_t15
  have B_t15 := F_t15.binds (ps := ["start"]) fun _ _ _ _ _ _ us hl => match us, hl with | [_], _ => rfl
  have F_t16 := fun_mk (st := sLM) l_t16 c_t16 k_t16
  have B_t16 := F_t16.binds (ps := ["some"]) fun _ _ _ _ _ _ us hl => match us, hl with | [_], _ => rfl
  have F_t17 := fun_mk (st := sWorths) l_t17 c_t17 k_t17
  have B_t17 := F_t17.binds (ps := ["start"]) fun _ _ _ _ _ _ us hl => match us, hl with | [_], _ => rfl
  have F_t18 := fun_mk (st := sWorth) l_t18 c_t18 k_t18
  have B_t18 := F_t18.binds (ps := ["start"]) fun _ _ _ _ _ _ us hl => match us, hl with | [_], _ => rfl
  have F_t19 := fun_mk (st := sWin) l_t19 c_t19 k_t19
  have B_t19 := F_t19.binds (ps := ["start"]) fun _ _ _ _ _ _ us hl => match us, hl with | [_], _ => rfl
  have F_t20 := fun_mk (st := sHas) l_t20 c_t20 k_t20
  have B_t20 := F_t20.binds (ps := ["call"]) fun _ _ _ _ _ _ us hl => match us, hl with | [_], _ => rfl
  have F_t21 := fun_mk (st := sAW) l_t21 c_t21 k_t21
  have B_t21 := F_t21.binds (ps := ["game", "call", "number"]) fun _ _ _ _ _ _ us hl => match us, hl with | [_, _, _], _ => rfl
  have F_t22 := fun_mk (st := sAA) l_t22 c_t22 k_t22
  have B_t22 := F_t22.binds (ps := ["game", "call"]) fun _ _ _ _ _ _ us hl => match us, hl with | [_, _], _ => rfl
  have F_t23 := fun_mk (st := sAns) l_t23 c_t23 k_t23
  have F_m0 := fun_mk (st := (sG 0)) l_m0 c_m0 k_m0
  have B_m0 := F_m0.binds (ps := ["self"]) fun _ _ _ _ _ _ us hl => match us, hl with | [_], _ => rfl
  have M_m0 : Meth K C "__init__" f_m0 := ⟨a_m0, i_m0, k_m0⟩
  have F_m1 := fun_mk (st := (sG 1)) l_m1 c_m1 k_m1
  have B_m1 := F_m1.binds (ps := ["self"]) fun _ _ _ _ _ _ us hl => match us, hl with | [_], _ => rfl
  have M_m1 : Meth K C "begins" f_m1 := ⟨a_m1, i_m1, k_m1⟩
  have F_m2 := fun_mk (st := (sG 2)) l_m2 c_m2 k_m2
  have B_m2 := F_m2.binds (ps := ["self"]) fun _ _ _ _ _ _ us hl => match us, hl with | [_], _ => rfl
  have M_m2 : Meth K C "told" f_m2 := ⟨a_m2, i_m2, k_m2⟩
  have F_m3 := fun_mk (st := (sG 3)) l_m3 c_m3 k_m3
  have B_m3 := F_m3.binds (ps := ["self", "number"]) fun _ _ _ _ _ _ us hl => match us, hl with | [_, _], _ => rfl
  have M_m3 : Meth K C "names" f_m3 := ⟨a_m3, i_m3, k_m3⟩
  have F_m4 := fun_mk (st := (sG 4)) l_m4 c_m4 k_m4
  have B_m4 := F_m4.binds (ps := ["self"]) fun _ _ _ _ _ _ us hl => match us, hl with | [_], _ => rfl
  have M_m4 : Meth K C "undo" f_m4 := ⟨a_m4, i_m4, k_m4⟩
  have F_m5 := fun_mk (st := (sG 5)) l_m5 c_m5 k_m5
  have B_m5 := F_m5.binds (ps := ["self"]) fun _ _ _ _ _ _ us hl => match us, hl with | [_], _ => rfl
  have M_m5 : Meth K C "gaps" f_m5 := ⟨a_m5, i_m5, k_m5⟩
  have F_m6 := fun_mk (st := (sG 6)) l_m6 c_m6 k_m6
  have B_m6 := F_m6.binds (ps := ["self", "total"]) fun _ _ _ _ _ _ us hl => match us, hl with | [_, _], _ => rfl
  have M_m6 : Meth K C "makes" f_m6 := ⟨a_m6, i_m6, k_m6⟩
  have F_m7 := fun_mk (st := (sG 7)) l_m7 c_m7 k_m7
  have B_m7 := F_m7.binds (ps := ["self"]) fun _ _ _ _ _ _ us hl => match us, hl with | [_], _ => rfl
  have M_m7 : Meth K C "refused" f_m7 := ⟨a_m7, i_m7, k_m7⟩
  have F_m8 := fun_mk (st := (sG 8)) l_m8 c_m8 k_m8
  have B_m8 := F_m8.binds (ps := ["self"]) fun _ _ _ _ _ _ us hl => match us, hl with | [_], _ => rfl
  have M_m8 : Meth K C "flags" f_m8 := ⟨a_m8, i_m8, k_m8⟩
  have F_m9 := fun_mk (st := (sG 9)) l_m9 c_m9 k_m9
  have B_m9 := F_m9.binds (ps := ["self"]) fun _ _ _ _ _ _ us hl => match us, hl with | [_], _ => rfl
  have M_m9 : Meth K C "wins" f_m9 := ⟨a_m9, i_m9, k_m9⟩
  have F_m10 := fun_mk (st := (sG 10)) l_m10 c_m10 k_m10
  have B_m10 := F_m10.binds (ps := ["self"]) fun _ _ _ _ _ _ us hl => match us, hl with | [_], _ => rfl
  have M_m10 : Meth K C "worth" f_m10 := ⟨a_m10, i_m10, k_m10⟩
  have F_m11 := fun_mk (st := (sG 11)) l_m11 c_m11 k_m11
  have B_m11 := F_m11.binds (ps := ["self"]) fun _ _ _ _ _ _ us hl => match us, hl with | [_], _ => rfl
  have M_m11 : Meth K C "ender" f_m11 := ⟨a_m11, i_m11, k_m11⟩
  refine ⟨PySem.W.fnOf "answers" "answers" (defArgs sAns) (defBody sAns) (defScope sAns) .none kV_t23 dc_t23 pm_t23 an_t23 cd_t23 ct_t23, fun s us hu => match us, hu with | [_], _ => .of_eq rfl, fun base _ _ => ?_⟩
  have g_t1 := ok_with (P := P) (w := w) (mg := mg) (base := base) F_t1 TW
  have g_t0 := ok_none (P := P) (w := w) (mg := mg) (base := base) F_t0 
  have g_t2 := ok_flags (P := P) (w := w) (mg := mg) (base := base) F_t2 g_t0 (PySem.W.mg_of X G a_t0) k_t0 B_t0 g_t1 (PySem.W.mg_of X G a_t1) k_t1 B_t1
  have g_t3 := ok_left (P := P) (w := w) (mg := mg) (base := base) F_t3 TL
  have g_t4 := ok_cd (P := P) (w := w) (mg := mg) (base := base) F_t4 
  have g_t5 := ok_div (P := P) (w := w) (mg := mg) (base := base) F_t5 g_t4 (PySem.W.mg_of X G a_t4) k_t4 B_t4
  have g_t6 := ok_all (P := P) (w := w) (mg := mg) (base := base) F_t6 g_t2 (PySem.W.mg_of X G a_t2) k_t2 B_t2 g_t3 (PySem.W.mg_of X G a_t3) k_t3 B_t3 ⟨_, PySem.W.mg_of X G z_0⟩
  have g_t7 := ok_made (P := P) (w := w) (mg := mg) (base := base) F_t7 g_t1 (PySem.W.mg_of X G a_t1) k_t1 B_t1
  have g_t8 := ok_ender (P := P) (w := w) (mg := mg) (base := base) F_t8 g_t3 (PySem.W.mg_of X G a_t3) k_t3 B_t3 g_t7 (PySem.W.mg_of X G a_t7) k_t7 B_t7
  have g_t9 := ok_FN (P := P) (w := w) (mg := mg) (base := base) F_t9 TF
  have g_t10 := ok_FW (P := P) (w := w) (mg := mg) (base := base) F_t10 TF
  have g_t11 := ok_FR (P := P) (w := w) (mg := mg) (base := base) F_t11 TF g_t9 (PySem.W.mg_of X G a_t9) k_t9 B_t9 g_t10 (PySem.W.mg_of X G a_t10) k_t10 B_t10
  have g_t12 := ok_LT (P := P) (w := w) (mg := mg) (base := base) F_t12 TF
  have g_t13 := ok_first (P := P) (w := w) (mg := mg) (base := base) F_t13 TF g_t11 (PySem.W.mg_of X G a_t11) k_t11 B_t11 g_t12 (PySem.W.mg_of X G a_t12) k_t12 B_t12
  have g_t14 := ok_by (P := P) (w := w) (mg := mg) (base := base) F_t14 g_t3 (PySem.W.mg_of X G a_t3) k_t3 B_t3 g_t1 (PySem.W.mg_of X G a_t1) k_t1 B_t1
  have g_t15 := ok_from (P := P) (w := w) (mg := mg) (base := base) F_t15 (PySem.W.mg_none_of X G b_len) g_t14 (PySem.W.mg_of X G a_t14) k_t14 B_t14
  have g_t16 := ok_LM (P := P) (w := w) (mg := mg) (base := base) F_t16 TB
  have g_t17 := ok_worths (P := P) (w := w) (mg := mg) (base := base) F_t17 TS g_t15 (PySem.W.mg_of X G a_t15) k_t15 B_t15 g_t16 (PySem.W.mg_of X G a_t16) k_t16 B_t16 g_t14 (PySem.W.mg_of X G a_t14) k_t14 B_t14
  have g_t18 := ok_worth (P := P) (w := w) (mg := mg) (base := base) F_t18 g_t17 (PySem.W.mg_of X G a_t17) k_t17 B_t17
  have g_t19 := ok_win (P := P) (w := w) (mg := mg) (base := base) F_t19 g_t17 (PySem.W.mg_of X G a_t17) k_t17 B_t17 g_t3 (PySem.W.mg_of X G a_t3) k_t3 B_t3 g_t1 (PySem.W.mg_of X G a_t1) k_t1 B_t1
  have g_m0 := ok_init (P := P) (w := w) (mg := mg) (base := base) F_m0 T
  have g_m1 := ok_begins (P := P) (w := w) (mg := mg) (base := base) F_m1 T
  have g_m2 := ok_told (P := P) (w := w) (mg := mg) (base := base) F_m2 T TC g_t5 (PySem.W.mg_of X G a_t5) k_t5 B_t5 g_t6 (PySem.W.mg_of X G a_t6) k_t6 B_t6
  have g_m3 := ok_names (P := P) (w := w) (mg := mg) (base := base) F_m3 T TC g_t2 (PySem.W.mg_of X G a_t2) k_t2 B_t2 g_m2 M_m2 B_m2
  have g_m4 := ok_undo (P := P) (w := w) (mg := mg) (base := base) F_m4 T TC g_m2 M_m2 B_m2
  have g_m5 := ok_gaps (P := P) (w := w) (mg := mg) (base := base) F_m5 T TC g_t5 (PySem.W.mg_of X G a_t5) k_t5 B_t5 g_t6 (PySem.W.mg_of X G a_t6) k_t6 B_t6
  have g_m6 := ok_makes (P := P) (w := w) (mg := mg) (base := base) F_m6 T TC g_t13 (PySem.W.mg_of X G a_t13) k_t13 B_t13
  have g_m7 := ok_refused (P := P) (w := w) (mg := mg) (base := base) F_m7 T TC g_t5 (PySem.W.mg_of X G a_t5) k_t5 B_t5 g_t6 (PySem.W.mg_of X G a_t6) k_t6 B_t6
  have g_m8 := ok_GF (P := P) (w := w) (mg := mg) (base := base) F_m8 T TC g_t2 (PySem.W.mg_of X G a_t2) k_t2 B_t2 g_t6 (PySem.W.mg_of X G a_t6) k_t6 B_t6
  have g_m9 := ok_wins (P := P) (w := w) (mg := mg) (base := base) F_m9 T TC g_m7 M_m7 B_m7 g_m8 M_m8 B_m8 g_t19 (PySem.W.mg_of X G a_t19) k_t19 B_t19
  have g_m10 := ok_wo (P := P) (w := w) (mg := mg) (base := base) F_m10 T g_m7 M_m7 B_m7 g_m8 M_m8 B_m8 g_t18 (PySem.W.mg_of X G a_t18) k_t18 B_t18
  have g_m11 := ok_en (P := P) (w := w) (mg := mg) (base := base) F_m11 T TC g_m7 M_m7 B_m7 g_m8 M_m8 B_m8 g_t6 (PySem.W.mg_of X G a_t6) k_t6 B_t6 g_t8 (PySem.W.mg_of X G a_t8) k_t8 B_t8
  have g_t20 := ok_has (P := P) (w := w) (mg := mg) (base := base) F_t20 TN
  have g_t21 := ok_AW (P := P) (w := w) (mg := mg) (base := base) F_t21 TN T g_m3 M_m3 B_m3 g_m6 M_m6 B_m6
  have g_t22 := ok_AA (P := P) (w := w) (mg := mg) (base := base) F_t22 TN T g_m1 M_m1 B_m1 g_m5 M_m5 B_m5 g_m9 M_m9 B_m9 g_m10 M_m10 B_m10 g_m11 M_m11 B_m11 g_m4 M_m4 B_m4
  exact ok_ans F_t23 (PySem.W.mg_none_of X G b_len) ⟨mk, a_m0, i_m0, kc⟩ (PySem.W.mg_of X G aC) g_m0 B_m0 g_t20 (PySem.W.mg_of X G a_t20) k_t20 B_t20 g_t21 (PySem.W.mg_of X G a_t21) k_t21 B_t21 g_t22 (PySem.W.mg_of X G a_t22) k_t22 B_t22
end NW
open PySem PySem.W PyProof.Rows
set_option maxRecDepth 100000 in
set_option maxHeartbeats 0 in
theorem PySem.Challenge.cw_namedinturn_s01_answers_holds : PySem.Challenge.rw_namedinturn_s01_answers.Holds := by
  w_on; k_headS; (case hw => exact ⟨[.list [.int 0]], by decide +kernel, by decide +kernel⟩)
  k_fillS
  refine L2.walk_specK (r := PySem.Challenge.rw_namedinturn_s01_answers) (k := 8) (CX := L2.CX0) (ps := ["calls"]) (sp := NW.spAns) (by decide +kernel) rfl rfl ⟨rfl, by decide, by decide⟩ (fun w h Y => PySem.W.kIn_of Y) ?F ?S (fun _ _ _ _ z => z)
  case F =>
    intro w mg fa h Y KX G hmg
    refine' NW.all_mk KX G hmg ?aC ?a_t0 ?l_t0 ?c_t0 ?k_t0 ?a_t1 ?l_t1 ?c_t1 ?k_t1 ?a_t2 ?l_t2 ?c_t2 ?k_t2 ?a_t3 ?l_t3 ?c_t3 ?k_t3 ?a_t4 ?l_t4 ?c_t4 ?k_t4 ?a_t5 ?l_t5 ?c_t5 ?k_t5 ?a_t6 ?l_t6 ?c_t6 ?k_t6 ?a_t7 ?l_t7 ?c_t7 ?k_t7 ?a_t8 ?l_t8 ?c_t8 ?k_t8 ?a_t9 ?l_t9 ?c_t9 ?k_t9 ?a_t10 ?l_t10 ?c_t10 ?k_t10 ?a_t11 ?l_t11 ?c_t11 ?k_t11 ?a_t12 ?l_t12 ?c_t12 ?k_t12 ?a_t13 ?l_t13 ?c_t13 ?k_t13 ?a_t14 ?l_t14 ?c_t14 ?k_t14 ?a_t15 ?l_t15 ?c_t15 ?k_t15 ?a_t16 ?l_t16 ?c_t16 ?k_t16 ?a_t17 ?l_t17 ?c_t17 ?k_t17 ?a_t18 ?l_t18 ?c_t18 ?k_t18 ?a_t19 ?l_t19 ?c_t19 ?k_t19 ?a_t20 ?l_t20 ?c_t20 ?k_t20 ?a_t21 ?l_t21 ?c_t21 ?k_t21 ?a_t22 ?l_t22 ?c_t22 ?k_t22 ?a_t23 ?l_t23 ?c_t23 ?k_t23 ?a_m0 ?i_m0 ?l_m0 ?c_m0 ?k_m0 ?a_m1 ?i_m1 ?l_m1 ?c_m1 ?k_m1 ?a_m2 ?i_m2 ?l_m2 ?c_m2 ?k_m2 ?a_m3 ?i_m3 ?l_m3 ?c_m3 ?k_m3 ?a_m4 ?i_m4 ?l_m4 ?c_m4 ?k_m4 ?a_m5 ?i_m5 ?l_m5 ?c_m5 ?k_m5 ?a_m6 ?i_m6 ?l_m6 ?c_m6 ?k_m6 ?a_m7 ?i_m7 ?l_m7 ?c_m7 ?k_m7 ?a_m8 ?i_m8 ?l_m8 ?c_m8 ?k_m8 ?a_m9 ?i_m9 ?l_m9 ?c_m9 ?k_m9 ?a_m10 ?i_m10 ?l_m10 ?c_m10 ?k_m10 ?a_m11 ?i_m11 ?l_m11 ?c_m11 ?k_m11 ?pg ?hd ?po ?sa ?mk ?kc ?nN ?z_0 ?z_1 ?z_2 ?z_3 ?z_4 ?z_5 ?z_6 ?z_7 ?z_8 ?z_9 ?z_10 ?z_11 ?z_12 ?z_13 ?z_14 ?z_15 ?z_16 ?z_17 ?z_18 ?z_19 ?z_20 ?z_21 ?b_list ?b_range ?b_len ?b_tuple ?b_reversed ?b_enumerate ?b_sorted ?b_sum ?b_max ?b_int
    (case aC => k_is); (case a_t0 => k_is); (case l_t0 => k_is); (case c_t0 => k_is); (case k_t0 => k_is)
    (case a_t1 => k_is); (case l_t1 => k_is); (case c_t1 => k_is); (case k_t1 => k_is); (case a_t2 => k_is)
    (case l_t2 => k_is); (case c_t2 => k_is); (case k_t2 => k_is); (case a_t3 => k_is); (case l_t3 => k_is)
    (case c_t3 => k_is); (case k_t3 => k_is); (case a_t4 => k_is); (case l_t4 => k_is); (case c_t4 => k_is)
    (case k_t4 => k_is); (case a_t5 => k_is); (case l_t5 => k_is); (case c_t5 => k_is); (case k_t5 => k_is)
    (case a_t6 => k_is); (case l_t6 => k_is); (case c_t6 => k_is); (case k_t6 => k_is); (case a_t7 => k_is)
    (case l_t7 => k_is); (case c_t7 => k_is); (case k_t7 => k_is); (case a_t8 => k_is); (case l_t8 => k_is)
    (case c_t8 => k_is); (case k_t8 => k_is); (case a_t9 => k_is); (case l_t9 => k_is); (case c_t9 => k_is)
    (case k_t9 => k_is); (case a_t10 => k_is); (case l_t10 => k_is); (case c_t10 => k_is); (case k_t10 => k_is)
    (case a_t11 => k_is); (case l_t11 => k_is); (case c_t11 => k_is); (case k_t11 => k_is); (case a_t12 => k_is)
    (case l_t12 => k_is); (case c_t12 => k_is); (case k_t12 => k_is); (case a_t13 => k_is); (case l_t13 => k_is)
    (case c_t13 => k_is); (case k_t13 => k_is); (case a_t14 => k_is); (case l_t14 => k_is); (case c_t14 => k_is)
    (case k_t14 => k_is); (case a_t15 => k_is); (case l_t15 => k_is); (case c_t15 => k_is); (case k_t15 => k_is)
    (case a_t16 => k_is); (case l_t16 => k_is); (case c_t16 => k_is); (case k_t16 => k_is); (case a_t17 => k_is)
    (case l_t17 => k_is); (case c_t17 => k_is); (case k_t17 => k_is); (case a_t18 => k_is); (case l_t18 => k_is)
    (case c_t18 => k_is); (case k_t18 => k_is); (case a_t19 => k_is); (case l_t19 => k_is); (case c_t19 => k_is)
    (case k_t19 => k_is); (case a_t20 => k_is); (case l_t20 => k_is); (case c_t20 => k_is); (case k_t20 => k_is)
    (case a_t21 => k_is); (case l_t21 => k_is); (case c_t21 => k_is); (case k_t21 => k_is); (case a_t22 => k_is)
    (case l_t22 => k_is); (case c_t22 => k_is); (case k_t22 => k_is); (case a_t23 => k_is); (case l_t23 => k_is)
    (case c_t23 => k_is); (case k_t23 => k_is); (case a_m0 => k_is); (case i_m0 => k_is); (case l_m0 => k_is)
    (case c_m0 => k_is); (case k_m0 => k_is); (case a_m1 => k_is); (case i_m1 => k_is); (case l_m1 => k_is)
    (case c_m1 => k_is); (case k_m1 => k_is); (case a_m2 => k_is); (case i_m2 => k_is); (case l_m2 => k_is)
    (case c_m2 => k_is); (case k_m2 => k_is); (case a_m3 => k_is); (case i_m3 => k_is); (case l_m3 => k_is)
    (case c_m3 => k_is); (case k_m3 => k_is); (case a_m4 => k_is); (case i_m4 => k_is); (case l_m4 => k_is)
    (case c_m4 => k_is); (case k_m4 => k_is); (case a_m5 => k_is); (case i_m5 => k_is); (case l_m5 => k_is)
    (case c_m5 => k_is); (case k_m5 => k_is); (case a_m6 => k_is); (case i_m6 => k_is); (case l_m6 => k_is)
    (case c_m6 => k_is); (case k_m6 => k_is); (case a_m7 => k_is); (case i_m7 => k_is); (case l_m7 => k_is)
    (case c_m7 => k_is); (case k_m7 => k_is); (case a_m8 => k_is); (case i_m8 => k_is); (case l_m8 => k_is)
    (case c_m8 => k_is); (case k_m8 => k_is); (case a_m9 => k_is); (case i_m9 => k_is); (case l_m9 => k_is)
    (case c_m9 => k_is); (case k_m9 => k_is); (case a_m10 => k_is); (case i_m10 => k_is); (case l_m10 => k_is)
    (case c_m10 => k_is); (case k_m10 => k_is); (case a_m11 => k_is); (case i_m11 => k_is); (case l_m11 => k_is)
    (case c_m11 => k_is); (case k_m11 => k_is); (case pg => k_is); (case hd => k_is); (case po => k_is)
    (case sa => k_is); (case mk => k_is); (case kc => k_is); (case nN => k_is); (case z_0 => k_is)
    (case z_1 => k_is); (case z_2 => k_is); (case z_3 => k_is); (case z_4 => k_is); (case z_5 => k_is)
    (case z_6 => k_is); (case z_7 => k_is); (case z_8 => k_is); (case z_9 => k_is); (case z_10 => k_is)
    (case z_11 => k_is); (case z_12 => k_is); (case z_13 => k_is); (case z_14 => k_is); (case z_15 => k_is)
    (case z_16 => k_is); (case z_17 => k_is); (case z_18 => k_is); (case z_19 => k_is); (case z_20 => k_is)
    (case z_21 => k_is); (case b_list => k_is); (case b_range => k_is); (case b_len => k_is); (case b_tuple => k_is)
    (case b_reversed => k_is); (case b_enumerate => k_is); (case b_sorted => k_is); (case b_sum => k_is); (case b_max => k_is)
    (case b_int => k_is)
  case S =>
    intro K H xs a hO hwi hask hx
    cases hx with
    | cons h1 h2 =>
      cases h2
      cases h1 with
      | lst hs ha =>
        have e := L2.ints_dw a.1 _ ha
        subst e
        have q : ((Codec.inLen 0 100 a.1 && a.1.all (Codec.inInt 0 4294967295)) && true) = true := hwi
        rw [Bool.and_eq_true, Bool.and_eq_true] at q
        refine ⟨_, a.1, rfl, hs, (Codec.inNat_iff.mp q.1.1).2, fun z hz => ?_, hask, fun H' p hp => .lst (L2.SqL.of hp) (L2.dw_ints _)⟩
        exact Codec.inInt_iff.mp (List.all_eq_true.mp q.1.2 z hz)
#print axioms PySem.Challenge.cw_namedinturn_s01_answers_holds
