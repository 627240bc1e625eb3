import PyProof.Rows.All
import Wide.All
import OpenK.AllK
import Wide.FinOn
import Open.SpecLaws
import KE.OsGo
import HandS.ForSpec
import HandS.Comp
import HandS.Iter
import HandS.Evl
import HandS.Deep
import KE.KLam
import KE.SortKeyHeap
import HandS.Lambda
import HandS.SortKw
import HandS.Conv
import HandS.Spec
import PySem.Challenge.RW_manywishes_s01_make
set_option Elab.async false
set_option maxRecDepth 100000
set_option maxHeartbeats 4000000
namespace Mw
open Sa92

/-! ### sizes -/
def Ok (n m : Nat) : Prop := 2 ≤ m ∧ m ≤ 4 ∧ 1 ≤ n ∧ n ≤ 4 ∧ (m < 4 ∨ n ≤ 3)
theorem sized_of {n m : Int} (h : sized n m = true) : ∃ n1 m1 : Nat, n = (n1 : Int) ∧ m = (m1 : Int) ∧ Ok n1 m1 := by
  unfold sized at h
  simp only [Bool.and_eq_true, Bool.or_eq_true, decide_eq_true_eq] at h
  obtain ⟨h1, h2, h3, h4, h5⟩ := h
  refine ⟨n.toNat, m.toNat, by omega, by omega, by omega, by omega, by omega, by omega, by omega⟩
theorem sized_nat {n m : Nat} (h : Ok n m) : sized (n : Int) (m : Int) = true := by
  obtain ⟨h1, h2, h3, h4, h5⟩ := h
  unfold sized
  simp only [Bool.and_eq_true, Bool.or_eq_true, decide_eq_true_eq]
  omega
theorem m_cases {m : Nat} (h1 : 2 ≤ m) (h2 : m ≤ 4) : m = 2 ∨ m = 3 ∨ m = 4 := by omega
theorem many_two : many 2 = 2 := by decide +kernel
theorem many_three : many 3 = 6 := by decide +kernel
theorem many_four : many 4 = 24 := by decide +kernel
theorem many_pos {m : Nat} (h1 : 2 ≤ m) (h2 : m ≤ 4) : 2 ≤ many m ∧ many m ≤ 24 := by
  rcases m_cases h1 h2 with rfl | rfl | rfl
  · rw [many_two]; omega
  · rw [many_three]; omega
  · rw [many_four]; omega
theorem cases_le {n m : Nat} (h : Ok n m) : cases n m ≤ 13824 := by
  obtain ⟨h1, h2, h3, h4, h5⟩ := h
  unfold cases
  rcases m_cases h1 h2 with rfl | rfl | rfl
  · rw [many_two]
    have : n = 1 ∨ n = 2 ∨ n = 3 ∨ n = 4 := by omega
    rcases this with rfl | rfl | rfl | rfl <;> decide
  · rw [many_three]
    have : n = 1 ∨ n = 2 ∨ n = 3 ∨ n = 4 := by omega
    rcases this with rfl | rfl | rfl | rfl <;> decide
  · rw [many_four]
    have : n = 1 ∨ n = 2 ∨ n = 3 := by omega
    rcases this with rfl | rfl | rfl <;> decide

/-! ### orders -/
/-- what longer gives -/
def lon (m : Nat) (ss : List (List Nat)) : List (List Nat) := ss.flatMap fun s => ((List.range m).filter fun x => !s.contains x).map fun x => s ++ [x]
def lonN (m : Nat) : Nat → List (List Nat)
  | 0 => [[]]
  | k + 1 => lon m (lonN m k)
theorem lon_len (m : Nat) : ∀ ss : List (List Nat), (lon m ss).length ≤ ss.length * m
  | [] => Nat.zero_le _
  | s :: r => by
    have ih := lon_len m r
    have e : lon m (s :: r) = (((List.range m).filter fun x => !s.contains x).map fun x => s ++ [x]) ++ lon m r := List.flatMap_cons
    have h1 : (((List.range m).filter fun x => !s.contains x).map fun x => s ++ [x]).length ≤ m := by
      rw [List.length_map]
      refine Nat.le_trans (List.length_filter_le _ _) ?_
      rw [List.length_range]
      exact Nat.le_refl _
    rw [e, List.length_append, List.length_cons, Nat.add_mul, Nat.one_mul]
    omega
theorem lon_more {m : Nat} {ss : List (List Nat)} {i : Nat} {s : List Nat} (h : ss[i]? = some s) : lon m (ss.take (i + 1)) = lon m (ss.take i) ++ ((List.range m).filter fun x => !s.contains x).map fun x => s ++ [x] := by
  unfold lon
  rw [List.take_add_one, h, List.flatMap_append]
  simp
theorem lonN_all {m : Nat} (h1 : 2 ≤ m) (h2 : m ≤ 4) : lonN m m = orders m := by
  rcases m_cases h1 h2 with rfl | rfl | rfl <;> decide +kernel
theorem lonN_len {m k : Nat} (h2 : m ≤ 4) (hk : k ≤ m) : (lonN m k).length ≤ 24 := by
  have e : ∀ m ∈ List.range 5, ∀ k ∈ List.range (m + 1), (lonN m k).length ≤ 24 := by decide +kernel
  exact e m (List.mem_range.mpr (by omega)) k (List.mem_range.mpr (by omega))
theorem lonN_item {m k : Nat} (h2 : m ≤ 4) (hk : k ≤ m) : ∀ s ∈ lonN m k, s.length ≤ 4 := by
  have e : ∀ m ∈ List.range 5, ∀ k ∈ List.range (m + 1), ∀ s ∈ lonN m k, s.length ≤ 4 := by decide +kernel
  exact e m (List.mem_range.mpr (by omega)) k (List.mem_range.mpr (by omega))
theorem orders_good {m : Nat} (h1 : 2 ≤ m) (h2 : m ≤ 4) : ∀ o ∈ orders m, o.length = m ∧ o.Nodup ∧ (∀ x ∈ o, x < m) ∧ ∀ x ∈ List.range m, x ∈ o := by
  rcases m_cases h1 h2 with rfl | rfl | rfl <;> decide +kernel
theorem order_at {m k : Nat} (h : k < many m) : (orders m)[k]? = some (order m k) := by
  unfold order
  have h' : k < (orders m).length := h
  rw [List.getD_eq_getElem?_getD, List.getElem?_eq_getElem h']
  rfl
theorem order_mem {m k : Nat} (h : k < many m) : order m k ∈ orders m := List.mem_of_getElem? (order_at h)
theorem order_len {m k : Nat} (h1 : 2 ≤ m) (h2 : m ≤ 4) (h : k < many m) : (order m k).length = m := (orders_good h1 h2 _ (order_mem h)).1
theorem order_lt {m k x : Nat} (h1 : 2 ≤ m) (h2 : m ≤ 4) (h : k < many m) (hx : x ∈ order m k) : x < m := (orders_good h1 h2 _ (order_mem h)).2.2.1 x hx
theorem order_has {m k a : Nat} (h1 : 2 ≤ m) (h2 : m ≤ 4) (h : k < many m) (ha : a < m) : a ∈ order m k := (orders_good h1 h2 _ (order_mem h)).2.2.2 a (List.mem_range.mpr ha)
theorem orders_nodup {m : Nat} (h1 : 2 ≤ m) (h2 : m ≤ 4) : (orders m).Nodup := by
  rcases m_cases h1 h2 with rfl | rfl | rfl <;> decide +kernel
/-- the first place -/
theorem findIdx_at {α : Type} {l : List α} {p : α → Bool} {x : α} (hx : x ∈ l) (hp : p x = true) :
    ∃ z, l[l.findIdx p]? = some z ∧ p z = true ∧ ∀ (j : Nat) (y : α), j < l.findIdx p → l[j]? = some y → p y = false := by
  have hlt : l.findIdx p < l.length := List.findIdx_lt_length_of_exists ⟨x, hx, hp⟩
  refine ⟨l[l.findIdx p], List.getElem?_eq_getElem hlt, List.findIdx_getElem, fun j y hj hy => ?_⟩
  have h := List.not_of_lt_findIdx hj
  obtain ⟨hjl, e⟩ := List.getElem?_eq_some_iff.mp hy
  rw [e] at h
  exact h
theorem place_lt {o : List Nat} {a : Nat} (h : a ∈ o) : place o a < o.length := List.findIdx_lt_length_of_exists ⟨a, h, by simp⟩

/-! ### pairs -/
def sq (m : Nat) : List (Nat × Nat) := (List.range (m * m)).map fun k => (k / m, k - k / m * m)
theorem sq_pairs {m : Nat} (h1 : 2 ≤ m) (h2 : m ≤ 4) : (sq m).filter (fun x => x.1 != x.2) = pairs m := by
  rcases m_cases h1 h2 with rfl | rfl | rfl <;> decide +kernel
theorem pairs_len {m : Nat} (h1 : 2 ≤ m) (h2 : m ≤ 4) : (pairs m).length ≤ 12 := by
  rcases m_cases h1 h2 with rfl | rfl | rfl <;> decide +kernel
theorem pairs_lt {m : Nat} (h1 : 2 ≤ m) (h2 : m ≤ 4) : ∀ x ∈ pairs m, x.1 < m ∧ x.2 < m := by
  rcases m_cases h1 h2 with rfl | rfl | rfl <;> decide +kernel

/-! ### numbers by digits -/
def num (c : Nat) : List Nat → Nat
  | [] => 0
  | d :: r => num c r * c + d
def digs (c n k : Nat) : List Nat := (List.range n).map fun i => k / c ^ i % c
theorem digs_len (c n k : Nat) : (digs c n k).length = n := by unfold digs; simp
theorem digs_at {c n k i : Nat} (h : i < n) : (digs c n k)[i]? = some (k / c ^ i % c) := by
  unfold digs
  simp [h]
theorem digs_lt {c n k : Nat} (hc : 0 < c) : ∀ d ∈ digs c n k, d < c := by
  intro d hd
  unfold digs at hd
  obtain ⟨i, _, rfl⟩ := List.mem_map.mp hd
  exact Nat.mod_lt _ hc
theorem digs_succ (c n k : Nat) : digs c (n + 1) k = (k % c) :: digs c n (k / c) := by
  unfold digs
  rw [List.range_succ_eq_map, List.map_cons, List.map_map]
  congr 1
  · simp
  · refine List.map_congr_left fun i _ => ?_
    show k / c ^ (i + 1) % c = k / c / c ^ i % c
    rw [Nat.div_div_eq_div_mul, Nat.pow_succ, Nat.mul_comm c]
theorem digs_snoc (c n k : Nat) : digs c (n + 1) k = digs c n k ++ [k / c ^ n % c] := by
  unfold digs
  rw [List.range_succ, List.map_append]
  rfl
theorem num_digs {c : Nat} (hc : 0 < c) : ∀ (n k : Nat), k < c ^ n → num c (digs c n k) = k
  | 0, k, h => by
    have : k = 0 := by simpa using h
    subst this
    rfl
  | n + 1, k, h => by
    rw [digs_succ]
    show num c (digs c n (k / c)) * c + k % c = k
    have h2 : k / c < c ^ n := by
      rw [Nat.div_lt_iff_lt_mul hc]
      rw [Nat.pow_succ] at h
      exact h
    rw [num_digs hc n (k / c) h2]
    have := Nat.div_add_mod k c
    rw [Nat.mul_comm] at this
    exact this
theorem num_lt {c : Nat} (hc : 0 < c) : ∀ (ds : List Nat), (∀ d ∈ ds, d < c) → num c ds < c ^ ds.length
  | [], _ => by simp [num]
  | d :: r, h => by
    have ih := num_lt hc r fun x hx => h x (List.mem_cons_of_mem _ hx)
    have hd : d < c := h d List.mem_cons_self
    show num c r * c + d < c ^ (r.length + 1)
    rw [Nat.pow_succ]
    have : (num c r + 1) * c ≤ c ^ r.length * c := Nat.mul_le_mul_right _ ih
    rw [Nat.add_mul] at this
    omega
theorem digit_num {c : Nat} (hc : 0 < c) : ∀ (ds : List Nat) (i d : Nat), (∀ d ∈ ds, d < c) → ds[i]? = some d → num c ds / c ^ i % c = d
  | [], i, d, _, h => by simp at h
  | a :: r, 0, d, hl, h => by
    have e : a = d := Option.some.inj h
    subst e
    have ha : a < c := hl a List.mem_cons_self
    show (num c r * c + a) / c ^ 0 % c = a
    rw [Nat.pow_zero, Nat.div_one, Nat.add_comm, Nat.add_mul_mod_self_right, Nat.mod_eq_of_lt ha]
  | a :: r, i + 1, d, hl, h => by
    have ha : a < c := hl a List.mem_cons_self
    have ih := digit_num hc r i d (fun x hx => hl x (List.mem_cons_of_mem _ hx)) (by simpa using h)
    show (num c r * c + a) / c ^ (i + 1) % c = d
    have e : (num c r * c + a) / c = num c r := by
      rw [Nat.add_comm, Nat.add_mul_div_right _ _ hc, Nat.div_eq_of_lt ha, Nat.zero_add]
    rw [Nat.pow_succ', ← Nat.div_div_eq_div_mul, e]
    exact ih
theorem num_set {c : Nat} : ∀ (ds : List Nat) (i d k : Nat), ds[i]? = some d → num c (ds.set i k) + d * c ^ i = num c ds + k * c ^ i
  | [], i, d, k, h => by simp at h
  | a :: r, 0, d, k, h => by
    have e : a = d := Option.some.inj h
    subst e
    show num c r * c + k + a * c ^ 0 = num c r * c + a + k * c ^ 0
    rw [Nat.pow_zero]
    omega
  | a :: r, i + 1, d, k, h => by
    have ih := num_set (c := c) r i d k (by simpa using h)
    show num c (r.set i k) * c + a + d * c ^ (i + 1) = num c r * c + a + k * c ^ (i + 1)
    have e := congrArg (· * c) ih
    simp only [Nat.add_mul] at e
    rw [Nat.pow_succ, ← Nat.mul_assoc, ← Nat.mul_assoc]
    omega
theorem num_sum {c : Nat} (f : Nat → Nat) : ∀ n, num c ((List.range n).map f) = ((List.range n).map fun i => f i * c ^ i).sum := by
  have key : ∀ (n : Nat) (f : Nat → Nat), num c ((List.range n).map f) = ((List.range n).map fun i => f i * c ^ i).sum := by
    intro n
    induction n with
    | zero => intro f; rfl
    | succ n ih =>
      intro f
      rw [List.range_succ_eq_map, List.map_cons, List.map_cons, List.map_map, List.map_map, List.sum_cons]
      show num c ((List.range n).map (f ∘ Nat.succ)) * c + f 0 = _
      rw [ih (f ∘ Nat.succ)]
      have e : ∀ l : List Nat, (l.map fun i => (f ∘ Nat.succ) i * c ^ i).sum * c = (l.map ((fun i => f i * c ^ i) ∘ Nat.succ)).sum := by
        intro l
        induction l with
        | nil => simp
        | cons a l ihl =>
          simp only [List.map_cons, List.sum_cons, Nat.add_mul, ihl]
          show f (a + 1) * c ^ a * c + _ = f (a + 1) * c ^ (a + 1) + _
          rw [Nat.pow_succ, Nat.mul_assoc]
      rw [e, Nat.pow_zero, Nat.mul_one]
      omega
  exact fun n => key n f

/-! ### cases -/
def caseL (n m p : Nat) : List Nat := digs (many m) n p
def casesL (n m : Nat) : List (List Nat) := (List.range (cases n m)).map (caseL n m)
theorem casesL_len (n m : Nat) : (casesL n m).length = cases n m := by unfold casesL; simp
theorem casesL_at {n m p : Nat} (h : p < cases n m) : (casesL n m)[p]? = some (caseL n m p) := by
  unfold casesL
  simp [h]
theorem casesL_of {n m p : Nat} {c : List Nat} (h : (casesL n m)[p]? = some c) : p < cases n m ∧ c = caseL n m p := by
  have hl := (List.getElem?_eq_some_iff.mp h).1
  rw [casesL_len] at hl
  rw [casesL_at hl] at h
  exact ⟨hl, (Option.some.inj h).symm⟩
theorem caseL_len (n m p : Nat) : (caseL n m p).length = n := digs_len _ _ _
theorem caseL_at {n m p i : Nat} (h : i < n) : (caseL n m p)[i]? = some (wish m p i) := digs_at h
theorem wish_lt {m p i : Nat} (h1 : 2 ≤ m) (h2 : m ≤ 4) : wish m p i < many m := Nat.mod_lt _ (by have := many_pos h1 h2; omega)
theorem caseL_lt {n m p : Nat} (h1 : 2 ≤ m) (h2 : m ≤ 4) : ∀ d ∈ caseL n m p, d < many m := digs_lt (by have := many_pos h1 h2; omega)
theorem num_caseL {n m p : Nat} (h1 : 2 ≤ m) (h2 : m ≤ 4) (hp : p < cases n m) : num (many m) (caseL n m p) = p := num_digs (by have := many_pos h1 h2; omega) n p hp
/-- a case with another order of one voter -/
theorem retold_num {m : Nat} {ds : List Nat} {i k : Nat} (h1 : 2 ≤ m) (h2 : m ≤ 4) (hl : ∀ d ∈ ds, d < many m) (hi : i < ds.length) : retold m (num (many m) ds) i k = num (many m) (ds.set i k) := by
  have hc : 0 < many m := by have := many_pos h1 h2; omega
  have hd : ds[i]? = some ds[i] := List.getElem?_eq_getElem hi
  have e := digit_num hc ds i ds[i] hl hd
  have e2 := num_set (c := many m) ds i ds[i] k hd
  unfold retold wish
  rw [e]
  have e3 := num_set (c := many m) ds i ds[i] 0 hd
  rw [Nat.zero_mul, Nat.add_zero] at e3
  omega
theorem retold_lt {n m p i k : Nat} (h1 : 2 ≤ m) (h2 : m ≤ 4) (hp : p < cases n m) (hi : i < n) (hk : k < many m) : retold m p i k < cases n m := by
  have e := retold_num (k := k) h1 h2 (caseL_lt (n := n) (p := p) h1 h2) (i := i) (by rw [caseL_len]; exact hi)
  rw [num_caseL h1 h2 hp] at e
  rw [e]
  have := num_lt (c := many m) (by have := many_pos h1 h2; omega) ((caseL n m p).set i k) fun d hd => by
    rcases List.mem_or_eq_of_mem_set hd with h | h
    · exact caseL_lt h1 h2 d h
    · rw [h]; exact hk
  rw [List.length_set, caseL_len] at this
  exact this
def exch (l : List Nat) (i j : Nat) : List Nat := (l.set i (l.getD j 0)).set j (l.getD i 0)
theorem exchanged_num {n m p i j : Nat} (h1 : 2 ≤ m) (h2 : m ≤ 4) (hp : p < cases n m) (hij : i < j) (hj : j < n) :
    exchanged m p i j = num (many m) (exch (caseL n m p) i j) ∧ exchanged m p i j < cases n m := by
  have hc : 0 < many m := by have := many_pos h1 h2; omega
  have hi : i < n := by omega
  have di : (caseL n m p).getD i 0 = wish m p i := by rw [List.getD_eq_getElem?_getD, caseL_at hi]; rfl
  have dj : (caseL n m p).getD j 0 = wish m p j := by rw [List.getD_eq_getElem?_getD, caseL_at hj]; rfl
  have e1 := retold_num (k := wish m p j) h1 h2 (caseL_lt (n := n) (p := p) h1 h2) (i := i) (by rw [caseL_len]; exact hi)
  rw [num_caseL h1 h2 hp] at e1
  have l1 : ∀ d ∈ (caseL n m p).set i (wish m p j), d < many m := fun d hd => by
    rcases List.mem_or_eq_of_mem_set hd with h | h
    · exact caseL_lt h1 h2 d h
    · rw [h]; exact wish_lt h1 h2
  have e2 := retold_num (k := wish m p i) h1 h2 l1 (i := j) (by rw [List.length_set, caseL_len]; exact hj)
  have e : exchanged m p i j = num (many m) (exch (caseL n m p) i j) := by
    unfold exchanged exch
    rw [e1, e2, di, dj]
  refine ⟨e, ?_⟩
  rw [e]
  have := num_lt hc (exch (caseL n m p) i j) fun d hd => by
    unfold exch at hd
    rw [di, dj] at hd
    rcases List.mem_or_eq_of_mem_set hd with h | h
    · exact l1 d h
    · rw [h]; exact wish_lt h1 h2
  unfold exch at this
  rw [List.length_set, List.length_set, caseL_len] at this
  exact this
theorem renamed_mem {m : Nat} (h1 : 2 ≤ m) (h2 : m ≤ 4) : ∀ s ∈ orders m, ∀ o ∈ orders m, (o.map fun x => s.getD x 0) ∈ orders m := by
  rcases m_cases h1 h2 with rfl | rfl | rfl <;> decide +kernel
theorem numberOf_lt {m : Nat} {o : List Nat} (h : o ∈ orders m) : numberOf m o < many m := List.findIdx_lt_length_of_exists ⟨o, h, by simp⟩
theorem renamed_lt {m s k : Nat} (h1 : 2 ≤ m) (h2 : m ≤ 4) (hs : s < many m) (hk : k < many m) : renamed m s k < many m :=
  numberOf_lt (renamed_mem h1 h2 _ (order_mem hs) _ (order_mem hk))
theorem caseRenamed_num {n m s p : Nat} : caseRenamed n m s p = num (many m) ((caseL n m p).map (renamed m s)) := by
  have e : (caseL n m p).map (renamed m s) = (List.range n).map fun i => renamed m s (wish m p i) := by
    unfold caseL digs
    rw [List.map_map]
    rfl
  rw [e, num_sum]
  rfl
theorem caseRenamed_lt {n m s p : Nat} (h1 : 2 ≤ m) (h2 : m ≤ 4) (hs : s < many m) : caseRenamed n m s p < cases n m := by
  rw [caseRenamed_num]
  have := num_lt (c := many m) (by have := many_pos h1 h2; omega) ((caseL n m p).map (renamed m s)) fun d hd => by
    obtain ⟨k, hk, rfl⟩ := List.mem_map.mp hd
    exact renamed_lt h1 h2 hs (caseL_lt h1 h2 k hk)
  rw [List.length_map, caseL_len] at this
  exact this

/-! ### searches -/
/-- no place before the i-th gives anything -/
def NoneTo {α β : Type} (l : List α) (f : α → Option β) (i : Nat) : Prop := ∀ (j : Nat) (y : α), j < i → l[j]? = some y → f y = none
theorem NoneTo.zero {α β : Type} {l : List α} {f : α → Option β} : NoneTo l f 0 := fun j _ h => absurd h (Nat.not_lt_zero j)
theorem NoneTo.next {α β : Type} {l : List α} {f : α → Option β} {i : Nat} {x : α} (h : NoneTo l f i) (hx : l[i]? = some x) (hf : f x = none) : NoneTo l f (i + 1) := fun j y hj hy => by
  by_cases e : j = i
  · subst e
    rw [hx] at hy
    rw [← Option.some.inj hy]
    exact hf
  · exact h j y (by omega) hy
theorem NoneTo.none {α β : Type} : ∀ {l : List α} {f : α → Option β}, NoneTo l f l.length → l.findSome? f = Option.none
  | [], _, _ => rfl
  | a :: r, f, h => by
    have h0 : f a = Option.none := h 0 a (by simp) rfl
    rw [List.findSome?_cons, h0]
    exact NoneTo.none (l := r) fun j y hj hy => h (j + 1) y (by simpa using hj) (by simpa using hy)
theorem NoneTo.some {α β : Type} {v : β} : ∀ {l : List α} {f : α → Option β} {i : Nat} {x : α}, NoneTo l f i → l[i]? = Option.some x → f x = Option.some v → l.findSome? f = Option.some v
  | [], _, i, x, _, hx, _ => by simp at hx
  | a :: r, f, 0, x, _, hx, hf => by
    have e : a = x := Option.some.inj hx
    subst e
    rw [List.findSome?_cons, hf]
  | a :: r, f, i + 1, x, h, hx, hf => by
    have h0 : f a = Option.none := h 0 a (by omega) rfl
    rw [List.findSome?_cons, h0]
    exact NoneTo.some (l := r) (i := i) (x := x) (fun j y hj hy => h (j + 1) y (by omega) (by simpa using hy)) (by simpa using hx) hf
theorem told_true {l : List Nat} : told true l = some l := rfl
theorem told_false {l : List Nat} : told false l = none := rfl
/-- nothing before i holds -/
def NotTo (n : Nat) (f : Nat → Bool) (i : Nat) : Prop := ∀ j, j < i → j < n → f j = false
theorem NotTo.zero {n : Nat} {f : Nat → Bool} : NotTo n f 0 := fun j h _ => absurd h (Nat.not_lt_zero j)
theorem NotTo.next {n : Nat} {f : Nat → Bool} {i : Nat} (h : NotTo n f i) (hf : f i = false) : NotTo n f (i + 1) := fun j hj hn => by
  by_cases e : j = i
  · subst e; exact hf
  · exact h j (by omega) hn
theorem NotTo.none {n : Nat} {f : Nat → Bool} (h : NotTo n f n) : (List.range n).find? f = Option.none := by
  rw [List.find?_eq_none]
  intro x hx
  rw [h x (List.mem_range.mp hx) (List.mem_range.mp hx)]
  exact Bool.false_ne_true
theorem NotTo.some {n : Nat} {f : Nat → Bool} {i : Nat} (h : NotTo n f i) (hi : i < n) (hf : f i = true) : (List.range n).find? f = Option.some i := by
  rw [List.find?_range_eq_some]
  exact ⟨hf, List.mem_range.mpr hi, fun j hj => by rw [h j hj (by omega)]; rfl⟩
end Mw

set_option Elab.async false
set_option linter.all false
set_option maxRecDepth 100000
set_option maxHeartbeats 4000000
namespace Lb
open PySem PySem.Spec PyProof.Rows L2 Evl

/-! ### what is known (Hk) and what there is (Ha), since an entry that knew H and found H1 -/
structure Wd (H H1 Hk Ha : Hp) : Prop where
  a : Ex H Hk
  b : Ex Hk Ha
  c : Ex H1 Ha
  d : ∀ b o, H b = none → H1 b = some o → Hk b = none
variable {K : PySem.W.Frag} {H H1 Hk Ha Hk2 Ha2 : Hp} {σ : L2.St}
theorem Wd.start (e : Ex H H1) : Wd H H1 H H1 := ⟨Ex.refl _, e, Ex.refl _, fun _ _ h _ => h⟩
theorem Wd.trans (w : Wd H H1 Hk Ha) (u : Wd Hk Ha Hk2 Ha2) : Wd H H1 Hk2 Ha2 := ⟨w.a.trans u.a, u.b, w.c.trans u.c, fun b o h h1 => u.d b o (w.d b o h h1) (w.c b o h1)⟩
theorem Wd.ext (w : Wd H H1 Hk Ha) (e : Ex Ha Ha2) : Wd H H1 Hk Ha2 := ⟨w.a, w.b.trans e, w.c.trans e, w.d⟩
theorem ex_upd {Hk Ha : Hp} {p : Addr} {o : HO} (e : Ex Hk Ha) : Ex (upd Hk p o) (upd Ha p o) := fun b u h => by
  by_cases hb : b = p
  · rw [hb, upd_same] at h ⊢
    exact h
  · rw [upd_ne hb] at h ⊢
    exact e b u h
/-- a new object, known from now on -/
theorem Wd.new {p : Addr} {o : HO} (w : Wd H H1 Hk Ha) (hp : Ha p = none) : Wd H H1 (upd Hk p o) (upd Ha p o) :=
  ⟨w.a.trans (Ex.new (fresh_back w.b hp)), ex_upd w.b, w.c.trans (Ex.new hp), fun b u h h1 => by
    have hb : b ≠ p := ne_of_none (w.c b u h1) hp
    rw [upd_ne hb]
    exact w.d b u h h1⟩
/-- an object that is not known changes, or is laid -/
theorem Wd.mut {p : Addr} {o : HO} (w : Wd H H1 Hk Ha) (h : Hk p = none) (h1 : H1 p = none) : Wd H H1 Hk (upd Ha p o) := ⟨w.a, w.b.mut h, w.c.mut h1, w.d⟩
/-- an object of ours is known from now on -/
theorem Wd.pub {p : Addr} {o : HO} (w : Wd H H1 Hk Ha) (h : Ha p = some o) (hk : Hk p = none) (h1 : H1 p = none) : Wd H H1 (upd Hk p o) Ha :=
  ⟨w.a.trans (Ex.new hk), fun b u q => by
    by_cases hb : b = p
    · rw [hb, upd_same] at q
      rw [hb, h]
      exact q
    · rw [upd_ne hb] at q
      exact w.b b u q, w.c, fun b u q q1 => by
    have hb : b ≠ p := ne_of_none q1 h1
    rw [upd_ne hb]
    exact w.d b u q q1⟩
/-- what is not known and was there at the entry, stays unknown -/
theorem Wd.off {l : Addr} {o : HO} (w : Wd H H1 Hk Ha) (h : H l = none) (h1 : H1 l = some o) : Hk l = none ∧ Ha l = some o := ⟨w.d l o h h1, w.c l o h1⟩

/-! ### assertions about a value -/
abbrev As := V → Hp → Prop
class MonoP (P : As) : Prop where
  mono : ∀ {v : V} {H H' : Hp}, Ex H H' → P v H → P v H'
def Rv (v0 : V) : As := fun v _ => v = v0
instance : MonoP (Rv v0) := ⟨fun _ h => h⟩
abbrev Rn (n : Nat) : As := Rv (.int (n : Int))
abbrev Rb (b : Bool) : As := Rv (.bl b)
def Rl {α : Type} (R : α → As) (xs : List α) : As := fun v H => ∃ p ys, v = .ref p ∧ H p = some (.lst ys) ∧ Paired (fun x y => R x y H) xs ys
def Rp {α β : Type} (R : α → As) (S : β → As) (z : α × β) : As := fun v H => ∃ p x y, v = .ref p ∧ H p = some (.tup [x, y]) ∧ R z.1 x H ∧ S z.2 y H
theorem pr_imp {α β : Type} {F G : α → β → Prop} : ∀ {l : List α} {r : List β}, Paired F l r → (∀ a b, a ∈ l → F a b → G a b) → Paired G l r
  | _, _, .nil, _ => .nil
  | _, _, .cons r t, f => .cons (f _ _ List.mem_cons_self r) (pr_imp t fun a b h => f a b (List.mem_cons_of_mem _ h))
theorem pr_app {α β : Type} {F : α → β → Prop} : ∀ {l l2 : List α} {r r2 : List β}, Paired F l r → Paired F l2 r2 → Paired F (l ++ l2) (r ++ r2)
  | _, _, _, _, .nil, s => s
  | _, _, _, _, .cons h t, s => .cons h (pr_app t s)
theorem pr_get {α β : Type} {F : α → β → Prop} : ∀ {l : List α} {r : List β} {i : Nat} {x : α}, Paired F l r → l[i]? = some x → ∃ y, r[i]? = some y ∧ F x y
  | _, _, _, _, .nil, e => by simp at e
  | _, _, 0, _, .cons h _, e => by
    have e' := Option.some.inj e
    subst e'
    exact ⟨_, rfl, h⟩
  | _, _, i + 1, x, .cons _ t, e => by
    obtain ⟨y, h1, h2⟩ := pr_get (i := i) (x := x) t (by simpa using e)
    exact ⟨y, by simpa using h1, h2⟩
theorem pr_back {α β : Type} {F : α → β → Prop} : ∀ {l : List α} {r : List β} {i : Nat} {y : β}, Paired F l r → r[i]? = some y → ∃ x, l[i]? = some x ∧ F x y
  | _, _, _, _, .nil, e => by simp at e
  | _, _, 0, _, .cons h _, e => by
    have e' := Option.some.inj e
    subst e'
    exact ⟨_, rfl, h⟩
  | _, _, i + 1, x, .cons _ t, e => by
    obtain ⟨y, h1, h2⟩ := pr_back (i := i) (y := x) t (by simpa using e)
    exact ⟨y, by simpa using h1, h2⟩
theorem pr_rv {α : Type} {f : α → V} {H : Hp} : ∀ {l : List α} {r : List V}, Paired (fun x y => Rv (f x) y H) l r → r = l.map f
  | _, _, .nil => rfl
  | _, _, .cons h t => by
    have h' : _ = f _ := h
    rw [h', pr_rv t]
    rfl
theorem pr_of {α : Type} {f : α → V} {H : Hp} : ∀ (l : List α), Paired (fun x y => Rv (f x) y H) l (l.map f)
  | [] => .nil
  | _ :: t => .cons rfl (pr_of t)
instance {α : Type} {R : α → As} {xs : List α} [m : ∀ a, MonoP (R a)] : MonoP (Rl R xs) := ⟨fun e h => by
  obtain ⟨p, ys, h1, h2, h3⟩ := h
  exact ⟨p, ys, h1, e p _ h2, pr_imp h3 fun a b _ q => (m a).mono e q⟩⟩
instance {α β : Type} {R : α → As} {S : β → As} {z : α × β} [m : ∀ a, MonoP (R a)] [n : ∀ b, MonoP (S b)] : MonoP (Rp R S z) := ⟨fun e h => by
  obtain ⟨p, x, y, h1, h2, h3, h4⟩ := h
  exact ⟨p, x, y, h1, e p _ h2, (m _).mono e h3, (n _).mono e h4⟩⟩
abbrev nv (l : List Nat) : List V := l.map fun (n : Nat) => V.int (n : Int)
theorem nv_snoc (l : List Nat) (d : Nat) : nv (l ++ [d]) = nv l ++ [V.int (d : Int)] := List.map_append (f := fun (n : Nat) => V.int (n : Int))
abbrev bv (l : List Bool) : List V := l.map V.bl
theorem rl_rv {α : Type} {f : α → V} {xs : List α} {v : V} (h : Rl (fun x => Rv (f x)) xs v H) : ∃ p, v = .ref p ∧ H p = some (.lst (xs.map f)) := by
  obtain ⟨p, ys, h1, h2, h3⟩ := h
  exact ⟨p, h1, by rw [h2, pr_rv h3]⟩
theorem rl_of {α : Type} {f : α → V} {xs : List α} {p : Addr} (h : H p = some (.lst (xs.map f))) : Rl (fun x => Rv (f x)) xs (.ref p) H := ⟨p, _, rfl, h, pr_of xs⟩
/-- a list's item -/
theorem rl_at {α : Type} {R : α → As} {xs : List α} {v : V} {i : Nat} {x : α} (h : Rl R xs v H) (hx : xs[i]? = some x) : ∃ p ys y, v = .ref p ∧ H p = some (.lst ys) ∧ ys[i]? = some y ∧ R x y H := by
  obtain ⟨p, ys, h1, h2, h3⟩ := h
  obtain ⟨y, h4, h5⟩ := pr_get h3 hx
  exact ⟨p, ys, y, h1, h2, h4, h5⟩

/-! ### what an expression gives -/
def Ret (H H1 : Hp) (P : As) (Q : VK) : Prop := ∀ v Hk Ha, Wd H H1 Hk Ha → P v Hk → Q v Ha
theorem Ret.go {P : As} {Q : VK} (r : Ret H H1 P Q) (w : Wd H H1 Hk Ha) : Ret Hk Ha P Q := fun v Hk' Ha' u p => r v Hk' Ha' (w.trans u) p
theorem Ret.now {P : As} {Q : VK} {v : V} (r : Ret H H1 P Q) (e : Ex H H1) (p : P v H) : Q v H1 := r v H H1 (Wd.start e) p
def EvP (te : TE) (σ : L2.St) (H : Hp) (P : As) : Prop := ∀ H1, Ex H H1 → ∀ Q : VK, Ret H H1 P Q → te σ H1 Q
def join (H G : Hp) : Hp := fun b => match H b with
  | some o => some o
  | none => G b
theorem ex_join1 {H G : Hp} : Ex H (join H G) := fun b o h => by
  unfold join
  rw [h]
theorem ex_join2 {H G A : Hp} (h1 : Ex H A) (h2 : Ex G A) : Ex G (join H G) := fun b o h => by
  unfold join
  cases q : H b with
  | none => exact h
  | some u =>
    have e1 := h1 b u q
    rw [h2 b o h] at e1
    exact e1.symm
theorem ex_join {H G A : Hp} (h1 : Ex H A) (h2 : Ex G A) : Ex (join H G) A := fun b o h => by
  unfold join at h
  cases q : H b with
  | none =>
    rw [q] at h
    exact h2 b o h
  | some u =>
    rw [q] at h
    exact h1 b o (q.trans h)
theorem EvP.mono {te : TE} {P : As} [m : MonoP P] {H' : Hp} (e : Ex H H') (h : EvP te σ H P) : EvP te σ H' P := fun H1 e1 Q r => h H1 (e.trans e1) Q fun v Hk Ha w p =>
  r v (join Hk H') Ha ⟨ex_join2 w.b (e1.trans w.c), ex_join w.b (e1.trans w.c), w.c, fun b o h1 h2 => by
    have h3 : H b = none := fresh_back e h1
    unfold join
    rw [w.d b o h3 h2]
    exact h1⟩ (m.mono ex_join1 p)
theorem ep_ev {te : TE} {v : V} (h : Ev te σ H v) : EvP te σ H (Rv v) := fun H1 e Q r => h H1 e Q fun H2 e2 => r v H H2 ⟨Ex.refl _, e.trans e2, e2, fun _ _ q _ => q⟩ rfl
theorem ev_ep {te : TE} {v : V} (h : EvP te σ H (Rv v)) : Ev te σ H v := fun H1 e Q r => h H1 e Q fun u Hk Ha w p => by
  have p' : u = v := p
  rw [p']
  exact r Ha w.c
theorem ep_imp {te : TE} {P P' : As} (h : EvP te σ H P) (q : ∀ v H', Ex H H' → P v H' → P' v H') : EvP te σ H P' := fun H1 e Q r => h H1 e Q fun v Hk Ha w p => r v Hk Ha w (q v Hk w.a p)
theorem ep_var {i : Nat} {v : V} {P : As} (h : σ[i]? = some (some v)) (p : P v H) : EvP (tVar i) σ H P := fun H1 e Q r => ⟨v, h, r.now e p⟩
theorem ep_op {r : R2} {ta tb : TE} {P1 P2 P : As} [MonoP P1] [MonoP P2] (ha : EvP ta σ H P1) (hb : EvP tb σ H P2)
    (hr : ∀ x y Hk Ha, Ex H Hk → Ex Hk Ha → P1 x Hk → P2 y Hk → ∀ Q, Ret Hk Ha P Q → r x y Ha Q) : EvP (tOp r ta tb) σ H P := fun H1 e Q ret =>
  ha H1 e _ fun x Hk1 Ha1 w1 p1 => (hb.mono w1.a) Ha1 w1.b _ fun y Hk2 Ha2 w2 p2 => hr x y Hk2 Ha2 (w1.a.trans w2.a) w2.b (MonoP.mono w2.a p1) p2 Q (ret.go (w1.trans w2))
theorem ep_ix {α : Type} {R : α → As} {xs : List α} {x : α} {j : Nat} {ta tb : TE} [∀ a, MonoP (R a)] (ha : EvP ta σ H (Rl R xs)) (hb : EvP tb σ H (Rn j)) (hx : xs[j]? = some x) : EvP (tOp (rIxL K) ta tb) σ H (R x) :=
  ep_op ha hb fun u y Hk Ha e1 e2 p1 p2 Q ret => by
    have p2' : y = .int (j : Int) := p2
    subst p2'
    obtain ⟨p, ys, z, rfl, h2, h3, h4⟩ := rl_at p1 hx
    exact ⟨p, ys, (j : Int), z, rfl, rfl, SqL.of (e2 p _ h2), atI_nat h3, ret.now e2 h4⟩
/-- a known list, perhaps one that was handed in -/
theorem ep_ixS {a : Addr} {xs : List V} {v : V} {j : Nat} {ta tb : TE} (hs : SqL K H a xs) (ha : EvP ta σ H (Rv (.ref a))) (hb : EvP tb σ H (Rn j)) (hx : xs[j]? = some v) : EvP (tOp (rIxL K) ta tb) σ H (Rv v) :=
  ep_op ha hb fun u y Hk Ha e1 e2 p1 p2 Q ret => by
    have p1' : u = .ref a := p1
    have p2' : y = .int (j : Int) := p2
    subst p1' p2'
    exact ⟨a, xs, (j : Int), v, rfl, rfl, ex_l (e1.trans e2) hs, atI_nat hx, ret.now e2 rfl⟩
theorem ep_fst {α β : Type} {R : α → As} {S : β → As} {z : α × β} {ta tb : TE} [∀ a, MonoP (R a)] [∀ b, MonoP (S b)] (ha : EvP ta σ H (Rp R S z)) (hb : EvP tb σ H (Rv (.int 0))) : EvP (tOp (rIxT K) ta tb) σ H (R z.1) :=
  ep_op ha hb fun u y Hk Ha e1 e2 p1 p2 Q ret => by
    have p2' : y = .int 0 := p2
    subst p2'
    obtain ⟨p, a, b, rfl, h2, h3, h4⟩ := p1
    exact ⟨p, _, 0, a, rfl, rfl, SqT.of (e2 p _ h2), rfl, ret.now e2 h3⟩
theorem ep_snd {α β : Type} {R : α → As} {S : β → As} {z : α × β} {ta tb : TE} [∀ a, MonoP (R a)] [∀ b, MonoP (S b)] (ha : EvP ta σ H (Rp R S z)) (hb : EvP tb σ H (Rv (.int 1))) : EvP (tOp (rIxT K) ta tb) σ H (S z.2) :=
  ep_op ha hb fun u y Hk Ha e1 e2 p1 p2 Q ret => by
    have p2' : y = .int 1 := p2
    subst p2'
    obtain ⟨p, a, b, rfl, h2, h3, h4⟩ := p1
    exact ⟨p, _, 1, b, rfl, rfl, SqT.of (e2 p _ h2), rfl, ret.now e2 h4⟩
/-- int by int -/
theorem ep_rv {r : R2} {ta tb : TE} {x y z : V} (ha : EvP ta σ H (Rv x)) (hb : EvP tb σ H (Rv y)) (hr : ∀ H1, RV r x y H1 z) : EvP (tOp r ta tb) σ H (Rv z) := ep_ev (ev_op (ev_ep ha) (ev_ep hb) (hr H))
theorem ep_I0 {g : Int → Int → V} {i j : Int} {ta tb : TE} (ha : EvP ta σ H (Rv (.int i))) (hb : EvP tb σ H (Rv (.int j))) : EvP (tOp (rI0 g) ta tb) σ H (Rv (g i j)) := ep_rv ha hb fun _ => rv_I0
theorem ep_I {C : Int → Int → Prop} {g : Int → Int → V} {i j : Int} {ta tb : TE} (ha : EvP ta σ H (Rv (.int i))) (hb : EvP tb σ H (Rv (.int j))) (hc : C i j) : EvP (tOp (rI C g) ta tb) σ H (Rv (g i j)) := ep_rv ha hb fun _ => rv_I hc
theorem ep_c {v : V} : EvP (tC v) σ H (Rv v) := ep_ev ev_c
theorem ep_is {te : TE} {v w : V} (h : EvP te σ H (Rv v)) (e : v = w) : EvP te σ H (Rv w) := by
  rw [← e]
  exact h
/-- lists glued -/
theorem ep_cat {α : Type} {R : α → As} {xs ys : List α} {ta tb : TE} [m : ∀ a, MonoP (R a)] (ha : EvP ta σ H (Rl R xs)) (hb : EvP tb σ H (Rl R ys)) (hz : xs.length + ys.length ≤ 100000) : EvP (tOp rCat ta tb) σ H (Rl R (xs ++ ys)) :=
  ep_op ha hb fun u w Hk Ha e1 e2 p1 p2 Q ret => by
    obtain ⟨p, us, rfl, h2, h3⟩ := p1
    obtain ⟨q, ws, rfl, h5, h6⟩ := p2
    refine ⟨p, q, us, ws, rfl, rfl, e2 p _ h2, e2 q _ h5, sz_of (by rw [← h3.length, ← h6.length]; exact hz), fun l hl => ?_⟩
    have w0 := (Wd.start e2).new (o := .lst (us ++ ws)) hl
    exact ret _ _ _ w0 ⟨l, _, rfl, upd_same, pr_imp (pr_app h3 h6) fun a b _ z => (m a).mono w0.a z⟩
/-- a list displayed, of values -/
theorem ep_lstV {ta : TA} {vs : List V} (h : EvA ta σ H vs) (hz : vs.length ≤ 100000) : EvP (tLst ta) σ H (fun v H' => ∃ p, v = .ref p ∧ H' p = some (.lst vs)) := fun H1 e Q ret =>
  h H1 e _ fun H2 e2 => ⟨sz_of hz, fun p hp => by
    have w0 := ((Wd.start e).ext e2).new (o := .lst vs) hp
    exact ret _ _ _ w0 ⟨p, rfl, upd_same⟩⟩
theorem ea_c {ta : TE} {tr : TA} {v : V} {vs : List V} (h : EvP ta σ H (Rv v)) (hr : EvA tr σ H vs) : EvA (tCons ta tr) σ H (v :: vs) := ea_cons (ev_ep h) hr
/-- a pair made -/
theorem ep_pair {α β : Type} {R : α → As} {S : β → As} {a : α} {b : β} {ta tb : TE} [m : ∀ a, MonoP (R a)] [n : ∀ b, MonoP (S b)] (ha : EvP ta σ H (R a)) (hb : EvP tb σ H (S b)) : EvP (tTup (tCons ta (tCons tb tNil))) σ H (Rp R S (a, b)) := fun H1 e Q ret =>
  ha H1 e _ fun x Hk1 Ha1 w1 p1 => (hb.mono w1.a) Ha1 w1.b _ fun y Hk2 Ha2 w2 p2 => ⟨by show 2 ≤ sizeLine; decide, fun p hp => by
    have w0 := (w1.trans w2).new (o := .tup [x, y]) hp
    have e2 : Ex Hk2 (upd Hk2 p (.tup [x, y])) := Ex.new (fresh_back w2.b hp)
    exact ret _ _ _ w0 ⟨p, x, y, rfl, upd_same, (m a).mono (w2.a.trans e2) p1, (n b).mono e2 p2⟩⟩
/-- one argument of a built-in -/
theorem ep_cb1 {r : List V → Hp → VK → Prop} {ta : TE} {P1 P : As} (ha : EvP ta σ H P1) (hr : ∀ x Hk Ha, Ex H Hk → Ex Hk Ha → P1 x Hk → ∀ Q, Ret Hk Ha P Q → r [x] Ha Q) : EvP (tCB r (tCons ta tNil)) σ H P := fun H1 e Q ret =>
  ha H1 e _ fun x Hk1 Ha1 w1 p1 => hr x Hk1 Ha1 w1.a w1.b p1 Q (ret.go w1)
theorem ep_len {α : Type} {R : α → As} {xs : List α} {ta : TE} (ha : EvP ta σ H (Rl R xs)) : EvP (tCB (rLenS K) (tCons ta tNil)) σ H (Rn xs.length) := ep_cb1 ha fun u Hk Ha e1 e2 p1 Q ret => by
  obtain ⟨p, ys, rfl, h2, h3⟩ := p1
  refine ⟨p, ys, rfl, Or.inl (SqL.of (e2 p _ h2)), ?_⟩
  rw [← h3.length]
  exact ret.now e2 rfl
theorem ep_all {bs : List Bool} {ta : TE} (ha : EvP ta σ H (Rl Rb bs)) : EvP (tCB (rAll K) (tCons ta tNil)) σ H (Rb (bs.all id)) := ep_cb1 ha fun u Hk Ha e1 e2 p1 Q ret => by
  obtain ⟨p, rfl, h2⟩ := rl_rv p1
  exact ⟨p, bs, rfl, SqL.of (e2 p _ h2), ret.now e2 rfl⟩
theorem inV_nat (x : Nat) : ∀ xs : List Nat, inV (.int (x : Int)) (nv xs) = xs.contains x
  | [] => rfl
  | y :: r => by
    have ih := inV_nat x r
    have e : eqV (.int (y : Int)) (.int (x : Int)) = (x == y) := by
      show decide ((y : Int) = (x : Int)) = _
      by_cases h : x = y
      · subst h; simp
      · rw [beq_eq_false_iff_ne.mpr h]
        exact decide_eq_false (fun q => h (by omega))
    unfold inV at ih ⊢
    show (eqV (.int (y : Int)) (.int (x : Int)) || (nv r).any fun y => eqV y (.int (x : Int))) = _
    rw [ih, e, List.contains_cons]
theorem flat_nat (xs : List Nat) : (nv xs).all flatV = true := by
  rw [List.all_eq_true]
  intro v hv
  obtain ⟨n, _, rfl⟩ := List.mem_map.mp hv
  rfl
theorem ep_notin {x : Nat} {xs : List Nat} {ta tb : TE} (ha : EvP ta σ H (Rn x)) (hb : EvP tb σ H (Rl Rn xs)) : EvP (tOp (rIn K true) ta tb) σ H (Rb (!xs.contains x)) :=
  ep_op ha hb fun u y Hk Ha e1 e2 p1 p2 Q ret => by
    have p1' : u = .int (x : Int) := p1
    subst p1'
    obtain ⟨p, rfl, h2⟩ := rl_rv p2
    refine ⟨p, _, rfl, Or.inl (SqL.of (e2 p _ h2)), rfl, flat_nat xs, ?_⟩
    have e : inV (.int (x : Int)) (nv xs) = xs.contains x := inV_nat x xs
    show Q (.bl (!inV (.int (x : Int)) (nv xs))) Ha
    rw [e]
    exact ret.now e2 rfl
theorem ep_in {x : Nat} {xs : List Nat} {ta tb : TE} (ha : EvP ta σ H (Rn x)) (hb : EvP tb σ H (Rl Rn xs)) : EvP (tOp (rIn K false) ta tb) σ H (Rb (xs.contains x)) :=
  ep_op ha hb fun u y Hk Ha e1 e2 p1 p2 Q ret => by
    have p1' : u = .int (x : Int) := p1
    subst p1'
    obtain ⟨p, rfl, h2⟩ := rl_rv p2
    refine ⟨p, _, rfl, Or.inl (SqL.of (e2 p _ h2)), rfl, flat_nat xs, ?_⟩
    have e : inV (.int (x : Int)) (nv xs) = xs.contains x := inV_nat x xs
    show Q (.bl (inV (.int (x : Int)) (nv xs))) Ha
    rw [e]
    exact ret.now e2 rfl
/-- x in xs, a list that was handed in -/
theorem ep_inS {x : Nat} {xs : List Nat} {a : Addr} {ta tb : TE} (hs : SqL K H a (nv xs)) (ha : EvP ta σ H (Rn x)) (hb : EvP tb σ H (Rv (.ref a))) : EvP (tOp (rIn K false) ta tb) σ H (Rb (xs.contains x)) :=
  ep_op ha hb fun u y Hk Ha e1 e2 p1 p2 Q ret => by
    have p1' : u = .int (x : Int) := p1
    have p2' : y = .ref a := p2
    subst p1' p2'
    refine ⟨a, _, rfl, Or.inl (ex_l (e1.trans e2) hs), rfl, flat_nat xs, ?_⟩
    have e : inV (.int (x : Int)) (nv xs) = xs.contains x := inV_nat x xs
    show Q (.bl (inV (.int (x : Int)) (nv xs))) Ha
    rw [e]
    exact ret.now e2 rfl
/-- xs.index(a) of numbers -/
theorem ep_index {a : Nat} {xs : List Nat} {ta tb : TE} (ha : EvP ta σ H (Rl Rn xs)) (hb : EvP tb σ H (Rn a)) (hm : a ∈ xs) : EvP (tBM K "list" (rIndex K) ta (tCons tb tNil)) σ H (Rn (xs.findIdx fun x => x == a)) := fun H1 e Q ret =>
  ha H1 e _ fun u Hk1 Ha1 w1 p1 => by
    obtain ⟨p, rfl, h2⟩ := rl_rv p1
    refine ⟨Or.inl ⟨rfl, _, SqL.of (w1.b p _ h2)⟩, (hb.mono w1.a) Ha1 w1.b _ fun y Hk2 Ha2 w2 p2 => ?_⟩
    have p2' : y = .int (a : Int) := p2
    subst p2'
    have hlt : (xs.findIdx fun x => x == a) < xs.length := List.findIdx_lt_length_of_exists ⟨a, hm, by simp⟩
    have hz := List.findIdx_getElem (w := hlt)
    have eqn : ∀ x : Nat, eqV (.int (x : Int)) (.int (a : Int)) = (x == a) := fun x => by
      show decide ((x : Int) = (a : Int)) = _
      by_cases h : x = a
      · subst h; simp
      · rw [beq_eq_false_iff_ne.mpr h]
        exact decide_eq_false (fun q => h (by omega))
    refine ⟨p, nv xs, .int (a : Int), xs.findIdx fun x => x == a, .int ((xs[xs.findIdx fun x => x == a] : Nat) : Int), rfl, rfl, SqL.of (w2.b p _ (w2.a p _ h2)), rfl, flat_nat xs, ?_, ?_, fun m z hm hz' => ?_, ret.go (w1.trans w2) |>.now w2.b rfl⟩
    · rw [List.getElem?_map, List.getElem?_eq_getElem hlt]
      rfl
    · rw [eqn]
      exact hz
    · rw [List.getElem?_map] at hz'
      have hml : m < xs.length := by omega
      rw [List.getElem?_eq_getElem hml] at hz'
      have hz2 := Option.some.inj hz'
      subst hz2
      rw [eqn]
      exact Bool.eq_false_iff.mpr (by simpa using List.not_of_lt_findIdx hm)

/-- a <= b <= c and the like -/
theorem ep_chain {g1 g2 : Int → Int → Bool} {a b c : Int} {ta tb tc : TE} (ha : EvP ta σ H (Rv (.int a))) (hb : EvP tb σ H (Rv (.int b))) (hc : EvP tc σ H (Rv (.int c))) :
    EvP (tChain (rI0 fun i j => .bl (g1 i j)) (rI0 fun i j => .bl (g2 i j)) ta tb tc) σ H (Rb (g1 a b && g2 b c)) := ep_ev fun H1 e Q q =>
  (ev_ep ha) H1 e _ fun H2 e2 => (ev_ep hb) H2 (e.trans e2) _ fun H3 e3 => ⟨a, b, rfl, rfl, g1 a b, rfl, by
    cases hg : g1 a b with
    | true =>
      simp only [hg, Bool.true_and] at q
      show tc σ H3 _
      exact (ev_ep hc) H3 ((e.trans e2).trans e3) _ fun H4 e4 => ⟨b, c, rfl, rfl, q H4 ((e2.trans e3).trans e4)⟩
    | false =>
      simp only [hg, Bool.false_and] at q
      show Q (.bl false) H3
      exact q H3 (e2.trans e3)⟩
theorem ep_ifI {t : TT} {b : Bool} {x y : Int} {ta tb : TE} (h : EvT t σ H b) (ha : EvP ta σ H (Rv (.int x))) (hb : EvP tb σ H (Rv (.int y))) : EvP (tIf t ta tb) σ H (Rv (.int (if b = true then x else y))) := ep_ev (ev_if h
  (fun e => by
    rw [e]
    exact ev_ep ha) (fun e => by
    rw [e]
    exact ev_ep hb))

/-! ### tests -/
theorem et_of {te : TE} {b : Bool} (h : EvP te σ H (Rb b)) : EvT (tTest te) σ H b := et_test (ev_ep h)
theorem et_ofB {te : TE} {b : Bool} (h : EvP te σ H (Rb b)) : EvT (tB te) σ H b := et_B (ev_ep h)

/-! ### calls -/
def SpOf (Pre : List V → Hp → As → Prop) : Sp := fun vs H1 Q _ => ∃ H P, Ex H H1 ∧ Pre vs H P ∧ Ret H H1 P Q
variable {Pre : List V → Hp → As → Prop} {E : XK} {ta tb tc td : TE} {P P1 P2 P3 P4 : As}
theorem ep_call1 [MonoP P1] (ha : EvP ta σ H P1) (hp : ∀ x Hk, Ex H Hk → P1 x Hk → Pre [x] Hk P) : EvP (tCall (SpOf Pre) [] E (tCons ta tNil)) σ H P := fun H1 e Q ret =>
  ha H1 e _ fun x Hk1 Ha1 w1 p1 => ⟨Hk1, P, w1.b, hp x Hk1 w1.a p1, ret.go w1⟩
theorem ep_call2 [MonoP P1] [MonoP P2] (ha : EvP ta σ H P1) (hb : EvP tb σ H P2) (hp : ∀ x y Hk, Ex H Hk → P1 x Hk → P2 y Hk → Pre [x, y] Hk P) : EvP (tCall (SpOf Pre) [] E (tCons ta (tCons tb tNil))) σ H P := fun H1 e Q ret =>
  ha H1 e _ fun x Hk1 Ha1 w1 p1 => (hb.mono w1.a) Ha1 w1.b _ fun y Hk2 Ha2 w2 p2 => ⟨Hk2, P, w2.b, hp x y Hk2 (w1.a.trans w2.a) (MonoP.mono w2.a p1) p2, ret.go (w1.trans w2)⟩
theorem ep_call3 [MonoP P1] [MonoP P2] [MonoP P3] (ha : EvP ta σ H P1) (hb : EvP tb σ H P2) (hc : EvP tc σ H P3) (hp : ∀ x y z Hk, Ex H Hk → P1 x Hk → P2 y Hk → P3 z Hk → Pre [x, y, z] Hk P) : EvP (tCall (SpOf Pre) [] E (tCons ta (tCons tb (tCons tc tNil)))) σ H P := fun H1 e Q ret =>
  ha H1 e _ fun x Hk1 Ha1 w1 p1 => (hb.mono w1.a) Ha1 w1.b _ fun y Hk2 Ha2 w2 p2 => (hc.mono (w1.a.trans w2.a)) Ha2 w2.b _ fun z Hk3 Ha3 w3 p3 =>
    ⟨Hk3, P, w3.b, hp x y z Hk3 ((w1.a.trans w2.a).trans w3.a) (MonoP.mono (w2.a.trans w3.a) p1) (MonoP.mono w3.a p2) p3, ret.go ((w1.trans w2).trans w3)⟩
theorem ep_call4 [MonoP P1] [MonoP P2] [MonoP P3] [MonoP P4] (ha : EvP ta σ H P1) (hb : EvP tb σ H P2) (hc : EvP tc σ H P3) (hd : EvP td σ H P4) (hp : ∀ x y z u Hk, Ex H Hk → P1 x Hk → P2 y Hk → P3 z Hk → P4 u Hk → Pre [x, y, z, u] Hk P) : EvP (tCall (SpOf Pre) [] E (tCons ta (tCons tb (tCons tc (tCons td tNil))))) σ H P := fun H1 e Q ret =>
  ha H1 e _ fun x Hk1 Ha1 w1 p1 => (hb.mono w1.a) Ha1 w1.b _ fun y Hk2 Ha2 w2 p2 => (hc.mono (w1.a.trans w2.a)) Ha2 w2.b _ fun z Hk3 Ha3 w3 p3 => (hd.mono ((w1.a.trans w2.a).trans w3.a)) Ha3 w3.b _ fun u Hk4 Ha4 w4 p4 =>
    ⟨Hk4, P, w4.b, hp x y z u Hk4 (((w1.a.trans w2.a).trans w3.a).trans w4.a) (MonoP.mono ((w2.a.trans w3.a).trans w4.a) p1) (MonoP.mono (w3.a.trans w4.a) p2) (MonoP.mono w4.a p3) p4, ret.go (((w1.trans w2).trans w3).trans w4)⟩
/-- an instance whose fields are told -/
def Ins (C : Addr) (fs : List (Str × V)) : As := fun v H => ∃ x dx, v = .ref x ∧ H x = some (.ins C dx fs)
theorem ep_fld {C : Addr} {fs : List (Str × V)} {f : Str} {u : V} (c : Cls K C) (n : NoAttr K C f) (ha : EvP ta σ H (Ins C fs)) (l : fs.lookup f = some u) : EvP (tFld K ta f) σ H (Rv u) := fun H1 e Q ret =>
  ha H1 e _ fun v Hk Ha w p => by
    obtain ⟨x, dx, rfl, h2⟩ := p
    exact ⟨x, C, dx, fs, u, rfl, w.b x _ h2, c, n, l, (ret.go w).now w.b rfl⟩

/-- a def of the text: where it stands, its name, how its arguments bind -/
structure Dn (K : PySem.W.Frag) (mg : Str → Option Value) (x qual : Str) (st : Stmt) (ps : List Str) (f : Addr) (fd : FuncData) : Prop where
  F : Fun K x qual st f fd
  g : mg x = some (.ref f)
  b : Binds K fd ps []
/-- a list of ints -/
def Zl (l : List Int) : As := fun v H => ∃ p, v = .ref p ∧ H p = some (.lst (l.map V.int))
instance : MonoP (Zl l) := ⟨fun e h => by
  obtain ⟨p, h1, h2⟩ := h
  exact ⟨p, h1, e p _ h2⟩⟩
theorem ep_zl {ta : TA} {l : List Int} (h : EvA ta σ H (l.map V.int)) (hz : l.length ≤ 100000) : EvP (tLst ta) σ H (Zl l) := ep_lstV h (by rw [List.length_map]; exact hz)
theorem ea_z {ta : TE} {tr : TA} {i : Int} {l : List Int} (h : EvP ta σ H (Rv (.int i))) (hr : EvA tr σ H (l.map V.int)) : EvA (tCons ta tr) σ H ((i :: l).map V.int) := ea_c h hr
theorem ea_zn : EvA tNil σ H (([] : List Int).map V.int) := ea_nil

/-! ### comprehensions -/
/-- the loop of one: what it walks gives items one after another -/
structure Cst (H H1 : Hp) (D : Addr) {γ : Type} (S : γ → As) (done : List γ) (H' : Hp) : Prop where
  hd : H D = none
  h1 : H1 D = none
  ex : ∃ Hk zs, Wd H H1 Hk H' ∧ Hk D = none ∧ H' D = some (.lst zs) ∧ Paired (fun x y => S x y Hk) done zs
theorem Cst.start {D : Addr} {γ : Type} {S : γ → As} (e : Ex H H1) (h : H1 D = none) : Cst H H1 D S [] (upd H1 D (.lst [])) :=
  ⟨fresh_back e h, h, H, [], (Wd.start e).mut (fresh_back e h) h, fresh_back e h, upd_same, .nil⟩
theorem Cst.fin {D : Addr} {γ : Type} {S : γ → As} {done : List γ} {H' : Hp} {Q : VK} [m : ∀ a, MonoP (S a)] (c : Cst H H1 D S done H') (ret : Ret H H1 (Rl S done) Q) : Q (.ref D) H' := by
  obtain ⟨h0, h1, Hk, zs, w, hk, hd, hp⟩ := c
  have w2 := w.pub hd hk h1
  exact ret _ _ _ w2 ⟨D, zs, rfl, upd_same, pr_imp hp fun a b _ q => (m a).mono (Ex.new hk) q⟩
/-- one turn: the test, the element -/
theorem Cst.turn {D : Addr} {γ : Type} {S : γ → As} {done : List γ} {H' : Hp} {tt : TT} {te : TE} {σ2 : L2.St} {b : Bool} {y : γ} {Nx : Hp → Prop} [m : ∀ a, MonoP (S a)] (c : Cst H H1 D S done H') (hz : done.length < 90000)
    (ht : EvT tt σ2 H b) (he : b = true → EvP te σ2 H (S y)) (nx : ∀ H'', Cst H H1 D S (if b = true then done ++ [y] else done) H'' → Nx H'') :
    tt σ2 H' fun b H3 => if b = true then te σ2 H3 fun y H4 => ∃ acc, H4 D = some (.lst acc) ∧ acc.length < sizeLine ∧ Nx (upd H4 D (.lst (acc ++ [y]))) else Nx H3 := by
  obtain ⟨h0, h1, Hk, zs, w, hk, hd, hp⟩ := c
  refine ht H' (w.a.trans w.b) _ fun H3 e3 => ?_
  have w3 := w.ext e3
  cases b with
  | false => exact nx H3 ⟨h0, h1, Hk, zs, w3, hk, e3 D _ hd, hp⟩
  | true =>
    refine ((he rfl).mono w3.a) H3 w3.b _ fun v Hk4 Ha4 w4 p4 => ?_
    obtain ⟨hk4, hd4⟩ := w4.off hk (e3 D _ hd)
    have hl : zs.length < 90000 := by rw [← hp.length]; exact hz
    refine ⟨zs, hd4, sz_lt (by omega), nx _ ⟨h0, h1, Hk4, zs ++ [v], (w3.trans w4).mut hk4 h1, hk4, upd_same, ?_⟩⟩
    exact Paired.snoc (pr_imp hp fun a b _ q => (m a).mono w4.a q) p4
/-- Wd, the entry's knowledge forgotten -/
theorem Cst.ofStart {D : Addr} {γ : Type} {S : γ → As} {done : List γ} {H' : Hp} (c : Cst H H1 D S done H') : Ex H H' ∧ Ex H1 H' := by
  obtain ⟨h0, h1, Hk, zs, w, hk, hd, hp⟩ := c
  exact ⟨w.a.trans w.b, w.c⟩
def outs {α γ : Type} (f : α → Bool) (el : α → γ) (xs : List α) : List γ := (xs.filter f).map el
theorem outs_more {α γ : Type} {f : α → Bool} {el : α → γ} {xs : List α} {i : Nat} {x : α} (h : xs[i]? = some x) : outs f el (xs.take (i + 1)) = if f x = true then outs f el (xs.take i) ++ [el x] else outs f el (xs.take i) := by
  unfold outs
  rw [take_succ_filter f xs i x h, List.map_append]
  cases f x with
  | true => rfl
  | false => simp
theorem outs_len {α γ : Type} (f : α → Bool) (el : α → γ) (xs : List α) (i : Nat) : (outs f el (xs.take i)).length ≤ xs.length := by
  unfold outs
  rw [List.length_map]
  refine Nat.le_trans (List.length_filter_le _ _) ?_
  rw [List.length_take]
  omega
section
variable {α γ : Type} {R : α → As} {S : γ → As} [mR : ∀ a, MonoP (R a)] [mS : ∀ c, MonoP (S c)] {xs : List α} {tl te : TE} {tt : TT} {vs : List Nat} {g : TG}
/-- [el for x in xs if f], xs a list that is known -/
theorem ep_lc (f : α → Bool) (el : α → γ) (hl : EvP tl σ H (Rl R xs)) (hz : xs.length < 90000)
    (turn : ∀ x v Hk Ha, x ∈ xs → Ex H Hk → Ex Hk Ha → R x v Hk → ∀ Q' : L2.St → Hp → Prop, (∀ σ2, wipe σ2 vs = wipe σ vs → EvT tt σ2 Hk (f x) → (f x = true → EvP te σ2 Hk (S (el x))) → Q' σ2 Ha) → g v (wipe σ vs) Ha Q') :
    EvP (tLc (iList K tl) g tt te vs) σ H (Rl S (outs f el xs)) := fun H1 e Q ret =>
  hl H1 e _ fun v Hk0 Ha0 w0 p0 => by
    obtain ⟨a, ys, rfl, h2, h3⟩ := p0
    refine ⟨a, rfl, ⟨ys, SqL.of (w0.b a _ h2)⟩, fun D hD => ?_⟩
    refine lc_list (K := K) (a := a) (xs := ys) (fun i H' => Cst Hk0 Ha0 D S (outs f el (xs.take i)) H') (Cst.start w0.b hD) (fun i H' _ c => SqL.of (c.ofStart.1 a _ h2)) (fun i y H' hy c => ?_) fun H' c => ?_
    · obtain ⟨x, hx, hr⟩ := pr_back h3 hy
      refine turn x y Hk0 H' (List.mem_of_getElem? hx) w0.a c.ofStart.1 hr _ fun σ2 hw ht he => ⟨hw, ?_⟩
      refine c.turn (Nat.lt_of_le_of_lt (outs_len f el xs i) hz) ht he fun H'' c' => ?_
      rw [outs_more hx]
      exact c'
    · rw [← h3.length, List.take_length] at c
      exact c.fin (ret.go w0)
/-- .. xs handed in -/
theorem ep_lcS {a : Addr} {ys : List V} (f : α → Bool) (el : α → γ) (hl : EvP tl σ H (Rv (.ref a))) (hs : SqL K H a ys) (h3 : Paired (fun x y => R x y H) xs ys) (hz : xs.length < 90000)
    (turn : ∀ x v Hk Ha, x ∈ xs → Ex H Hk → Ex Hk Ha → R x v Hk → ∀ Q' : L2.St → Hp → Prop, (∀ σ2, wipe σ2 vs = wipe σ vs → EvT tt σ2 Hk (f x) → (f x = true → EvP te σ2 Hk (S (el x))) → Q' σ2 Ha) → g v (wipe σ vs) Ha Q') :
    EvP (tLc (iList K tl) g tt te vs) σ H (Rl S (outs f el xs)) := fun H1 e Q ret =>
  hl H1 e _ fun v Hk0 Ha0 w0 p0 => by
    have p0' : v = .ref a := p0
    subst p0'
    refine ⟨a, rfl, ⟨ys, ex_l (w0.a.trans w0.b) hs⟩, fun D hD => ?_⟩
    refine lc_list (K := K) (a := a) (xs := ys) (fun i H' => Cst Hk0 Ha0 D S (outs f el (xs.take i)) H') (Cst.start w0.b hD) (fun i H' _ c => ex_l (w0.a.trans c.ofStart.1) hs) (fun i y H' hy c => ?_) fun H' c => ?_
    · obtain ⟨x, hx, hr⟩ := pr_back h3 hy
      refine turn x y Hk0 H' (List.mem_of_getElem? hx) w0.a c.ofStart.1 ((mR x).mono w0.a hr) _ fun σ2 hw ht he => ⟨hw, ?_⟩
      refine c.turn (Nat.lt_of_le_of_lt (outs_len f el xs i) hz) ht he fun H'' c' => ?_
      rw [outs_more hx]
      exact c'
    · rw [← h3.length, List.take_length] at c
      exact c.fin (ret.go w0)
/-- over range(n) -/
theorem ep_lcR {ta : TE} {n j : Nat} (f : Nat → Bool) (el : Nat → γ) (ha : EvP ta σ H (Rn n)) (hz : n < 90000) (hw : ∀ v, wipe ((wipe σ vs).set j (some v)) vs = wipe σ vs)
    (ht : ∀ (i : Nat) Hk, i < n → Ex H Hk → EvT tt ((wipe σ vs).set j (some (.int (i : Int)))) Hk (f i))
    (he : ∀ (i : Nat) Hk, i < n → Ex H Hk → f i = true → EvP te ((wipe σ vs).set j (some (.int (i : Int)))) Hk (S (el i))) :
    EvP (tLc (iRng1 (tCons ta tNil)) (gName j) tt te vs) σ H (Rl S (outs f el (List.range n))) := fun H1 e Q ret =>
  ha H1 e _ fun v Hk0 Ha0 w0 p0 => by
    have p0' : v = .int (n : Int) := p0
    subst p0'
    refine ⟨(n : Int), rfl, by omega, by omega, fun D hD => ?_⟩
    have en : ((n : Int)).toNat = n := by omega
    rw [en]
    refine lc_range (lo := 0) (n := n) (fun i H' => Cst Hk0 Ha0 D S (outs f el ((List.range n).take i)) H') (Cst.start w0.b hD) (fun i H' hi c => ?_) fun H' c => ?_
    · have e0 : (0 : Int) + (i : Int) = (i : Int) := Int.zero_add _
      have hx : (List.range n)[i]? = some i := by simp [hi]
      show wipe ((wipe σ vs).set j (some (.int ((0 : Int) + (i : Int))))) vs = wipe σ vs ∧ _
      rw [e0]
      refine ⟨hw _, ?_⟩
      refine c.turn (b := f i) (y := el i) (Nat.lt_of_le_of_lt (outs_len f el _ i) (by rw [List.length_range]; exact hz)) (ht i Hk0 hi w0.a) (he i Hk0 hi w0.a) fun H'' c' => ?_
      rw [outs_more hx]
      exact c'
    · have el0 : (List.range n).take n = List.range n := by rw [List.take_of_length_le]; simp
      rw [el0] at c
      exact c.fin (ret.go w0)
/-- over enumerate(xs), the pair taken apart -/
theorem ep_lcE {ta : TE} {i1 i2 : Nat} (f : Nat × α → Bool) (el : Nat × α → γ) (hl : EvP ta σ H (Rl R xs)) (hz : xs.length < 90000) (hw : ∀ v u, wipe (((wipe σ vs).set i1 (some v)).set i2 (some u)) vs = wipe σ vs)
    (ht : ∀ (i : Nat) (x : α) (v : V) Hk, xs[i]? = some x → Ex H Hk → R x v Hk → EvT tt (((wipe σ vs).set i1 (some (.int (i : Int)))).set i2 (some v)) Hk (f (i, x)))
    (he : ∀ (i : Nat) (x : α) (v : V) Hk, xs[i]? = some x → Ex H Hk → R x v Hk → f (i, x) = true → EvP te (((wipe σ vs).set i1 (some (.int (i : Int)))).set i2 (some v)) Hk (S (el (i, x)))) :
    EvP (tLc (iEnum K (tCons ta tNil)) (gTup K 2 (gCons (gName i1) (gCons (gName i2) gNil))) tt te vs) σ H (Rl S (outs f el ((List.range xs.length).zip xs))) := fun H1 e Q ret =>
  hl H1 e _ fun v Hk0 Ha0 w0 p0 => by
    obtain ⟨a, ys, rfl, h2, h3⟩ := p0
    have hlen := h3.length
    refine ⟨a, ys, rfl, SqL.of (w0.b a _ h2), fun D hD => ?_⟩
    refine ⟨fun i m H' => m = ys.length - i ∧ i ≤ ys.length ∧ Cst Hk0 Ha0 D S (outs f el (((List.range xs.length).zip xs).take i)) H', ⟨ys.length, by simp, Nat.zero_le _, Cst.start w0.b hD⟩, ?_⟩
    rintro i m H' ⟨rfl, hi, c⟩
    have hq : SqL K H' a ys := SqL.of (c.ofStart.1 a _ h2)
    by_cases hlt : i < ys.length
    · refine .inr ⟨⟨ys, ys[i], hq, by simp [hlt]⟩, fun H'' => Cst Hk0 Ha0 D S (outs f el (((List.range xs.length).zip xs).take (i + 1))) H'', fun H'' p' => ⟨ys.length - (i + 1), by omega, rfl, hlt, p'⟩, fun z H'' yl => ?_⟩
      obtain ⟨T, y, rfl, hT, rfl, hy⟩ := yl
      have hyi := hy ys hq
      obtain ⟨x, hx, hr⟩ := pr_back h3 hyi
      have hne : T ≠ D := by
        obtain ⟨_, _, _, _, _, _, hd, _⟩ := c
        exact (ne_of_none hd hT).symm
      have c2 : Cst Hk0 Ha0 D S (outs f el (((List.range xs.length).zip xs).take i)) (upd H' T (.tup [.int (i : Nat), y])) := by
        obtain ⟨g0, g1, Hk, zs, w, hk, hd, hp⟩ := c
        exact ⟨g0, g1, Hk, zs, w.ext (Ex.new hT), hk, by rw [upd_ne (Ne.symm hne)]; exact hd, hp⟩
      refine ⟨T, _, rfl, SqT.of upd_same, rfl, _, _, rfl, _, _, rfl, rfl, hw _ _, ?_⟩
      have hzip : ((List.range xs.length).zip xs)[i]? = some (i, x) := by
        have hil : i < xs.length := by omega
        rw [List.getElem?_zip_eq_some]
        exact ⟨by simp [hil], hx⟩
      refine c2.turn (b := f (i, x)) (y := el (i, x)) (Nat.lt_of_le_of_lt (outs_len f el _ i) (by simp; exact hz)) (ht i x y Hk0 hx w0.a hr) (he i x y Hk0 hx w0.a hr) fun H'' c' => ?_
      rw [outs_more hzip]
      exact c'
    · have e1 : i = ys.length := by omega
      subst e1
      have el0 : ((List.range xs.length).zip xs).take ys.length = (List.range xs.length).zip xs := by
        rw [List.take_of_length_le]
        simp
        omega
      rw [el0] at c
      exact .inl ⟨⟨ys, hq, Nat.le_refl _⟩, c.fin (ret.go w0)⟩
end
/-- the name's slot stored: the turn of a comprehension whose target is a name -/
theorem tn_name {α γ : Type} {R : α → As} {S : γ → As} {xs : List α} {te : TE} {tt : TT} {vs : List Nat} {j : Nat} {f : α → Bool} {el : α → γ} (hw : ∀ v, wipe ((wipe σ vs).set j (some v)) vs = wipe σ vs)
    (ht : ∀ x v Hk, x ∈ xs → Ex H Hk → R x v Hk → EvT tt ((wipe σ vs).set j (some v)) Hk (f x)) (he : ∀ x v Hk, x ∈ xs → Ex H Hk → R x v Hk → f x = true → EvP te ((wipe σ vs).set j (some v)) Hk (S (el x))) :
    ∀ x v Hk Ha, x ∈ xs → Ex H Hk → Ex Hk Ha → R x v Hk → ∀ Q' : L2.St → Hp → Prop, (∀ σ2, wipe σ2 vs = wipe σ vs → EvT tt σ2 Hk (f x) → (f x = true → EvP te σ2 Hk (S (el x))) → Q' σ2 Ha) → gName j v (wipe σ vs) Ha Q' :=
  fun x v Hk Ha hx e1 e2 r Q' q => q _ (hw v) (ht x v Hk hx e1 r) (he x v Hk hx e1 r)
/-- a pair taken apart -/
theorem tn_pair {α β γ : Type} {R1 : α → As} {R2 : β → As} {S : γ → As} {xs : List (α × β)} {te : TE} {tt : TT} {vs : List Nat} {i j : Nat} {f : α × β → Bool} {el : α × β → γ} (hw : ∀ v u, wipe (((wipe σ vs).set i (some v)).set j (some u)) vs = wipe σ vs)
    (ht : ∀ x v u Hk, x ∈ xs → Ex H Hk → R1 x.1 v Hk → R2 x.2 u Hk → EvT tt (((wipe σ vs).set i (some v)).set j (some u)) Hk (f x))
    (he : ∀ x v u Hk, x ∈ xs → Ex H Hk → R1 x.1 v Hk → R2 x.2 u Hk → f x = true → EvP te (((wipe σ vs).set i (some v)).set j (some u)) Hk (S (el x))) :
    ∀ x v Hk Ha, x ∈ xs → Ex H Hk → Ex Hk Ha → Rp R1 R2 x v Hk → ∀ Q' : L2.St → Hp → Prop, (∀ σ2, wipe σ2 vs = wipe σ vs → EvT tt σ2 Hk (f x) → (f x = true → EvP te σ2 Hk (S (el x))) → Q' σ2 Ha) → gTup K 2 (gCons (gName i) (gCons (gName j) gNil)) v (wipe σ vs) Ha Q' :=
  fun x v Hk Ha hx e1 e2 r Q' q => by
    obtain ⟨p, a, b, rfl, h2, h3, h4⟩ := r
    exact ⟨p, _, rfl, SqT.of (e2 p _ h2), rfl, _, _, rfl, _, _, rfl, rfl, q _ (hw a b) (ht x a b Hk hx e1 h3 h4) (he x a b Hk hx e1 h3 h4)⟩
theorem et_yes : EvT tYes σ H true := fun H1 _ Q q => q H1 (Ex.refl _)
theorem outs_all {α γ : Type} (el : α → γ) (xs : List α) : outs (fun _ => true) el xs = xs.map el := by
  unfold outs
  rw [List.filter_eq_self.mpr fun _ _ => rfl]

/-! ### statements -/
section
variable {D : Ends} {tz tu tw : TS} {P0 : As} {i : Nat}
theorem p_asg (w : Wd H H1 Hk Ha) (h : EvP ta σ Hk P0) (k : ∀ v Hk2 Ha2, Wd H H1 Hk2 Ha2 → Wd Hk Ha Hk2 Ha2 → P0 v Hk2 → tz D (σ.set i (some v)) Ha2) : tSeq (tAsg ta (gName i)) tz D σ Ha :=
  h Ha w.b _ fun v Hk2 Ha2 u p => k v Hk2 Ha2 (w.trans u) u p
theorem p_ret {Q : VK} (w : Wd H H1 Hk Ha) (h : EvP ta σ Hk P0) (r : Ret H H1 P0 Q) (hq : D.rt = Q) : tRet ta D σ Ha := by
  subst hq
  exact h Ha w.b _ (r.go w)
theorem p_if {t : TT} {b : Bool} (w : Wd H H1 Hk Ha) (h : EvT t σ Hk b) (h1 : b = true → ∀ Ha2, Wd H H1 Hk Ha2 → Ex Ha Ha2 → tu { D with nx := tz D } σ Ha2) (h2 : b = false → ∀ Ha2, Wd H H1 Hk Ha2 → Ex Ha Ha2 → tw { D with nx := tz D } σ Ha2) : tSeq (tIfS t tu tw) tz D σ Ha :=
  h Ha w.b _ fun H2 e2 => by
    cases b with
    | true => exact h1 rfl H2 (w.ext e2) e2
    | false => exact h2 rfl H2 (w.ext e2) e2
theorem p_if1 {t : TT} {b : Bool} (w : Wd H H1 Hk Ha) (h : EvT t σ Hk b) (h1 : b = true → ∀ Ha2, Wd H H1 Hk Ha2 → Ex Ha Ha2 → tu D σ Ha2) (h2 : b = false → ∀ Ha2, Wd H H1 Hk Ha2 → Ex Ha Ha2 → tw D σ Ha2) : tIfS t tu tw D σ Ha :=
  h Ha w.b _ fun H2 e2 => by
    cases b with
    | true => exact h1 rfl H2 (w.ext e2) e2
    | false => exact h2 rfl H2 (w.ext e2) e2
/-- for x in xs, a known list; Inv by the turn, the slots and the heap -/
theorem p_forL {α : Type} {R : α → As} [mR : ∀ a, MonoP (R a)] {xs : List α} {g : TG} {tl : TE} (w : Wd H H1 Hk Ha) (hl : EvP tl σ Hk (Rl R xs)) (Iv : Nat → L2.St → Hp → Hp → Hp → Prop)
    (ex : ∀ i σ' Hk0 Ha0 H', Iv i σ' Hk0 Ha0 H' → Ex Hk0 H') (h0 : ∀ Hk0 Ha0, Wd H H1 Hk0 Ha0 → Wd Hk Ha Hk0 Ha0 → Iv 0 σ Hk0 Ha0 Ha0)
    (hs : ∀ Hk0 Ha0, Wd H H1 Hk0 Ha0 → Wd Hk Ha Hk0 Ha0 → ∀ i x v σ' H', xs[i]? = some x → R x v Hk0 → Iv i σ' Hk0 Ha0 H' → g v σ' H' fun σ2 H2 => tu { D with nx := fun σ3 H3 => Iv (i + 1) σ3 Hk0 Ha0 H3, ct := fun σ3 H3 => Iv (i + 1) σ3 Hk0 Ha0 H3, bk := tz D } σ2 H2)
    (hd : ∀ Hk0 Ha0 σ' H', Wd H H1 Hk0 Ha0 → Wd Hk Ha Hk0 Ha0 → Iv xs.length σ' Hk0 Ha0 H' → tz D σ' H') : tSeq (tFor (iList K tl) g tu) tz D σ Ha :=
  hl Ha w.b _ fun v Hk0 Ha0 u p => by
    obtain ⟨a, ys, rfl, h2, h3⟩ := p
    refine ⟨a, rfl, ⟨ys, SqL.of (u.b a _ h2)⟩, for_list (K := K) (a := a) (xs := ys) (fun i σ' H' => Iv i σ' Hk0 Ha0 H') (h0 Hk0 Ha0 (w.trans u) u) (fun i σ' H' _ q => SqL.of (ex _ _ _ _ _ q a _ h2)) (fun i y σ' H' hy q => ?_) fun σ' H' q => ?_⟩
    · obtain ⟨x, hx, hr⟩ := pr_back h3 hy
      exact hs Hk0 Ha0 (w.trans u) u i x y σ' H' hx hr q
    · rw [← h3.length] at q
      exact hd Hk0 Ha0 σ' H' (w.trans u) u q
/-- for i in range(n) -/
theorem p_forR {n j : Nat} {tl : TE} (w : Wd H H1 Hk Ha) (hl : EvP tl σ Hk (Rn n)) (hn : n < 90000) (Iv : Nat → L2.St → Hp → Prop)
    (h0 : ∀ Ha0, Wd H H1 Hk Ha0 → Ex Ha Ha0 → Iv 0 σ Ha0)
    (hs : ∀ i σ' H', i < n → Iv i σ' H' → tu { D with nx := Iv (i + 1), ct := Iv (i + 1), bk := tz D } (σ'.set j (some (.int (i : Int)))) H')
    (hd : ∀ σ' H', Iv n σ' H' → tz D σ' H') : tSeq (tFor (iRng1 (tCons tl tNil)) (gName j) tu) tz D σ Ha :=
  ev_ep hl Ha w.b _ fun H2 e2 => by
    refine ⟨(n : Int), rfl, by omega, by omega, ?_⟩
    have en : ((n : Int)).toNat = n := by omega
    rw [en]
    refine for_range (lo := 0) (n := n) Iv (h0 H2 (w.ext e2) e2) (fun i σ' H' hi q => ?_) hd
    have e0 : (0 : Int) + (i : Int) = (i : Int) := Int.zero_add _
    show tu _ (σ'.set j (some (.int ((0 : Int) + (i : Int))))) H'
    rw [e0]
    exact hs i σ' H' hi q
/-- for i in range(lo, n) -/
theorem p_forR2 {lo n j : Nat} {tl tl2 : TE} (w : Wd H H1 Hk Ha) (hl : EvP tl σ Hk (Rn lo)) (hl2 : EvP tl2 σ Hk (Rn n)) (hn : n < 90000) (hlo : lo ≤ n) (Iv : Nat → L2.St → Hp → Prop)
    (h0 : ∀ Ha0, Wd H H1 Hk Ha0 → Ex Ha Ha0 → Iv lo σ Ha0)
    (hs : ∀ i σ' H', lo ≤ i → i < n → Iv i σ' H' → tu { D with nx := Iv (i + 1), ct := Iv (i + 1), bk := tz D } (σ'.set j (some (.int (i : Int)))) H')
    (hd : ∀ σ' H', Iv n σ' H' → tz D σ' H') : tSeq (tFor (iRng2 (tCons tl (tCons tl2 tNil))) (gName j) tu) tz D σ Ha :=
  ev_ep hl Ha w.b _ fun H2 e2 => (ev_ep hl2) H2 (w.b.trans e2) _ fun H3 e3 => by
    refine ⟨(lo : Int), (n : Int), rfl, ⟨by omega, by omega, by omega, by omega⟩, ?_⟩
    have en : ((n : Int) - (lo : Int)).toNat = n - lo := by omega
    rw [en]
    refine for_range (lo := (lo : Int)) (n := n - lo) (fun i => Iv (lo + i)) (h0 H3 (w.ext (e2.trans e3)) (e2.trans e3)) (fun i σ' H' hi q => ?_) fun σ' H' q => ?_
    · have e0 : (lo : Int) + (i : Int) = ((lo + i : Nat) : Int) := by omega
      show tu _ (σ'.set j (some (.int ((lo : Int) + (i : Int))))) H'
      rw [e0]
      exact hs (lo + i) σ' H' (by omega) (by omega) q
    · have e0 : lo + (n - lo) = n := by omega
      rw [e0] at q
      exact hd σ' H' q
/-- for i, x in enumerate(xs), a known list -/
theorem p_forE {α : Type} {R : α → As} [mR : ∀ a, MonoP (R a)] {xs : List α} {i1 i2 : Nat} {tl : TE} (w : Wd H H1 Hk Ha) (hl : EvP tl σ Hk (Rl R xs)) (Iv : Nat → L2.St → Hp → Hp → Hp → Prop)
    (ex : ∀ i σ' Hk0 Ha0 H', Iv i σ' Hk0 Ha0 H' → Ex Hk0 H') (new : ∀ i σ' Hk0 Ha0 H' T o, H' T = none → Iv i σ' Hk0 Ha0 H' → Iv i σ' Hk0 Ha0 (upd H' T o)) (h0 : ∀ Hk0 Ha0, Wd H H1 Hk0 Ha0 → Wd Hk Ha Hk0 Ha0 → Iv 0 σ Hk0 Ha0 Ha0)
    (hs : ∀ Hk0 Ha0, Wd H H1 Hk0 Ha0 → Wd Hk Ha Hk0 Ha0 → ∀ i x v σ' H', xs[i]? = some x → R x v Hk0 → Iv i σ' Hk0 Ha0 H' → tu { D with nx := fun σ3 H3 => Iv (i + 1) σ3 Hk0 Ha0 H3, ct := fun σ3 H3 => Iv (i + 1) σ3 Hk0 Ha0 H3, bk := tz D } ((σ'.set i1 (some (.int (i : Int)))).set i2 (some v)) H')
    (hd : ∀ Hk0 Ha0 σ' H', Wd H H1 Hk0 Ha0 → Wd Hk Ha Hk0 Ha0 → Iv xs.length σ' Hk0 Ha0 H' → tz D σ' H') : tSeq (tFor (iEnum K (tCons tl tNil)) (gTup K 2 (gCons (gName i1) (gCons (gName i2) gNil))) tu) tz D σ Ha :=
  hl Ha w.b _ fun v Hk0 Ha0 u p => by
    obtain ⟨a, ys, rfl, h2, h3⟩ := p
    have hlen := h3.length
    refine ⟨a, ys, rfl, SqL.of (u.b a _ h2), fun i m σ' H' => m = ys.length - i ∧ i ≤ ys.length ∧ Iv i σ' Hk0 Ha0 H', ⟨ys.length, by simp, Nat.zero_le _, h0 Hk0 Ha0 (w.trans u) u⟩, ?_⟩
    rintro i m σ' H' ⟨rfl, hi, q⟩
    have hq : SqL K H' a ys := SqL.of (ex _ _ _ _ _ q a _ h2)
    by_cases hlt : i < ys.length
    · refine .inr ⟨⟨ys, ys[i], hq, by simp [hlt]⟩, fun σ'' H'' => Iv (i + 1) σ'' Hk0 Ha0 H'', fun σ'' H'' p' => ⟨ys.length - (i + 1), by omega, rfl, hlt, p'⟩, fun z H'' yl => ?_⟩
      obtain ⟨T, y, rfl, hT, rfl, hy⟩ := yl
      obtain ⟨x, hx, hr⟩ := pr_back h3 (hy ys hq)
      exact ⟨T, _, rfl, SqT.of upd_same, rfl, _, _, rfl, _, _, rfl, rfl, hs Hk0 Ha0 (w.trans u) u i x y σ' _ hx hr (new _ _ _ _ _ T _ hT q)⟩
    · have e1 : i = ys.length := by omega
      subst e1
      refine .inl ⟨⟨ys, hq, Nat.le_refl _⟩, ?_⟩
      rw [← hlen] at q
      exact hd Hk0 Ha0 σ' H' (w.trans u) u q
end
/-- a pair as a loop's target -/
theorem g_pair {α β : Type} {R1 : α → As} {R2 : β → As} {x : α × β} {v : V} {i j : Nat} {Q' : L2.St → Hp → Prop} (e : Ex Hk Ha) (r : Rp R1 R2 x v Hk) (q : ∀ a b, R1 x.1 a Hk → R2 x.2 b Hk → Q' ((σ.set i (some a)).set j (some b)) Ha) :
    gTup K 2 (gCons (gName i) (gCons (gName j) gNil)) v σ Ha Q' := by
  obtain ⟨p, a, b, rfl, h2, h3, h4⟩ := r
  exact ⟨p, _, rfl, SqT.of (e p _ h2), rfl, _, _, rfl, _, _, rfl, rfl, q a b h3 h4⟩
/-- out = [] -/
theorem p_newL {tz : TS} {D : Ends} {i : Nat} (w : Wd H H1 Hk Ha) (k : ∀ l, Hk l = none → H1 l = none → Wd H H1 Hk (upd Ha l (.lst [])) → tz D (σ.set i (some (.ref l))) (upd Ha l (.lst []))) : tSeq (tAsg (tLst tNil) (gName i)) tz D σ Ha :=
  ⟨Nat.zero_le _, fun l hl => k l (fresh_back w.b hl) (fresh_back w.c hl) (w.mut (fresh_back w.b hl) (fresh_back w.c hl))⟩
theorem ep_nil {α : Type} {R : α → As} : EvP (tLst tNil) σ H (Rl R []) := fun H1 e Q ret => ⟨Nat.zero_le _, fun p hp => ret _ _ _ ((Wd.start e).new (o := .lst []) hp) ⟨p, [], rfl, upd_same, .nil⟩⟩
theorem ep_one {α : Type} {R : α → As} {x : α} {ta : TE} [m : ∀ a, MonoP (R a)] (ha : EvP ta σ H (R x)) : EvP (tLst (tCons ta tNil)) σ H (Rl R [x]) := fun H1 e Q ret =>
  ha H1 e _ fun v Hk Ha w p => ⟨by show 1 ≤ sizeLine; decide, fun q hq => by
    have w2 := w.new (o := .lst [v]) hq
    exact ret _ _ _ w2 ⟨q, [v], rfl, upd_same, .cons ((m x).mono (Ex.new (fresh_back w.b hq)) p) .nil⟩⟩
/-- a local list is handed back -/
theorem p_retL {α : Type} {R : α → As} [m : ∀ a, MonoP (R a)] {xs : List α} {zs : List V} {D : Ends} {Q : VK} {l : Addr} {i : Nat} (w : Wd H H1 Hk Ha) (hk : Hk l = none) (h1 : H1 l = none) (ha : Ha l = some (.lst zs)) (hp : Paired (fun x y => R x y Hk) xs zs) (hs : σ[i]? = some (some (.ref l))) (r : Ret H H1 (Rl R xs) Q) (hq : D.rt = Q) : tRet (tVar i) D σ Ha := by
  subst hq
  have w2 := w.pub ha hk h1
  exact ⟨_, hs, r _ _ _ w2 ⟨l, zs, rfl, upd_same, pr_imp hp fun a b _ q => (m a).mono (Ex.new hk) q⟩⟩
/-- for x in reversed(xs) -/
theorem p_forV {α : Type} {R : α → As} [mR : ∀ a, MonoP (R a)] {xs : List α} {g : TG} {tl : TE} {tu tz : TS} {D : Ends} (w : Wd H H1 Hk Ha) (hl : EvP tl σ Hk (Rl R xs)) (Iv : Nat → L2.St → Hp → Hp → Hp → Prop)
    (ex : ∀ i σ' Hk0 Ha0 H', Iv i σ' Hk0 Ha0 H' → Ex Hk0 H') (h0 : ∀ Hk0 Ha0, Wd H H1 Hk0 Ha0 → Wd Hk Ha Hk0 Ha0 → Iv 0 σ Hk0 Ha0 Ha0)
    (hs : ∀ Hk0 Ha0, Wd H H1 Hk0 Ha0 → Wd Hk Ha Hk0 Ha0 → ∀ i x v σ' H', i < xs.length → xs[xs.length - 1 - i]? = some x → R x v Hk0 → Iv i σ' Hk0 Ha0 H' → g v σ' H' fun σ2 H2 => tu { D with nx := fun σ3 H3 => Iv (i + 1) σ3 Hk0 Ha0 H3, ct := fun σ3 H3 => Iv (i + 1) σ3 Hk0 Ha0 H3, bk := tz D } σ2 H2)
    (hd : ∀ Hk0 Ha0 σ' H', Wd H H1 Hk0 Ha0 → Wd Hk Ha Hk0 Ha0 → Iv xs.length σ' Hk0 Ha0 H' → tz D σ' H') : tSeq (tFor (iRev K (tCons tl tNil)) g tu) tz D σ Ha :=
  hl Ha w.b _ fun v Hk0 Ha0 u p => by
    obtain ⟨a, ys, rfl, h2, h3⟩ := p
    have hlen := h3.length
    refine ⟨a, ys, rfl, SqL.of (u.b a _ h2), fun i m σ' H' => m = ys.length - i ∧ i ≤ ys.length ∧ Iv i σ' Hk0 Ha0 H', ⟨ys.length, by simp, Nat.zero_le _, h0 Hk0 Ha0 (w.trans u) u⟩, ?_⟩
    rintro i m σ' H' ⟨rfl, hi, q⟩
    have hq : SqL K H' a ys := SqL.of (ex _ _ _ _ _ q a _ h2)
    by_cases hlt : i < ys.length
    · refine .inr ⟨⟨hlt, ys, ys[ys.length - 1 - i], hq, by simp⟩, fun σ'' H'' => Iv (i + 1) σ'' Hk0 Ha0 H'', fun σ'' H'' p' => ⟨ys.length - (i + 1), by omega, rfl, hlt, p'⟩, fun z H'' yl => ?_⟩
      obtain ⟨rfl, hy⟩ := yl
      obtain ⟨x, hx, hr⟩ := pr_back h3 (hy ys hq)
      rw [← hlen] at hx
      exact hs Hk0 Ha0 (w.trans u) u i x z σ' _ (by omega) hx hr q
    · have e1 : i = ys.length := by omega
      subst e1
      refine .inl ⟨Nat.le_refl _, ?_⟩
      rw [← hlen] at q
      exact hd Hk0 Ha0 σ' H' (w.trans u) u q
/-- a method of the text -/
structure Mn (K : PySem.W.Frag) (C : Addr) (m qual : Str) (st : Stmt) (ps : List Str) (f : Addr) (fd : FuncData) : Prop where
  F : Fun K m qual st f fd
  M : Meth K C m f
  b : Binds K fd ps []
theorem ep_meth0 {C : Addr} {m : Str} {P0 P : As} {Pre : List V → Hp → As → Prop} {E : XK} {ta : TE} [MonoP P0] (hP : ∀ v H', P0 v H' → ∃ a dx fl, v = .ref a ∧ H' a = some (.ins C dx fl) ∧ fl.lookup m = none) (ha : EvP ta σ H P0) (hp : ∀ x Hk, Ex H Hk → P0 x Hk → Pre [x] Hk P) : EvP (tMeth C m (SpOf Pre) [] E ta tNil) σ H P := fun H1 e Q ret =>
  ha H1 e _ fun x Hk1 Ha1 w1 p1 => by
    obtain ⟨a, dx, fl, rfl, h2, h3⟩ := hP _ _ p1
    exact ⟨a, dx, fl, rfl, w1.b a _ h2, h3, Hk1, P, w1.b, hp _ Hk1 w1.a p1, ret.go w1⟩
theorem ep_meth2 {C : Addr} {m : Str} {P0 P1 P2 P : As} {Pre : List V → Hp → As → Prop} {E : XK} {ta tb tc : TE} [MonoP P0] [MonoP P1] [MonoP P2] (hP : ∀ v H', P0 v H' → ∃ a dx fl, v = .ref a ∧ H' a = some (.ins C dx fl) ∧ fl.lookup m = none) (ha : EvP ta σ H P0) (hb : EvP tb σ H P1) (hc : EvP tc σ H P2)
    (hp : ∀ x y z Hk, Ex H Hk → P0 x Hk → P1 y Hk → P2 z Hk → Pre [x, y, z] Hk P) : EvP (tMeth C m (SpOf Pre) [] E ta (tCons tb (tCons tc tNil))) σ H P := fun H1 e Q ret =>
  ha H1 e _ fun x Hk1 Ha1 w1 p1 => by
    obtain ⟨a, dx, fl, rfl, h2, h3⟩ := hP _ _ p1
    exact ⟨a, dx, fl, rfl, w1.b a _ h2, h3, (hb.mono w1.a) Ha1 w1.b _ fun y Hk2 Ha2 w2 p2 => (hc.mono (w1.a.trans w2.a)) Ha2 w2.b _ fun z Hk3 Ha3 w3 p3 =>
      ⟨Hk3, P, w3.b, hp _ y z Hk3 ((w1.a.trans w2.a).trans w3.a) (MonoP.mono (w2.a.trans w3.a) p1) (MonoP.mono w3.a p2) p3, ret.go ((w1.trans w2).trans w3)⟩⟩
abbrev RO : List Nat → As := Rl Rn
abbrev RP : Nat × Nat → As := Rp Rn Rn
theorem ro_of {l : List Nat} {p : Addr} (h : H p = some (.lst (nv l))) : RO l (.ref p) H := rl_of h
theorem ro_at {l : List Nat} {v : V} (h : RO l v H) : ∃ p, v = .ref p ∧ H p = some (.lst (nv l)) := rl_rv h
/-! ### loops that are left by a return: Sl: what the slots are, NT: nothing has been met before the i-th turn -/
section
variable {D : Ends} {tu : TS} {Sl : L2.St → Prop} {NT : Nat → Prop}
theorem r_forE {α : Type} {R : α → As} [mR : ∀ a, MonoP (R a)] {xs : List α} {i1 i2 : Nat} {tl : TE} (w : Wd H H1 Hk Ha) (hl : EvP tl σ Hk (Rl R xs)) (Sl : L2.St → Prop) (NT : Nat → Prop) (s0 : Sl σ) (n0 : NT 0)
    (hs : ∀ Hk2 Ha2, Wd H H1 Hk2 Ha2 → Ex Hk Hk2 → ∀ i x v σ', xs[i]? = some x → R x v Hk2 → Sl σ' → NT i → ∀ D' : Ends, D'.rt = D.rt → (∀ σ3 H3, Ex Ha2 H3 → Sl σ3 → NT (i + 1) → D'.nx σ3 H3) → tu D' ((σ'.set i1 (some (.int (i : Int)))).set i2 (some v)) Ha2)
    (hd : ∀ Ha2 σ', Wd H H1 Hk Ha2 → Ex Ha Ha2 → Sl σ' → NT xs.length → D.nx σ' Ha2) : tFor (iEnum K (tCons tl tNil)) (gTup K 2 (gCons (gName i1) (gCons (gName i2) gNil))) tu D σ Ha :=
  hl Ha w.b _ fun v Hk0 Ha0 u p => by
    obtain ⟨a, ys, rfl, h2, h3⟩ := p
    have hlen := h3.length
    refine ⟨a, ys, rfl, SqL.of (u.b a _ h2), fun i m σ' H' => m = ys.length - i ∧ i ≤ ys.length ∧ Ex Ha0 H' ∧ Sl σ' ∧ NT i, ⟨ys.length, by simp, Nat.zero_le _, Ex.refl _, s0, n0⟩, ?_⟩
    rintro i m σ' H' ⟨rfl, hi, e', q1, q2⟩
    have hq : SqL K H' a ys := SqL.of (e' a _ (u.b a _ h2))
    by_cases hlt : i < ys.length
    · refine .inr ⟨⟨ys, ys[i], hq, by simp [hlt]⟩, fun σ'' H'' => Ex Ha0 H'' ∧ Sl σ'' ∧ NT (i + 1), fun σ'' H'' p' => ⟨ys.length - (i + 1), by omega, rfl, hlt, p'⟩, fun z H'' yl => ?_⟩
      obtain ⟨T, y, rfl, hT, rfl, hy⟩ := yl
      obtain ⟨x, hx, hr⟩ := pr_back h3 (hy ys hq)
      have e2 : Ex Ha0 (upd H' T (.tup [.int (i : Int), y])) := e'.trans (Ex.new hT)
      exact ⟨T, _, rfl, SqT.of upd_same, rfl, _, _, rfl, _, _, rfl, rfl, hs Hk0 _ ((w.trans u).ext e2) u.a i x y σ' hx hr q1 q2 _ rfl fun σ3 H3 e3 q3 q4 => ⟨e2.trans e3, q3, q4⟩⟩
    · have e1 : i = ys.length := by omega
      subst e1
      refine .inl ⟨⟨ys, hq, Nat.le_refl _⟩, ?_⟩
      rw [← hlen] at q2
      exact hd H' σ' (w.ext (u.c.trans e')) (u.c.trans e') q1 q2
/-- for a, b in a list of pairs -/
theorem r_forP {α β : Type} {R1 : α → As} {R2 : β → As} [m1 : ∀ a, MonoP (R1 a)] [m2 : ∀ a, MonoP (R2 a)] {xs : List (α × β)} {i1 i2 : Nat} {tl : TE} (w : Wd H H1 Hk Ha) (hl : EvP tl σ Hk (Rl (Rp R1 R2) xs)) (Sl : L2.St → Prop) (NT : Nat → Prop) (s0 : Sl σ) (n0 : NT 0)
    (hs : ∀ Hk2 Ha2, Wd H H1 Hk2 Ha2 → Ex Hk Hk2 → ∀ i x v1 v2 σ', xs[i]? = some x → R1 x.1 v1 Hk2 → R2 x.2 v2 Hk2 → Sl σ' → NT i → ∀ D' : Ends, D'.rt = D.rt → (∀ σ3 H3, Ex Ha2 H3 → Sl σ3 → NT (i + 1) → D'.nx σ3 H3) → tu D' ((σ'.set i1 (some v1)).set i2 (some v2)) Ha2)
    (hd : ∀ Ha2 σ', Wd H H1 Hk Ha2 → Ex Ha Ha2 → Sl σ' → NT xs.length → D.nx σ' Ha2) : tFor (iList K tl) (gTup K 2 (gCons (gName i1) (gCons (gName i2) gNil))) tu D σ Ha :=
  hl Ha w.b _ fun v Hk0 Ha0 u p => by
    obtain ⟨a, ys, rfl, h2, h3⟩ := p
    refine ⟨a, rfl, ⟨ys, SqL.of (u.b a _ h2)⟩, for_list (K := K) (a := a) (xs := ys) (fun i σ' H' => Ex Ha0 H' ∧ Sl σ' ∧ NT i) ⟨Ex.refl _, s0, n0⟩ (fun i σ' H' _ q => SqL.of (q.1 a _ (u.b a _ h2))) (fun i y σ' H' hy q => ?_) fun σ' H' q => ?_⟩
    · obtain ⟨e', q1, q2⟩ := q
      obtain ⟨x, hx, hr⟩ := pr_back h3 hy
      obtain ⟨T, y1, y2, rfl, hT, r1, r2⟩ := hr
      exact ⟨T, _, rfl, SqT.of (e' T _ (u.b T _ hT)), rfl, _, _, rfl, _, _, rfl, rfl, hs Hk0 _ ((w.trans u).ext e') u.a i x y1 y2 σ' hx r1 r2 q1 q2 _ rfl fun σ3 H3 e3 q3 q4 => ⟨e'.trans e3, q3, q4⟩⟩
    · obtain ⟨e', q1, q2⟩ := q
      rw [← h3.length] at q2
      exact hd H' σ' (w.ext (u.c.trans e')) (u.c.trans e') q1 q2
/-- for i in range(n) -/
theorem r_forR {n j : Nat} {tl : TE} (w : Wd H H1 Hk Ha) (hl : EvP tl σ Hk (Rn n)) (hn : n < 90000) (Sl : L2.St → Prop) (NT : Nat → Prop) (s0 : Sl σ) (n0 : NT 0)
    (hs : ∀ Ha2, Wd H H1 Hk Ha2 → ∀ i σ', i < n → Sl σ' → NT i → ∀ D' : Ends, D'.rt = D.rt → (∀ σ3 H3, Ex Ha2 H3 → Sl σ3 → NT (i + 1) → D'.nx σ3 H3) → tu D' (σ'.set j (some (.int (i : Int)))) Ha2)
    (hd : ∀ Ha2 σ', Wd H H1 Hk Ha2 → Ex Ha Ha2 → Sl σ' → NT n → D.nx σ' Ha2) : tFor (iRng1 (tCons tl tNil)) (gName j) tu D σ Ha :=
  ev_ep hl Ha w.b _ fun H2 e2 => by
    refine ⟨(n : Int), rfl, by omega, by omega, ?_⟩
    have en : ((n : Int)).toNat = n := by omega
    rw [en]
    refine for_range (lo := 0) (n := n) (fun i σ' H' => Ex Ha H' ∧ Sl σ' ∧ NT i) ⟨e2, s0, n0⟩ (fun i σ' H' hi q => ?_) (fun σ' H' q => hd H' σ' (w.ext q.1) q.1 q.2.1 q.2.2)
    have e0 : (0 : Int) + (i : Int) = (i : Int) := Int.zero_add _
    show tu _ (σ'.set j (some (.int ((0 : Int) + (i : Int))))) H'
    rw [e0]
    exact hs H' (w.ext q.1) i σ' hi q.2.1 q.2.2 _ rfl fun σ3 H3 e3 q3 q4 => ⟨q.1.trans e3, q3, q4⟩
/-- for i in range(lo, n) -/
theorem r_forR2 {lo n j : Nat} {tl tl2 : TE} (w : Wd H H1 Hk Ha) (hl : EvP tl σ Hk (Rn lo)) (hl2 : EvP tl2 σ Hk (Rn n)) (hn : n < 90000) (hlo : lo ≤ n) (Sl : L2.St → Prop) (NT : Nat → Prop) (s0 : Sl σ) (n0 : NT lo)
    (hs : ∀ Ha2, Wd H H1 Hk Ha2 → ∀ i σ', lo ≤ i → i < n → Sl σ' → NT i → ∀ D' : Ends, D'.rt = D.rt → (∀ σ3 H3, Ex Ha2 H3 → Sl σ3 → NT (i + 1) → D'.nx σ3 H3) → tu D' (σ'.set j (some (.int (i : Int)))) Ha2)
    (hd : ∀ Ha2 σ', Wd H H1 Hk Ha2 → Ex Ha Ha2 → Sl σ' → NT n → D.nx σ' Ha2) : tFor (iRng2 (tCons tl (tCons tl2 tNil))) (gName j) tu D σ Ha :=
  ev_ep hl Ha w.b _ fun H2 e2 => (ev_ep hl2) H2 (w.b.trans e2) _ fun H3 e3 => by
    refine ⟨(lo : Int), (n : Int), rfl, ⟨by omega, by omega, by omega, by omega⟩, ?_⟩
    have en : ((n : Int) - (lo : Int)).toNat = n - lo := by omega
    rw [en]
    refine for_range (lo := (lo : Int)) (n := n - lo) (fun i σ' H' => Ex Ha H' ∧ Sl σ' ∧ NT (lo + i)) ⟨e2.trans e3, s0, n0⟩ (fun i σ' H' hi q => ?_) fun σ' H' q => ?_
    · have e0 : (lo : Int) + (i : Int) = ((lo + i : Nat) : Int) := by omega
      show tu _ (σ'.set j (some (.int ((lo : Int) + (i : Int))))) H'
      rw [e0]
      exact hs H' (w.ext q.1) (lo + i) σ' (by omega) (by omega) q.2.1 q.2.2 _ rfl fun σ3 H3 e3 q3 q4 => ⟨q.1.trans e3, q3, q4⟩
    · have e0 : lo + (n - lo) = n := by omega
      rw [e0] at q
      exact hd H' σ' (w.ext q.1) q.1 q.2.1 q.2.2
/-- a value is handed back at a place whose end is told -/
theorem p_retD {Q : VK} {ta : TE} {P0 : As} (w : Wd H H1 Hk Ha) (h : EvP ta σ Hk P0) (r : Ret H H1 P0 Q) (hq : D.rt = Q) : tRet ta D σ Ha := p_ret w h r hq
end
/-! ### lists of numbers, of truth values as data: ==, index -/
def dN (l : List Nat) : PyData := .list (l.map fun (n : Nat) => PyData.int (n : Int))
def dB (l : List Bool) : PyData := .list (l.map PyData.bool)
theorem dNs_lay : ∀ l : List Nat, PyData.canLayAll0 (l.map fun (n : Nat) => PyData.int (n : Int)) = true
  | [] => by simp [PyData.canLayAll0]
  | a :: r => by simp [PyData.canLayAll0, PyData.canLay0, dNs_lay r]
theorem dNs_depth : ∀ l : List Nat, PyData.depthAll (l.map fun (n : Nat) => PyData.int (n : Int)) = 0
  | [] => by simp [PyData.depthAll]
  | a :: r => by simp [PyData.depthAll, PyData.depth, dNs_depth r]
theorem dBs_lay : ∀ l : List Bool, PyData.canLayAll0 (l.map PyData.bool) = true
  | [] => by simp [PyData.canLayAll0]
  | a :: r => by simp [PyData.canLayAll0, PyData.canLay0, dBs_lay r]
theorem dBs_depth : ∀ l : List Bool, PyData.depthAll (l.map PyData.bool) = 0
  | [] => by simp [PyData.depthAll]
  | a :: r => by simp [PyData.depthAll, PyData.depth, dBs_depth r]
theorem dN_shaped (l : List Nat) : SeqAt.shaped (dN l) = true := by
  show (PyData.canLay0 (dN l) && decide (PyData.depth (dN l) ≤ 64)) = true
  have h1 := dNs_depth l
  rw [Bool.and_eq_true]
  refine ⟨by unfold dN; simp only [PyData.canLay0]; exact dNs_lay l, decide_eq_true ?_⟩
  unfold dN
  simp only [PyData.depth]
  omega
theorem dB_shaped (l : List Bool) : SeqAt.shaped (dB l) = true := by
  show (PyData.canLay0 (dB l) && decide (PyData.depth (dB l) ≤ 64)) = true
  have h1 := dBs_depth l
  rw [Bool.and_eq_true]
  refine ⟨by unfold dB; simp only [PyData.canLay0]; exact dBs_lay l, decide_eq_true ?_⟩
  unfold dB
  simp only [PyData.depth]
  omega
theorem dNNs_lay : ∀ l : List (List Nat), PyData.canLayAll0 (l.map dN) = true
  | [] => by simp [PyData.canLayAll0]
  | a :: r => by
    have h : (dN a).canLay0 = true := by
      unfold dN
      simp only [PyData.canLay0]
      exact dNs_lay a
    simp [PyData.canLayAll0, h, dNNs_lay r]
theorem dNNs_depth : ∀ l : List (List Nat), PyData.depthAll (l.map dN) ≤ 2
  | [] => by simp [PyData.depthAll]
  | a :: r => by
    have h1 := dNNs_depth r
    have h2 : (dN a).depth ≤ 2 := by
      have h3 := dNs_depth a
      unfold dN
      simp only [PyData.depth]
      omega
    simp only [List.map_cons, PyData.depthAll]
    omega
theorem dNN_shaped (l : List (List Nat)) : SeqAt.shaped (.list (l.map dN)) = true := by
  have h1 := dNNs_depth l
  have h2 : PyData.depth (.list (l.map dN)) ≤ 64 := by
    simp only [PyData.depth]
    omega
  show (PyData.canLay0 (.list (l.map dN)) && decide (PyData.depth (.list (l.map dN)) ≤ 64)) = true
  rw [Bool.and_eq_true]
  exact ⟨by simp only [PyData.canLay0]; exact dNNs_lay l, decide_eq_true h2⟩
theorem eqvs_nat : ∀ a b : List Nat, PyData.eqvAll (a.map fun (n : Nat) => PyData.int (n : Int)) (b.map fun (n : Nat) => PyData.int (n : Int)) = (a == b)
  | [], [] => by simp [PyData.eqvAll]
  | [], _ :: _ => by simp [PyData.eqvAll]
  | _ :: _, [] => by simp [PyData.eqvAll]
  | x :: a, y :: b => by
    have ih := eqvs_nat a b
    simp only [List.map_cons, PyData.eqvAll, PyData.eqv]
    rw [ih]
    rw [Bool.eq_iff_iff]
    simp only [Bool.and_eq_true, beq_iff_eq, List.cons.injEq]
    constructor
    · rintro ⟨h1, h2⟩
      exact ⟨by omega, h2⟩
    · rintro ⟨h1, h2⟩
      exact ⟨by omega, h2⟩
theorem dN_eqv (a b : List Nat) : PyData.eqv (dN a) (dN b) = (a == b) := by
  unfold dN
  simp only [PyData.eqv]
  exact eqvs_nat a b
theorem eqvs_bool : ∀ a b : List Bool, PyData.eqvAll (a.map PyData.bool) (b.map PyData.bool) = (a == b)
  | [], [] => by simp [PyData.eqvAll]
  | [], _ :: _ => by simp [PyData.eqvAll]
  | _ :: _, [] => by simp [PyData.eqvAll]
  | x :: a, y :: b => by
    have ih := eqvs_bool a b
    simp only [List.map_cons, PyData.eqvAll, PyData.eqv]
    rw [ih]
    rfl
theorem dB_eqv (a b : List Bool) : PyData.eqv (dB a) (dB b) = (a == b) := by
  unfold dB
  simp only [PyData.eqv]
  exact eqvs_bool a b
theorem dp_nats : ∀ l : List Nat, DpAll K H (nv l) (l.map fun (n : Nat) => PyData.int (n : Int))
  | [] => .nil
  | a :: r => .cons (.int _) (dp_nats r)
theorem dp_bools : ∀ l : List Bool, DpAll K H (bv l) (l.map PyData.bool)
  | [] => .nil
  | a :: r => .cons (.bl _) (dp_bools r)
theorem dp_ro {l : List Nat} {v : V} (h : RO l v H) : Dp K H v (dN l) := by
  obtain ⟨p, rfl, hp⟩ := ro_at h
  exact .lst (SqL.of hp) (dp_nats l)
theorem dp_rb {l : List Bool} {v : V} (h : Rl Rb l v H) : Dp K H v (dB l) := by
  obtain ⟨p, rfl, hp⟩ := rl_rv h
  exact .lst (SqL.of hp) (dp_bools l)
theorem dp_ros : ∀ {xss : List (List Nat)} {ys : List V}, Paired (fun x y => RO x y H) xss ys → DpAll K H ys (xss.map dN)
  | _, _, .nil => .nil
  | _, _, .cons h t => .cons (dp_ro h) (dp_ros t)
/-- xss.index(o), lists of numbers -/
theorem ep_indexD {xss : List (List Nat)} {o : List Nat} {ta tb : TE} (ha : EvP ta σ H (Rl RO xss)) (hb : EvP tb σ H (RO o)) (hm : o ∈ xss) : EvP (tBM K "list" (rIndexD K) ta (tCons tb tNil)) σ H (Rn (xss.findIdx fun x => x == o)) := fun H1 e Q ret =>
  ha H1 e _ fun u Hk1 Ha1 w1 p1 => by
    obtain ⟨p, ys, rfl, h2, h3⟩ := p1
    refine ⟨Or.inl ⟨rfl, _, SqL.of (w1.b p _ h2)⟩, (hb.mono w1.a) Ha1 w1.b _ fun y Hk2 Ha2 w2 p2 => ?_⟩
    have hlt : (xss.findIdx fun x => x == o) < xss.length := List.findIdx_lt_length_of_exists ⟨o, hm, by simp⟩
    have hz := List.findIdx_getElem (w := hlt)
    have e12 : Ex Hk1 Ha2 := w2.a.trans w2.b
    refine ⟨p, y, dN o, xss.map dN, xss.findIdx fun x => x == o, dN xss[xss.findIdx fun x => x == o], rfl, rfl, .lst (SqL.of (e12 p _ h2)) (dp_ros (pr_imp h3 fun a b _ q => MonoP.mono (P := RO a) e12 q)), dp_ro (MonoP.mono (P := RO o) w2.b p2), dNN_shaped xss, dN_shaped o, ?_, ?_, fun m z hm hz' => ?_, (ret.go (w1.trans w2)).now w2.b rfl⟩
    · rw [List.getElem?_map, List.getElem?_eq_getElem hlt]
      rfl
    · rw [dN_eqv]
      exact hz
    · rw [List.getElem?_map] at hz'
      have hml : m < xss.length := by omega
      rw [List.getElem?_eq_getElem hml] at hz'
      have hz2 := Option.some.inj hz'
      subst hz2
      rw [dN_eqv]
      exact Bool.eq_false_iff.mpr (by simpa using List.not_of_lt_findIdx hm)
/-- == of lists of truth values -/
theorem ep_eqB {a b : List Bool} {ta tb : TE} (ha : EvP ta σ H (Rl Rb a)) (hb : EvP tb σ H (Rl Rb b)) : EvP (tOp (rEqD K) ta tb) σ H (Lb.Rb (a == b)) :=
  ep_op ha hb fun x y Hk Ha e1 e2 p1 p2 Q ret => ⟨dB a, dB b, dp_rb (MonoP.mono (P := Rl Rb a) e2 p1), dp_rb (MonoP.mono (P := Rl Rb b) e2 p2), dB_shaped a, dB_shaped b, by
    rw [dB_eqv]
    exact ret.now e2 rfl⟩
theorem hu65 {A : Around} {k : Nat} (hr : Room k A) : A.units + 65 < cLine := by have := hr.un; omega
end Lb

set_option Elab.async false
set_option linter.all false
set_option maxRecDepth 100000
set_option maxHeartbeats 4000000
namespace Lt
open PySem PySem.Spec PyProof.Rows L2 LamX
/-! ### the key (-total[x], x), asked -/
section
variable {prog : Program} {w : World} {A : Around} {s : Shared}
theorem key_turn {f c' L ct : Addr} {q : Str} {params : Arguments} {scope : Scope} {cl : List (Str × Addr)} {pm ctv : Value} {its : List Value} {x y : Int} {ty t : Tok} {k : Nat} {p1 p2 p3 p4 p5 p6 : Pos} {tn xn : Str}
    (hd : A.depth < recursionLimit) (lim : s.heap.NoLimit)
    (hf : s.heap.get? f = some (PySem.W.kla_obj "<lambda>" q params (.Tuple [.UnaryOp .USub (.Subscript (.Name tn p1) (.Name xn p2) p3) p4, .Name xn p5] k p6) scope cl pm c' ctv)) (hc : s.heap.CodeRec (.ref c') q)
    (hct : cl.lookup tn = some ct) (hcell : s.heap.IsCell ct (some (.ref L))) (hL : s.heap.IsList L its.toArray) (hx0 : 0 ≤ x) (hx1 : x < 2 ^ 63) (hx : its.toArray[x.toNat]? = some (.int y ty))
    (hbind : ∀ v, bindArgs (PySem.W.kla_fn "<lambda>" q params (.Tuple [.UnaryOp .USub (.Subscript (.Name tn p1) (.Name xn p2) p3) p4, .Name xn p5] k p6) scope cl pm (.ref c') ctv) ⟨[v], []⟩ = pure [(xn, v)])
    (sk : scope.kind = .function) (sc : scope.isCoroutine = false) (sg : scope.isGenerator = false) (nc : ∀ y ∈ scope.names, y.2 ≠ .cell) (lx : scope.names.lookup xn = some .local) (lt : scope.names.lookup tn = some .free)
    (hdx : (xn == ("__debug__" : Str)) = false) (hdt : (tn == ("__debug__" : Str)) = false) (hcd : (tn == ("__classdict__" : Str)) = false) :
    wpAny (model prog w) A (call (.ref f) [.int x t]) (PySem.W.KeyPure (.tuple [.int (-y), .int x]) s) (fun _ _ => False) s := by
  refine wpAny_call ?_
  refine PySem.W.kla_callFunE hd hf rfl sc sg rfl hc ?_
  rw [hbind]
  refine wpAny_pure (wpAny_newFunctionEnv nc (fun y hy => ?_) (fun h₁ hns hsb => ⟨lim.fresh _ hsb, ?_⟩) sk)
  · obtain rfl := List.mem_singleton.mp hy
    exact lx
  show codeAny _ _ (.expr _ (PySem.W.envX q scope s.heap.objs.size f (.ref c') cl)) _ _
  have kp : ∀ b o, s.heap.get? b = some o → h₁.get? b = some o := fun b o e => hsb.extBut b o (Nat.ne_of_lt (Heap.lt_size e)) (Heap.get?_push_of_some _ e)
  refine PySem.W.kla_codeExpr ?_
  have lX : ∀ {M : Model} {A' : Around} {E' : Value → Shared → Prop} {s' : Shared} {Q : Value → Shared → Prop} {p : Pos}, s'.heap = h₁ → Q (.int x t) s' → wpAny M A' (eval (.Name xn p) (PySem.W.envX q scope s.heap.objs.size f (.ref c') cl)) Q E' s' := fun {M A' E' s' Q p} e h =>
    wpAny_Name (wpAny_loadName_local sk lx (by rw [e]; exact hns) (by simp) h) hdx
  refine wpAny_Tuple (wpAny_items_cons (wpAny_UnaryOp (Subscript_ (wpAny_Name (wpAny_loadName_free sk lt hct (v := .ref L) ?_ (lX rfl ?_) hcd) hdt))))
  · obtain ⟨o, h1, h2⟩ := hcell
    exact ⟨o, kp _ _ h1, h2⟩
  have hL1 : h₁.IsList L its.toArray := by
    obtain ⟨o, h1, h2⟩ := hL
    exact ⟨o, kp _ _ h1, h2⟩
  refine item_listR hL1 hx0 hx1 hx (neg_int ?_)
  refine wpAny_items_cons (lX rfl (Calls.spliced_nil ⟨show 2 ≤ sizeLine by decide, ?_⟩))
  refine ⟨_, _, rfl, fun b o e => Heap.get?_push_of_some _ (kp b o e), ?_⟩
  exact .tuple (Heap.get?_push_size _ rfl) rfl rfl (.cons (.int _ _) (.cons (.int _ _) .nil))
end
/-! ### sorted(xs, key=lambda x: (-total[x], x)) -/
/-- more first, of as many the lesser -/
def ple (f : Nat → Nat) (a b : Nat) : Bool := decide (f b < f a) || (decide (f a = f b) && decide (a ≤ b))
def kyD (f : Nat → Nat) (x : Nat) : PyData := .tuple [.int (-(f x : Int)), .int (x : Int)]
theorem kyD_le (f : Nat → Nat) (a b : Nat) : PySem.W.dataLe false (kyD f) a b = ple f a b := by
  have e : PySem.W.dataLe false (kyD f) a b = !PySem.W.dataLt (kyD f b) (kyD f a) := rfl
  have e0 : PyProof.Rows.lexLt PyProof.Rows.itemOrd (PySem.W.keyToksAll []) (PySem.W.keyToksAll []) = false := by simp [PySem.W.keyToksAll, PyProof.Rows.lex_irrefl]
  have al : ∀ i j : Int, PySem.W.alike (.int i) (.int j) = true := fun _ _ => rfl
  rw [e]
  unfold kyD
  rw [PySem.W.dataLt_tuple, PySem.W.dataLt_cons (al _ _), PySem.W.dataLt_cons (al _ _), PySem.W.dataLt_int, PySem.W.dataLt_int, e0]
  unfold ple
  by_cases h1 : f a = f b
  · have v1 : PyData.eqv (.int (-(f b : Int))) (.int (-(f a : Int))) = true := by
      rw [h1]
      simp [PyData.eqv]
    rw [if_pos v1]
    by_cases h2 : a = b
    · subst h2
      have v2 : PyData.eqv (.int (a : Int)) (.int (a : Int)) = true := by simp [PyData.eqv]
      rw [if_pos v2]
      simp
    · have v2 : ¬ PyData.eqv (.int (b : Int)) (.int (a : Int)) = true := by
        simp only [PyData.eqv, beq_iff_eq]
        omega
      rw [if_neg v2, Bool.eq_iff_iff]
      simp
      omega
  · have v1 : ¬ PyData.eqv (.int (-(f b : Int))) (.int (-(f a : Int))) = true := by
      simp only [PyData.eqv, beq_iff_eq]
      omega
    rw [if_neg v1, Bool.eq_iff_iff]
    simp
    omega
theorem kyD_alike (f : Nat → Nat) (bs : List Nat) : PySem.W.AllAlike (bs.map (kyD f)) := fun d hd d' hd' => by
  obtain ⟨x, _, rfl⟩ := List.mem_map.mp hd
  obtain ⟨y, _, rfl⟩ := List.mem_map.mp hd'
  rfl
theorem kyD_sortable (f : Nat → Nat) (bs : List Nat) : PySem.W.Sortable (bs.map (kyD f)) := .inl fun d hd => by
  obtain ⟨x, _, rfl⟩ := List.mem_map.mp hd
  exact ⟨_, _, rfl⟩
theorem each_nv : ∀ {bs : List Nat} {us : List Value}, Vals (Lb.nv bs) us → PySem.W.EachIs (fun v (x : Nat) => ∃ t, v = .int (x : Int) t) us bs
  | [], _, h => by
    cases h
    exact .nil
  | b :: r, _, h => by
    cases h with
    | cons h1 h2 => exact .cons h1 (each_nv h2)
theorem nv_each : ∀ {bs : List Nat} {us : List Value}, PySem.W.EachIs (fun v (x : Nat) => ∃ t, v = .int (x : Int) t) us bs → Vals (Lb.nv bs) us
  | _, _, .nil => .nil
  | _, _, .cons h1 h2 => .cons h1 (nv_each h2)
/-- what is known where the list u has been read; total stands at the slot j -/
def SrtAt (P : Addr) (q : Str) (j : Nat) (σ : L2.St) (Q : VK) (u : V) (H1 : Hp) : Prop := ∃ (a L : Addr) (n : Nat) (f : Nat → Nat), u = .ref a ∧ H1 a = some (.lst (Lb.nv (List.range n))) ∧ n ≤ 100 ∧
  σ[j]? = some (some (.ref L)) ∧ H1 L = some (.lst (Lb.nv ((List.range n).map f))) ∧ TabS H1 P q ∧
  ∀ H2, ExtN H1 H2 → TabS H2 P q → ∀ p, H2 p = none → Q (.ref p) (upd H2 p (.lst (Lb.nv ((List.range n).mergeSort (ple f)))))
def tSortLam (P : Addr) (q : Str) (j : Nat) (te : TE) : TE := fun σ H Q => te σ H (SrtAt P q j σ Q)
theorem pe_sortLam {X : Cx} {P c : Addr} {j k : Nat} {e : Expr} {te : TE} {params : Arguments} {scope : Scope} {p1 p2 p3 p4 p5 p6 p lpos kpos pos : Pos} {tn xn : Str} (hg : Gl X "sorted") (hm : X.mg "sorted" = none) (he : PE X e te)
    (TB : TabB X.base X.mg c P) (hcode : X.env.code = .ref c) (hr : Room 2 X.A) (hdef : defaultsOf params X.env = ([], [])) (hj : X.N[j]? = some tn) (hc : X.env.scope.names.lookup tn = some .cell)
    (hbind : ∀ (q : Str) (cl : List (Str × Addr)) (pm cv ctv v : Value), bindArgs (PySem.W.kla_fn "<lambda>" q params (.Tuple [.UnaryOp .USub (.Subscript (.Name tn p1) (.Name xn p2) p3) p4, .Name xn p5] k p6) scope cl pm cv ctv) ⟨[v], []⟩ = pure [(xn, v)])
    (sk : scope.kind = .function) (sc : scope.isCoroutine = false) (sg : scope.isGenerator = false) (nc : ∀ y ∈ scope.names, y.2 ≠ .cell) (lx : scope.names.lookup xn = some .local) (lt : scope.names.lookup tn = some .free)
    (hfr : ∀ y ∈ scope.names, y.2 = .free → y.1 = tn) (hdx : (xn == ("__debug__" : Str)) = false) (hdt : (tn == ("__debug__" : Str)) = false) (hcd : (tn == ("__classdict__" : Str)) = false)
    (na : starEach [e] X.env = (false, eval e X.env) :: starEach [] X.env := by rfl) :
    PE X (.Call (.Name "sorted" p) [e] [⟨some "key", .Lambda params (.Tuple [.UnaryOp .USub (.Subscript (.Name tn p1) (.Name xn p2) p3) p4, .Name xn p5] k p6) scope lpos, kpos⟩] pos) (tSortLam P (X.env.qual ++ "<lambda>") j te) := by
  refine ⟨fun pins s σ H Q I h => ?_⟩
  have free0 : ∀ {y : Str × NameKind}, y ∈ scope.names → y.2 = .free → ∃ c, X.env.cells.lookup y.1 = some c := fun {y} hy h2 => by
    rw [hfr y hy h2]
    exact I.ok.has tn (.inl hc)
  refine wpAny_Call_Name_kw (ld_blt I hg hm (u := .builtin "sorted") rfl ?_ (by decide) (by decide))
  refine PyProof.Rows.callWith_kw (thn ((pa_cons he pa_nil na).run pos pins s σ H (fun vs H1 => match vs with
    | [u] => SrtAt P (X.env.qual ++ "<lambda>") j σ Q u H1
    | _ => False) I h) fun us s1 ⟨vs, H1, I1, r1, z1⟩ => ?_) (by rw [na] <;> rfl) (by rw [na] <;> rfl)
  obtain ⟨u, rfl, z2⟩ : ∃ u, vs = [u] ∧ SrtAt P (X.env.qual ++ "<lambda>") j σ Q u H1 := by
    match vs, z1 with
    | [u], z => exact ⟨u, rfl, z⟩
  obtain ⟨a, L, n, g, rfl, ha, hn, hs, hL, hT, q⟩ := z2
  rw [Vals.ref1 r1]
  show wpAny _ _ (evalAll ((do let v ← eval (.Lambda params _ scope lpos) X.env; standAt pos; pure v) :: [])) _ _ s1
  refine wpAny_evalAll_cons (wpAny_bind (lam_make2 (T := [(P, X.env.qual ++ "<lambda>")]) I1 TB hcode (List.mem_singleton.mpr rfl) (fun p hp _ => by rw [List.mem_singleton.mp hp]) (fun p hp => by rw [List.mem_singleton.mp hp]; exact hT) hdef (fun y hy e => free0 hy e)
    fun f c' pm ctv H2 s2 I2 eN T2 hf hfn hfr2 hco => wpAny_bind (wpAny_standAt (wpAny_pure (wpAny_evalAll_nil ?_)))))
  show wpAny _ _ (call (.builtin "sorted") [.ref a] [(Str.ofString "key", .ref f)]) _ _ s2
  have ha2 := eN a _ ha (by nofun)
  have hL2 := eN L _ hL (by nofun)
  obtain ⟨its, rv, pl, hz⟩ := I2.list (SqL.of ha2)
  obtain ⟨itL, rL, pL, zL⟩ := I2.list (SqL.of hL2)
  obtain ⟨⟨oc, vs, t0, o1, o2, o3⟩, _, _⟩ := I2.hok c' _ hco
  have rec_ : s2.heap.CodeRec (.ref c') (X.env.qual ++ "<lambda>") := ⟨c', oc, vs, t0, rfl, o1, o2, o3⟩
  obtain ⟨m, hns, hloc⟩ := I2.loc
  obtain ⟨w0, rw0, lk⟩ := hloc j tn _ hj hs (.inr (.inl hc))
  obtain rfl : w0 = Value.ref L := rw0
  have cell_ : ∃ ct, X.env.cells.lookup tn = some ct ∧ s2.heap.IsCell ct (some (.ref L)) := by
    rcases lk with ⟨z, _⟩ | ⟨_, ct, z1, z2⟩
    · have z' : X.env.scope.names.lookup tn = some .local := z
      rw [hc] at z'
      cases z'
    · exact ⟨ct, z1, z2⟩
  obtain ⟨ct, ct1, ct2⟩ := cell_
  have clo : (cloFrom X.env.cells scope.names []).lookup tn = some ct := by
    obtain ⟨c3, h3⟩ : ∃ c3, (cloFrom X.env.cells scope.names []).lookup tn = some c3 := mem_lookup (cloFrom_has (cells := X.env.cells) (acc := []) (PySem.mem_of_lookup lt))
    rcases cloFrom_mem (PySem.mem_of_lookup h3) with hm3 | ⟨_, h4⟩
    · cases hm3
    · rw [h3, h4, ct1] <;> rfl
  have hrd : X.A.depth + 11 < recursionLimit := hr.dp
  have hru : X.A.units + 232 < cLine := hr.un
  refine PySem.W.sorted_key_data (b := false) (bs := List.range n) (kyD g) pl.isList (each_nv rv) (kyD_alike g _) (kyD_sortable g _) (by rw [List.length_range]; exact Nat.le_trans hn (by decide)) (fun x _ => ?_) (PyProof.Rows.ksk_s1 _ _) (fun _ => PyProof.Rows.ksk_l1 _ _)
    (fun x => PyProof.Rows.ksk_t1 f x) (fun v x hv hx h3 tk k3 => ?_) fun out c3 h3 tk k3 f3 a3 l3 e3 => ?_
  · have d1 : PyData.depth (kyD g x) ≤ 2 := by
      unfold kyD
      simp [PyData.depth, PyData.depthAll]
    omega
  · obtain ⟨t3, rfl⟩ := hv
    have hxn : x < n := List.mem_range.mp hx
    obtain ⟨y, hy, ry⟩ := rL.get (i := x) (x := V.int (g x : Int)) (by rw [List.getElem?_map, List.getElem?_map, List.getElem?_range hxn] <;> rfl)
    obtain ⟨ty, rfl⟩ := ry
    refine wpAny_mono (key_turn (s := { s2 with heap := h3, toks := tk }) (L := L) (its := itL) (y := (g x : Int)) (ty := ty) (show X.A.depth < recursionLimit by omega) (I2.nolimit.keeps k3) (k3 _ _ hf) (rec_.keeps k3) clo ?_ ?_ (Int.natCast_nonneg _) (by omega) (by rw [Int.toNat_natCast]; simpa using hy) (fun v => hbind _ _ _ _ _ _) sk sc sg nc lx lt hdx hdt hcd)
      (fun _ _ z => z) fun _ _ z => z
    · obtain ⟨o, z1, z2⟩ := ct2
      exact ⟨o, k3 _ _ z1, z2⟩
    · obtain ⟨o, z1, z2⟩ := pL.isList
      exact ⟨o, k3 _ _ z1, z2⟩
  · have es : (List.range n).mergeSort (PySem.W.dataLe false (kyD g)) = (List.range n).mergeSort (ple g) := by
      have e4 : PySem.W.dataLe false (kyD g) = ple g := funext fun x => funext fun y => kyD_le g x y
      rw [e4]
    rw [es] at e3
    refine ⟨.ref (s2.heap.objs.size + 1), _, I2.laid (o := .lst (Lb.nv ((List.range n).mergeSort (ple g)))) k3 (Nat.le_succ _) ⟨?_, out, c3, nv_each e3, a3⟩, rfl, q H2 eN ?_ _ (I2.hok.fresh (Nat.le_succ _))⟩
    · rw [List.length_map, List.length_mergeSort, List.length_range]
      exact Nat.le_trans hn (by decide)
    · exact T2 _ (List.mem_singleton.mpr rfl)
/-! ### the end of a row of ints whose defs make a lambda -/
/-- the arguments are ints: nothing but the table at P is tracked -/
theorem ints_well {Pm : Params} {h : Heap} : ∀ {ns : List Int} {us : List Value}, PySem.W.WellAll Pm h us (ns.map PySem.W.WData.int) → Vals (ns.map V.int) us
  | [], _, x => by
    cases x
    exact .nil
  | n :: r, _, x => by
    cases x with
    | cons x1 x2 =>
      cases x1
      exact .cons ⟨_, rfl⟩ (ints_well x2)
def onlyTab (P : Addr) : Hp := fun b => if b = P then some (.tbl #[]) else none
theorem onlyTab_at {P : Addr} : onlyTab P P = some (.tbl #[]) := if_pos rfl
theorem onlyTab_ne {P b : Addr} (h : b ≠ P) : onlyTab P b = none := if_neg h
theorem onlyTab_of {P b : Addr} {u : HO} (h : onlyTab P b = some u) : b = P ∧ u = .tbl #[] := by
  by_cases e : b = P
  · refine ⟨e, ?_⟩
    rw [e, onlyTab_at] at h
    exact (Option.some.inj h).symm
  · rw [onlyTab_ne e] at h
    cases h
/-- the head's facts of a def's code object c and its table P -/
structure TabHd (K : PySem.W.Frag) (h : Heap) (c P : Addr) : Prop where
  tab : h.get? P = some (PySem.W.tabObj #[])
  out : K.lookup P = none
  code : PySem.W.CodeHd h c P
section
variable {p : Program} {w : World} {K : PySem.W.Frag} {mg mb : Str → Option Value} {CX : CXT} {k : Nat} {fa c P : Addr} {fd : FuncData} {ps : List Str} {sp : Sp} {s₁ : Shared} {vals : List Value} {ns : List Int} {R : PySem.W.WRecords} {cl : Str → Option Addr} {d0 : PySem.W.WData}
theorem end_call (KX : K.In s₁.heap) (hns : s₁.heap.Ns mainGlobals mg) (hb : s₁.heap.Ns builtinsNs mb) (hbb : ∀ x : Str, x ≠ "__name__" → mb x = bootBuiltins x) (hlim : s₁.heap.NoLimit) (hg : s₁.gens = #[]) (TH : TabHd K s₁.heap c P)
    (hbm : ∃ bm ob, mg "__builtins__" = some (.ref bm) ∧ bm ≠ builtinsNs ∧ s₁.heap.get? bm = some ob ∧ ob.cls = .type "module" ∧ ob.dict = some builtinsNs ∧ ob.data = .plain)
    (hV : Vals (ns.map V.int) vals) (hl : vals.length = ps.length) (hr : Room k callerA) (F : ∀ base : Heap, K.In base → base.Ns mainGlobals mg → TabB base mg c P → FnOk p w K mg base CX k fa fd ps sp)
    (hbind : ∀ (s : Shared) (us : List Value), us.length = ps.length → BindsTo s fd ⟨us, []⟩ (ps.zip us)) (hsp : sp (ns.map V.int) (onlyTab P) (fun v H' => Dw K H' v d0) fun _ _ _ => False) (hCX : ∀ H e s', CX [] H s₁ (fun _ _ _ => False) e s' → False) :
    codeAny (model p w) callerA (.call (.ref fa) ⟨vals, []⟩) (fun r s' => ∃ u as, r = .ok (.ret u) ∧ PySem.W.ReadsW R cl s'.heap u d0 as ∧ OldK s₁.heap s'.heap ∧ s'.os = s₁.os ∧ AllBare s'.gens) s₁ := by
  have off : ∀ {b : Addr} {o : Obj}, s₁.heap.get? b = some o → o ≠ PySem.W.tabObj #[] → b ≠ P := fun {b o} e n z => n (by
    rw [z, TH.tab] at e
    exact (Option.some.inj e).symm)
  have keepB : ∀ {b : Addr} {o : Obj}, s₁.heap.get? b = some o → o ≠ PySem.W.tabObj #[] → (hidT s₁.heap (onlyTab P)).get? b = some o := fun e n => hidT_get e (onlyTab_ne (off e n))
  have dic : ∀ {o : Obj} {es : Array DictEntry} {ep : Nat}, o.data = .dict es ep → o ≠ PySem.W.tabObj #[] := fun {o es ep} hd z => by
    rw [z] at hd
    cases hd
  have nsB : ∀ {b : Addr} {m : Str → Option Value}, s₁.heap.Ns b m → (hidT s₁.heap (onlyTab P)).Ns b m := fun {b m} ⟨o, es, ep, e, d, r⟩ => ⟨o, es, ep, keepB e (dic d), d, r⟩
  have KB : K.In (hidT s₁.heap (onlyTab P)) := fun b o e => hidT_get (KX b o e) (onlyTab_ne fun z => by
    rw [z, TH.out] at e
    cases e)
  have MB : L2.Mod K mg (hidT s₁.heap (onlyTab P)) := ⟨KB, nsB hns, ⟨mb, nsB hb, hbb⟩, let ⟨mc, h1, h2⟩ := hlim; ⟨mc, nsB h1, h2⟩⟩
  have okH : HOk p w (onlyTab P) s₁.heap := fun b u e => by
    obtain ⟨rfl, rfl⟩ := onlyTab_of e
    exact TH.tab
  have gP : mainGlobals ≠ P := by
    obtain ⟨o, es, ep, e, d, _⟩ := hns
    exact off e (dic d)
  have TB : TabB (hidT s₁.heap (onlyTab P)) mg c P := by
    refine ⟨?_, ?_, gP⟩
    · obtain ⟨o, us, g1, g2, g3, g4, g5, g6, g7, e1, r1, r⟩ := TH.code
      refine ⟨o, us, g1, g2, g3, g4, g5, g6, g7, keepB e1 (fun z => ?_), r1, r⟩
      rw [z] at r1
      cases r1
    · obtain ⟨bm, ob, b1, b2, b3, b4, b5, b6⟩ := hbm
      have nT : ob ≠ PySem.W.tabObj #[] := fun z => by
        rw [z] at b4
        cases b4
      refine ⟨bm, ob, b1, b2, fun z => ?_, off b3 nT, keepB b3 nT, b4, b5, b6⟩
      obtain ⟨o, es, ep, e, d, _⟩ := hns
      rw [z, e] at b3
      cases b3
      rw [d] at b6
      cases b6
  have E0 : Env0 p w K mg (hidT s₁.heap (onlyTab P)) callerA [] s₁ (onlyTab P) := ⟨rfl, MB, fun _ _ e => of_hidT e, Nat.le_of_eq (hidT_size ..), trivial, fun b m => (List.not_mem_nil (show b ∈ ([] : List Addr) from m)).elim, okH, .of_eq hg⟩
  refine codeAny_mono ((F _ KB (nsB hns) TB).run callerA [] s₁ (onlyTab P) ⟨vals, []⟩ vals (ns.map V.int) _ _ hr E0 (hbind s₁ vals hl) hV hsp) fun r s' x => ?_
  match r, x with
  | .error e, x => exact (hCX _ e s' x).elim
  | .ok .next, x => exact x.elim
  | .ok .brk, x => exact x.elim
  | .ok .cont, x => exact x.elim
  | .ok (.ret u), ⟨v, H', os, bare, un, okH', rv, q⟩ =>
    have kept : ∀ b o, b ≠ P → s₁.heap.get? b = some o → s'.heap.get? b = some o := fun b o n e => un.keep b o e (onlyTab_ne n) (fun z => (List.not_mem_nil (show b ∈ ([] : List Addr) from z)).elim) (fun z => (List.not_mem_nil z).elim)
    obtain ⟨more, hm⟩ := un.tbls P #[] onlyTab_at
    have grown : s'.heap.get? P = some (PySem.W.tabObj (#[] ++ more)) := okH' P _ hm
    have KX' : K.In s'.heap := fun b o e => kept b o (fun z => by
      rw [z, TH.out] at e
      cases e) (KX b o e)
    obtain ⟨as, hrd⟩ := Dw.reads (R := R) (cl := cl) okH' KX' d0 v u q rv
    refine ⟨u, as, rfl, hrd, ⟨fun b o e => ?_, fun b o e => ?_⟩, os, bare⟩
    · by_cases z : b = P
      · subst z
        have e' := e.symm.trans TH.tab
        cases e'
        exact .inr (.inl ⟨(TH.code.tab TH.tab).isCodeTable, rfl, #[], more, rfl, grown⟩)
      · exact .inl (kept b o z e)
    · by_cases z : b = P
      · subst z
        exact ⟨_, grown⟩
      · exact ⟨o, kept b o z e⟩
end
/-- what the top's ledger tells of a def's code object and table -/
def TabOf (mg : Str → Option Value) (h : Heap) (x : Str) : Prop := ∃ a o fd c P, mg x = some (.ref a) ∧ h.get? a = some o ∧ o.data = .func fd ∧ fd.code = .ref c ∧ h.IsCode c P #[] ∧ h.TableAt c P #[]
/-- the goal that the head leaves, for a row of ints whose defs (one of them: x) make a lambda -/
theorem walk_lam {r : PySem.W.OpenSpec} {k : Nat} {q : Program} {loose : List Str} {XP : (Str → Option Value) → Heap → Prop} {YP : World → Heap → Prop} {d : DefRec} {K : Params → PySem.W.Frag} {CX : CXT} {ps : List Str} {x : Str} {dx : DefRec}
    (hwell : r.wellSaid = true) (hdf : d.params.defaults = []) (hlen : r.args.length = ps.length) (hr : Room k callerA) (hY : ∀ (w : World) (h : Heap), YP w h → (K w.params).In h)
    (hx : (recsOf q).find? (fun e => e.name == x) = some dx) (enc : PySem.W.Codec.denoteAll r.args → List Int) (henc : ∀ a, PySem.W.Codec.encAll r.args a = (enc a).map PySem.W.WData.int)
    (F : ∀ (w : World) (mg : Str → Option Value) (fa : Addr) (h : Heap), YP w h → (K w.params).In h → h.Ns mainGlobals mg → TabOf mg h x → mg d.name = some (.ref fa) →
      ∃ (fd : FuncData) (c P : Addr) (sp : Sp), TabHd (K w.params) h c P ∧ (∀ (s : Shared) (us : List Value), us.length = ps.length → BindsTo s fd ⟨us, []⟩ (ps.zip us)) ∧
        (∀ base : Heap, (K w.params).In base → base.Ns mainGlobals mg → TabB base mg c P → FnOk r.prog w (K w.params) mg base CX k fa fd ps sp) ∧
        ∀ a : PySem.W.Codec.denoteAll r.args, PySem.W.Codec.withinAll r.args a = true → PySem.W.Codec.app r.args r.asked a = true → sp ((enc a).map V.int) (onlyTab P) (fun v H' => Dw (K w.params) H' v (r.ret.enc (PySem.W.Codec.app r.args r.f a))) fun _ _ _ => False)
    (hCX : ∀ (H : Hp) (s : Shared) (e : Value) (s' : Shared), CX [] H s (fun _ _ _ => False) e s' → False) : PySem.W.WalkOS q loose XP YP r d [] (fun f vs => PySem.call f vs) := by
  intro w s₀ s₁ mg mb G Y fa o pm cd doc dV kV ho hd hcd hD hmg hg args vals as hpre hlay hrd hwl hlo
  obtain ⟨a, e1, e2⟩ := PySem.W.os_pre_some hpre
  obtain ⟨rfl, hwi⟩ := PySem.W.Codec.encAll_of_decAll r.args args a e1
  have hn : dx.name = x := beq_iff_eq.mp (List.find?_some (p := fun e : DefRec => e.name == x) hx)
  obtain ⟨fd, c, P, sp, TH, hb, hF, hsp⟩ := F w mg fa _ Y (hY w _ Y) G.T.g (by
    obtain z := G.T.tab dx (List.mem_of_find?_eq_some hx)
    rw [hn] at z
    exact z) hmg
  have hwl2 := hwl
  rw [henc a] at hwl2
  have hl : vals.length = ps.length := by
    rw [wellAll_len hwl, encAll_len]
    exact hlen
  refine PySem.W.enter_call (codeAny_mono (end_call (R := []) (cl := classAt s₀.heap) (d0 := r.ret.enc (PySem.W.Codec.app r.args r.f a)) (hY w _ Y) G.T.g G.T.b G.T.builtins G.T.nolimit hg TH G.T.bmain (ints_well hwl2) hl hr hF hb (hsp a hwi e2) fun H e s' => hCX H s₁ e s') fun r' s' z => ?_)
  obtain ⟨u, as', rfl, h1, h2, h3, h4⟩ := z
  exact ⟨.inl ⟨u, _, as', rfl, fun _ => rfl, h1, (PySem.W.OpenSpec.post_iff hwell hwi _ _).mpr rfl, fun z => (Bool.false_ne_true z).elim⟩, h2, h3, h4⟩
/-! ### the item of a list, for xs[i] += e -/
def gL : V → V → Hp → VK → Prop := fun o i H Q => ∃ (p : Addr) (xs : List V) (j : Nat) (v : V), o = .ref p ∧ i = .int (j : Int) ∧ H p = some (.lst xs) ∧ j < 90000 ∧ xs[j]? = some v ∧ Q v H
theorem get_list {X : Cx} : PGet X gL := by
  intro pins s σ H o i ov iv Q I ro ri h
  obtain ⟨p, xs, j, v, rfl, rfl, hp, hj, hv, q⟩ := h
  cases ro
  obtain ⟨t, rfl⟩ := ri
  obtain ⟨its, rv, pl, hz⟩ := I.list (SqL.of hp)
  obtain ⟨u, hu, ru⟩ := rv.get hv
  exact wpAny_getItem_list pl.isList (Int.natCast_nonneg _) (by omega) (by rw [Int.toNat_natCast]; simpa using hu) ⟨v, H, I, ru, q⟩

/-! ### what is known and what there is, while the table at P grows -/
open Lb Evl
def NoTab (H : Hp) : Prop := ∀ b ps, H b ≠ some (.tbl ps)
theorem NoTab.le {H H2 : Hp} (n : NoTab H) (e : ExtN H H2) : Ex H H2 := fun b o h => e b o h fun ps z => n b ps (by rw [h, z])
theorem NoTab.back {H H2 : Hp} (n : NoTab H2) (e : Ex H H2) : NoTab H := fun b ps z => n b ps (e b _ z)
theorem NoTab.none : NoTab fun _ => none := fun b ps z => nomatch z
def nt (H : Hp) : Hp := fun b => match H b with
  | some (.tbl _) => none
  | o => o
theorem nt_le {H : Hp} : Ex (nt H) H := fun b o h => by
  unfold nt at h
  split at h
  · cases h
  · exact h
theorem nt_no (H : Hp) : NoTab (nt H) := fun b ps z => by
  unfold nt at z
  split at z
  · cases z
  · rename_i h
    exact h ps z
theorem nt_at {H : Hp} {b : Addr} {o : HO} (h : H b = some o) (n : ∀ ps, o ≠ .tbl ps) : nt H b = some o := by
  unfold nt
  rw [h]
  split
  · rename_i ps z
    exact (n ps (Option.some.inj z)).elim
  · rfl
theorem nt_none {H : Hp} {b : Addr} (h : H b = none) : nt H b = none := by
  unfold nt
  rw [h]
class NtP (A : As) : Prop where
  nt : ∀ {v : V} {H : Hp}, A v H → A v (Lt.nt H)
instance : NtP (Rv v0) := ⟨fun h => h⟩
instance {α : Type} {R : α → As} {xs : List α} [m : ∀ a, NtP (R a)] : NtP (Rl R xs) := ⟨fun h => by
  obtain ⟨p, ys, h1, h2, h3⟩ := h
  exact ⟨p, ys, h1, nt_at h2 (fun _ z => nomatch z), pr_imp h3 fun a b _ r => (m a).nt r⟩⟩
structure Wq (P : Addr) (q : Str) (H H1 Hk Ha : Hp) : Prop where
  a : Ex H Hk
  b : Ex Hk Ha
  c : ExtN H1 Ha
  d : ∀ b o, (∀ ps, o ≠ HO.tbl ps) → H b = none → H1 b = some o → Hk b = none
  n : NoTab Hk
  t : TabS Ha P q
variable {K : PySem.W.Frag} {P : Addr} {q : Str} {H H1 Hk Ha Hk2 Ha2 : Hp} {σ : L2.St}
theorem Wq.start (e : Ex H H1) (n : NoTab H) (t : TabS H1 P q) : Wq P q H H1 H H1 := ⟨Ex.refl _, e, ExtN.refl _, fun _ _ _ h _ => h, n, t⟩
theorem Wq.trans (w : Wq P q H H1 Hk Ha) (u : Wq P q Hk Ha Hk2 Ha2) : Wq P q H H1 Hk2 Ha2 := ⟨w.a.trans u.a, u.b, w.c.trans u.c, fun b o z h h1 => u.d b o z (w.d b o z h h1) (w.c b o h1 z), u.n, u.t⟩
theorem Wq.of (w : Wd H H1 Hk Ha) (n : NoTab H) (t : TabS H1 P q) : Wq P q H H1 (nt Hk) Ha :=
  ⟨fun b o h => nt_at (w.a b o h) fun ps z => n b ps (by rw [h, z]), fun b o h => w.b b o (nt_le b o h), ExtN.of w.c, fun b o _ h h1 => nt_none (w.d b o h h1), nt_no _, t.ext w.c⟩
/-- where all that is known is no table -/
theorem Wq.same (w : Wd H H1 Hk Ha) (n : NoTab Hk) (t : TabS H1 P q) : Wq P q H H1 Hk Ha := ⟨w.a, w.b, ExtN.of w.c, fun b o _ h h1 => w.d b o h h1, n, t.ext w.c⟩
def Rq (P : Addr) (q : Str) (H H1 : Hp) (A : As) (Q : VK) : Prop := ∀ v Hk Ha, Wq P q H H1 Hk Ha → A v Hk → Q v Ha
theorem Rq.go {A : As} {Q : VK} (r : Rq P q H H1 A Q) (w : Wq P q H H1 Hk Ha) : Rq P q Hk Ha A Q := fun v Hk' Ha' u p => r v Hk' Ha' (w.trans u) p
theorem Rq.lb {A : As} {Q : VK} [m : NtP A] (r : Rq P q H H1 A Q) (w : Wq P q H H1 Hk Ha) : Ret Hk Ha A Q := fun v Hk' Ha' u p => r v (nt Hk') Ha' (w.trans (Wq.of u w.n w.t)) (m.nt p)
def EvQ (P : Addr) (q : Str) (te : TE) (σ : L2.St) (H : Hp) (A : As) : Prop := ∀ H1, Ex H H1 → NoTab H → TabS H1 P q → ∀ Q : VK, Rq P q H H1 A Q → te σ H1 Q
theorem eq_ep {te : TE} {A : As} [NtP A] (h : EvP te σ H A) : EvQ P q te σ H A := fun H1 e n t Q r => h H1 e Q (r.lb (Wq.start e n t))
theorem EvQ.mono {te : TE} {A : As} [m : MonoP A] {H' : Hp} (e : Ex H H') (h : EvQ P q te σ H A) : EvQ P q te σ H' A := fun H1 e1 n t Q r => h H1 (e.trans e1) (n.back e) t Q fun v Hk Ha w p => by
  have e2 : Ex H' Ha := n.le ((ExtN.of e1).trans w.c)
  refine r v (join Hk H') Ha ⟨ex_join2 w.b e2, ex_join w.b e2, w.c, fun b o z h1 h2 => ?_, fun b ps z => ?_, w.t⟩ (m.mono ex_join1 p)
  · have h3 : H b = none := fresh_back e h1
    unfold join
    rw [w.d b o z h3 h2]
    exact h1
  · unfold join at z
    cases hk : Hk b with
    | none =>
      rw [hk] at z
      exact n b ps z
    | some u =>
      rw [hk] at z
      exact w.n b ps (by rw [hk]; exact z)
theorem eq_op {r : R2} {ta tb : TE} {P1 P2 A : As} [MonoP P1] [MonoP P2] [NtP A] (ha : EvQ P q ta σ H P1) (hb : EvQ P q tb σ H P2)
    (hr : ∀ x y Hk Ha, Ex H Hk → Ex Hk Ha → P1 x Hk → P2 y Hk → ∀ Q, Ret Hk Ha A Q → r x y Ha Q) : EvQ P q (tOp r ta tb) σ H A := fun H1 e n t Q ret =>
  ha H1 e n t _ fun x Hk1 Ha1 w1 p1 => (hb.mono w1.a) Ha1 w1.b w1.n w1.t _ fun y Hk2 Ha2 w2 p2 => hr x y Hk2 Ha2 (w1.a.trans w2.a) w2.b (MonoP.mono w2.a p1) p2 Q (ret.lb (w1.trans w2))
theorem eq_ix {α : Type} {R : α → As} {xs : List α} {x : α} {j : Nat} {ta tb : TE} [∀ a, MonoP (R a)] [∀ a, NtP (R a)] (ha : EvQ P q ta σ H (Rl R xs)) (hb : EvQ P q tb σ H (Rn j)) (hx : xs[j]? = some x) : EvQ P q (tOp (rIxL K) ta tb) σ H (R x) :=
  eq_op ha hb fun u y Hk Ha e1 e2 p1 p2 Q ret => by
    have p2' : y = .int (j : Int) := p2
    subst p2'
    obtain ⟨p, ys, z, rfl, h2, h3, h4⟩ := rl_at p1 hx
    exact ⟨p, ys, (j : Int), z, rfl, rfl, SqL.of (e2 p _ h2), atI_nat h3, ret.now e2 h4⟩
theorem eq_cat {α : Type} {R : α → As} {xs ys : List α} {ta tb : TE} [m : ∀ a, MonoP (R a)] [∀ a, NtP (R a)] (ha : EvQ P q ta σ H (Rl R xs)) (hb : EvQ P q tb σ H (Rl R ys)) (hz : xs.length + ys.length ≤ 100000) : EvQ P q (tOp rCat ta tb) σ H (Rl R (xs ++ ys)) :=
  eq_op ha hb fun u w Hk Ha e1 e2 p1 p2 Q ret => by
    obtain ⟨a, us, rfl, h2, h3⟩ := p1
    obtain ⟨b, ws, rfl, h5, h6⟩ := p2
    refine ⟨a, b, us, ws, rfl, rfl, e2 a _ h2, e2 b _ h5, sz_of (by rw [← h3.length, ← h6.length]; exact hz), fun l hl => ?_⟩
    have w0 := (Wd.start e2).new (o := .lst (us ++ ws)) hl
    exact ret _ _ _ w0 ⟨l, _, rfl, upd_same, pr_imp (pr_app h3 h6) fun a b _ z => (m a).mono w0.a z⟩
theorem eq_imp {te : TE} {A B : As} (h : EvQ P q te σ H A) (k : ∀ v H', Ex H H' → A v H' → B v H') : EvQ P q te σ H B := fun H1 e n t Q r => h H1 e n t Q fun v Hk Ha w p => r v Hk Ha w (k v Hk w.a p)
/-- a def's promise where the table may grow -/
def SpQ (P : Addr) (q : Str) (Pre : List V → Hp → As → Prop) : Sp := fun vs H1 Q _ => ∃ H A, Ex H H1 ∧ NoTab H ∧ TabS H1 P q ∧ Pre vs H A ∧ Rq P q H H1 A Q
theorem Rq.later {A : As} {Q : VK} {H2 : Hp} (r : Rq P q H H1 A Q) (e : Ex H1 H2) : Rq P q H H2 A Q := fun v Hk Ha w p => r v Hk Ha ⟨w.a, w.b, (ExtN.of e).trans w.c, fun b o z h h1 => w.d b o z h (e b o h1), w.n, w.t⟩ p
theorem eq_call2 {Pre : List V → Hp → As → Prop} {E : XK} {ta tb : TE} {x y : V} {A : As} (ha : EvP ta σ H (Rv x)) (hb : EvP tb σ H (Rv y)) (hp : Pre [x, y] H A) : EvQ P q (tCall (SpQ P q Pre) [] E (tCons ta (tCons tb tNil))) σ H A := fun H1 e n t Q ret =>
  (ev_ep ha) H1 e _ fun H2 e2 => (ev_ep hb) H2 (e.trans e2) _ fun H3 e3 => ⟨H, A, e.trans (e2.trans e3), n, t.ext (e2.trans e3), hp, ret.later (e2.trans e3)⟩
theorem eq_call4 {Pre : List V → Hp → As → Prop} {E : XK} {ta tb tc td : TE} {x y z u : V} {A : As} (ha : EvP ta σ H (Rv x)) (hb : EvP tb σ H (Rv y)) (hc : EvP tc σ H (Rv z)) (hd : EvP td σ H (Rv u)) (hp : Pre [x, y, z, u] H A) :
    EvQ P q (tCall (SpQ P q Pre) [] E (tCons ta (tCons tb (tCons tc (tCons td tNil))))) σ H A := fun H1 e n t Q ret =>
  (ev_ep ha) H1 e _ fun H2 e2 => (ev_ep hb) H2 (e.trans e2) _ fun H3 e3 => (ev_ep hc) H3 ((e.trans e2).trans e3) _ fun H4 e4 => (ev_ep hd) H4 (((e.trans e2).trans e3).trans e4) _ fun H5 e5 =>
    have e6 := ((e2.trans e3).trans e4).trans e5
    ⟨H, A, e.trans e6, n, t.ext e6, hp, ret.later e6⟩
theorem p_retq {D : Ends} {Q : VK} {te : TE} {A : As} (w : Wq P q H H1 Hk Ha) (h : EvQ P q te σ Hk A) (r : Rq P q H H1 A Q) (hq : D.rt = Q) : tRet te D σ Ha := by
  subst hq
  exact h Ha w.b w.n w.t _ (r.go w)
/-- a list that is no table and no code object changes, or is laid -/
theorem tab_mut {l : Addr} {o : HO} (t : TabS H P q) (h : H l = none ∨ ∃ zs, H l = some (.lst zs)) : TabS (upd H l o) P q := by
  obtain ⟨ps, h1, h2, h3⟩ := t
  have off : ∀ b u, H b = some u → (∀ zs, u ≠ .lst zs) → b ≠ l := fun b u hb hu z => by
    rw [z] at hb
    rcases h with h | ⟨zs, h⟩
    · rw [h] at hb
      cases hb
    · rw [h] at hb
      exact hu zs (Option.some.inj hb).symm
  refine ⟨ps, by rw [upd_ne (off _ _ h1 fun zs z => nomatch z)]; exact h1, h2, fun pos cv hc => ?_⟩
  obtain ⟨c, e1, e2⟩ := h3 pos cv hc
  exact ⟨c, e1, by rw [upd_ne (off _ _ e2 fun zs z => by unfold CodeO at z; cases z)]; exact e2⟩
theorem Wq.mut {l : Addr} {o : HO} (w : Wq P q H H1 Hk Ha) (h : Hk l = none) (h1 : H1 l = none) (ha : Ha l = none ∨ ∃ zs, Ha l = some (.lst zs)) : Wq P q H H1 Hk (upd Ha l o) :=
  ⟨w.a, w.b.mut h, fun b u hb hn => by rw [upd_ne (ne_of_none hb h1)]; exact w.c b u hb hn, w.d, w.n, tab_mut w.t ha⟩
/-- a comprehension's list in the making -/
structure Cq (P : Addr) (q : Str) (H H1 : Hp) (D : Addr) {γ : Type} (S : γ → As) (done : List γ) (H' : Hp) : Prop where
  hd : H D = none
  h1 : H1 D = none
  ex : ∃ Hk zs, Wq P q H H1 Hk H' ∧ Hk D = none ∧ H' D = some (.lst zs) ∧ Paired (fun x y => S x y Hk) done zs
section
variable {α γ : Type} {R : α → As} {S : γ → As} [mR : ∀ a, MonoP (R a)] [mS : ∀ c, MonoP (S c)] {xs : List α} {tl te : TE} {vs : List Nat} {g : TG}
/-- [el for x in xs], xs known ahead -/
theorem eq_lc {a : Addr} {ys : List V} (el : α → γ) (hl : EvP tl σ H (Rv (.ref a))) (hs : H a = some (.lst ys)) (h3 : Paired (fun x y => R x y H) xs ys) (hz : xs.length < 90000)
    (turn : ∀ (i : Nat) (x : α) (v : V) Hk Ha, xs[i]? = some x → Ex H Hk → Ex Hk Ha → NoTab Hk → R x v Hk → ∀ Q' : L2.St → Hp → Prop, (∀ σ2, wipe σ2 vs = wipe σ vs → EvQ P q te σ2 Hk (S (el x)) → Q' σ2 Ha) → g v (wipe σ vs) Ha Q') :
    EvQ P q (tLc (iList K tl) g tYes te vs) σ H (Rl S (xs.map el)) := fun H1 e n t Q ret =>
  (ev_ep hl) H1 e _ fun H2 e2 => by
    have ret2 := ret.later e2
    have e12 := e.trans e2
    refine ⟨a, rfl, ⟨ys, SqL.of (e12 a _ hs)⟩, fun D hD => ?_⟩
    have hD0 := fresh_back e12 hD
    refine lc_list (K := K) (a := a) (xs := ys) (fun i H' => Cq P q H H2 D S ((xs.take i).map el) H') ⟨hD0, hD, H, [], (Wq.start e12 n (t.ext e2)).mut hD0 hD (.inl hD), hD0, upd_same, .nil⟩ (fun i H' _ c => ?_) (fun i y H' hy c => ?_) fun H' c => ?_
    · obtain ⟨_, _, Hk, zs, w, _⟩ := c
      exact SqL.of ((w.a.trans w.b) a _ hs)
    · obtain ⟨x, hx, hr⟩ := pr_back h3 hy
      obtain ⟨h0, h1, Hk, zs, w, hk, hd, hp⟩ := c
      refine turn i x y Hk H' hx w.a w.b w.n ((mR x).mono w.a hr) _ fun σ2 hw he => ⟨hw, ?_⟩
      refine he H' w.b w.n w.t _ fun v Hk4 Ha4 w4 p4 => ?_
      have nL : ∀ ps, (HO.lst zs) ≠ .tbl ps := fun ps z => by cases z
      have hd4 := w4.c D _ hd nL
      have hk4 := w4.d D _ nL hk hd
      have hl2 : zs.length ≤ xs.length := by
        rw [← hp.length, List.length_map, List.length_take]
        omega
      refine ⟨zs, hd4, sz_lt (by omega), h0, h1, Hk4, zs ++ [v], (w.trans w4).mut hk4 h1 (.inr ⟨_, hd4⟩), hk4, upd_same, ?_⟩
      have e5 : (xs.take (i + 1)).map el = (xs.take i).map el ++ [el x] := by
        rw [List.take_add_one, hx, List.map_append]
        rfl
      rw [e5]
      exact Paired.snoc (pr_imp hp fun a b _ r => (mS a).mono w4.a r) p4
    · obtain ⟨h0, h1, Hk, zs, w, hk, hd, hp⟩ := c
      rw [← h3.length, List.take_length] at hp
      refine ret2 (.ref D) (upd Hk D (.lst zs)) H' ⟨w.a.trans (Ex.new hk), fun b o z => ?_, w.c, fun b o z i1 i2 => ?_, fun b ps z => ?_, w.t⟩ ⟨D, zs, rfl, upd_same, pr_imp hp fun a b _ r => (mS a).mono (Ex.new hk) r⟩
      · by_cases hb : b = D
        · rw [hb, upd_same] at z
          rw [hb, hd]
          exact z
        · rw [upd_ne hb] at z
          exact w.b b o z
      · rw [upd_ne (ne_of_none i2 hD)]
        exact w.d b o z i1 i2
      · by_cases hb : b = D
        · rw [hb, upd_same] at z
          cases z
        · rw [upd_ne hb] at z
          exact w.n b ps z
end
/-- a def whose code object is known -/
theorem ok_code {p : Program} {w : World} {mg : Str → Option Value} {base : Heap} {x qual : Str} {st : Stmt} {f c : Addr} {fd : FuncData} {N ps : List Str} {k : Nat} {sp : Sp} (F : Fun K x qual st f fd) (hc : fd.code = .ref c) (S : FnScope N ps (defScope st)) (len : ∀ vs H Q E, sp vs H Q E → vs.length = ps.length)
    (hbody : ∀ A outer s H vs Q E, Room k (A.deeper (envOfC qual (defScope st) s.heap.objs.size f (.ref c))) → sp vs H Q E → ∃ t, PSs (cxOf CX0 p w K mg base N qual (defScope st) f (.ref c) A outer s H E).nox (defBody st) t ∧ t { nx := fun _ H' => Q .non H', rt := Q } (start N vs) H) :
    FnOk p w K mg base CX0 (k + 1) f fd ps sp := by
  obtain ⟨oc, od, kV, doc, pm, an, cdv, ct, osl, rfl, lk, hcd⟩ := F.ex
  obtain rfl : cdv = .ref c := hc
  refine fn_of lk hcd S len fun A outer s H vs Q E hr hsp => ?_
  obtain ⟨t, h, z⟩ := hbody A outer s H vs Q E hr hsp
  exact ⟨t, h.nox, z⟩
theorem Wq.new {l : Addr} {o : HO} (w : Wq P q H H1 Hk Ha) (hl : Ha l = none) (no : ∀ ps, o ≠ .tbl ps) : Wq P q H H1 (upd Hk l o) (upd Ha l o) :=
  ⟨w.a.trans (Ex.new (fresh_back w.b hl)), ex_upd w.b, fun b u hb hn => by
    have z := w.c b u hb hn
    rw [upd_ne (ne_of_none z hl)]
    exact z, fun b u hn h h1 => by
    rw [upd_ne (ne_of_none (w.c b u h1 hn) hl)]
    exact w.d b u hn h h1, fun b ps z => by
    by_cases hb : b = l
    · rw [hb, upd_same] at z
      exact no ps (Option.some.inj z)
    · rw [upd_ne hb] at z
      exact w.n b ps z, tab_mut w.t (.inl hl)⟩
/-- all but tables stay -/
theorem Wq.extN (w : Wq P q H H1 Hk Ha) (e : ExtN Ha Ha2) (t : TabS Ha2 P q) : Wq P q H H1 Hk Ha2 := ⟨w.a, fun b o h => e b o (w.b b o h) fun ps z => w.n b ps (by rw [h, z]), w.c.trans e, w.d, w.n, t⟩
theorem wd_back (w : Wd H H1 Hk Ha) : Wd H H1 H Ha := ⟨Ex.refl _, w.a.trans w.b, w.c, fun _ _ h _ => h⟩
instance {l : List Int} : NtP (Zl l) := ⟨fun h => by
  obtain ⟨p, h1, h2⟩ := h
  exact ⟨p, h1, nt_at h2 (fun _ z => nomatch z)⟩⟩
/-- name = [0 for x in range(e)], a list of our own -/
theorem p_newZ {tz : TS} {D : Ends} {i j n : Nat} {vs : List Nat} {tl : TE} (w : Wd H H1 Hk Ha) (hl : EvP tl σ Hk (Rn n)) (hn : n < 90000) (hw : ∀ v, wipe ((wipe σ vs).set j (some v)) vs = wipe σ vs)
    (k : ∀ l Ha2, Hk l = none → H1 l = none → Wd H H1 Hk Ha2 → Ha2 l = some (.lst (nv ((List.range n).map fun _ => 0))) → tz D (σ.set i (some (.ref l))) Ha2) :
    tSeq (tAsg (tLc (iRng1 (tCons tl tNil)) (gName j) tYes (tC (.int 0)) vs) (gName i)) tz D σ Ha :=
  (ev_ep hl) Ha w.b _ fun H2 e2 => by
    refine ⟨(n : Int), rfl, by omega, by omega, fun l hD => ?_⟩
    have en : ((n : Int)).toNat = n := by omega
    rw [en]
    have w2 := w.ext e2
    have hk0 := fresh_back w2.b hD
    have h10 := fresh_back w2.c hD
    refine lc_range (lo := 0) (n := n) (fun i H' => Wd H H1 Hk H' ∧ H' l = some (.lst (nv ((List.range i).map fun _ => 0)))) ⟨w2.mut hk0 h10, upd_same⟩ (fun i H' hi c => ?_) fun H' c => k l H' hk0 h10 c.1 c.2
    refine ⟨hw _, ?_⟩
    show ∃ acc, H' l = some (.lst acc) ∧ acc.length < sizeLine ∧ _
    refine ⟨_, c.2, sz_lt (by rw [List.length_map, List.length_map, List.length_range]; omega), c.1.mut hk0 h10, ?_⟩
    rw [upd_same, List.range_succ, List.map_append]
    exact congrArg _ (congrArg _ (nv_snoc _ 0).symm)
theorem ep_max {xs : List Nat} {mx : Nat} {ta : TE} (ha : EvP ta σ H (Rl Rn xs)) (hne : 0 < xs.length) (hu : ∀ y, y ∈ xs → (∀ z ∈ xs, z ≤ y) → y = mx) : EvP (tCB (rMax K) (tCons ta tNil)) σ H (Rn mx) := ep_cb1 ha fun u Hk Ha e1 e2 p1 Q ret => by
  obtain ⟨a, rfl, h2⟩ := rl_rv p1
  refine ⟨a, xs.map fun (n : Nat) => (n : Int), rfl, ?_, by rw [List.length_map]; exact hne, fun m hm hle => ?_⟩
  · rw [List.map_map]
    exact SqL.of (e2 a _ h2)
  · obtain ⟨y, hy, rfl⟩ := List.mem_map.mp hm
    have e : y = mx := hu y hy fun z hz => by
      have := hle (z : Int) (List.mem_map.mpr ⟨z, hz, rfl⟩)
      omega
    subst e
    exact ret.now e2 rfl
theorem nv_set (l : List Nat) (x a : Nat) : (nv l).set x (V.int (a : Int)) = nv (l.set x a) := (List.map_set (f := fun (n : Nat) => V.int (n : Int))).symm
theorem p_one {t : TS} {D : Ends} (h : tSeq t (fun D => D.nx) D σ Ha) : t D σ Ha := h
/-- name = sorted(list(range(e)), key=lambda ..) -/
theorem p_sortLam {tf : TE} {tz : TS} {D : Ends} {i j m : Nat} (w : Wd H H1 Hk Ha) (hf : EvP tf σ Hk (Rn m)) (hm : m ≤ 100)
    (k : ∀ qa H2, Ex Ha H2 → H2 qa = none → SrtAt P q j σ (fun v H' => tz D (σ.set i (some v)) H') (.ref qa) (upd H2 qa (.lst (rgV 0 (m : Int))))) : tSeq (tAsg (tSortLam P q j (tLstRg (tRg1 tf))) (gName i)) tz D σ Ha :=
  (ev_ep hf) Ha w.b _ fun H2 e2 => ⟨(m : Int), rfl, RgOk.of_le (by omega) (by omega) (by omega) (by omega), fun qa hq => k qa H2 e2 hq⟩
/-- the ledger's row of a def that the written part holds -/
theorem tab_hd {K : PySem.W.Frag} {h : Heap} {mg : Str → Option Value} {x : Str} {f : Addr} {fd : FuncData} {oc : Value} {od : Option Addr} {sl : Array (Option Value)} (X : K.In h) (hK : PySem.W.noTabs K = true) (tb : TabOf mg h x) (hm : mg x = some (.ref f)) (l : K.lookup f = some ⟨oc, od, .func fd, sl⟩) :
    ∃ c P, TabHd K h c P ∧ fd.code = .ref c := by
  obtain ⟨a, o, fd2, c, P, m1, m2, m3, m4, m5, m6⟩ := tb
  rw [hm] at m1
  cases m1
  rw [X _ _ l] at m2
  cases m2
  cases m3
  refine ⟨c, P, ⟨m6.2, ?_, PySem.W.CodeHd.of m5 m6⟩, m4⟩
  cases e : K.lookup P with
  | none => rfl
  | some u =>
    have e2 := X _ _ e
    rw [m6.2] at e2
    cases e2
    exact absurd (show false = true from List.all_eq_true.mp hK (P, _) (PySem.W.mem_of_lookupK e)) Bool.false_ne_true
/-- the two ends joined -/
theorem lam_end {p : Program} {w : World} {K : PySem.W.Frag} {mg : Str → Option Value} {h : Heap} {CX : CXT} {k : Nat} {fa : Addr} {ps : List Str} {α : Type} {C1 C2 : α → Prop} {enc : α → List Int} {ret : α → PySem.W.WData} {q : Str} {Pre : List V → Hp → As → Prop}
    (z : ∃ (fd : FuncData) (c P : Addr), TabHd K h c P ∧ (∀ (s : Shared) (us : List Value), us.length = ps.length → BindsTo s fd ⟨us, []⟩ (ps.zip us)) ∧ ∀ base : Heap, K.In base → base.Ns mainGlobals mg → TabB base mg c P → FnOk p w K mg base CX k fa fd ps (SpQ P q Pre))
    (e : ∀ a, ∃ A : As, Pre ((enc a).map V.int) (fun _ => none) A ∧ ∀ v H H', Ex H H' → A v H → Dw K H' v (ret a)) :
    ∃ (fd : FuncData) (c P : Addr) (sp : Sp), TabHd K h c P ∧ (∀ (s : Shared) (us : List Value), us.length = ps.length → BindsTo s fd ⟨us, []⟩ (ps.zip us)) ∧ (∀ base : Heap, K.In base → base.Ns mainGlobals mg → TabB base mg c P → FnOk p w K mg base CX k fa fd ps sp) ∧
      ∀ a, C1 a → C2 a → sp ((enc a).map V.int) (onlyTab P) (fun v H' => Dw K H' v (ret a)) fun _ _ _ => False := by
  obtain ⟨fd, c, P, h1, h2, h3⟩ := z
  refine ⟨fd, c, P, _, h1, h2, h3, fun a _ _ => ?_⟩
  obtain ⟨A, p1, p2⟩ := e a
  exact ⟨fun _ => none, A, fun b o z => (Option.some_ne_none o z.symm).elim, NoTab.none, TabS.nil onlyTab_at, p1, fun v Hk Ha w q => p2 v Hk Ha w.b q⟩
end Lt

set_option Elab.async false
set_option maxRecDepth 100000
set_option maxHeartbeats 4000000
namespace Mw
open Sa92 Sa92Neutral
/-! ### what is asked of a table; the answer's two parts -/
theorem nats_lt (l : List Int) (h : ∀ x ∈ l, 0 ≤ x) : (nats l).map (fun (n : Nat) => (n : Int)) = l := by
  unfold nats
  rw [List.map_map]
  have e : ∀ l : List Int, (∀ x ∈ l, 0 ≤ x) → l.map ((fun (n : Nat) => (n : Int)) ∘ Int.toNat) = l := by
    intro l
    induction l with
    | nil => intro _; rfl
    | cons a r ih =>
      intro h
      rw [List.map_cons, ih fun x hx => h x (List.mem_cons_of_mem _ hx)]
      have := h a List.mem_cons_self
      congr 1
      show ((a.toNat : Nat) : Int) = a
      omega
  exact e l h
theorem table_len {n m : Int} {l : List Int} (h : table n m l = true) : l.length = if sized n m = true then cases n.toNat m.toNat else 0 := by
  unfold table at h
  simp only [Bool.and_eq_true, decide_eq_true_eq] at h
  exact h.2.2.2
theorem picks_is {n m : Int} {l : List Int} (h : table n m l = true) : forPicks (nats l) n m = (sized n m && (nats l).all fun x => decide ((x : Int) < m)) := by
  have hl := table_len h
  unfold forPicks
  cases hs : sized n m with
  | false => rfl
  | true =>
    rw [if_pos hs] at hl
    obtain ⟨n1, m1, rfl, rfl, ok⟩ := sized_of hs
    have e1 : decide ((nats l).length = cases ((n1 : Int)).toNat ((m1 : Int)).toNat) = true := decide_eq_true (by unfold nats; rw [List.length_map]; exact hl)
    rw [e1]
    simp only [Bool.true_and]
    refine congrArg (fun f => List.all (nats l) f) (funext fun x => ?_)
    exact decide_eq_decide.mpr (by omega)
theorem orders_is {n m : Int} {l : List Int} (h : table n m l = true) : forOrders (nats l) n m = (sized n m && (nats l).all fun x => decide ((x : Int) < ((many m.toNat : Nat) : Int))) := by
  have hl := table_len h
  unfold forOrders
  cases hs : sized n m with
  | false => rfl
  | true =>
    rw [if_pos hs] at hl
    obtain ⟨n1, m1, rfl, rfl, ok⟩ := sized_of hs
    have e1 : decide ((nats l).length = cases ((n1 : Int)).toNat ((m1 : Int)).toNat) = true := decide_eq_true (by unfold nats; rw [List.length_map]; exact hl)
    rw [e1]
    simp only [Bool.true_and]
    refine congrArg (fun f => List.all (nats l) f) (funext fun x => ?_)
    exact decide_eq_decide.mpr (by omega)
/-- a good table of picks, of orders -/
structure Tb (n m b : Nat) (w : List Nat) : Prop where
  ok : Ok n m
  len : w.length = cases n m
  lt : ∀ x ∈ w, x < b
theorem tb_picks {n m : Int} {l : List Int} (h : table n m l = true) (hg : (sized n m && (nats l).all fun x => decide ((x : Int) < m)) = true) : ∃ n1 m1 : Nat, n = (n1 : Int) ∧ m = (m1 : Int) ∧ Tb n1 m1 m1 (nats l) := by
  have hl := table_len h
  rw [Bool.and_eq_true, List.all_eq_true] at hg
  rw [if_pos hg.1] at hl
  obtain ⟨n1, m1, rfl, rfl, ok⟩ := sized_of hg.1
  refine ⟨n1, m1, rfl, rfl, ok, ?_, fun x hx => ?_⟩
  · unfold nats
    rw [List.length_map, hl]
    rfl
  · have := of_decide_eq_true (hg.2 x hx)
    omega
theorem tb_orders {n m : Int} {l : List Int} (h : table n m l = true) (hg : (sized n m && (nats l).all fun x => decide ((x : Int) < ((many m.toNat : Nat) : Int))) = true) : ∃ n1 m1 : Nat, n = (n1 : Int) ∧ m = (m1 : Int) ∧ Tb n1 m1 (many m1) (nats l) := by
  have hl := table_len h
  rw [Bool.and_eq_true, List.all_eq_true] at hg
  rw [if_pos hg.1] at hl
  obtain ⟨n1, m1, rfl, rfl, ok⟩ := sized_of hg.1
  refine ⟨n1, m1, rfl, rfl, ok, ?_, fun x hx => ?_⟩
  · unfold nats
    rw [List.length_map, hl]
    rfl
  · have h2 := of_decide_eq_true (hg.2 x hx)
    have e : ((m1 : Int)).toNat = m1 := by omega
    rw [e] at h2
    omega
theorem Tb.get {n m b : Nat} {w : List Nat} (t : Tb n m b w) {p : Nat} (hp : p < cases n m) : w[p]? = some (at_ w p) ∧ at_ w p < b := by
  have h : p < w.length := by rw [t.len]; exact hp
  have e : at_ w p = w[p] := by
    unfold at_
    rw [List.getD_eq_getElem?_getD, List.getElem?_eq_getElem h]
    rfl
  rw [e]
  exact ⟨List.getElem?_eq_getElem h, t.lt _ (List.getElem_mem h)⟩
def castL (l : List Nat) : List Int := l.map fun (x : Nat) => (x : Int)
def ansL (a : Ans) : List Int := a.v :: castL a.l
theorem said_none : ansL (said none) = [1] := rfl
theorem said_some (l : List Nat) : ansL (said (some l)) = 0 :: castL l := rfl
theorem voter_none : ansL (voter none) = [-1] := rfl
theorem voter_some (i : Nat) : ansL (voter (some i)) = [(i : Int)] := rfl
theorem zip_cases (n m : Nat) : (List.range (casesL n m).length).zip (casesL n m) = (List.range (cases n m)).map fun p => (p, caseL n m p) := by
  rw [casesL_len]
  unfold casesL
  rw [List.map_prod_left_eq_zip]
theorem all_cases {n m : Nat} (el : Nat × List Nat → Bool) : List.all (((List.range (casesL n m).length).zip (casesL n m)).map el) id = (List.range (cases n m)).all fun p => el (p, caseL n m p) := by
  rw [zip_cases, List.all_map, List.all_map]
  rfl
theorem caseL_getD {n m p i : Nat} (h : i < n) : (caseL n m p).getD i 0 = wish m p i := by
  rw [List.getD_eq_getElem?_getD, caseL_at h]
  rfl
theorem best_at {m k : Nat} (h1 : 2 ≤ m) (h2 : m ≤ 4) (h : k < many m) : (order m k)[0]? = some (best m k) := by
  have hl := order_len h1 h2 h
  unfold best
  cases e : order m k with
  | nil =>
    rw [e] at hl
    have : m = 0 := hl.symm
    omega
  | cons a r => rfl
theorem best_lt {m k : Nat} (h1 : 2 ≤ m) (h2 : m ≤ 4) (h : k < many m) : best m k < m := order_lt h1 h2 h (List.mem_of_getElem? (best_at h1 h2 h))
theorem dec_nat {a b : Nat} : decide (((a : Nat) : Int) = ((b : Nat) : Int)) = (a == b) := by
  rw [Bool.eq_iff_iff]
  simp
  omega
theorem filter_some {α β : Type} (q : α → Bool) (f : α → Option β) : ∀ l : List α, (l.filter q).findSome? f = l.findSome? fun x => if q x = true then f x else none
  | [] => rfl
  | a :: r => by
    rw [List.filter_cons, List.findSome?_cons]
    cases h : q a with
    | true =>
      rw [if_pos rfl, if_pos rfl, List.findSome?_cons, filter_some q f r]
    | false =>
      rw [if_neg Bool.false_ne_true, if_neg Bool.false_ne_true, filter_some q f r]
theorem exch_len (l : List Nat) (i j : Nat) : (exch l i j).length = l.length := by
  unfold exch
  rw [List.length_set, List.length_set]
theorem exch_lt {l : List Nat} {i j c : Nat} (h : ∀ d ∈ l, d < c) (hi : i < l.length) (hj : j < l.length) : ∀ d ∈ exch l i j, d < c := by
  have di : l.getD i 0 = l[i] := by rw [List.getD_eq_getElem?_getD, List.getElem?_eq_getElem hi]; rfl
  have dj : l.getD j 0 = l[j] := by rw [List.getD_eq_getElem?_getD, List.getElem?_eq_getElem hj]; rfl
  intro d hd
  unfold exch at hd
  rw [di, dj] at hd
  rcases List.mem_or_eq_of_mem_set hd with h1 | h1
  · rcases List.mem_or_eq_of_mem_set h1 with h2 | h2
    · exact h d h2
    · rw [h2]; exact h _ (List.getElem_mem hj)
  · rw [h1]; exact h _ (List.getElem_mem hi)
theorem orders_range {m : Nat} (h1 : 2 ≤ m) (h2 : m ≤ 4) : orders m = (List.range (many m)).map (order m) := by
  rcases m_cases h1 h2 with rfl | rfl | rfl <;> decide +kernel
/-- each renaming's numbers -/
def rens (m : Nat) : List (List Nat) := (List.range (many m)).map fun s => (List.range (many m)).map (renamed m s)
theorem rens_is {m : Nat} (h1 : 2 ≤ m) (h2 : m ≤ 4) : ((orders m).map fun s => (orders m).map fun o => numberOf m (o.map fun x => s.getD x 0)) = rens m := by
  unfold rens
  have e := orders_range h1 h2
  rw [show ((orders m).map fun s => (orders m).map fun o => numberOf m (o.map fun x => s.getD x 0)) = (((List.range (many m)).map (order m)).map fun s => ((List.range (many m)).map (order m)).map fun o => numberOf m (o.map fun x => s.getD x 0)) by rw [← e]]
  rw [List.map_map]
  refine List.map_congr_left fun s _ => ?_
  show ((List.range (many m)).map (order m)).map _ = _
  rw [List.map_map]
  rfl
theorem rens_at {m s : Nat} {r : List Nat} (h : (rens m)[s]? = some r) : s < many m ∧ r = (List.range (many m)).map (renamed m s) := by
  unfold rens at h
  have hl := (List.getElem?_eq_some_iff.mp h).1
  rw [List.length_map, List.length_range] at hl
  rw [List.getElem?_map, List.getElem?_range hl] at h
  exact ⟨hl, (Option.some.inj h).symm⟩
theorem ren_at {m s k : Nat} (h : k < many m) : ((List.range (many m)).map (renamed m s))[k]? = some (renamed m s k) := by
  rw [List.getElem?_map, List.getElem?_range h]
  rfl
theorem rens_len (m : Nat) : (rens m).length = many m := by
  unfold rens
  rw [List.length_map, List.length_range]
/-! ### what an order puts below an option -/
def belowL (o : List Nat) (x : Nat) : List Nat := o.drop (place o x + 1)
theorem below_has {m : Nat} (h1 : 2 ≤ m) (h2 : m ≤ 4) : ∀ o ∈ orders m, ∀ x ∈ List.range m, ∀ b ∈ List.range m, (belowL o x).contains b = decide (place o x < place o b) := by
  rcases m_cases h1 h2 with rfl | rfl | rfl <;> decide +kernel
theorem below_all {m x : Nat} {u v : List Nat} (h1 : 2 ≤ m) (h2 : m ≤ 4) (hu : u ∈ orders m) (hv : v ∈ orders m) (hx : x < m) :
    ((belowL u x).all fun y => (belowL v x).contains y) = (List.range m).all fun b => b == x || (!decide (place u x < place u b) || decide (place v x < place v b)) := by
  have hxr : x ∈ List.range m := List.mem_range.mpr hx
  rw [Bool.eq_iff_iff, List.all_eq_true, List.all_eq_true]
  constructor
  · intro h b hb
    have e1 := below_has h1 h2 u hu x hxr b hb
    have e2 := below_has h1 h2 v hv x hxr b hb
    rw [← e1, ← e2]
    cases hc : (belowL u x).contains b with
    | false => simp
    | true =>
      have hm : b ∈ belowL u x := List.contains_iff_mem.mp hc
      rw [h b hm]
      simp
  · intro h y hy
    have hyu : y ∈ u := List.mem_of_mem_drop hy
    have hyr : y ∈ List.range m := List.mem_range.mpr ((orders_good h1 h2 u hu).2.2.1 y hyu)
    have e1 := below_has h1 h2 u hu x hxr y hyr
    have e2 := below_has h1 h2 v hv x hxr y hyr
    have h3 := h y hyr
    rw [List.contains_iff_mem.mpr hy] at e1
    rw [← e1, ← e2] at h3
    have hne : (y == x) = false := by
      rw [beq_eq_false_iff_ne]
      intro e
      subst e
      have := of_decide_eq_true e1.symm
      omega
    rw [hne] at h3
    simpa using h3
def staysB (n m p q x : Nat) : Bool := (List.range n).all fun i => (belowL (order m (wish m p i)) x).all fun y => (belowL (order m (wish m q i)) x).contains y
theorem stays_is {c : Table} {n m p q : Nat} (h1 : 2 ≤ m) (h2 : m ≤ 4) (hx : at_ c p < m) : (at_ c q != at_ c p && staysB n m p q (at_ c p)) = falls c n m p q := by
  unfold falls
  rw [Bool.and_comm]
  refine congrArg (fun z => z && (at_ c q != at_ c p)) ?_
  unfold staysB
  refine congrArg (fun f => List.all (List.range n) f) (funext fun i => ?_)
  rw [below_all h1 h2 (order_mem (wish_lt h1 h2)) (order_mem (wish_lt h1 h2)) hx]
  rfl
/-! ### what is said, what comes of it -/
def saidC (n m : Nat) (cs : List Nat) : List (List Bool) := (pairs m).map fun x => (List.range n).map fun i => prefers m (cs.getD i 0) x.1 x.2
def comesC (m v : Nat) : List Bool := (pairs m).map fun x => prefers m v x.1 x.2
theorem saidC_at {n m k : Nat} {cs : List Nat} {x : Nat × Nat} (h : (pairs m)[k]? = some x) : (saidC n m cs)[k]? = some ((List.range n).map fun i => prefers m (cs.getD i 0) x.1 x.2) := by
  unfold saidC
  rw [List.getElem?_map, h]
  rfl
theorem comesC_at {m k v : Nat} {x : Nat × Nat} (h : (pairs m)[k]? = some x) : (comesC m v)[k]? = some (prefers m v x.1 x.2) := by
  unfold comesC
  rw [List.getElem?_map, h]
  rfl
theorem map_beq (f g : Nat → Bool) : ∀ l : List Nat, (l.map f == l.map g) = l.all fun i => f i == g i
  | [] => rfl
  | a :: r => by
    have ih := map_beq f g r
    rw [List.map_cons, List.map_cons, List.all_cons, ← ih]
    rfl
theorem said_beq {n m p q : Nat} (a b : Nat) : (((List.range n).map fun i => prefers m ((caseL n m p).getD i 0) a b) == ((List.range n).map fun i => prefers m ((caseL n m q).getD i 0) a b)) = (voters n).all fun i => prefers m (wish m p i) a b == prefers m (wish m q i) a b := by
  rw [map_beq]
  rw [Bool.eq_iff_iff, List.all_eq_true, List.all_eq_true]
  constructor
  · intro h i hi
    have hn : i < n := List.mem_range.mp hi
    have h2 := h i hi
    rw [caseL_getD hn, caseL_getD hn] at h2
    exact h2
  · intro h i hi
    have hn : i < n := List.mem_range.mp hi
    rw [caseL_getD hn, caseL_getD hn]
    exact h i hi
theorem hangs_is {t : Table} {n m p q a b : Nat} : ((((List.range n).map fun i => prefers m ((caseL n m p).getD i 0) a b) == ((List.range n).map fun i => prefers m ((caseL n m q).getD i 0) a b)) && !decide (prefers m (at_ t p) a b = prefers m (at_ t q) a b)) = hangs t n m p q a b := by
  unfold hangs
  rw [said_beq]
  refine congrArg (fun z => _ && z) ?_
  cases prefers m (at_ t p) a b <;> cases prefers m (at_ t q) a b <;> rfl

/-! ### sorting by more -/
theorem ple_total (f : Nat → Nat) (a b : Nat) : (Lt.ple f a b || Lt.ple f b a) = true := by
  unfold Lt.ple
  simp only [Bool.or_eq_true, Bool.and_eq_true, decide_eq_true_eq]
  omega
theorem ple_trans (f : Nat → Nat) (a b c : Nat) (h1 : Lt.ple f a b = true) (h2 : Lt.ple f b c = true) : Lt.ple f a c = true := by
  unfold Lt.ple at *
  simp only [Bool.or_eq_true, Bool.and_eq_true, decide_eq_true_eq] at *
  omega
theorem ple_anti (f : Nat → Nat) (a b : Nat) (h1 : Lt.ple f a b = true) (h2 : Lt.ple f b a = true) : a = b := by
  unfold Lt.ple at *
  simp only [Bool.or_eq_true, Bool.and_eq_true, decide_eq_true_eq] at *
  omega
theorem insert_perm (f : Nat → Nat) (a : Nat) : ∀ l : List Nat, (insert_ f a l).Perm (a :: l)
  | [] => List.Perm.refl _
  | b :: r => by
    unfold insert_
    split
    · exact List.Perm.refl _
    · exact (List.Perm.cons b (insert_perm f a r)).trans (List.Perm.swap a b r)
/-- what is less than all goes in behind those of as many -/
theorem insert_sorted (f : Nat → Nat) (a : Nat) : ∀ l : List Nat, (∀ x ∈ l, x < a) → l.Pairwise (fun x y => Lt.ple f x y = true) → (insert_ f a l).Pairwise (fun x y => Lt.ple f x y = true)
  | [], _, _ => by
    unfold insert_
    exact List.pairwise_singleton _ _
  | b :: r, hl, hs => by
    rw [List.pairwise_cons] at hs
    unfold insert_
    split
    · rename_i h
      have hab : Lt.ple f a b = true := by
        unfold Lt.ple
        simp only [Bool.or_eq_true, decide_eq_true_eq]
        exact .inl h
      rw [List.pairwise_cons, List.pairwise_cons]
      refine ⟨fun y hy => ?_, hs⟩
      rcases List.mem_cons.mp hy with e | e
      · rw [e]
        exact hab
      · exact ple_trans f a b y hab (hs.1 y e)
    · rename_i h
      rw [List.pairwise_cons]
      refine ⟨fun y hy => ?_, insert_sorted f a r (fun x hx => hl x (List.mem_cons_of_mem _ hx)) hs.2⟩
      rcases List.mem_cons.mp ((insert_perm f a r).mem_iff.mp hy) with e | e
      · have := hl b List.mem_cons_self
        rw [e]
        unfold Lt.ple
        simp only [Bool.or_eq_true, Bool.and_eq_true, decide_eq_true_eq]
        omega
      · exact hs.1 y e
theorem byMore_succ (f : Nat → Nat) (m : Nat) : byMore f (m + 1) = insert_ f m (byMore f m) := by
  unfold byMore
  rw [List.range_succ, List.foldl_append]
  rfl
theorem byMore_perm (f : Nat → Nat) : ∀ m, (byMore f m).Perm (List.range m)
  | 0 => List.Perm.refl _
  | m + 1 => by
    rw [byMore_succ, List.range_succ]
    exact (insert_perm f m _).trans ((List.Perm.cons m (byMore_perm f m)).trans (List.perm_append_singleton m (List.range m)).symm)
theorem byMore_sorted (f : Nat → Nat) : ∀ m, (byMore f m).Pairwise (fun x y => Lt.ple f x y = true)
  | 0 => List.Pairwise.nil
  | m + 1 => by
    rw [byMore_succ]
    exact insert_sorted f m _ (fun x hx => List.mem_range.mp ((byMore_perm f m).mem_iff.mp hx)) (byMore_sorted f m)
theorem sorted_one (f : Nat → Nat) : ∀ a b : List Nat, a.Perm b → a.Pairwise (fun x y => Lt.ple f x y = true) → b.Pairwise (fun x y => Lt.ple f x y = true) → a = b
  | [], b, h, _, _ => (List.Perm.nil_eq h)
  | x :: a, [], h, _, _ => absurd h.length_eq (by simp)
  | x :: a, y :: b, h, ha, hb => by
    rw [List.pairwise_cons] at ha hb
    have e : x = y := by
      rcases List.mem_cons.mp (h.mem_iff.mp List.mem_cons_self) with e | e
      · exact e
      · rcases List.mem_cons.mp (h.mem_iff.mpr List.mem_cons_self) with e2 | e2
        · exact e2.symm
        · exact ple_anti f x y (ha.1 y e2) (hb.1 x e)
    subst e
    rw [sorted_one f a b (List.Perm.cons_inv h) ha.2 hb.2]
theorem byMore_is (f : Nat → Nat) (m : Nat) : (List.range m).mergeSort (Lt.ple f) = byMore f m := by
  refine sorted_one f _ _ ((List.mergeSort_perm _ _).trans (byMore_perm f m).symm) ?_ (byMore_sorted f m)
  exact List.pairwise_mergeSort (fun a b c => ple_trans f a b c) (fun a b => ple_total f a b) _
theorem perm_orders {m : Nat} {l : List Nat} (h1 : 2 ≤ m) (h2 : m ≤ 4) (h : l.Perm (List.range m)) : l ∈ orders m := by
  have hl : l.length = m := by rw [h.length_eq, List.length_range]
  have hd : l.Nodup := h.nodup_iff.mpr List.nodup_range
  have hm : ∀ x ∈ l, x < m := fun x hx => List.mem_range.mp (h.mem_iff.mp hx)
  have k2 : ((List.range 2).all fun a => (List.range 2).all fun b => !decide ([a, b].Nodup) || (orders 2).contains [a, b]) = true := by decide +kernel
  have k3 : ((List.range 3).all fun a => (List.range 3).all fun b => (List.range 3).all fun c => !decide ([a, b, c].Nodup) || (orders 3).contains [a, b, c]) = true := by decide +kernel
  have k4 : ((List.range 4).all fun a => (List.range 4).all fun b => (List.range 4).all fun c => (List.range 4).all fun d => !decide ([a, b, c, d].Nodup) || (orders 4).contains [a, b, c, d]) = true := by decide +kernel
  have fin : ∀ l : List Nat, l.Nodup → (!decide l.Nodup || (orders m).contains l) = true → l ∈ orders m := fun l h1 h2 => by
    rw [decide_eq_true h1] at h2
    simpa using h2
  rcases m_cases h1 h2 with rfl | rfl | rfl
  · match l, hl with
    | [a, b], _ => exact fin _ hd (List.all_eq_true.mp (List.all_eq_true.mp k2 a (List.mem_range.mpr (hm a (by simp)))) b (List.mem_range.mpr (hm b (by simp))))
  · match l, hl with
    | [a, b, c], _ => exact fin _ hd (List.all_eq_true.mp (List.all_eq_true.mp (List.all_eq_true.mp k3 a (List.mem_range.mpr (hm a (by simp)))) b (List.mem_range.mpr (hm b (by simp)))) c (List.mem_range.mpr (hm c (by simp))))
  · match l, hl with
    | [a, b, c, d], _ => exact fin _ hd (List.all_eq_true.mp (List.all_eq_true.mp (List.all_eq_true.mp (List.all_eq_true.mp k4 a (List.mem_range.mpr (hm a (by simp)))) b (List.mem_range.mpr (hm b (by simp)))) c (List.mem_range.mpr (hm c (by simp)))) d (List.mem_range.mpr (hm d (by simp))))
theorem byMore_mem {m : Nat} (f : Nat → Nat) (h1 : 2 ≤ m) (h2 : m ≤ 4) : byMore f m ∈ orders m := perm_orders h1 h2 (byMore_perm f m)
/-- the first is the least of those that have most -/
theorem byMore_head {m : Nat} (f : Nat → Nat) (h1 : 0 < m) : ∃ h r, byMore f m = h :: r ∧ h < m ∧ ∀ x, x < m → Lt.ple f h x = true := by
  have hp := byMore_perm f m
  have hs := byMore_sorted f m
  cases e : byMore f m with
  | nil =>
    rw [e] at hp
    have := hp.length_eq
    rw [List.length_range] at this
    simp at this
    omega
  | cons h r =>
    rw [e] at hp hs
    rw [List.pairwise_cons] at hs
    refine ⟨h, r, rfl, List.mem_range.mp (hp.mem_iff.mp List.mem_cons_self), fun x hx => ?_⟩
    rcases List.mem_cons.mp (hp.mem_iff.mpr (List.mem_range.mpr hx)) with e2 | e2
    · rw [e2]
      have := ple_total f h h
      simpa using this
    · exact hs.1 x e2
theorem head_at {m : Nat} (f : Nat → Nat) (h1 : 0 < m) : (byMore f m)[0]? = some ((byMore f m).headD 0) := by
  obtain ⟨h, r, e, _⟩ := byMore_head f h1
  rw [e]
  rfl
theorem head_lt {m : Nat} (f : Nat → Nat) (h1 : 0 < m) : (byMore f m).headD 0 < m := by
  obtain ⟨h, r, e, hl, _⟩ := byMore_head f h1
  rw [e]
  exact hl
theorem most_val {m : Nat} (f : Nat → Nat) (h1 : 0 < m) {mx : Nat} (hm : mx ∈ (List.range m).map f) (hx : ∀ y ∈ (List.range m).map f, y ≤ mx) : mx = f ((byMore f m).headD 0) := by
  obtain ⟨h, r, e, hl, hp⟩ := byMore_head f h1
  rw [e]
  show mx = f h
  obtain ⟨x, hx1, hx2⟩ := List.mem_map.mp hm
  have q1 := hp x (List.mem_range.mp hx1)
  unfold Lt.ple at q1
  simp only [Bool.or_eq_true, Bool.and_eq_true, decide_eq_true_eq] at q1
  have q2 := hx (f h) (List.mem_map.mpr ⟨h, List.mem_range.mpr hl, rfl⟩)
  omega
/-- the greatest of a row of numbers, where it stands first -/
theorem most_at {m : Nat} (f : Nat → Nat) (h1 : 0 < m) {mx : Nat} (hm : mx ∈ (List.range m).map f) (hx : ∀ y ∈ (List.range m).map f, y ≤ mx) : (((List.range m).map f).findIdx fun y => y == mx) = (byMore f m).headD 0 := by
  obtain ⟨h, r, e, hl, hp⟩ := byMore_head f h1
  rw [e]
  show _ = h
  have top : ∀ x, x < m → f x < f h ∨ (f x = f h ∧ h ≤ x) := fun x hx => by
    have := hp x hx
    unfold Lt.ple at this
    simp only [Bool.or_eq_true, Bool.and_eq_true, decide_eq_true_eq] at this
    omega
  have e1 : mx = f h := by
    obtain ⟨x, hx1, hx2⟩ := List.mem_map.mp hm
    have q1 := top x (List.mem_range.mp hx1)
    have q2 := hx (f h) (List.mem_map.mpr ⟨h, List.mem_range.mpr hl, rfl⟩)
    omega
  subst e1
  rw [List.findIdx_eq (by rw [List.length_map, List.length_range]; exact hl)]
  refine ⟨by simp, fun j hj => ?_⟩
  have q := top j (by omega)
  simp
  omega
theorem most_idx {m : Nat} (f : Nat → Nat) (h1 : 0 < m) : (((List.range m).map f).findIdx fun y => y == f ((byMore f m).headD 0)) = (byMore f m).headD 0 := by
  refine most_at f h1 (List.mem_map.mpr ⟨_, List.mem_range.mpr (head_lt f h1), rfl⟩) fun y hy => ?_
  obtain ⟨x, hx1, rfl⟩ := List.mem_map.mp hy
  obtain ⟨h, r, e, hl, hp⟩ := byMore_head f h1
  rw [e]
  show f x ≤ f h
  have q1 := hp x (List.mem_range.mp hx1)
  unfold Lt.ple at q1
  simp only [Bool.or_eq_true, Bool.and_eq_true, decide_eq_true_eq] at q1
  omega
/-! ### counting -/
theorem map_set {m x : Nat} {f g : Nat → Nat} (hx : x < m) (he : ∀ y, y < m → y ≠ x → g y = f y) : ((List.range m).map f).set x (g x) = (List.range m).map g := by
  refine List.ext_getElem? fun j => ?_
  by_cases hj : j < m
  · by_cases e : x = j
    · subst e
      rw [List.getElem?_set_self (by rw [List.length_map, List.length_range]; exact hx), List.getElem?_map, List.getElem?_range hx]
      rfl
    · rw [List.getElem?_set_ne e, List.getElem?_map, List.getElem?_map, List.getElem?_range hj]
      show some (f j) = some (g j)
      rw [he j hj (fun z => e z.symm)]
  · rw [List.getElem?_eq_none (by rw [List.length_set, List.length_map, List.length_range]; omega), List.getElem?_eq_none (by rw [List.length_map, List.length_range]; omega)]
/-- a voter's points, up to a place -/
def pts (m : Nat) (o : List Nat) (i x : Nat) : Nat := if place o x < i then m - 1 - place o x else 0
def ptsTo (n m p v x : Nat) : Nat := ((List.range v).map fun i => m - 1 - place (order m (wish m p i)) x).sum
theorem place_at {o : List Nat} {i x : Nat} (hd : o.Nodup) (h : o[i]? = some x) : place o x = i := by
  obtain ⟨hl, e⟩ := List.getElem?_eq_some_iff.mp h
  unfold place
  rw [List.findIdx_eq hl]
  refine ⟨by simp [e], fun j hj => ?_⟩
  have hne : o[j] ≠ o[i] := fun z => by
    have := (List.getElem_inj hd (h₀ := by omega) (h₁ := hl)).mp z
    omega
  rw [e] at hne
  simpa using hne
theorem pts_zero (m : Nat) (o : List Nat) (x : Nat) : pts m o 0 x = 0 := by
  unfold pts
  rw [if_neg (Nat.not_lt_zero _)]
theorem pts_all {m : Nat} {o : List Nat} {x : Nat} (h : place o x < m) : pts m o m x = m - 1 - place o x := if_pos h
theorem pts_here {m : Nat} {o : List Nat} {i x : Nat} (hd : o.Nodup) (h : o[i]? = some x) : pts m o (i + 1) x = pts m o i x + (m - 1 - i) := by
  unfold pts
  rw [place_at hd h, if_pos (Nat.lt_succ_self i), if_neg (Nat.lt_irrefl i), Nat.zero_add]
theorem pts_else {m : Nat} {o : List Nat} {i x y : Nat} (hd : o.Nodup) (h : o[i]? = some x) (hy : y ∈ o) (hne : y ≠ x) : pts m o (i + 1) y = pts m o i y := by
  unfold pts
  have hlt := place_lt hy
  have hp : place o y ≠ i := fun z => by
    have e : o[place o y]? = some y := by
      rw [List.getElem?_eq_getElem hlt]
      have z := List.findIdx_getElem (w := hlt)
      exact congrArg some (beq_iff_eq.mp z)
    rw [z, h] at e
    exact hne (Option.some.inj e).symm
  by_cases q : place o y < i
  · rw [if_pos q, if_pos (by omega)]
  · rw [if_neg q, if_neg (by omega)]
theorem ptsTo_zero (n m p x : Nat) : ptsTo n m p 0 x = 0 := rfl
theorem ptsTo_succ (n m p v x : Nat) : ptsTo n m p (v + 1) x = ptsTo n m p v x + (m - 1 - place (order m (wish m p v)) x) := by
  unfold ptsTo
  rw [List.range_succ, List.map_append, List.sum_append]
  rfl
theorem ptsTo_all (n m p : Nat) : ptsTo n m p n = points n m p := rfl
theorem pts_le (m : Nat) (o : List Nat) (i x : Nat) : pts m o i x ≤ m := by
  unfold pts
  split <;> omega
theorem ptsTo_le (n m p x : Nat) : ∀ v, ptsTo n m p v x ≤ v * m
  | 0 => Nat.zero_le _
  | v + 1 => by
    rw [ptsTo_succ, Nat.succ_mul]
    have := ptsTo_le n m p x v
    omega
def firstTo (m p v x : Nat) : Nat := ((List.range v).filter fun i => best m (wish m p i) == x).length
theorem firstTo_zero (m p x : Nat) : firstTo m p 0 x = 0 := rfl
theorem firstTo_here (m p v : Nat) : firstTo m p (v + 1) (best m (wish m p v)) = firstTo m p v (best m (wish m p v)) + 1 := by
  unfold firstTo
  rw [List.range_succ, List.filter_append, List.length_append]
  simp
theorem firstTo_else {m p v x : Nat} (h : x ≠ best m (wish m p v)) : firstTo m p (v + 1) x = firstTo m p v x := by
  unfold firstTo
  rw [List.range_succ, List.filter_append, List.length_append]
  have : (best m (wish m p v) == x) = false := beq_eq_false_iff_ne.mpr fun z => h z.symm
  simp [this]
theorem firstTo_all (n m p : Nat) : firstTo m p n = firsts n m p := rfl
theorem firstTo_le (m p x v : Nat) : firstTo m p v x ≤ v := by
  unfold firstTo
  refine Nat.le_trans (List.length_filter_le _ _) ?_
  rw [List.length_range]
  exact Nat.le_refl _
/-! ### what is made -/
theorem made_0 (k n m p : Nat) : made 0 k n m p = wish m p k := rfl
theorem made_1 (k n m p : Nat) : made 1 k n m p = numberOf m (byMore (points n m p) m) := rfl
theorem made_2 (k n m p : Nat) : made 2 k n m p = best m (wish m p k) := rfl
theorem made_3 (k n m p : Nat) : made 3 k n m p = (byMore (firsts n m p) m).headD 0 := rfl
theorem made_4 (k n m p : Nat) : made 4 k n m p = (byMore (points n m p) m).headD 0 := rfl
theorem made_small {kind k n m p : Nat} (h1 : 2 ≤ m) (h2 : m ≤ 4) : made kind k n m p < 24 := by
  have hc := many_pos h1 h2
  unfold made
  split
  · exact Nat.lt_of_lt_of_le (wish_lt h1 h2) hc.2
  · split
    · exact Nat.lt_of_lt_of_le (numberOf_lt (byMore_mem _ h1 h2)) hc.2
    · split
      · exact Nat.lt_of_lt_of_le (best_lt h1 h2 (wish_lt h1 h2)) (by omega)
      · split
        · exact Nat.lt_of_lt_of_le (head_lt _ (by omega)) (by omega)
        · exact Nat.lt_of_lt_of_le (head_lt _ (by omega)) (by omega)
def mkGood (kind k n m : Int) : Bool := sized n m && ((decide (0 ≤ kind) && decide (kind ≤ 4)) && (decide (0 ≤ k) && decide (k < n)))
theorem make_is (kind k n m : Int) : PySa92.make kind k n m = if mkGood kind k n m = true then (((cases n.toNat m.toNat : Nat) : Int)) :: castL ((List.range (cases n.toNat m.toNat)).map (made kind.toNat k.toNat n.toNat m.toNat)) else [-2] := by
  have hg : good (.make kind k n m) = mkGood kind k n m := by
    show (sized n m && (within kind 0 4 && within k 0 (n - 1))) = _
    unfold mkGood within
    have e : decide (k ≤ n - 1) = decide (k < n) := decide_eq_decide.mpr (by omega)
    rw [e]
  show ansL (does (.make kind k n m)) = _
  unfold does
  rw [hg]
  cases mkGood kind k n m with
  | true => rfl
  | false => rfl

end Mw
set_option linter.all false
namespace Pr
open PySem PySem.Spec PyProof.Rows L2 Evl Lb Mw
/-- the i-th statement of the text -/
def top (i : Nat) : Stmt := PySem.Challenge.pw_manywishes_s01_make.main.body.getD i (.Pass ⟨0, 0, 0, 0⟩)
abbrev s_is_told : Stmt := top 4
abbrev s_power : Stmt := top 6
abbrev s_digits : Stmt := top 7
abbrev s_longer : Stmt := top 3
abbrev s_orders_of : Stmt := top 2
abbrev s_points : Stmt := top 10
abbrev s_most_best : Stmt := top 11
abbrev s_outcome : Stmt := top 12
abbrev s_make : Stmt := top 13
abbrev s_m_init : Stmt := inClass (top 5) 0
abbrev s_m_wish : Stmt := inClass (top 5) 3
section
variable {P : Program} {w : World} {K : PySem.W.Frag} {mg : Str → Option Value} {base : Heap} {C : Addr}

/-! ### is_told -/
def pTold (vs : List V) (_ : Hp) (P : As) : Prop := ∃ n m : Int, vs = [.int n, .int m] ∧ P = Rb (Sa92.sized n m)
theorem sized_eq (n m : Int) : ((decide (2 ≤ m) && decide (m ≤ 4)) && (decide (1 ≤ n) && decide (n ≤ if decide (V.int m = V.int 4) = true then 3 else 4))) = Sa92.sized n m := by
  unfold Sa92.sized
  by_cases h : m = 4
  · subst h
    rw [if_pos (decide_eq_true rfl)]
    rw [Bool.eq_iff_iff]
    simp only [Bool.and_eq_true, Bool.or_eq_true, decide_eq_true_eq]
    omega
  · rw [if_neg (by simpa using h)]
    rw [Bool.eq_iff_iff]
    simp only [Bool.and_eq_true, Bool.or_eq_true, decide_eq_true_eq]
    omega
theorem sc_is_told : FnScope ["n", "m"] ["n", "m"] (defScope s_is_told) := ⟨rfl, rfl, rfl, by decide +kernel, rfl, by decide +kernel, by decide +kernel⟩
theorem ok_is_told {f : Addr} {fd : FuncData} (F : Fun K "is_told" "is_told" s_is_told f fd) : FnOk P w K mg base CX0 1 f fd ["n", "m"] (SpOf pTold) := by
  refine F.ok sc_is_told (fun vs H Q E h => ?_) (fun cdv A outer s H1 vs Q E hr h => ?_)
  · obtain ⟨H, P, e, ⟨n, m, rfl, _⟩, _⟩ := h
    rfl
  · obtain ⟨H, P, e, ⟨n, m, rfl, rfl⟩, ret⟩ := h
    refine ⟨_, pss_one (ps_ret (pe_and (pe_chain op_le op_le pe_int (pv 1) pe_int) (pe_one (pe_chain op_le op_le pe_int (pv 0) (pe_ifExp (pt_cmpR op_eq (pv 1) pe_int (nomark _)) pe_int pe_int))))), ?_⟩
    refine p_ret (Wd.start e) (ep_ev (ev_is (ev_andV (ev_ep (ep_chain ep_c (ep_var rfl rfl) ep_c)) fun _ => ev_ep (ep_chain ep_c (ep_var rfl rfl) (ep_ifI (et_of (ep_ev (ev_op (ev_ep (ep_var (P := Rv (.int m)) rfl rfl)) ev_c (rv_eq rfl)))) ep_c ep_c))) (congrArg V.bl (sized_eq n m)))) ret rfl

/-! ### power -/
def pPower (vs : List V) (_ : Hp) (P : As) : Prop := ∃ x n : Nat, vs = [.int x, .int n] ∧ x ≤ 24 ∧ n ≤ 4 ∧ P = Rn (x ^ n)
theorem pow_small {x i : Nat} (hx : x ≤ 24) (hi : i ≤ 4) : x ^ i ≤ 331776 := by
  refine Nat.le_trans (Nat.pow_le_pow_left hx i) ?_
  have : i = 0 ∨ i = 1 ∨ i = 2 ∨ i = 3 ∨ i = 4 := by omega
  rcases this with rfl | rfl | rfl | rfl | rfl <;> decide
theorem sc_power : FnScope ["x", "n", "out", "k"] ["x", "n"] (defScope s_power) := ⟨rfl, rfl, rfl, by decide +kernel, rfl, by decide +kernel, by decide +kernel⟩
theorem ok_power {f : Addr} {fd : FuncData} (F : Fun K "power" "power" s_power f fd) (bRange : mg "range" = none) : FnOk P w K mg base CX0 1 f fd ["x", "n"] (SpOf pPower) := by
  refine F.ok sc_power (fun vs H Q E h => ?_) (fun cdv A outer s H1 vs Q E hr h => ?_)
  · obtain ⟨H, P, e, ⟨n, m, rfl, _⟩, _⟩ := h
    rfl
  · obtain ⟨H, P, e, ⟨x, n, rfl, hx, hn, rfl⟩, ret⟩ := h
    refine ⟨_, pss_cons (ps_set (i := 2) sc_power.nd rfl (Or.inl rfl) pe_int)
      (pss_cons (ps_for PassesOwn.never rfl (pi_range1 (by rfl) bRange (pa_cons (pv 1) pa_nil)) (pg_name (i := 3) sc_power.nd rfl (Or.inl rfl))
        (pss_one (ps_set (i := 2) sc_power.nd rfl (Or.inl rfl) (pe_op op_mul (pv 2) (pv 0)))))
      (pss_one (ps_ret (pv 2)))), ?_⟩
    refine p_asg (Wd.start e) ep_c fun v Hk Ha w1 _ pv1 => ?_
    have pv1' : v = .int 1 := pv1
    subst pv1'
    refine p_forR (n := n) w1 (ep_var rfl rfl) (by omega) (fun i σ' H' => ∃ y, σ' = [some (.int x), some (.int n), some (.int ((x ^ i : Nat) : Int)), y] ∧ Wd H H1 Hk H') (fun Ha0 w2 _ => ⟨none, rfl, w2⟩) (fun i σ' H' hi q => ?_) (fun σ' H' q => ?_)
    · obtain ⟨y, rfl, w2⟩ := q
      have hp := pow_small hx (i := i) (by omega)
      refine (ep_I (σ := _) (i := ((x ^ i : Nat) : Int)) (j := (x : Int)) (ep_var rfl rfl) (ep_var rfl rfl) (Or.inl ⟨by omega, by omega⟩)) H' w2.b _ fun v Hk3 Ha3 w3 p3 => ?_
      have p3' : v = .int (((x ^ i : Nat) : Int) * (x : Int)) := p3
      subst p3'
      refine ⟨some (.int (i : Int)), ?_, w2.ext w3.c⟩
      rw [Nat.pow_succ, Int.natCast_mul]
      rfl
    · obtain ⟨y, rfl, w2⟩ := q
      exact p_ret w2 (ep_var rfl rfl) ret rfl

/-! ### digits -/
def pDigits (vs : List V) (_ : Hp) (P : As) : Prop := ∃ k n c : Nat, vs = [.int k, .int n, .int c] ∧ 0 < c ∧ c ≤ 24 ∧ k ≤ 1000000 ∧ n ≤ 4 ∧ P = RO (digs c n k)
theorem sc_digits : FnScope ["k", "n", "count", "out", "i"] ["k", "n", "count"] (defScope s_digits) := ⟨rfl, rfl, rfl, by decide +kernel, rfl, by decide +kernel, by decide +kernel⟩
theorem ok_digits {f : Addr} {fd : FuncData} (F : Fun K "digits" "digits" s_digits f fd) (bRange : mg "range" = none) : FnOk P w K mg base CX0 1 f fd ["k", "n", "count"] (SpOf pDigits) := by
  refine F.ok sc_digits (fun vs H Q E h => ?_) (fun cdv A outer s H1 vs Q E hr h => ?_)
  · obtain ⟨H, P, e, ⟨k, n, c, rfl, _⟩, _⟩ := h
    rfl
  · obtain ⟨H, P, e, ⟨k, n, c, rfl, hc0, hc, hk0, hn, rfl⟩, ret⟩ := h
    refine ⟨_, pss_cons (ps_set (i := 3) sc_digits.nd rfl (Or.inl rfl) (pe_lst pa_nil))
      (pss_cons (ps_for PassesOwn.never rfl (pi_range1 (by rfl) bRange (pa_cons (pv 1) pa_nil)) (pg_name (i := 4) sc_digits.nd rfl (Or.inl rfl))
        (pss_cons (ps_expr (pe_bm PySem.F.plainAttrs_list PySem.F.slot_list_append PySem.F.type_list_append mt_append (pv 3) (pa_cons (pe_op op_sub (pv 0) (pe_op op_mul (pe_op op_fdiv (pv 0) (pv 2)) (pv 2))) pa_nil)))
        (pss_one (ps_set (i := 0) sc_digits.nd rfl (Or.inl rfl) (pe_op op_fdiv (pv 0) (pv 2))))))
      (pss_one (ps_ret (pv 3)))), ?_⟩
    refine p_newL (Wd.start e) fun l hk h1 w1 => ?_
    refine p_forR (n := n) w1 (ep_var rfl rfl) (by omega) (fun i σ' H' => ∃ y, σ' = [some (.int ((k / c ^ i : Nat) : Int)), some (.int n), some (.int c), some (.ref l), y] ∧ Wd H H1 H H' ∧ H' l = some (.lst (nv (digs c i k)))) (fun Ha0 w2 ex => ⟨none, ?_, w2, ex l _ upd_same⟩) (fun i σ' H' hi q => ?_) (fun σ' H' q => ?_)
    · rw [Nat.pow_zero, Nat.div_one]
      rfl
    · obtain ⟨y, rfl, w2, hl⟩ := q
      generalize hq : k / c ^ i = q at *
      have hq0 : q ≤ 1000000 := by rw [← hq]; exact Nat.le_trans (Nat.div_le_self _ _) hk0
      have hd : ∀ y2 Hk, EvP (tOp (rI CDiv fun i j => .int (i / j)) (tVar 0) (tVar 2)) [some (.int (q : Int)), some (.int n), some (.int c), some (.ref l), y2] Hk (Rn (q / c)) := fun y2 Hk =>
        ep_is (ep_I (i := (q : Int)) (j := (c : Int)) (ep_var rfl rfl) (ep_var rfl rfl) ⟨by omega, by omega⟩) (congrArg V.int (Int.natCast_ediv q c).symm)
      have hmod : q - q / c * c = q % c := by
        have := Nat.div_add_mod q c
        rw [Nat.mul_comm] at this
        omega
      have hv := ep_is (ep_I0 (H := H) (g := fun i j => V.int (i - j)) (ta := tVar 0) (i := (q : Int)) (j := ((q / c * c : Nat) : Int)) (ep_var (σ := [some (.int (q : Int)), some (.int n), some (.int c), some (.ref l), some (.int (i : Int))]) rfl rfl) (ep_is (ep_I (g := fun i j => V.int (i * j)) (C := CMul) (tb := tVar 2) (i := ((q / c : Nat) : Int)) (j := (c : Int)) (hd _ H) (ep_var rfl rfl) (Or.inr ⟨by omega, by omega⟩)) (congrArg V.int (Int.natCast_mul _ _).symm))) (congrArg V.int (Int.ofNat_sub (Nat.div_mul_le_self q c)).symm)
      refine ⟨_, rfl, Or.inl ⟨rfl, _, SqL.of hl⟩, hv H' w2.b _ fun v Hk3 Ha3 w3 p3 => ?_⟩
      have p3' : v = .int (((q - q / c * c : Nat) : Int)) := p3
      subst p3'
      have hl3 := w3.c l _ hl
      refine ⟨l, _, _, rfl, rfl, hl3, sz_lt (by rw [List.length_map, digs_len]; omega), ?_⟩
      have w4 : Wd H H1 H (upd Ha3 l (.lst (nv (digs c i k) ++ [.int (((q - q / c * c : Nat) : Int))]))) := (w2.ext w3.c).mut hk h1
      refine (hd _ H) _ w4.b _ fun v Hk5 Ha5 w5 p5 => ?_
      have p5' : v = .int ((q / c : Nat) : Int) := p5
      subst p5'
      refine ⟨some (.int (i : Int)), ?_, w4.ext w5.c, ?_⟩
      · rw [Nat.pow_succ, ← Nat.div_div_eq_div_mul, hq]
        rfl
      · rw [w5.c l _ upd_same, hmod, digs_snoc, hq]
        rw [nv_snoc]
    · obtain ⟨y, rfl, w2, hl⟩ := q
      exact p_retL (R := Rn) w2 hk h1 hl (pr_of _) rfl ret rfl

/-! ### longer, orders_of -/
def pLonger (vs : List V) (H : Hp) (P : As) : Prop := ∃ (ss : List (List Nat)) (v : V) (m : Nat), vs = [v, .int m] ∧ Rl RO ss v H ∧ m ≤ 4 ∧ ss.length ≤ 24 ∧ (∀ s ∈ ss, s.length ≤ 4) ∧ P = Rl RO (lon m ss)
theorem sc_longer : FnScope ["starts", "m", "out", "s", "x"] ["starts", "m"] (defScope s_longer) := ⟨rfl, rfl, rfl, by decide +kernel, rfl, by decide +kernel, by decide +kernel⟩
theorem ok_longer {f : Addr} {fd : FuncData} (F : Fun K "longer" "longer" s_longer f fd) (bRange : mg "range" = none) : FnOk P w K mg base CX0 1 f fd ["starts", "m"] (SpOf pLonger) := by
  refine F.ok sc_longer (fun vs H Q E h => ?_) (fun cdv A outer s H1 vs Q E hr h => ?_)
  · obtain ⟨H, P, e, ⟨ss, v, m, rfl, _⟩, _⟩ := h
    rfl
  · obtain ⟨H, P, e, ⟨ss, v, m, rfl, hv, hm, hss, hs4, rfl⟩, ret⟩ := h
    refine ⟨_, pss_cons (ps_set (i := 2) sc_longer.nd rfl (Or.inl rfl) (pe_lst pa_nil))
      (pss_cons (ps_for PassesOwn.never rfl (pi_list (pv 0)) (pg_name (i := 3) sc_longer.nd rfl (Or.inr rfl))
        (pss_one (ps_expr (pe_bm PySem.F.plainAttrs_list PySem.F.slot_list_extend PySem.F.type_list_extend mt_extend (pv 2) (pa_cons (pe_lc (own := [("x", 4)]) (g := gName 4) (tt := tTest (tOp (rIn K true) (tVar 4) (tVar 3))) rfl sc_longer.nd (pi_range1 (by rfl) bRange (pa_cons (pv 1) pa_nil)) (blkOk_by (by kernel_rfl))
          (fun _ _ _ _ _ => pg_name (i := 4) sc_longer.nd rfl (Or.inl rfl)) (fun _ _ _ _ _ => pts_one (pt_cmpR op_notIn_seq (pv 4) (pv 3) rfl)) (fun _ _ _ _ _ => pe_op op_cat (pv 3) (pe_lst (pa_cons (pv 4) pa_nil)))) pa_nil)))))
      (pss_one (ps_ret (pv 2)))), ?_⟩
    refine p_newL (Wd.start e) fun l hk h1 w1 => ?_
    refine p_forL (R := RO) (xs := ss) w1 (ep_var rfl hv) (fun i σ' Hk0 Ha0 H' => ∃ Hk2 zs y, σ' = [some v, some (.int m), some (.ref l), y, none] ∧ Wd H H1 Hk2 H' ∧ Ex Hk0 Hk2 ∧ Hk2 l = none ∧ H' l = some (.lst zs) ∧ Paired (fun x y => RO x y Hk2) (lon m (ss.take i)) zs)
      (fun i σ' Hk0 Ha0 H' q => ?_) (fun Hk0 Ha0 w2 u => ?_) (fun Hk0 Ha0 w2 u i s sv σ' H' hs hrs q => ?_) (fun Hk0 Ha0 σ' H' w2 u q => ?_)
    · obtain ⟨Hk2, zs, y, _, w3, e3, _⟩ := q
      exact e3.trans w3.b
    · obtain ⟨o1, o2⟩ := u.off hk upd_same
      exact ⟨Hk0, [], none, rfl, w2, Ex.refl _, o1, o2, .nil⟩
    · obtain ⟨Hk2, zs, y, rfl, w3, e3, hk2, hl, hp⟩ := q
      have hs2 : RO s sv Hk2 := MonoP.mono e3 hrs
      have hsl : s.length ≤ 4 := hs4 s (List.mem_of_getElem? hs)
      have hc := ep_lcR (S := RO) (σ := [some v, some (.int m), some (.ref l), some sv, none]) (H := Hk2) (vs := [4]) (j := 4) (n := m) (ta := tVar 1) (tt := tTest (tOp (rIn K true) (tVar 4) (tVar 3))) (te := tOp rCat (tVar 3) (tLst (tCons (tVar 4) tNil))) (fun x => !s.contains x) (fun x => s ++ [x]) (ep_var rfl rfl) (by omega) (fun _ => rfl)
        (fun i Hk hi e1 => et_of (ep_notin (ep_var rfl rfl) (ep_var rfl (MonoP.mono (P := RO s) e1 hs2))))
        (fun i Hk hi e1 _ => ep_cat (R := Rn) (ep_var rfl (MonoP.mono (P := RO s) e1 hs2)) (ep_one (R := Rn) (ep_var rfl rfl)) (by show s.length + 1 ≤ 100000; omega))
      refine ⟨_, rfl, Or.inl ⟨rfl, _, SqL.of hl⟩, hc H' w3.b _ fun z Hk4 Ha4 w4 p4 => ?_⟩
      obtain ⟨q, ws, rfl, hq, hpw⟩ := p4
      obtain ⟨hk4, hl4⟩ := w4.off hk2 hl
      have hlen : (lon m (ss.take i)).length ≤ 96 := by
        refine Nat.le_trans (lon_len _ _) ?_
        have h3 : (ss.take i).length ≤ 24 := by rw [List.length_take]; omega
        exact Nat.le_trans (Nat.mul_le_mul h3 hm) (by decide)
      have hlw : (outs (fun x => !s.contains x) (fun x => s ++ [x]) (List.range m)).length ≤ 4 := by
        unfold outs
        rw [List.length_map]
        refine Nat.le_trans (List.length_filter_le _ _) ?_
        rw [List.length_range]
        exact hm
      refine ⟨l, q, zs, ws, rfl, rfl, hl4, w4.b q _ hq, sz_of (by rw [← hp.length, ← hpw.length]; omega), ?_⟩
      refine ⟨Hk4, zs ++ ws, some sv, rfl, (w3.trans w4).mut hk4 h1, e3.trans w4.a, hk4, upd_same, ?_⟩
      rw [lon_more hs]
      exact pr_app (pr_imp hp fun a b _ r => MonoP.mono (P := RO a) w4.a r) hpw
    · obtain ⟨Hk2, zs, y, rfl, w3, e3, hk2, hl, hp⟩ := q
      rw [List.take_length] at hp
      exact p_retL (R := RO) w3 hk2 h1 hl hp rfl ret rfl
def pOrders (vs : List V) (_ : Hp) (P : As) : Prop := ∃ m : Nat, vs = [.int m] ∧ m ≤ 4 ∧ P = Rl RO (lonN m m)
theorem sc_orders_of : FnScope ["m", "out", "k"] ["m"] (defScope s_orders_of) := ⟨rfl, rfl, rfl, by decide +kernel, rfl, by decide +kernel, by decide +kernel⟩
theorem ok_orders_of {f f1 : Addr} {fd fd1 : FuncData} (F : Fun K "orders_of" "orders_of" s_orders_of f fd) (D1 : Dn K mg "longer" "longer" s_longer ["starts", "m"] f1 fd1) (bRange : mg "range" = none) : FnOk P w K mg base CX0 2 f fd ["m"] (SpOf pOrders) := by
  have G1 : FnOk P w K mg base CX0 1 f1 fd1 ["starts", "m"] (SpOf pLonger) := ok_longer D1.F bRange
  refine F.ok sc_orders_of (fun vs H Q E h => ?_) (fun cdv A outer s H1 vs Q E hr h => ?_)
  · obtain ⟨H, P, e, ⟨m, rfl, _⟩, _⟩ := h
    rfl
  · obtain ⟨H, P, e, ⟨m, rfl, hm, rfl⟩, ret⟩ := h
    refine ⟨_, pss_cons (ps_set (i := 1) sc_orders_of.nd rfl (Or.inl rfl) (pe_lst (pa_cons (pe_lst pa_nil) pa_nil)))
      (pss_cons (ps_for PassesOwn.never rfl (pi_range1 (by rfl) bRange (pa_cons (pv 0) pa_nil)) (pg_name (i := 2) sc_orders_of.nd rfl (Or.inl rfl))
        (pss_one (ps_set (i := 1) sc_orders_of.nd rfl (Or.inl rfl) (pe_call G1 (hr.mono (by decide)) rfl D1.g D1.F.kp D1.b .nil pass0 (pa_cons (pv 1) (pa_cons (pv 0) pa_nil))))))
      (pss_one (ps_ret (pv 1)))), ?_⟩
    refine p_asg (Wd.start e) (ep_one (R := RO) (x := []) ep_nil) fun v Hk Ha w1 _ p1 => ?_
    refine p_forR (n := m) w1 (ep_var rfl rfl) (by omega) (fun i σ' H' => ∃ Hk2 v y, σ' = [some (.int m), some v, y] ∧ Wd H H1 Hk2 H' ∧ Rl RO (lonN m i) v Hk2) (fun Ha0 w2 _ => ⟨Hk, v, none, rfl, w2, p1⟩) (fun i σ' H' hi q => ?_) (fun σ' H' q => ?_)
    · obtain ⟨Hk2, v2, y, rfl, w2, p2⟩ := q
      refine (ep_call2 (P1 := Rl RO (lonN m i)) (P2 := Rn m) (P := Rl RO (lonN m (i + 1))) (σ := [some (.int m), some v2, some (.int (i : Int))]) (ta := tVar 1) (tb := tVar 0) (ep_var rfl p2) (ep_var rfl rfl) fun x y Hk e1 q1 q2 => ?_) H' w2.b _ fun v3 Hk3 Ha3 w3 p3 => ?_
      · have q2' : y = .int m := q2
        subst q2'
        exact ⟨lonN m i, x, m, rfl, q1, hm, lonN_len hm (by omega), lonN_item hm (by omega), rfl⟩
      · exact ⟨Hk3, v3, some (.int (i : Int)), rfl, w2.trans w3, p3⟩
    · obtain ⟨Hk2, v2, y, rfl, w2, p2⟩ := q
      exact p_ret w2 (ep_var rfl p2) ret rfl

/-! ### Wishes: how one lies in the heap -/
structure Txt (K : PySem.W.Frag) (mg : Str → Option Value) (C : Addr) : Prop where
  cl : Cls K C
  nV : NoAttr K C "voters"
  nO : NoAttr K C "options"
  nR : NoAttr K C "orders"
  nC : NoAttr K C "cases"
  gC : mg "Wishes" = some (.ref C)
theorem lk_here {k : Str} {v : V} {r : List (Str × V)} : List.lookup k ((k, v) :: r) = some v := by
  have e : (k == k) = true := beq_self_eq_true k
  simp only [List.lookup, e]
theorem lk_past {k g : Str} {v : V} {r : List (Str × V)} (h : (k == g) = false) : List.lookup k ((g, v) :: r) = List.lookup k r := by
  simp only [List.lookup, h]
theorem put_past {f g : Str} {v x : V} {r : List (Str × V)} (h : ¬ g = f) : putF f v ((g, x) :: r) = (g, x) :: putF f v r := if_neg h
def wF1 (a : V) : List (Str × V) := [("voters", a)]
def wF2 (a b : V) : List (Str × V) := [("voters", a), ("options", b)]
def wF3 (a b c : V) : List (Str × V) := [("voters", a), ("options", b), ("orders", c)]
def wF (a b c d : V) : List (Str × V) := [("voters", a), ("options", b), ("orders", c), ("cases", d)]
theorem put1 {a : V} : putF "voters" a [] = wF1 a := rfl
theorem put2 {a b : V} : putF "options" b (wF1 a) = wF2 a b := (put_past (by decide +kernel)).trans rfl
theorem put3 {a b c : V} : putF "orders" c (wF2 a b) = wF3 a b c := (put_past (by decide +kernel)).trans (congrArg _ ((put_past (by decide +kernel)).trans rfl))
theorem put4 {a b c d : V} : putF "cases" d (wF3 a b c) = wF a b c d := (put_past (by decide +kernel)).trans (congrArg _ ((put_past (by decide +kernel)).trans (congrArg _ ((put_past (by decide +kernel)).trans rfl))))
theorem lk3_orders {a b c : V} : (wF3 a b c).lookup ("orders" : Str) = some c := (lk_past (by decide +kernel)).trans ((lk_past (by decide +kernel)).trans lk_here)
theorem lk_voters {a b c d : V} : (wF a b c d).lookup ("voters" : Str) = some a := lk_here
theorem lk_options {a b c d : V} : (wF a b c d).lookup ("options" : Str) = some b := (lk_past (by decide +kernel)).trans lk_here
theorem lk_orders {a b c d : V} : (wF a b c d).lookup ("orders" : Str) = some c := (lk_past (by decide +kernel)).trans ((lk_past (by decide +kernel)).trans lk_here)
theorem lk_cases {a b c d : V} : (wF a b c d).lookup ("cases" : Str) = some d := (lk_past (by decide +kernel)).trans ((lk_past (by decide +kernel)).trans ((lk_past (by decide +kernel)).trans lk_here))
theorem lk_none {a b c d : V} {m : Str} (h1 : (m == "voters") = false) (h2 : (m == "options") = false) (h3 : (m == "orders") = false) (h4 : (m == "cases") = false) : (wF a b c d).lookup m = none :=
  (lk_past h1).trans ((lk_past h2).trans ((lk_past h3).trans ((lk_past h4).trans rfl)))
/-- an object of the class for n voters, m options -/
def WA (C : Addr) (n m : Nat) : As := fun v H => ∃ x dx vo vc, v = .ref x ∧ H x = some (.ins C dx (wF (.int (n : Int)) (.int (m : Int)) vo vc)) ∧ Rl RO (Sa92.orders m) vo H ∧ Rl RO (casesL n m) vc H
instance : MonoP (WA C n m) := ⟨fun e h => by
  obtain ⟨x, dx, vo, vc, h1, h2, h3, h4⟩ := h
  exact ⟨x, dx, vo, vc, h1, e x _ h2, MonoP.mono e h3, MonoP.mono e h4⟩⟩
theorem wa_meth {n m : Nat} {f : Str} {v : V} {H : Hp} (h1 : (f == "voters") = false) (h2 : (f == "options") = false) (h3 : (f == "orders") = false) (h4 : (f == "cases") = false) (h : WA C n m v H) : ∃ a dx fl, v = .ref a ∧ H a = some (.ins C dx fl) ∧ fl.lookup f = none := by
  obtain ⟨x, dx, vo, vc, e1, e2, _⟩ := h
  exact ⟨x, dx, _, e1, e2, lk_none h1 h2 h3 h4⟩
theorem ep_voters {H : Hp} {σ : L2.St} {ta : TE} {n m : Nat} (T : Txt K mg C) (ha : EvP ta σ H (WA C n m)) : EvP (tFld K ta "voters") σ H (Rn n) := fun H1 e Q ret => ha H1 e _ fun v Hk Ha w p => by
  obtain ⟨x, dx, vo, vc, rfl, h2, h3, h4⟩ := p
  exact ⟨x, C, dx, _, _, rfl, w.b x _ h2, T.cl, T.nV, lk_voters, (ret.go w).now w.b rfl⟩
theorem ep_options {H : Hp} {σ : L2.St} {ta : TE} {n m : Nat} (T : Txt K mg C) (ha : EvP ta σ H (WA C n m)) : EvP (tFld K ta "options") σ H (Rn m) := fun H1 e Q ret => ha H1 e _ fun v Hk Ha w p => by
  obtain ⟨x, dx, vo, vc, rfl, h2, h3, h4⟩ := p
  exact ⟨x, C, dx, _, _, rfl, w.b x _ h2, T.cl, T.nO, lk_options, (ret.go w).now w.b rfl⟩
theorem ep_orders {H : Hp} {σ : L2.St} {ta : TE} {n m : Nat} (T : Txt K mg C) (ha : EvP ta σ H (WA C n m)) : EvP (tFld K ta "orders") σ H (Rl RO (Sa92.orders m)) := fun H1 e Q ret => ha H1 e _ fun v Hk Ha w p => by
  obtain ⟨x, dx, vo, vc, rfl, h2, h3, h4⟩ := p
  exact ⟨x, C, dx, _, _, rfl, w.b x _ h2, T.cl, T.nR, lk_orders, (ret.go w).now w.b h3⟩
theorem ep_cases {H : Hp} {σ : L2.St} {ta : TE} {n m : Nat} (T : Txt K mg C) (ha : EvP ta σ H (WA C n m)) : EvP (tFld K ta "cases") σ H (Rl RO (casesL n m)) := fun H1 e Q ret => ha H1 e _ fun v Hk Ha w p => by
  obtain ⟨x, dx, vo, vc, rfl, h2, h3, h4⟩ := p
  exact ⟨x, C, dx, _, _, rfl, w.b x _ h2, T.cl, T.nC, lk_cases, (ret.go w).now w.b h4⟩
theorem ep_known {H : Hp} {σ : L2.St} {te : TE} {v : V} {P : As} [MonoP P] (h : EvP te σ H (Rv v)) (p : P v H) : EvP te σ H P := ep_imp h fun u H' e q => by
  have q' : u = v := q
  rw [q']
  exact MonoP.mono e p
/-- without one address -/
def del (H : Hp) (x : Addr) : Hp := fun b => if b = x then none else H b
theorem del_same {H : Hp} {x : Addr} : del H x x = none := if_pos rfl
theorem del_ne {H : Hp} {x b : Addr} (h : b ≠ x) : del H x b = H b := if_neg h
theorem del_some {H : Hp} {x b : Addr} {o : HO} (h : del H x b = some o) : b ≠ x ∧ H b = some o := by
  unfold del at h
  by_cases e : b = x
  · rw [if_pos e] at h
    cases h
  · rw [if_neg e] at h
    exact ⟨e, h⟩
/-- lists lean on lists alone -/
theorem ro_lists {H H' : Hp} (k : ∀ b ys, H b = some (.lst ys) → H' b = some (.lst ys)) {xss : List (List Nat)} {v : V} (h : Rl RO xss v H) : Rl RO xss v H' := by
  obtain ⟨p, ys, h1, h2, h3⟩ := h
  refine ⟨p, ys, h1, k p _ h2, pr_imp h3 fun a b _ r => ?_⟩
  obtain ⟨q, e1, e2⟩ := ro_at r
  rw [e1]
  exact ro_of (k q _ e2)
/-- __init__'s promise: x stands among what there is, not among what is known -/
def spInit (C : Addr) : Sp := fun vs H1 Q _ => ∃ (H : Hp) (n m : Nat) (x dx : Addr), Ex H H1 ∧ vs = [.ref x, .int (n : Int), .int (m : Int)] ∧ Ok n m ∧ H x = none ∧ H1 x = some (.ins C dx []) ∧
  ∀ Hk Ha vo vc, Wd H (del H1 x) Hk Ha → Hk x = none → Ha x = some (.ins C dx (wF (.int (n : Int)) (.int (m : Int)) vo vc)) → Rl RO (Sa92.orders m) vo Hk → Rl RO (casesL n m) vc Hk → Q .non Ha
theorem ep_make {H : Hp} {σ : L2.St} {ta tb : TE} {n m : Nat} {E : XK} (ok : Ok n m) (ha : EvP ta σ H (Rn n)) (hb : EvP tb σ H (Rn m)) : EvP (tMake C (spInit C) [] E (tCons ta (tCons tb tNil))) σ H (WA C n m) := fun H1 e Q ret =>
  (ev_ep ha) H1 e _ fun H2 e2 => (ev_ep hb) H2 (e.trans e2) _ fun H3 e3 => fun x dx hx hdx hne => by
    have w0 := (Wd.start e).ext (e2.trans e3)
    have hx0 : H x = none := fresh_back w0.b hx
    have hdx0 : H dx = none := fresh_back w0.b hdx
    have e4 : Ex H3 (upd (upd H3 dx (.own x)) x (.ins C dx [])) := fun b o q => by
      rw [upd_ne (ne_of_none q hx), upd_ne (ne_of_none q hdx)]
      exact q
    refine ⟨H, n, m, x, dx, w0.b.trans e4, rfl, ok, hx0, upd_same, fun Hk Ha vo vc w hk hax ho hc => ⟨rfl, ?_⟩⟩
    refine ret (.ref x) (upd Hk x (.ins C dx (wF (.int (n : Int)) (.int (m : Int)) vo vc))) Ha ⟨w.a.trans (Ex.new hk), fun b o q => ?_, fun b o q => ?_, fun b o q q1 => ?_⟩ ⟨x, dx, vo, vc, rfl, upd_same, MonoP.mono (Ex.new hk) ho, MonoP.mono (Ex.new hk) hc⟩
    · by_cases hb : b = x
      · rw [hb, upd_same] at q
        rw [hb, hax]
        exact q
      · rw [upd_ne hb] at q
        exact w.b b o q
    · have q3 := w0.c b o q
      refine w.c b o ?_
      rw [del_ne (ne_of_none q3 hx)]
      exact e4 b o q3
    · have q3 := w0.c b o q1
      rw [upd_ne (ne_of_none q3 hx)]
      exact w.d b o q (by rw [del_ne (ne_of_none q3 hx)]; exact e4 b o q3)
theorem sc_m_init : FnScope ["self", "n", "m", "k"] ["self", "n", "m"] (defScope s_m_init) := ⟨rfl, rfl, rfl, by decide +kernel, rfl, by decide +kernel, by decide +kernel⟩
theorem ok_m_init {f f1 f2 f3 f4 : Addr} {fd fd1 fd2 fd3 fd4 : FuncData} (F : Fun K "__init__" "Wishes.__init__" s_m_init f fd) (T : Txt K mg C) (D1 : Dn K mg "longer" "longer" s_longer ["starts", "m"] f1 fd1) (D2 : Dn K mg "orders_of" "orders_of" s_orders_of ["m"] f2 fd2)
    (D3 : Dn K mg "power" "power" s_power ["x", "n"] f3 fd3) (D4 : Dn K mg "digits" "digits" s_digits ["k", "n", "count"] f4 fd4) (bRange : mg "range" = none) (bLen : mg "len" = none) : FnOk P w K mg base CX0 3 f fd ["self", "n", "m"] (spInit C) := by
  have G2 : FnOk P w K mg base CX0 2 f2 fd2 ["m"] (SpOf pOrders) := ok_orders_of D2.F D1 bRange
  have G3 : FnOk P w K mg base CX0 1 f3 fd3 ["x", "n"] (SpOf pPower) := ok_power D3.F bRange
  have G4 : FnOk P w K mg base CX0 1 f4 fd4 ["k", "n", "count"] (SpOf pDigits) := ok_digits D4.F bRange
  refine F.ok sc_m_init (fun vs H Q E h => ?_) (fun cdv A outer s H1 vs Q E hr h => ?_)
  · obtain ⟨H, n, m, x, dx, _, rfl, _⟩ := h
    rfl
  · obtain ⟨H, n, m, x, dx, e, rfl, ok, hx, h1x, k⟩ := h
    refine ⟨_, pss_cons (ps_fld (pv 0) (pv 1) rfl) (pss_cons (ps_fld (pv 0) (pv 2) rfl) (pss_cons (ps_fld (pv 0) (pe_call G2 (hr.mono (by decide)) rfl D2.g D2.F.kp D2.b .nil pass0 (pa_cons (pv 2) pa_nil)) rfl)
      (pss_one (ps_fld (pv 0) (pe_lc (own := [("k", 3)]) (g := gName 3) (tt := tYes) rfl sc_m_init.nd (pi_range1 (by rfl) bRange (pa_cons (pe_call G3 (hr.mono (by decide)) rfl D3.g D3.F.kp D3.b .nil pass0 (pa_cons (pe_callB call_len_seq (by rfl) bLen boot_len (pa_cons (pe_fld (pv 0) rfl) pa_nil)) (pa_cons (pv 1) pa_nil))) pa_nil)) (blkOk_by (by kernel_rfl))
        (fun _ _ _ _ _ => pg_name (i := 3) sc_m_init.nd rfl (Or.inl rfl)) (fun _ _ _ _ _ => pts_nil)
        (te := tCall (SpOf pDigits) [] E0 (tCons (tVar 3) (tCons (tVar 1) (tCons (tCB (rLenS K) (tCons (tFld K (tVar 0) "orders") tNil)) tNil))))
        (fun _ _ _ _ _ => pe_call G4 (hr.mono (by decide)) rfl D4.g D4.F.kp D4.b .nil pass0 (pa_cons (pv 3) (pa_cons (pv 1) (pa_cons (pe_callB call_len_seq (by rfl) bLen boot_len (pa_cons (pe_fld (pv 0) rfl) pa_nil)) pa_nil))))) rfl)))), ?_⟩
    obtain ⟨hm1, hm2, hn1, hn2, hmn⟩ := id ok
    have hmany := many_pos hm1 hm2
    have w0 : Wd H (del H1 x) H H1 := ⟨Ex.refl _, e, fun b o q => (del_some q).2, fun b o q _ => q⟩
    -- self.voters = n
    refine ⟨_, rfl, _, rfl, x, C, dx, _, rfl, h1x, T.cl, T.nV, (by show 0 < 1000; decide), ?_⟩
    rw [put1]
    have w1 := w0.mut (o := .ins C dx (wF1 (.int (n : Int)))) hx del_same
    -- self.options = m
    refine ⟨_, rfl, _, rfl, x, C, dx, _, rfl, upd_same, T.cl, T.nO, (by show 1 < 1000; decide), ?_⟩
    rw [put2]
    have w2 := w1.mut (o := .ins C dx (wF2 (.int (n : Int)) (.int (m : Int)))) hx del_same
    -- self.orders = orders_of(m)
    refine (ep_call1 (P1 := Rn m) (P := Rl RO (Sa92.orders m)) (H := H) (ep_var rfl rfl) fun y Hk e1 p => ⟨m, by rw [show y = V.int (m : Int) from p], hm2, by rw [lonN_all hm1 hm2]⟩) _ w2.b _ fun vo Hk3 Ha3 w3 p3 => ?_
    obtain ⟨hk3, hx3⟩ := w3.off hx upd_same
    refine ⟨_, rfl, x, C, dx, _, rfl, hx3, T.cl, T.nR, (by show 2 < 1000; decide), ?_⟩
    rw [put3]
    have w4 := (w2.trans w3).mut (o := .ins C dx (wF3 (.int (n : Int)) (.int (m : Int)) vo)) hk3 del_same
    -- self.cases = [..]: while it is made, x is known as it stands
    have ho5 : Rl RO (Sa92.orders m) vo (upd Hk3 x (.ins C dx (wF3 (.int (n : Int)) (.int (m : Int)) vo))) := MonoP.mono (Ex.new hk3) p3
    have e5 : Ex (upd Hk3 x (.ins C dx (wF3 (.int (n : Int)) (.int (m : Int)) vo))) (upd Ha3 x (.ins C dx (wF3 (.int (n : Int)) (.int (m : Int)) vo))) := ex_upd w3.b
    have hlen : ∀ (σ2 : L2.St) (Hk : Hp), σ2[0]? = some (some (V.ref x)) → Ex (upd Hk3 x (.ins C dx (wF3 (.int (n : Int)) (.int (m : Int)) vo))) Hk → EvP (tCB (rLenS K) (tCons (tFld K (tVar 0) "orders") tNil)) σ2 Hk (Rn (Sa92.many m)) := fun σ2 Hk h0 eq =>
      ep_len (R := RO) (ep_known (ep_fld T.cl T.nR (ep_var (P := Ins C (wF3 (.int (n : Int)) (.int (m : Int)) vo)) h0 ⟨x, dx, rfl, eq x _ upd_same⟩) lk3_orders) (MonoP.mono (P := Rl RO (Sa92.orders m)) eq ho5))
    have hcs : Sa92.cases n m ≤ 13824 := cases_le ok
    have hc := ep_lcR (S := RO) (σ := [some (.ref x), some (.int (n : Int)), some (.int (m : Int)), none]) (H := upd Hk3 x (.ins C dx (wF3 (.int (n : Int)) (.int (m : Int)) vo))) (vs := [3]) (j := 3) (n := Sa92.cases n m) (ta := tCall (SpOf pPower) [] E0 (tCons (tCB (rLenS K) (tCons (tFld K (tVar 0) "orders") tNil)) (tCons (tVar 1) tNil))) (tt := tYes)
      (te := tCall (SpOf pDigits) [] E0 (tCons (tVar 3) (tCons (tVar 1) (tCons (tCB (rLenS K) (tCons (tFld K (tVar 0) "orders") tNil)) tNil)))) (fun _ => true) (caseL n m)
      (ep_call2 (P1 := Rn (Sa92.many m)) (P2 := Rn n) (hlen _ _ rfl (Ex.refl _)) (ep_var rfl rfl) fun a b Hk e1 p1 p2 => ⟨Sa92.many m, n, by rw [show a = V.int _ from p1, show b = V.int _ from p2], hmany.2, hn2, rfl⟩) (by omega) (fun _ => rfl) (fun _ _ _ _ => et_yes)
      (fun i Hk hi e1 _ => ep_call3 (P1 := Rn i) (P2 := Rn n) (P3 := Rn (Sa92.many m)) (ep_var rfl rfl) (ep_var rfl rfl) (hlen _ _ rfl e1) fun a b c Hk e1 p1 p2 p3 => ⟨i, n, Sa92.many m, by rw [show a = V.int _ from p1, show b = V.int _ from p2, show c = V.int _ from p3], by omega, hmany.2, by omega, hn2, rfl⟩)
    rw [outs_all] at hc
    show sFld K (tVar 0) (tLc (iRng1 (tCons (tCall (SpOf pPower) [] E0 (tCons (tCB (rLenS K) (tCons (tFld K (tVar 0) "orders") tNil)) (tCons (tVar 1) tNil))) tNil)) (gName 3) tYes (tCall (SpOf pDigits) [] E0 (tCons (tVar 3) (tCons (tVar 1) (tCons (tCB (rLenS K) (tCons (tFld K (tVar 0) "orders") tNil)) tNil)))) [3]) "cases" _ [some (.ref x), some (.int (n : Int)), some (.int (m : Int)), none] _
    unfold sFld
    refine hc _ e5 _ fun vc Hk6 Ha6 w6 p6 => ?_
    have hx6 : Ha6 x = some (.ins C dx (wF3 (.int (n : Int)) (.int (m : Int)) vo)) := w6.c x _ upd_same
    have hx6k : Hk6 x = some (.ins C dx (wF3 (.int (n : Int)) (.int (m : Int)) vo)) := w6.a x _ upd_same
    refine ⟨_, rfl, x, C, dx, _, rfl, hx6, T.cl, T.nC, (by show 3 < 1000; decide), ?_⟩
    rw [put4]
    have hk_lists : ∀ b ys, Hk6 b = some (.lst ys) → del Hk6 x b = some (.lst ys) := fun b ys q => by
      rw [del_ne (ne_of q hx6k (by intro z; cases z))]
      exact q
    refine k (del Hk6 x) _ vo vc ⟨fun b o q => ?_, fun b o q => ?_, fun b o q => ?_, fun b o q q1 => ?_⟩ del_same upd_same (ro_lists hk_lists (MonoP.mono w6.a ho5)) (ro_lists hk_lists p6)
    · have hb := ne_of_none q hx
      rw [del_ne hb]
      refine w6.a b o ?_
      rw [upd_ne hb]
      exact w3.a b o q
    · obtain ⟨hb, q2⟩ := del_some q
      rw [upd_ne hb]
      exact w6.b b o q2
    · obtain ⟨hb, q2⟩ := del_some q
      rw [upd_ne hb]
      refine w6.c b o ?_
      exact w4.c b o q
    · obtain ⟨hb, q2⟩ := del_some q1
      rw [del_ne hb]
      refine w6.d b o ?_ (w4.c b o q1)
      rw [upd_ne hb]
      exact w4.d b o q q1

theorem sc_m_wish : FnScope ["self", "case", "voter"] ["self", "case", "voter"] (defScope s_m_wish) := ⟨rfl, rfl, rfl, by decide +kernel, rfl, by decide +kernel, by decide +kernel⟩
def pWish (C : Addr) (vs : List V) (H : Hp) (P : As) : Prop := ∃ (n m : Nat) (v u : V) (cs : List Nat) (i d : Nat), vs = [v, u, .int (i : Int)] ∧ WA C n m v H ∧ RO cs u H ∧ cs[i]? = some d ∧ d < Sa92.many m ∧ P = RO (Sa92.order m d)
theorem ok_m_wish {f : Addr} {fd : FuncData} (F : Fun K "wish" "Wishes.wish" s_m_wish f fd) (T : Txt K mg C) : FnOk P w K mg base CX0 1 f fd ["self", "case", "voter"] (SpOf (pWish C)) := by
  refine F.ok sc_m_wish (fun vs H Q E h => ?_) (fun cdv A outer s H1 vs Q E hr h => ?_)
  · obtain ⟨H, P, e, ⟨n, m, v, u, cs, i, d, rfl, _⟩, _⟩ := h
    rfl
  · obtain ⟨H, P, e, ⟨n, m, v, u, cs, i, d, rfl, hv, hu, hd, hdm, rfl⟩, ret⟩ := h
    refine ⟨_, pss_one (ps_ret (pe_ix ix_list (pe_fld (pv 0) rfl) (pe_ix ix_list (pv 1) (pv 2) (fun _ _ => rfl)) (fun _ _ => rfl))), ?_⟩
    exact p_ret (Wd.start e) (ep_ix (K := K) (R := RO) (ep_orders T (ep_var rfl hv)) (ep_ix (K := K) (R := Rn) (ep_var rfl hu) (ep_var rfl rfl) hd) (order_at hdm)) ret rfl
/-- w.wish(case, i) -/
theorem ep_wish {H : Hp} {σ : L2.St} {ta tb tc : TE} {n m i d : Nat} {cs : List Nat} {E : XK} (ha : EvP ta σ H (WA C n m)) (hb : EvP tb σ H (RO cs)) (hc : EvP tc σ H (Rn i)) (hd : cs[i]? = some d) (hdm : d < Sa92.many m) : EvP (tMeth C "wish" (SpOf (pWish C)) [] E ta (tCons tb (tCons tc tNil))) σ H (RO (Sa92.order m d)) :=
  ep_meth2 (fun v H' h => wa_meth (by decide +kernel) (by decide +kernel) (by decide +kernel) (by decide +kernel) h) ha hb hc fun x y z Hk e1 p0 p1 p2 => ⟨n, m, x, y, cs, i, d, by rw [show z = V.int _ from p2], p0, p1, hd, hdm, rfl⟩

/-! ### points -/
open LamX Lt in
/-- the lambda's name -/
def lamQ : Str := (("points" : Str) ++ ".<locals>.") ++ "<lambda>"
instance : Lt.NtP (WA C n m) := ⟨fun h => by
  obtain ⟨x, dx, vo, vc, h1, h2, h3, h4⟩ := h
  exact ⟨x, dx, vo, vc, h1, Lt.nt_at h2 (fun _ z => nomatch z), Lt.NtP.nt h3, Lt.NtP.nt h4⟩⟩
theorem rg_nv (m : Nat) : rgV 0 (m : Int) = nv (List.range m) := by
  unfold rgV
  have e : ((m : Int) - 0).toNat = m := by omega
  rw [e]
  exact List.map_congr_left fun i _ => congrArg V.int (Int.zero_add _)
def pPoints (C : Addr) (vs : List V) (H : Hp) (A : As) : Prop := ∃ (n m p : Nat) (v u : V), vs = [v, u] ∧ Ok n m ∧ p < Sa92.cases n m ∧ WA C n m v H ∧ RO (caseL n m p) u H ∧ A = Rn (Sa92.numberOf m (Sa92.byMore (Sa92.points n m p) m))
theorem sc_points : FnScope ["w", "case", "total", "x", "voter", "place", "order"] ["w", "case"] (defScope s_points) := ⟨rfl, rfl, rfl, by decide +kernel, rfl, by decide +kernel, by decide +kernel⟩
theorem ok_points {f c Pt m2 : Addr} {fd md2 : FuncData} (F : Fun K "points" "points" s_points f fd) (hcd : fd.code = .ref c) (TB : LamX.TabB base mg c Pt) (T : Txt K mg C) (MW : Mn K C "wish" "Wishes.wish" s_m_wish ["self", "case", "voter"] m2 md2)
    (bRange : mg "range" = none) (bEnum : mg "enumerate" = none) (bSorted : mg "sorted" = none) (bList : mg "list" = none) : FnOk P w K mg base CX0 3 f fd ["w", "case"] (Lt.SpQ Pt lamQ (pPoints C)) := by
  have GW : FnOk P w K mg base CX0 1 m2 md2 ["self", "case", "voter"] (SpOf (pWish C)) := ok_m_wish MW.F T
  refine Lt.ok_code F hcd sc_points (fun vs H Q E h => ?_) (fun A outer s H1 vs Q E hr h => ?_)
  · obtain ⟨H, A0, _, _, _, ⟨n, m, p, v, u, rfl, _⟩, _⟩ := h
    rfl
  · obtain ⟨H, A0, e, hnt, htb, ⟨n, m, p, v, u, rfl, ok, hp, hv, hu, rfl⟩, ret⟩ := h
    refine ⟨_, pss_cons (ps_set (i := 2) sc_points.nd rfl (Or.inr rfl) (pe_lc (own := [("x", 3)]) (g := gName 3) (tt := tYes) rfl sc_points.nd (pi_range1 (by rfl) bRange (pa_cons (pe_fld (pv 0) rfl) pa_nil)) (blkOk_by (by kernel_rfl)) (fun _ _ _ _ _ => pg_name (i := 3) sc_points.nd rfl (Or.inl rfl)) (fun _ _ _ _ _ => pts_nil) (fun _ _ _ _ _ => pe_int)))
      (pss_cons (ps_for PassesOwn.never rfl (pi_range1 (by rfl) bRange (pa_cons (pe_fld (pv 0) rfl) pa_nil)) (pg_name (i := 4) sc_points.nd rfl (Or.inl rfl))
        (pss_one (ps_for PassesOwn.never rfl (pi_enum (by rfl) bEnum (pa_cons (pe_meth (pv 0) T.cl MW.M GW (hr.mono (by decide)) MW.b .nil pass0 (pa_cons (pv 1) (pa_cons (pv 4) pa_nil))) pa_nil)) (pg_tup rfl (pgs_cons (pg_name (i := 5) sc_points.nd rfl (Or.inl rfl)) (pgs_cons (pg_name (i := 3) sc_points.nd rfl (Or.inl rfl)) pgs_nil)))
          (pss_one (ps_augS (pv 2) (pv 3) Lt.get_list (pe_op op_sub (pe_op op_sub (pe_fld (pv 0) rfl) pe_int) (pv 5)) ip_add set_list)))))
      (pss_cons (ps_set (i := 6) sc_points.nd rfl (Or.inl rfl) (Lt.pe_sortLam (P := Pt) (c := c) (j := 2) (by rfl) bSorted (pe_listRg rfl (by rfl) bList (prg_1 (by rfl) bRange (pe_fld (pv 0) rfl))) TB rfl (hr.mono (by decide)) rfl rfl (by rfl) (fun _ _ _ _ _ _ => rfl) rfl rfl rfl (by decide +kernel) (by rfl) (by rfl) (by decide +kernel) (by decide) (by decide) (by decide)))
      (pss_one (ps_ret (pe_bm PySem.F.plainAttrs_list PySem.F.slot_list_index PySem.F.type_list_index (mt_indexD (hu65 hr)) (pe_fld (pv 0) rfl) (pa_cons (pv 6) pa_nil)))))), ?_⟩
    obtain ⟨hm1, hm2, hn1, hn2, hmn⟩ := id ok
    refine Lt.p_newZ (i := 2) (j := 3) (vs := [3]) (n := m) (Wd.start e) (ep_options T (ep_var rfl hv)) (by omega) (fun _ => rfl) fun L Ha1 hk h1 w1 hL => ?_
    refine p_forR (n := n) w1 (ep_voters T (ep_var rfl hv)) (by omega) (fun i σ' H' => ∃ y3 y4 y5, σ' = [some v, some u, some (.ref L), y3, y4, y5, none] ∧ Wd H H1 H H' ∧ H' L = some (.lst (nv ((List.range m).map (ptsTo n m p i)))))
      (fun Ha0 w2 e2 => ⟨none, none, none, rfl, w2, e2 L _ hL⟩) (fun i σ' H' hi q => ?_) (fun σ' H' q => ?_)
    · obtain ⟨y3, y4, y5, rfl, w2, hL2⟩ := q
      have hw : Sa92.wish m p i < Sa92.many m := wish_lt hm1 hm2
      have holen := order_len hm1 hm2 hw
      have hond : (Sa92.order m (Sa92.wish m p i)).Nodup := (orders_good hm1 hm2 _ (order_mem hw)).2.1
      refine Lt.p_one (p_forE (K := K) (R := Rn) (xs := Sa92.order m (Sa92.wish m p i)) (i1 := 5) (i2 := 3) (tz := fun D => D.nx) w2 (ep_wish (cs := caseL n m p) (ep_var rfl hv) (ep_var rfl hu) (ep_var rfl rfl) (caseL_at hi) hw)
        (fun j σ' Hk0 Ha0 H' => ∃ y3 y5, σ' = [some v, some u, some (.ref L), y3, some (.int (i : Int)), y5, none] ∧ Wd H H1 Hk0 H' ∧ Hk0 L = none ∧ H' L = some (.lst (nv ((List.range m).map fun x => ptsTo n m p i x + pts m (Sa92.order m (Sa92.wish m p i)) j x))))
        (fun j σ' Hk0 Ha0 H' q => ?_) (fun j σ' Hk0 Ha0 H' T o hT q => ?_) (fun Hk0 Ha0 w3 u3 => ?_) (fun Hk0 Ha0 w3 u3 j x xv σ' H' hx hxv q => ?_) (fun Hk0 Ha0 σ' H' w3 u3 q => ?_))
      · obtain ⟨_, _, _, w3, _⟩ := q
        exact w3.b
      · obtain ⟨z3, z5, rfl, w3, hk3, hL3⟩ := q
        exact ⟨z3, z5, rfl, w3.ext (Ex.new hT), hk3, by rw [upd_ne (ne_of_none hL3 hT)]; exact hL3⟩
      · obtain ⟨hk3, hL3⟩ := u3.off hk hL2
        refine ⟨y3, y5, rfl, w3, hk3, ?_⟩
        rw [hL3]
        exact congrArg (fun l => some (HO.lst (nv l))) (List.map_congr_left fun x _ => by rw [pts_zero, Nat.add_zero])
      · obtain ⟨z3, z5, rfl, w4, hk4, hL4⟩ := q
        have hxv' : xv = .int (x : Int) := hxv
        subst hxv'
        have hxm : x < m := order_lt hm1 hm2 hw (List.mem_of_getElem? hx)
        have hjm : j < m := by
          rw [← holen]
          exact (List.getElem?_eq_some_iff.mp hx).1
        have hval : EvP (tOp (rI0 fun i j => .int (i - j)) (tOp (rI0 fun i j => .int (i - j)) (tFld K (tVar 0) "options") (tC (.int 1))) (tVar 5)) [some v, some u, some (.ref L), some (.int (x : Int)), some (.int (i : Int)), some (.int (j : Int)), none] Hk0 (Rn (m - 1 - j)) :=
          ep_is (ep_I0 (g := fun i j => V.int (i - j)) (i := (m : Int) - 1) (j := (j : Int)) (ep_I0 (g := fun i j => V.int (i - j)) (i := (m : Int)) (j := 1) (ep_options T (ep_var rfl (MonoP.mono (P := WA C n m) w4.a hv))) ep_c) (ep_var rfl rfl)) (congrArg V.int (by omega))
        refine ⟨_, rfl, _, rfl, L, _, x, _, rfl, rfl, hL4, by omega, by rw [List.getElem?_map, List.getElem?_map, List.getElem?_range hxm] <;> rfl, hval H' w4.b _ fun y Hk5 Ha5 w5 p5 => ?_⟩
        have p5' : y = .int ((m - 1 - j : Nat) : Int) := p5
        subst p5'
        have hL5 := w5.c L _ hL4
        refine ⟨_, _, rfl, rfl, L, _, (x : Int), x, rfl, rfl, hL5, ixN_nat (by rw [List.length_map, List.length_map, List.length_range]; exact hxm), some (.int (x : Int)), some (.int (j : Int)), rfl, (w4.ext w5.c).mut hk4 h1, hk4, ?_⟩
        have es := map_set (m := m) (x := x) (f := fun x => ptsTo n m p i x + pts m (Sa92.order m (Sa92.wish m p i)) j x) (g := fun x => ptsTo n m p i x + pts m (Sa92.order m (Sa92.wish m p i)) (j + 1) x) hxm fun y hy hne => by
          show ptsTo n m p i y + pts m _ (j + 1) y = ptsTo n m p i y + pts m _ j y
          rw [pts_else hond hx (order_has hm1 hm2 hw hy) hne]
        rw [upd_same, ← es, ← Lt.nv_set]
        show some (HO.lst (List.set _ _ (V.int (((ptsTo n m p i x + pts m (Sa92.order m (Sa92.wish m p i)) j x : Nat) : Int) + ((m - 1 - j : Nat) : Int))))) = some (HO.lst (List.set _ _ (V.int ((ptsTo n m p i x + pts m (Sa92.order m (Sa92.wish m p i)) (j + 1) x : Nat) : Int))))
        rw [pts_here hond hx, ← Int.natCast_add, Nat.add_assoc]
      · obtain ⟨z3, z5, rfl, w4, hk4, hL4⟩ := q
        refine ⟨z3, some (.int (i : Int)), z5, rfl, Lt.wd_back w4, ?_⟩
        rw [hL4]
        refine congrArg (fun l => some (HO.lst (nv l))) (List.map_congr_left fun x hx => ?_)
        have hpl : Sa92.place (Sa92.order m (Sa92.wish m p i)) x < m := by
          have z := place_lt (order_has hm1 hm2 hw (List.mem_range.mp hx))
          rw [holen] at z
          exact z
        rw [holen, pts_all hpl, ptsTo_succ]
    · obtain ⟨y3, y4, y5, rfl, w2, hL2⟩ := q
      refine Lt.p_sortLam (m := m) w2 (ep_options T (ep_var (i := 0) rfl hv)) (by omega) fun qa H2 e2 hq => ?_
      have hL3 := e2 L _ hL2
      have w3 : Wd H H1 H (upd H2 qa (.lst (rgV 0 (m : Int)))) := w2.ext (e2.trans (Ex.new hq))
      refine ⟨qa, L, m, Sa92.points n m p, rfl, by rw [upd_same, rg_nv], by omega, rfl, by rw [upd_ne (ne_of_none hL3 hq)]; exact hL3, htb.ext w3.c, fun H3 eN t3 l hl => ?_⟩
      have w5 := ((Lt.Wq.same w3 hnt htb).extN eN t3).new (o := .lst (nv ((List.range m).mergeSort (Lt.ple (Sa92.points n m p))))) hl (fun _ z => nomatch z)
      have ho : RO (Sa92.byMore (Sa92.points n m p) m) (.ref l) (upd H l (.lst (nv ((List.range m).mergeSort (Lt.ple (Sa92.points n m p)))))) := ro_of (by rw [upd_same, byMore_is])
      exact Lt.p_retq w5 (Lt.eq_ep (ep_indexD (K := K) (xss := Sa92.orders m) (o := Sa92.byMore (Sa92.points n m p) m) (ep_orders T (ep_var rfl (MonoP.mono (P := WA C n m) w5.a hv))) (ep_var rfl ho) (byMore_mem _ hm1 hm2))) ret rfl

/-! ### most_best -/
def pMost (C : Addr) (vs : List V) (H : Hp) (A : As) : Prop := ∃ (n m p : Nat) (v u : V), vs = [v, u] ∧ Ok n m ∧ p < Sa92.cases n m ∧ WA C n m v H ∧ RO (caseL n m p) u H ∧ A = Rn ((Sa92.byMore (Sa92.firsts n m p) m).headD 0)
theorem sc_most_best : FnScope ["w", "case", "counts", "voter", "x"] ["w", "case"] (defScope s_most_best) := ⟨rfl, rfl, rfl, by decide +kernel, rfl, by decide +kernel, by decide +kernel⟩
theorem ok_most_best {f m2 : Addr} {fd md2 : FuncData} (F : Fun K "most_best" "most_best" s_most_best f fd) (T : Txt K mg C) (MW : Mn K C "wish" "Wishes.wish" s_m_wish ["self", "case", "voter"] m2 md2) (bRange : mg "range" = none) (bMax : mg "max" = none) :
    FnOk P w K mg base CX0 2 f fd ["w", "case"] (SpOf (pMost C)) := by
  have GW : FnOk P w K mg base CX0 1 m2 md2 ["self", "case", "voter"] (SpOf (pWish C)) := ok_m_wish MW.F T
  refine F.ok sc_most_best (fun vs H Q E h => ?_) (fun cdv A outer s H1 vs Q E hr h => ?_)
  · obtain ⟨H, A0, _, ⟨n, m, p, v, u, rfl, _⟩, _⟩ := h
    rfl
  · obtain ⟨H, A0, e, ⟨n, m, p, v, u, rfl, ok, hp, hv, hu, rfl⟩, ret⟩ := h
    refine ⟨_, pss_cons (ps_setLc (i := 2) (own := [("x", 4)]) (g := gName 4) (tt := tYes) rfl sc_most_best.nd rfl rfl (sw_true rfl rfl rfl rfl) (pi_range1 (by rfl) bRange (pa_cons (pe_fld (pv 0) rfl) pa_nil)) (blkOk_by (by kernel_rfl)) (fun _ _ _ _ _ => pg_name (i := 4) sc_most_best.nd rfl (Or.inl rfl)) (fun _ _ _ _ _ => pts_nil) (fun _ _ _ _ _ => pe_int))
      (pss_cons (ps_for PassesOwn.never rfl (pi_range1 (by rfl) bRange (pa_cons (pe_fld (pv 0) rfl) pa_nil)) (pg_name (i := 3) sc_most_best.nd rfl (Or.inl rfl))
        (pss_one (ps_augS (pv 2) (pe_ix ix_list (pe_meth (pv 0) T.cl MW.M GW (hr.mono (by decide)) MW.b .nil pass0 (pa_cons (pv 1) (pa_cons (pv 3) pa_nil))) pe_int (fun _ _ => rfl)) Lt.get_list pe_int ip_add set_list)))
      (pss_one (ps_ret (pe_bm PySem.F.plainAttrs_list PySem.F.slot_list_index PySem.F.type_list_index mt_index (pv 2) (pa_cons (pe_callB (cr_max rfl) (by rfl) bMax boot_max (pa_cons (pv 2) pa_nil)) pa_nil))))), ?_⟩
    obtain ⟨hm1, hm2, hn1, hn2, hmn⟩ := id ok
    refine Lt.p_newZ (i := 2) (j := 4) (vs := [4]) (n := m) (Wd.start e) (ep_options T (ep_var rfl hv)) (by omega) (fun _ => rfl) fun L Ha1 hk h1 w1 hL => ?_
    refine p_forR (n := n) w1 (ep_voters T (ep_var rfl hv)) (by omega) (fun i σ' H' => ∃ y3, σ' = [some v, some u, some (.ref L), y3, none] ∧ Wd H H1 H H' ∧ H' L = some (.lst (nv ((List.range m).map (firstTo m p i)))))
      (fun Ha0 w2 e2 => ⟨none, rfl, w2, e2 L _ hL⟩) (fun i σ' H' hi q => ?_) (fun σ' H' q => ?_)
    · obtain ⟨y3, rfl, w2, hL2⟩ := q
      have hw : Sa92.wish m p i < Sa92.many m := wish_lt hm1 hm2
      have hbm : Sa92.best m (Sa92.wish m p i) < m := best_lt hm1 hm2 hw
      have hb : EvP (tOp (rIxL K) (tMeth C "wish" (SpOf (pWish C)) [] E0 (tVar 0) (tCons (tVar 1) (tCons (tVar 3) tNil))) (tC (.int 0))) [some v, some u, some (.ref L), some (.int (i : Int)), none] H (Rn (Sa92.best m (Sa92.wish m p i))) :=
        ep_ix (R := Rn) (j := 0) (ep_wish (cs := caseL n m p) (ep_var rfl hv) (ep_var rfl hu) (ep_var rfl rfl) (caseL_at hi) hw) ep_c (best_at hm1 hm2 hw)
      refine ⟨_, rfl, hb H' w2.b _ fun y Hk3 Ha3 w3 p3 => ?_⟩
      have p3' : y = .int ((Sa92.best m (Sa92.wish m p i) : Nat) : Int) := p3
      subst p3'
      have hL3 := w3.c L _ hL2
      generalize hx : Sa92.best m (Sa92.wish m p i) = x at *
      refine ⟨L, _, x, _, rfl, rfl, hL3, by omega, by rw [List.getElem?_map, List.getElem?_map, List.getElem?_range hbm] <;> rfl, ?_⟩
      refine (ep_c (v := V.int 1) (H := H)) Ha3 (w2.b.trans w3.c) _ fun y Hk5 Ha5 w5 p5 => ?_
      have p5' : y = .int 1 := p5
      subst p5'
      have hL5 := w5.c L _ hL3
      refine ⟨_, _, rfl, rfl, L, _, (x : Int), x, rfl, rfl, hL5, ixN_nat (by rw [List.length_map, List.length_map, List.length_range]; exact hbm), some (.int (i : Int)), rfl, (w2.ext (w3.c.trans w5.c)).mut hk h1, ?_⟩
      have es := map_set (m := m) (x := x) (f := firstTo m p i) (g := firstTo m p (i + 1)) hbm fun y hy hne => firstTo_else (by rw [hx]; exact hne)
      have eh : firstTo m p (i + 1) x = firstTo m p i x + 1 := by
        rw [← hx]
        exact firstTo_here m p i
      rw [upd_same, ← es, ← Lt.nv_set, eh, Int.natCast_add]
      rfl
    · obtain ⟨y3, rfl, w2, hL2⟩ := q
      have w3 := w2.pub hL2 hk h1
      have hc : Rl Rn ((List.range m).map (Sa92.firsts n m p)) (.ref L) (upd H L (.lst (nv ((List.range m).map (Sa92.firsts n m p))))) := ro_of upd_same
      have h0 : 0 < m := by omega
      refine p_ret w3 (ep_is (ep_index (K := K) (a := Sa92.firsts n m p ((Sa92.byMore (Sa92.firsts n m p) m).headD 0)) (xs := (List.range m).map (Sa92.firsts n m p)) (ep_var rfl hc) (Lt.ep_max (ep_var (P := Rl Rn ((List.range m).map (Sa92.firsts n m p))) rfl hc) (by rw [List.length_map, List.length_range]; exact h0) fun y hy hz => most_val _ h0 hy hz) (List.mem_map.mpr ⟨_, List.mem_range.mpr (head_lt _ h0), rfl⟩)) (congrArg (fun (k : Nat) => V.int (k : Int)) (most_idx _ h0))) ret rfl

/-! ### outcome -/
def pOutcome (C : Addr) (vs : List V) (H : Hp) (A : As) : Prop := ∃ (n m p kd k : Nat) (v u : V), vs = [v, .int (kd : Int), .int (k : Int), u] ∧ Ok n m ∧ p < Sa92.cases n m ∧ kd ≤ 4 ∧ k < n ∧ WA C n m v H ∧ RO (caseL n m p) u H ∧ A = Rn (Sa92.made kd k n m p)
theorem sc_outcome : FnScope ["w", "kind", "k", "case"] ["w", "kind", "k", "case"] (defScope s_outcome) := ⟨rfl, rfl, rfl, by decide +kernel, rfl, by decide +kernel, by decide +kernel⟩
theorem et_kind {te : TE} {σ : L2.St} {H : Hp} {kd j : Nat} (h : EvP te σ H (Rn kd)) : EvT (tTest (tOp rEq te (tC (.int (j : Int))))) σ H (decide (kd = j)) :=
  et_of (ep_is (ep_rv (z := .bl (decide (V.int (kd : Int) = V.int (j : Int)))) h ep_c fun _ => rv_eq rfl) (congrArg V.bl (decide_eq_decide.mpr ⟨fun z => by
    injection z with z
    omega, fun z => by rw [z]⟩)))
theorem ro_val {l : List Nat} {v : V} {H : Hp} (h : RO l v H) : ∃ a, v = .ref a := by
  obtain ⟨a, e, _⟩ := ro_at h
  exact ⟨a, e⟩
theorem ok_outcome {f g1 g2 c Pt m2 : Addr} {fd gd1 gd2 md2 : FuncData} (F : Fun K "outcome" "outcome" s_outcome f fd) (DPo : Dn K mg "points" "points" s_points ["w", "case"] g1 gd1) (DMo : Dn K mg "most_best" "most_best" s_most_best ["w", "case"] g2 gd2) (hcd : gd1.code = .ref c) (TB : LamX.TabB base mg c Pt) (T : Txt K mg C)
    (MW : Mn K C "wish" "Wishes.wish" s_m_wish ["self", "case", "voter"] m2 md2) (bRange : mg "range" = none) (bEnum : mg "enumerate" = none) (bSorted : mg "sorted" = none) (bList : mg "list" = none) (bMax : mg "max" = none) : FnOk P w K mg base CX0 4 f fd ["w", "kind", "k", "case"] (Lt.SpQ Pt lamQ (pOutcome C)) := by
  have GW : FnOk P w K mg base CX0 1 m2 md2 ["self", "case", "voter"] (SpOf (pWish C)) := ok_m_wish MW.F T
  have GP : FnOk P w K mg base CX0 3 g1 gd1 ["w", "case"] (Lt.SpQ Pt lamQ (pPoints C)) := ok_points DPo.F hcd TB T MW bRange bEnum bSorted bList
  have GM : FnOk P w K mg base CX0 2 g2 gd2 ["w", "case"] (SpOf (pMost C)) := ok_most_best DMo.F T MW bRange bMax
  refine F.ok sc_outcome (fun vs H Q E h => ?_) (fun cdv A outer s H1 vs Q E hr h => ?_)
  · obtain ⟨H, A0, _, _, _, ⟨n, m, p, kd, k, v, u, rfl, _⟩, _⟩ := h
    rfl
  · obtain ⟨H, A0, e, hnt, htb, ⟨n, m, p, kd, k, v, u, rfl, ok, hp, hkd, hkn, hv, hu, rfl⟩, ret⟩ := h
    refine ⟨_, pss_cons (ps_if (pt_cmpR op_eq (pv 1) pe_int (nomark _)) (pss_one (ps_ret (pe_ix ix_list (pv 3) (pv 2) (fun _ _ => rfl)))) pss_nil)
      (pss_cons (ps_if (pt_cmpR op_eq (pv 1) pe_int (nomark _)) (pss_one (ps_ret (pe_call GP (hr.mono (by decide)) rfl DPo.g DPo.F.kp DPo.b .nil pass0 (pa_cons (pv 0) (pa_cons (pv 3) pa_nil))))) pss_nil)
      (pss_cons (ps_if (pt_cmpR op_eq (pv 1) pe_int (nomark _)) (pss_one (ps_ret (pe_ix ix_list (pe_meth (pv 0) T.cl MW.M GW (hr.mono (by decide)) MW.b .nil pass0 (pa_cons (pv 3) (pa_cons (pv 2) pa_nil))) pe_int (fun _ _ => rfl)))) pss_nil)
      (pss_cons (ps_if (pt_cmpR op_eq (pv 1) pe_int (nomark _)) (pss_one (ps_ret (pe_call GM (hr.mono (by decide)) rfl DMo.g DMo.F.kp DMo.b .nil pass0 (pa_cons (pv 0) (pa_cons (pv 3) pa_nil))))) pss_nil)
      (pss_one (ps_ret (pe_ix ix_list (pe_ix ix_list (pe_fld (pv 0) rfl) (pe_call GP (hr.mono (by decide)) rfl DPo.g DPo.F.kp DPo.b .nil pass0 (pa_cons (pv 0) (pa_cons (pv 3) pa_nil))) (fun _ _ => rfl)) pe_int (fun _ _ => rfl))))))), ?_⟩
    obtain ⟨hm1, hm2, hn1, hn2, hmn⟩ := id ok
    have hw : Sa92.wish m p k < Sa92.many m := wish_lt hm1 hm2
    have h0 : 0 < m := by omega
    have hcall : Lt.EvQ Pt lamQ (tCall (Lt.SpQ Pt lamQ (pPoints C)) [] E0 (tCons (tVar 0) (tCons (tVar 3) tNil))) [some v, some (.int (kd : Int)), some (.int (k : Int)), some u] H (Rn (Sa92.numberOf m (Sa92.byMore (Sa92.points n m p) m))) :=
      Lt.eq_call2 (x := v) (y := u) (ep_var rfl rfl) (ep_var rfl rfl) ⟨n, m, p, v, u, rfl, ok, hp, hv, hu, rfl⟩
    refine p_if (b := decide (kd = 0)) (Wd.start e) (et_kind (j := 0) (ep_var rfl rfl)) (fun hb Ha2 w2 _ => ?_) (fun hb0 Ha2 w2 _ => ?_)
    · have e0 := of_decide_eq_true hb
      subst e0
      exact Lt.p_retq (Lt.Wq.same w2 hnt htb) (Lt.eq_ep (ep_ix (K := K) (R := Rn) (xs := caseL n m p) (ep_var rfl hu) (ep_var rfl rfl) (caseL_at hkn))) ret rfl
    refine p_if (b := decide (kd = 1)) w2 (et_kind (j := 1) (ep_var rfl rfl)) (fun hb Ha3 w3 _ => ?_) (fun hb1 Ha3 w3 _ => ?_)
    · have e0 := of_decide_eq_true hb
      subst e0
      exact Lt.p_retq (Lt.Wq.same w3 hnt htb) hcall ret rfl
    refine p_if (b := decide (kd = 2)) w3 (et_kind (j := 2) (ep_var rfl rfl)) (fun hb Ha4 w4 _ => ?_) (fun hb2 Ha4 w4 _ => ?_)
    · have e0 := of_decide_eq_true hb
      subst e0
      exact Lt.p_retq (Lt.Wq.same w4 hnt htb) (Lt.eq_ep (ep_ix (K := K) (R := Rn) (j := 0) (ep_wish (cs := caseL n m p) (ep_var rfl hv) (ep_var rfl hu) (ep_var rfl rfl) (caseL_at hkn) hw) ep_c (best_at hm1 hm2 hw))) ret rfl
    refine p_if (b := decide (kd = 3)) w4 (et_kind (j := 3) (ep_var rfl rfl)) (fun hb Ha5 w5 _ => ?_) (fun hb3 Ha5 w5 _ => ?_)
    · have e0 := of_decide_eq_true hb
      subst e0
      exact Lt.p_retq (Lt.Wq.same w5 hnt htb) (Lt.eq_ep (ep_call2 (P1 := WA C n m) (P2 := RO (caseL n m p)) (ep_var rfl hv) (ep_var rfl hu) fun x y Hk e1 q1 q2 => ⟨n, m, p, x, y, rfl, ok, hp, q1, q2, rfl⟩)) ret rfl
    · have e4 : kd = 4 := by
        have z0 := of_decide_eq_false hb0
        have z1 := of_decide_eq_false hb1
        have z2 := of_decide_eq_false hb2
        have z3 := of_decide_eq_false hb3
        omega
      subst e4
      have ho := byMore_mem (Sa92.points n m p) hm1 hm2
      have hat : (Sa92.orders m)[Sa92.numberOf m (Sa92.byMore (Sa92.points n m p) m)]? = some (Sa92.byMore (Sa92.points n m p) m) := by
        have hlt : Sa92.numberOf m (Sa92.byMore (Sa92.points n m p) m) < (Sa92.orders m).length := numberOf_lt ho
        have z := List.findIdx_getElem (w := hlt)
        rw [List.getElem?_eq_getElem hlt]
        exact congrArg some (beq_iff_eq.mp z)
      exact Lt.p_retq (Lt.Wq.same w5 hnt htb) (Lt.eq_ix (K := K) (R := Rn) (j := 0) (Lt.eq_ix (K := K) (R := RO) (Lt.eq_ep (ep_orders T (ep_var rfl hv))) hcall hat) (Lt.eq_ep ep_c) (head_at _ h0)) ret rfl

/-! ### make -/
def pMake (vs : List V) (_ : Hp) (A : As) : Prop := ∃ kind k n m : Int, vs = [.int kind, .int k, .int n, .int m] ∧ A = Zl (PySa92.make kind k n m)
theorem sc_make : FnScope ["kind", "k", "n", "m", "w", "case"] ["kind", "k", "n", "m"] (defScope s_make) := ⟨rfl, rfl, rfl, by decide +kernel, rfl, by decide +kernel, by decide +kernel⟩
theorem pr_map {α β γ : Type} {G : β → γ → Prop} {g : α → β} : ∀ {l : List α} {r : List γ}, Paired G (l.map g) r → Paired (fun a b => G (g a) b) l r
  | [], _, h => by
    cases h
    exact .nil
  | a :: l, _, h => by
    cases h with
    | cons h1 h2 => exact .cons h1 (pr_map h2)
theorem ok_make {f g1 g2 g3 c Pt m2 q4 fI l1 l2 l3 l4 : Addr} {fd gd1 gd2 gd3 md2 qd4 fdI ld1 ld2 ld3 ld4 : FuncData} {t0 : Tok} (F : Fun K "make" "make" s_make f fd) (DT : Dn K mg "is_told" "is_told" s_is_told ["n", "m"] q4 qd4)
    (DOu : Dn K mg "outcome" "outcome" s_outcome ["w", "kind", "k", "case"] g3 gd3) (DPo : Dn K mg "points" "points" s_points ["w", "case"] g1 gd1) (DMo : Dn K mg "most_best" "most_best" s_most_best ["w", "case"] g2 gd2) (hcd : gd1.code = .ref c) (TB : LamX.TabB base mg c Pt) (T : Txt K mg C) (MK : Mk K C fI)
    (MI : Mn K C "__init__" "Wishes.__init__" s_m_init ["self", "n", "m"] fI fdI) (MW : Mn K C "wish" "Wishes.wish" s_m_wish ["self", "case", "voter"] m2 md2) (DL : Dn K mg "longer" "longer" s_longer ["starts", "m"] l1 ld1) (DO : Dn K mg "orders_of" "orders_of" s_orders_of ["m"] l2 ld2)
    (DP : Dn K mg "power" "power" s_power ["x", "n"] l3 ld3) (DD : Dn K mg "digits" "digits" s_digits ["k", "n", "count"] l4 ld4) (bRange : mg "range" = none) (bEnum : mg "enumerate" = none) (bSorted : mg "sorted" = none) (bList : mg "list" = none) (bMax : mg "max" = none) (bLen : mg "len" = none) (gR : mg "REFUSED" = some (.int (-2) t0)) :
    FnOk P w K mg base CX0 5 f fd ["kind", "k", "n", "m"] (Lt.SpQ Pt lamQ pMake) := by
  have GT : FnOk P w K mg base CX0 1 q4 qd4 ["n", "m"] (SpOf pTold) := ok_is_told DT.F
  have GI : FnOk P w K mg base CX0 3 fI fdI ["self", "n", "m"] (spInit C) := ok_m_init MI.F T DL DO DP DD bRange bLen
  have GO : FnOk P w K mg base CX0 4 g3 gd3 ["w", "kind", "k", "case"] (Lt.SpQ Pt lamQ (pOutcome C)) := ok_outcome DOu.F DPo DMo hcd TB T MW bRange bEnum bSorted bList bMax
  refine F.ok sc_make (fun vs H Q E h => ?_) (fun cdv A outer s H1 vs Q E hr h => ?_)
  · obtain ⟨H, A0, _, _, _, ⟨kind, k, n, m, rfl, _⟩, _⟩ := h
    rfl
  · obtain ⟨H, A0, e, hnt, htb, ⟨kind, k, n, m, rfl, rfl⟩, ret⟩ := h
    refine ⟨_, pss_cons (ps_if (PW.pt (pw_or (pt_not (pt_val (pe_call GT (hr.mono (by decide)) rfl DT.g DT.F.kp DT.b .nil pass0 (pa_cons (pv 2) (pa_cons (pv 3) pa_nil))))) (pw_or (pt_not (pt_chain op_le op_le pe_int (pv 0) pe_int)) (pw_or1 (pt_not (pt_chain op_le op_lt pe_int (pv 1) (pv 2)))))))
        (pss_one (ps_ret (pe_lst (pa_cons (pe_glob (v := .int (-2)) rfl gR ⟨_, rfl⟩) pa_nil)))) pss_nil)
      (pss_cons (ps_set (i := 4) sc_make.nd rfl (Or.inr rfl) (pe_make MK GI (hr.mono (by decide)) rfl T.gC MI.b .nil pass0 (pa_cons (pv 2) (pa_cons (pv 3) pa_nil))))
      (pss_one (ps_ret (pe_op op_cat (pe_lst (pa_cons (pe_callB call_len_seq (by rfl) bLen boot_len (pa_cons (pe_fld (pv 4) rfl) pa_nil)) pa_nil))
        (pe_lc (own := [("case", 5)]) (g := gName 5) (tt := tYes) rfl sc_make.nd (pi_list (pe_fld (pv 4) rfl)) (blkOk_by (by kernel_rfl)) (fun _ _ _ _ _ => pg_name (i := 5) sc_make.nd rfl (Or.inl rfl)) (fun _ _ _ _ _ => pts_nil)
          (fun _ _ _ _ _ => pe_call GO (hr.mono (by decide)) rfl DOu.g DOu.F.kp DOu.b .nil pass0 (pa_cons (pv 4) (pa_cons (pv 0) (pa_cons (pv 1) (pa_cons (pv 5) pa_nil)))))))))), ?_⟩
    have hz := make_is kind k n m
    have hco : (!Sa92.sized n m || (!(decide (0 ≤ kind) && decide (kind ≤ 4)) || !(decide (0 ≤ k) && decide (k < n)))) = !mkGood kind k n m := by
      have dm : ∀ a b c : Bool, (!a || (!b || !c)) = !(a && (b && c)) := by decide
      exact dm _ _ _
    have c1 := ep_chain (H := H) (σ := start ["kind", "k", "n", "m", "w", "case"] [.int kind, .int k, .int n, .int m]) (g1 := fun i j => decide (i ≤ j)) (g2 := fun i j => decide (i ≤ j)) (a := 0) (b := kind) (c := 4) (tb := tVar 0) ep_c (ep_var rfl rfl) ep_c
    have c2 := ep_chain (H := H) (σ := start ["kind", "k", "n", "m", "w", "case"] [.int kind, .int k, .int n, .int m]) (g1 := fun i j => decide (i ≤ j)) (g2 := fun i j => decide (i < j)) (a := 0) (b := k) (c := n) (tb := tVar 1) (tc := tVar 2) ep_c (ep_var rfl rfl) (ep_var rfl rfl)
    refine p_if (b := !mkGood kind k n m) (Wd.start e) (et_is (et_or (et_not (et_ofB (ep_call2 (P1 := Rv (.int n)) (P2 := Rv (.int m)) (ep_var rfl rfl) (ep_var rfl rfl) fun x y Hk e1 q1 q2 => ⟨n, m, by rw [show x = V.int n from q1, show y = V.int m from q2], rfl⟩))) fun _ => et_or (et_not (et_of c1)) fun _ => et_not (et_of c2)) hco) (fun hb Ha2 w2 _ => ?_) (fun hb Ha2 w2 _ => ?_)
    · rw [Bool.not_eq_true'] at hb
      rw [hb, if_neg Bool.false_ne_true] at hz
      rw [hz] at ret
      exact Lt.p_retq (Lt.Wq.same w2 hnt htb) (Lt.eq_ep (ep_zl (ea_z ep_c ea_zn) (by show 1 ≤ 100000; decide))) ret rfl
    · rw [Bool.not_eq_false'] at hb
      rw [hb, if_pos rfl] at hz
      have hg := hb
      unfold mkGood at hg
      simp only [Bool.and_eq_true, decide_eq_true_eq] at hg
      obtain ⟨hsz, ⟨a1, a2⟩, a3, a4⟩ := hg
      obtain ⟨n1, m1, rfl, rfl, ok⟩ := sized_of hsz
      obtain ⟨kd, rfl⟩ : ∃ kd : Nat, kind = (kd : Int) := ⟨kind.toNat, by omega⟩
      obtain ⟨k1, rfl⟩ : ∃ k1 : Nat, k = (k1 : Int) := ⟨k.toNat, by omega⟩
      obtain ⟨hm1, hm2, hn1, hn2, hmn⟩ := id ok
      have hcs : Sa92.cases n1 m1 ≤ 13824 := cases_le ok
      rw [Int.toNat_natCast, Int.toNat_natCast, Int.toNat_natCast, Int.toNat_natCast] at hz
      rw [hz] at ret
      refine p_asg (P0 := WA C n1 m1) w2 (ep_make ok (ep_var rfl rfl) (ep_var rfl rfl)) fun wv Hk Ha w3 u3 pw => ?_
      have wq := Lt.Wq.of w3 hnt htb
      have pw' : WA C n1 m1 wv (Lt.nt Hk) := Lt.NtP.nt pw
      obtain ⟨x, dx, vo, vc, rfl, h2, h3, ca, ys, rfl, h5, h6⟩ := id pw'
      have h7 : Paired (fun p y => RO (caseL n1 m1 p) y (Lt.nt Hk)) (List.range (Sa92.cases n1 m1)) ys := pr_map (g := caseL n1 m1) (G := fun cs y => RO cs y (Lt.nt Hk)) h6
      have hv0 : EvP (tFld K (tVar 4) "cases") [some (.int (kd : Int)), some (.int (k1 : Int)), some (.int (n1 : Int)), some (.int (m1 : Int)), some (.ref x), none] (Lt.nt Hk) (Rv (.ref ca)) := ep_fld T.cl T.nC (ep_var (P := Ins C (wF (.int (n1 : Int)) (.int (m1 : Int)) vo (.ref ca))) rfl ⟨x, dx, rfl, h2⟩) lk_cases
      have hlc := Lt.eq_lc (K := K) (P := Pt) (q := lamQ) (R := fun p => RO (caseL n1 m1 p)) (S := fun (d : Nat) => Rn d) (xs := List.range (Sa92.cases n1 m1)) (g := gName 5) (vs := [5]) (te := tCall (Lt.SpQ Pt lamQ (pOutcome C)) [] E0 (tCons (tVar 4) (tCons (tVar 0) (tCons (tVar 1) (tCons (tVar 5) tNil))))) (Sa92.made kd k1 n1 m1) hv0 h5 h7 (by rw [List.length_range]; omega)
        (fun i p v Hk2 Ha2 hx e1 e2 n2 hr2 Q' kk => kk _ rfl (Lt.eq_call4 (x := .ref x) (y := .int (kd : Int)) (z := .int (k1 : Int)) (u := v) (ep_var rfl rfl) (ep_var rfl rfl) (ep_var rfl rfl) (ep_var rfl rfl)
          ⟨n1, m1, p, kd, k1, .ref x, v, rfl, ok, List.mem_range.mp (List.mem_of_getElem? hx), by omega, by omega, MonoP.mono (P := WA C n1 m1) e1 pw', hr2, rfl⟩))
      have hcat := Lt.eq_cat (P := Pt) (q := lamQ) (R := Rn) (Lt.eq_ep (ep_one (R := Rn) (ep_len (K := K) (R := RO) (ep_cases T (ep_var (σ := [some (.int (kd : Int)), some (.int (k1 : Int)), some (.int (n1 : Int)), some (.int (m1 : Int)), some (.ref x), none]) (i := 4) rfl pw'))))) hlc (by show 1 + _ ≤ _; rw [List.length_map, List.length_range]; omega)
      refine Lt.p_retq (A := Zl _) wq (Lt.eq_imp hcat fun v H' _ q => ?_) ret rfl
      obtain ⟨a, rfl, ha⟩ := rl_rv q
      refine ⟨a, rfl, ?_⟩
      rw [ha, casesL_len]
      show some (HO.lst (nv (Sa92.cases n1 m1 :: (List.range (Sa92.cases n1 m1)).map (Sa92.made kd k1 n1 m1)))) = some (HO.lst (V.int ((Sa92.cases n1 m1 : Nat) : Int) :: (castL _).map V.int))
      unfold castL
      rw [List.map_map]
      rfl
end
theorem all_mk {P : Program} {w : World} {K : PySem.W.Frag} {h : Heap} {mg : Str → Option Value} {fa C f_is_told f_power f_digits f_longer f_orders_of f_points f_most_best f_outcome f_make m_init m_wish : Addr} (X : K.In h) (G : h.Ns mainGlobals mg) (hfa : mg "make" = some (.ref fa)) (hK : PySem.W.noTabs K = true) (tb : Lt.TabOf mg h "points")
    {od_is_told an_is_told od_power an_power od_digits an_digits od_longer an_longer od_orders_of an_orders_of od_points an_points od_most_best an_most_best od_outcome an_outcome od_make an_make odm_init anm_init odm_wish anm_wish : Option Addr} {sl_is_told sl_power sl_digits sl_longer sl_orders_of sl_points sl_most_best sl_outcome sl_make slm_init slm_wish : Array (Option Value)} {oc_is_told kV_is_told dc_is_told pm_is_told cd_is_told ct_is_told oc_power kV_power dc_power pm_power cd_power ct_power oc_digits kV_digits dc_digits pm_digits cd_digits ct_digits oc_longer kV_longer dc_longer pm_longer cd_longer ct_longer oc_orders_of kV_orders_of dc_orders_of pm_orders_of cd_orders_of ct_orders_of oc_points kV_points dc_points pm_points cd_points ct_points oc_most_best kV_most_best dc_most_best pm_most_best cd_most_best ct_most_best oc_outcome kV_outcome dc_outcome pm_outcome cd_outcome ct_outcome oc_make kV_make dc_make pm_make cd_make ct_make ocm_init kVm_init dcm_init pmm_init cdm_init ctm_init ocm_wish kVm_wish dcm_wish pmm_wish cdm_wish ctm_wish : Value} {t0 : Tok}
    (a_is_told : PySem.W.nsIn K mainGlobals "is_told" = some (some (.ref f_is_told)))
    (l_is_told : K.lookup f_is_told = some ⟨oc_is_told, od_is_told, .func (PySem.W.fnOf "is_told" "is_told" (defArgs s_is_told) (defBody s_is_told) (defScope s_is_told) .none kV_is_told dc_is_told pm_is_told an_is_told cd_is_told ct_is_told), sl_is_told⟩)
    (c_is_told : PySem.W.codeIn K cd_is_told "is_told" = true)
    (k_is_told : PySem.W.keepIn K (.ref f_is_told) = true)
    (a_power : PySem.W.nsIn K mainGlobals "power" = some (some (.ref f_power)))
    (l_power : K.lookup f_power = some ⟨oc_power, od_power, .func (PySem.W.fnOf "power" "power" (defArgs s_power) (defBody s_power) (defScope s_power) .none kV_power dc_power pm_power an_power cd_power ct_power), sl_power⟩)
    (c_power : PySem.W.codeIn K cd_power "power" = true)
    (k_power : PySem.W.keepIn K (.ref f_power) = true)
    (a_digits : PySem.W.nsIn K mainGlobals "digits" = some (some (.ref f_digits)))
    (l_digits : K.lookup f_digits = some ⟨oc_digits, od_digits, .func (PySem.W.fnOf "digits" "digits" (defArgs s_digits) (defBody s_digits) (defScope s_digits) .none kV_digits dc_digits pm_digits an_digits cd_digits ct_digits), sl_digits⟩)
    (c_digits : PySem.W.codeIn K cd_digits "digits" = true)
    (k_digits : PySem.W.keepIn K (.ref f_digits) = true)
    (a_longer : PySem.W.nsIn K mainGlobals "longer" = some (some (.ref f_longer)))
    (l_longer : K.lookup f_longer = some ⟨oc_longer, od_longer, .func (PySem.W.fnOf "longer" "longer" (defArgs s_longer) (defBody s_longer) (defScope s_longer) .none kV_longer dc_longer pm_longer an_longer cd_longer ct_longer), sl_longer⟩)
    (c_longer : PySem.W.codeIn K cd_longer "longer" = true)
    (k_longer : PySem.W.keepIn K (.ref f_longer) = true)
    (a_orders_of : PySem.W.nsIn K mainGlobals "orders_of" = some (some (.ref f_orders_of)))
    (l_orders_of : K.lookup f_orders_of = some ⟨oc_orders_of, od_orders_of, .func (PySem.W.fnOf "orders_of" "orders_of" (defArgs s_orders_of) (defBody s_orders_of) (defScope s_orders_of) .none kV_orders_of dc_orders_of pm_orders_of an_orders_of cd_orders_of ct_orders_of), sl_orders_of⟩)
    (c_orders_of : PySem.W.codeIn K cd_orders_of "orders_of" = true)
    (k_orders_of : PySem.W.keepIn K (.ref f_orders_of) = true)
    (a_points : PySem.W.nsIn K mainGlobals "points" = some (some (.ref f_points)))
    (l_points : K.lookup f_points = some ⟨oc_points, od_points, .func (PySem.W.fnOf "points" "points" (defArgs s_points) (defBody s_points) (defScope s_points) .none kV_points dc_points pm_points an_points cd_points ct_points), sl_points⟩)
    (c_points : PySem.W.codeIn K cd_points "points" = true)
    (k_points : PySem.W.keepIn K (.ref f_points) = true)
    (a_most_best : PySem.W.nsIn K mainGlobals "most_best" = some (some (.ref f_most_best)))
    (l_most_best : K.lookup f_most_best = some ⟨oc_most_best, od_most_best, .func (PySem.W.fnOf "most_best" "most_best" (defArgs s_most_best) (defBody s_most_best) (defScope s_most_best) .none kV_most_best dc_most_best pm_most_best an_most_best cd_most_best ct_most_best), sl_most_best⟩)
    (c_most_best : PySem.W.codeIn K cd_most_best "most_best" = true)
    (k_most_best : PySem.W.keepIn K (.ref f_most_best) = true)
    (a_outcome : PySem.W.nsIn K mainGlobals "outcome" = some (some (.ref f_outcome)))
    (l_outcome : K.lookup f_outcome = some ⟨oc_outcome, od_outcome, .func (PySem.W.fnOf "outcome" "outcome" (defArgs s_outcome) (defBody s_outcome) (defScope s_outcome) .none kV_outcome dc_outcome pm_outcome an_outcome cd_outcome ct_outcome), sl_outcome⟩)
    (c_outcome : PySem.W.codeIn K cd_outcome "outcome" = true)
    (k_outcome : PySem.W.keepIn K (.ref f_outcome) = true)
    (a_make : PySem.W.nsIn K mainGlobals "make" = some (some (.ref f_make)))
    (l_make : K.lookup f_make = some ⟨oc_make, od_make, .func (PySem.W.fnOf "make" "make" (defArgs s_make) (defBody s_make) (defScope s_make) .none kV_make dc_make pm_make an_make cd_make ct_make), sl_make⟩)
    (c_make : PySem.W.codeIn K cd_make "make" = true)
    (k_make : PySem.W.keepIn K (.ref f_make) = true)
    (aC : PySem.W.nsIn K mainGlobals "Wishes" = some (some (.ref C)))
    (am_init : PySem.W.findIn K (.ref C) "__init__" = some (some (.ref m_init)))
    (im_init : PySem.W.isFn K (.ref m_init) = true)
    (lm_init : K.lookup m_init = some ⟨ocm_init, odm_init, .func (PySem.W.fnOf "__init__" "Wishes.__init__" (defArgs s_m_init) (defBody s_m_init) (defScope s_m_init) .none kVm_init dcm_init pmm_init anm_init cdm_init ctm_init), slm_init⟩)
    (cm_init : PySem.W.codeIn K cdm_init "Wishes.__init__" = true)
    (km_init : PySem.W.keepIn K (.ref m_init) = true)
    (am_wish : PySem.W.findIn K (.ref C) "wish" = some (some (.ref m_wish)))
    (im_wish : PySem.W.isFn K (.ref m_wish) = true)
    (lm_wish : K.lookup m_wish = some ⟨ocm_wish, odm_wish, .func (PySem.W.fnOf "wish" "Wishes.wish" (defArgs s_m_wish) (defBody s_m_wish) (defScope s_m_wish) .none kVm_wish dcm_wish pmm_wish anm_wish cdm_wish ctm_wish), slm_wish⟩)
    (cm_wish : PySem.W.codeIn K cdm_wish "Wishes.wish" = true)
    (km_wish : PySem.W.keepIn K (.ref m_wish) = true)
    (pg : PySem.W.plainGet K C Str.empty = true)
    (hd : PySem.W.hasDictIn K C = true)
    (po : PySem.W.plainOver K C = true)
    (sa : PySem.W.findIn K (.ref C) "__setattr__" = some (some (.builtin "object.__setattr__")))
    (mk : PySem.W.makesIn K C = true)
    (kc : PySem.W.keepIn K (.ref C) = true)
    (n_voters : PySem.W.findIn K (.ref C) "voters" = some none)
    (n_options : PySem.W.findIn K (.ref C) "options" = some none)
    (n_orders : PySem.W.findIn K (.ref C) "orders" = some none)
    (n_cases : PySem.W.findIn K (.ref C) "cases" = some none)
    (b_range : PySem.W.nsIn K mainGlobals "range" = some none)
    (b_enumerate : PySem.W.nsIn K mainGlobals "enumerate" = some none)
    (b_sorted : PySem.W.nsIn K mainGlobals "sorted" = some none)
    (b_list : PySem.W.nsIn K mainGlobals "list" = some none)
    (b_max : PySem.W.nsIn K mainGlobals "max" = some none)
    (b_len : PySem.W.nsIn K mainGlobals "len" = some none)
    (aR : PySem.W.nsIn K mainGlobals "REFUSED" = some (some (.int (-2) t0))) :
    ∃ (fd : FuncData) (c Pt : Addr), Lt.TabHd K h c Pt ∧ (∀ (s : Shared) (us : List Value), us.length = (["kind", "k", "n", "m"] : List Str).length → BindsTo s fd ⟨us, []⟩ ((["kind", "k", "n", "m"] : List Str).zip us)) ∧ ∀ base : Heap, K.In base → base.Ns mainGlobals mg → LamX.TabB base mg c Pt → FnOk P w K mg base CX0 5 fa fd ["kind", "k", "n", "m"] (Lt.SpQ Pt lamQ pMake) := by
  have e := hfa.symm.trans (PySem.W.mg_of X G a_make)
  cases e
  have D_is_told : Dn K mg "is_told" "is_told" s_is_told ["n", "m"] f_is_told _ := ⟨fun_mk (st := s_is_told) l_is_told c_is_told k_is_told, PySem.W.mg_of X G a_is_told, (fun_mk (st := s_is_told) l_is_told c_is_told k_is_told).binds (ps := ["n", "m"]) fun _ _ _ _ _ _ us hl => match us, hl with | [_, _], _ => rfl⟩
  have D_power : Dn K mg "power" "power" s_power ["x", "n"] f_power _ := ⟨fun_mk (st := s_power) l_power c_power k_power, PySem.W.mg_of X G a_power, (fun_mk (st := s_power) l_power c_power k_power).binds (ps := ["x", "n"]) fun _ _ _ _ _ _ us hl => match us, hl with | [_, _], _ => rfl⟩
  have D_digits : Dn K mg "digits" "digits" s_digits ["k", "n", "count"] f_digits _ := ⟨fun_mk (st := s_digits) l_digits c_digits k_digits, PySem.W.mg_of X G a_digits, (fun_mk (st := s_digits) l_digits c_digits k_digits).binds (ps := ["k", "n", "count"]) fun _ _ _ _ _ _ us hl => match us, hl with | [_, _, _], _ => rfl⟩
  have D_longer : Dn K mg "longer" "longer" s_longer ["starts", "m"] f_longer _ := ⟨fun_mk (st := s_longer) l_longer c_longer k_longer, PySem.W.mg_of X G a_longer, (fun_mk (st := s_longer) l_longer c_longer k_longer).binds (ps := ["starts", "m"]) fun _ _ _ _ _ _ us hl => match us, hl with | [_, _], _ => rfl⟩
  have D_orders_of : Dn K mg "orders_of" "orders_of" s_orders_of ["m"] f_orders_of _ := ⟨fun_mk (st := s_orders_of) l_orders_of c_orders_of k_orders_of, PySem.W.mg_of X G a_orders_of, (fun_mk (st := s_orders_of) l_orders_of c_orders_of k_orders_of).binds (ps := ["m"]) fun _ _ _ _ _ _ us hl => match us, hl with | [_], _ => rfl⟩
  have D_points : Dn K mg "points" "points" s_points ["w", "case"] f_points _ := ⟨fun_mk (st := s_points) l_points c_points k_points, PySem.W.mg_of X G a_points, (fun_mk (st := s_points) l_points c_points k_points).binds (ps := ["w", "case"]) fun _ _ _ _ _ _ us hl => match us, hl with | [_, _], _ => rfl⟩
  have D_most_best : Dn K mg "most_best" "most_best" s_most_best ["w", "case"] f_most_best _ := ⟨fun_mk (st := s_most_best) l_most_best c_most_best k_most_best, PySem.W.mg_of X G a_most_best, (fun_mk (st := s_most_best) l_most_best c_most_best k_most_best).binds (ps := ["w", "case"]) fun _ _ _ _ _ _ us hl => match us, hl with | [_, _], _ => rfl⟩
  have D_outcome : Dn K mg "outcome" "outcome" s_outcome ["w", "kind", "k", "case"] f_outcome _ := ⟨fun_mk (st := s_outcome) l_outcome c_outcome k_outcome, PySem.W.mg_of X G a_outcome, (fun_mk (st := s_outcome) l_outcome c_outcome k_outcome).binds (ps := ["w", "kind", "k", "case"]) fun _ _ _ _ _ _ us hl => match us, hl with | [_, _, _, _], _ => rfl⟩
  have F_make := fun_mk (st := s_make) l_make c_make k_make
  have M_init : Mn K C "__init__" "Wishes.__init__" s_m_init ["self", "n", "m"] m_init _ := ⟨fun_mk (st := s_m_init) lm_init cm_init km_init, ⟨am_init, im_init, km_init⟩, (fun_mk (st := s_m_init) lm_init cm_init km_init).binds (ps := ["self", "n", "m"]) fun _ _ _ _ _ _ us hl => match us, hl with | [_, _, _], _ => rfl⟩
  have M_wish : Mn K C "wish" "Wishes.wish" s_m_wish ["self", "case", "voter"] m_wish _ := ⟨fun_mk (st := s_m_wish) lm_wish cm_wish km_wish, ⟨am_wish, im_wish, km_wish⟩, (fun_mk (st := s_m_wish) lm_wish cm_wish km_wish).binds (ps := ["self", "case", "voter"]) fun _ _ _ _ _ _ us hl => match us, hl with | [_, _, _], _ => rfl⟩
  have T : Txt K mg C := ⟨⟨pg, hd, po, sa⟩, n_voters, n_options, n_orders, n_cases, PySem.W.mg_of X G aC⟩
  have MK : Mk K C m_init := ⟨mk, am_init, im_init, kc⟩
  have B_range : mg "range" = none := PySem.W.mg_none_of X G b_range
  have B_enumerate : mg "enumerate" = none := PySem.W.mg_none_of X G b_enumerate
  have B_sorted : mg "sorted" = none := PySem.W.mg_none_of X G b_sorted
  have B_list : mg "list" = none := PySem.W.mg_none_of X G b_list
  have B_max : mg "max" = none := PySem.W.mg_none_of X G b_max
  have B_len : mg "len" = none := PySem.W.mg_none_of X G b_len
  have gR := PySem.W.mg_of X G aR
  obtain ⟨c, Pt, TH, hcd⟩ := Lt.tab_hd X hK tb (PySem.W.mg_of X G a_points) l_points
  exact ⟨_, c, Pt, TH, fun s us hu => match us, hu with | [_, _, _, _], _ => .of_eq rfl, fun base _ _ TB => ok_make F_make D_is_told D_outcome D_points D_most_best hcd TB T MK M_init M_wish D_longer D_orders_of D_power D_digits B_range B_enumerate B_sorted B_list B_max B_len gR⟩
end Pr
open PySem PySem.W PyProof.Rows
set_option maxRecDepth 100000 in
set_option maxHeartbeats 0 in
theorem PySem.Challenge.cw_manywishes_s01_make_holds : PySem.Challenge.rw_manywishes_s01_make.Holds := by
  w_on; k_headS; (case hw => exact ⟨[.int 0, .int 0, .int 0, .int 0], by decide +kernel, by decide +kernel⟩)
  k_fillS
  refine Lt.walk_lam (r := PySem.Challenge.rw_manywishes_s01_make) (k := 5) (CX := L2.CX0) (ps := ["kind", "k", "n", "m"]) (x := "points") (by decide +kernel) rfl rfl ⟨rfl, by decide, by decide⟩ (fun w h Y => PySem.W.kIn_of Y) (by rfl) (fun a => [a.1, a.2.1, a.2.2.1, a.2.2.2.1]) (fun a => rfl) ?F (fun _ _ _ _ z => z)
  case F =>
    intro w mg fa h Y KX G tb hmg
    have hfa : mg ("make" : PySem.Str) = some (.ref fa) := hmg
    clear hmg
    refine' Lt.lam_end (Pr.all_mk KX G hfa ?hK tb ?a_is_told ?l_is_told ?c_is_told ?k_is_told ?a_power ?l_power ?c_power ?k_power ?a_digits ?l_digits ?c_digits ?k_digits ?a_longer ?l_longer ?c_longer ?k_longer ?a_orders_of ?l_orders_of ?c_orders_of ?k_orders_of ?a_points ?l_points ?c_points ?k_points ?a_most_best ?l_most_best ?c_most_best ?k_most_best ?a_outcome ?l_outcome ?c_outcome ?k_outcome ?a_make ?l_make ?c_make ?k_make ?aC ?am_init ?im_init ?lm_init ?cm_init ?km_init ?am_wish ?im_wish ?lm_wish ?cm_wish ?km_wish ?pg ?hd ?po ?sa ?mk ?kc ?n_voters ?n_options ?n_orders ?n_cases ?b_range ?b_enumerate ?b_sorted ?b_list ?b_max ?b_len ?aR) ?E
    (case hK => kernel_rfl)
    (case a_is_told => k_is)
    (case l_is_told => k_is)
    (case c_is_told => k_is)
    (case k_is_told => k_is)
    (case a_power => k_is)
    (case l_power => k_is)
    (case c_power => k_is)
    (case k_power => k_is)
    (case a_digits => k_is)
    (case l_digits => k_is)
    (case c_digits => k_is)
    (case k_digits => k_is)
    (case a_longer => k_is)
    (case l_longer => k_is)
    (case c_longer => k_is)
    (case k_longer => k_is)
    (case a_orders_of => k_is)
    (case l_orders_of => k_is)
    (case c_orders_of => k_is)
    (case k_orders_of => k_is)
    (case a_points => k_is)
    (case l_points => k_is)
    (case c_points => k_is)
    (case k_points => k_is)
    (case a_most_best => k_is)
    (case l_most_best => k_is)
    (case c_most_best => k_is)
    (case k_most_best => k_is)
    (case a_outcome => k_is)
    (case l_outcome => k_is)
    (case c_outcome => k_is)
    (case k_outcome => k_is)
    (case a_make => k_is)
    (case l_make => k_is)
    (case c_make => k_is)
    (case k_make => k_is)
    (case aC => k_is)
    (case am_init => k_is)
    (case im_init => k_is)
    (case lm_init => k_is)
    (case cm_init => k_is)
    (case km_init => k_is)
    (case am_wish => k_is)
    (case im_wish => k_is)
    (case lm_wish => k_is)
    (case cm_wish => k_is)
    (case km_wish => k_is)
    (case pg => k_is)
    (case hd => k_is)
    (case po => k_is)
    (case sa => k_is)
    (case mk => k_is)
    (case kc => k_is)
    (case n_voters => k_is)
    (case n_options => k_is)
    (case n_orders => k_is)
    (case n_cases => k_is)
    (case b_range => k_is)
    (case b_enumerate => k_is)
    (case b_sorted => k_is)
    (case b_list => k_is)
    (case b_max => k_is)
    (case b_len => k_is)
    (case aR => k_is)
    case E =>
      intro a
      exact ⟨_, ⟨a.1, a.2.1, a.2.2.1, a.2.2.2.1, rfl, rfl⟩, fun v H H' e q => by
        obtain ⟨p, rfl, hp⟩ := q
        exact .lst (L2.SqL.of (e p _ hp)) (L2.dw_ints _)⟩
#print axioms PySem.Challenge.cw_manywishes_s01_make_holds
