import PyProof.Rows.All
import Wide.All
import OpenK.AllK
import Wide.FinOn
import Open.SpecLaws
import KE.OsGo
import HandS.ForSpec
import HandS.Comp
import HandS.Iter
import HandS.Evl
import HandS.Deep
import PySem.Challenge.RW_manywishes_s03_apart
set_option Elab.async false
set_option maxRecDepth 100000
set_option maxHeartbeats 4000000
namespace Mw
open Sa92

/-! ### sizes -/
def Ok (n m : Nat) : Prop := 2 ≤ m ∧ m ≤ 4 ∧ 1 ≤ n ∧ n ≤ 4 ∧ (m < 4 ∨ n ≤ 3)
theorem sized_of {n m : Int} (h : sized n m = true) : ∃ n1 m1 : Nat, n = (n1 : Int) ∧ m = (m1 : Int) ∧ Ok n1 m1 := by
  unfold sized at h
  simp only [Bool.and_eq_true, Bool.or_eq_true, decide_eq_true_eq] at h
  obtain ⟨h1, h2, h3, h4, h5⟩ := h
  refine ⟨n.toNat, m.toNat, by omega, by omega, by omega, by omega, by omega, by omega, by omega⟩
theorem sized_nat {n m : Nat} (h : Ok n m) : sized (n : Int) (m : Int) = true := by
  obtain ⟨h1, h2, h3, h4, h5⟩ := h
  unfold sized
  simp only [Bool.and_eq_true, Bool.or_eq_true, decide_eq_true_eq]
  omega
theorem m_cases {m : Nat} (h1 : 2 ≤ m) (h2 : m ≤ 4) : m = 2 ∨ m = 3 ∨ m = 4 := by omega
theorem many_two : many 2 = 2 := by decide +kernel
theorem many_three : many 3 = 6 := by decide +kernel
theorem many_four : many 4 = 24 := by decide +kernel
theorem many_pos {m : Nat} (h1 : 2 ≤ m) (h2 : m ≤ 4) : 2 ≤ many m ∧ many m ≤ 24 := by
  rcases m_cases h1 h2 with rfl | rfl | rfl
  · rw [many_two]; omega
  · rw [many_three]; omega
  · rw [many_four]; omega
theorem cases_le {n m : Nat} (h : Ok n m) : cases n m ≤ 13824 := by
  obtain ⟨h1, h2, h3, h4, h5⟩ := h
  unfold cases
  rcases m_cases h1 h2 with rfl | rfl | rfl
  · rw [many_two]
    have : n = 1 ∨ n = 2 ∨ n = 3 ∨ n = 4 := by omega
    rcases this with rfl | rfl | rfl | rfl <;> decide
  · rw [many_three]
    have : n = 1 ∨ n = 2 ∨ n = 3 ∨ n = 4 := by omega
    rcases this with rfl | rfl | rfl | rfl <;> decide
  · rw [many_four]
    have : n = 1 ∨ n = 2 ∨ n = 3 := by omega
    rcases this with rfl | rfl | rfl <;> decide

/-! ### orders -/
/-- what longer gives -/
def lon (m : Nat) (ss : List (List Nat)) : List (List Nat) := ss.flatMap fun s => ((List.range m).filter fun x => !s.contains x).map fun x => s ++ [x]
def lonN (m : Nat) : Nat → List (List Nat)
  | 0 => [[]]
  | k + 1 => lon m (lonN m k)
theorem lon_len (m : Nat) : ∀ ss : List (List Nat), (lon m ss).length ≤ ss.length * m
  | [] => Nat.zero_le _
  | s :: r => by
    have ih := lon_len m r
    have e : lon m (s :: r) = (((List.range m).filter fun x => !s.contains x).map fun x => s ++ [x]) ++ lon m r := List.flatMap_cons
    have h1 : (((List.range m).filter fun x => !s.contains x).map fun x => s ++ [x]).length ≤ m := by
      rw [List.length_map]
      refine Nat.le_trans (List.length_filter_le _ _) ?_
      rw [List.length_range]
      exact Nat.le_refl _
    rw [e, List.length_append, List.length_cons, Nat.add_mul, Nat.one_mul]
    omega
theorem lon_more {m : Nat} {ss : List (List Nat)} {i : Nat} {s : List Nat} (h : ss[i]? = some s) : lon m (ss.take (i + 1)) = lon m (ss.take i) ++ ((List.range m).filter fun x => !s.contains x).map fun x => s ++ [x] := by
  unfold lon
  rw [List.take_add_one, h, List.flatMap_append]
  simp
theorem lonN_all {m : Nat} (h1 : 2 ≤ m) (h2 : m ≤ 4) : lonN m m = orders m := by
  rcases m_cases h1 h2 with rfl | rfl | rfl <;> decide +kernel
theorem lonN_len {m k : Nat} (h2 : m ≤ 4) (hk : k ≤ m) : (lonN m k).length ≤ 24 := by
  have e : ∀ m ∈ List.range 5, ∀ k ∈ List.range (m + 1), (lonN m k).length ≤ 24 := by decide +kernel
  exact e m (List.mem_range.mpr (by omega)) k (List.mem_range.mpr (by omega))
theorem lonN_item {m k : Nat} (h2 : m ≤ 4) (hk : k ≤ m) : ∀ s ∈ lonN m k, s.length ≤ 4 := by
  have e : ∀ m ∈ List.range 5, ∀ k ∈ List.range (m + 1), ∀ s ∈ lonN m k, s.length ≤ 4 := by decide +kernel
  exact e m (List.mem_range.mpr (by omega)) k (List.mem_range.mpr (by omega))
theorem orders_good {m : Nat} (h1 : 2 ≤ m) (h2 : m ≤ 4) : ∀ o ∈ orders m, o.length = m ∧ o.Nodup ∧ (∀ x ∈ o, x < m) ∧ ∀ x ∈ List.range m, x ∈ o := by
  rcases m_cases h1 h2 with rfl | rfl | rfl <;> decide +kernel
theorem order_at {m k : Nat} (h : k < many m) : (orders m)[k]? = some (order m k) := by
  unfold order
  have h' : k < (orders m).length := h
  rw [List.getD_eq_getElem?_getD, List.getElem?_eq_getElem h']
  rfl
theorem order_mem {m k : Nat} (h : k < many m) : order m k ∈ orders m := List.mem_of_getElem? (order_at h)
theorem order_len {m k : Nat} (h1 : 2 ≤ m) (h2 : m ≤ 4) (h : k < many m) : (order m k).length = m := (orders_good h1 h2 _ (order_mem h)).1
theorem order_lt {m k x : Nat} (h1 : 2 ≤ m) (h2 : m ≤ 4) (h : k < many m) (hx : x ∈ order m k) : x < m := (orders_good h1 h2 _ (order_mem h)).2.2.1 x hx
theorem order_has {m k a : Nat} (h1 : 2 ≤ m) (h2 : m ≤ 4) (h : k < many m) (ha : a < m) : a ∈ order m k := (orders_good h1 h2 _ (order_mem h)).2.2.2 a (List.mem_range.mpr ha)
theorem orders_nodup {m : Nat} (h1 : 2 ≤ m) (h2 : m ≤ 4) : (orders m).Nodup := by
  rcases m_cases h1 h2 with rfl | rfl | rfl <;> decide +kernel
/-- the first place -/
theorem findIdx_at {α : Type} {l : List α} {p : α → Bool} {x : α} (hx : x ∈ l) (hp : p x = true) :
    ∃ z, l[l.findIdx p]? = some z ∧ p z = true ∧ ∀ (j : Nat) (y : α), j < l.findIdx p → l[j]? = some y → p y = false := by
  have hlt : l.findIdx p < l.length := List.findIdx_lt_length_of_exists ⟨x, hx, hp⟩
  refine ⟨l[l.findIdx p], List.getElem?_eq_getElem hlt, List.findIdx_getElem, fun j y hj hy => ?_⟩
  have h := List.not_of_lt_findIdx hj
  obtain ⟨hjl, e⟩ := List.getElem?_eq_some_iff.mp hy
  rw [e] at h
  exact h
theorem place_lt {o : List Nat} {a : Nat} (h : a ∈ o) : place o a < o.length := List.findIdx_lt_length_of_exists ⟨a, h, by simp⟩

/-! ### pairs -/
def sq (m : Nat) : List (Nat × Nat) := (List.range (m * m)).map fun k => (k / m, k - k / m * m)
theorem sq_pairs {m : Nat} (h1 : 2 ≤ m) (h2 : m ≤ 4) : (sq m).filter (fun x => x.1 != x.2) = pairs m := by
  rcases m_cases h1 h2 with rfl | rfl | rfl <;> decide +kernel
theorem pairs_len {m : Nat} (h1 : 2 ≤ m) (h2 : m ≤ 4) : (pairs m).length ≤ 12 := by
  rcases m_cases h1 h2 with rfl | rfl | rfl <;> decide +kernel
theorem pairs_lt {m : Nat} (h1 : 2 ≤ m) (h2 : m ≤ 4) : ∀ x ∈ pairs m, x.1 < m ∧ x.2 < m := by
  rcases m_cases h1 h2 with rfl | rfl | rfl <;> decide +kernel

/-! ### numbers by digits -/
def num (c : Nat) : List Nat → Nat
  | [] => 0
  | d :: r => num c r * c + d
def digs (c n k : Nat) : List Nat := (List.range n).map fun i => k / c ^ i % c
theorem digs_len (c n k : Nat) : (digs c n k).length = n := by unfold digs; simp
theorem digs_at {c n k i : Nat} (h : i < n) : (digs c n k)[i]? = some (k / c ^ i % c) := by
  unfold digs
  simp [h]
theorem digs_lt {c n k : Nat} (hc : 0 < c) : ∀ d ∈ digs c n k, d < c := by
  intro d hd
  unfold digs at hd
  obtain ⟨i, _, rfl⟩ := List.mem_map.mp hd
  exact Nat.mod_lt _ hc
theorem digs_succ (c n k : Nat) : digs c (n + 1) k = (k % c) :: digs c n (k / c) := by
  unfold digs
  rw [List.range_succ_eq_map, List.map_cons, List.map_map]
  congr 1
  · simp
  · refine List.map_congr_left fun i _ => ?_
    show k / c ^ (i + 1) % c = k / c / c ^ i % c
    rw [Nat.div_div_eq_div_mul, Nat.pow_succ, Nat.mul_comm c]
theorem digs_snoc (c n k : Nat) : digs c (n + 1) k = digs c n k ++ [k / c ^ n % c] := by
  unfold digs
  rw [List.range_succ, List.map_append]
  rfl
theorem num_digs {c : Nat} (hc : 0 < c) : ∀ (n k : Nat), k < c ^ n → num c (digs c n k) = k
  | 0, k, h => by
    have : k = 0 := by simpa using h
    subst this
    rfl
  | n + 1, k, h => by
    rw [digs_succ]
    show num c (digs c n (k / c)) * c + k % c = k
    have h2 : k / c < c ^ n := by
      rw [Nat.div_lt_iff_lt_mul hc]
      rw [Nat.pow_succ] at h
      exact h
    rw [num_digs hc n (k / c) h2]
    have := Nat.div_add_mod k c
    rw [Nat.mul_comm] at this
    exact this
theorem num_lt {c : Nat} (hc : 0 < c) : ∀ (ds : List Nat), (∀ d ∈ ds, d < c) → num c ds < c ^ ds.length
  | [], _ => by simp [num]
  | d :: r, h => by
    have ih := num_lt hc r fun x hx => h x (List.mem_cons_of_mem _ hx)
    have hd : d < c := h d List.mem_cons_self
    show num c r * c + d < c ^ (r.length + 1)
    rw [Nat.pow_succ]
    have : (num c r + 1) * c ≤ c ^ r.length * c := Nat.mul_le_mul_right _ ih
    rw [Nat.add_mul] at this
    omega
theorem digit_num {c : Nat} (hc : 0 < c) : ∀ (ds : List Nat) (i d : Nat), (∀ d ∈ ds, d < c) → ds[i]? = some d → num c ds / c ^ i % c = d
  | [], i, d, _, h => by simp at h
  | a :: r, 0, d, hl, h => by
    have e : a = d := Option.some.inj h
    subst e
    have ha : a < c := hl a List.mem_cons_self
    show (num c r * c + a) / c ^ 0 % c = a
    rw [Nat.pow_zero, Nat.div_one, Nat.add_comm, Nat.add_mul_mod_self_right, Nat.mod_eq_of_lt ha]
  | a :: r, i + 1, d, hl, h => by
    have ha : a < c := hl a List.mem_cons_self
    have ih := digit_num hc r i d (fun x hx => hl x (List.mem_cons_of_mem _ hx)) (by simpa using h)
    show (num c r * c + a) / c ^ (i + 1) % c = d
    have e : (num c r * c + a) / c = num c r := by
      rw [Nat.add_comm, Nat.add_mul_div_right _ _ hc, Nat.div_eq_of_lt ha, Nat.zero_add]
    rw [Nat.pow_succ', ← Nat.div_div_eq_div_mul, e]
    exact ih
theorem num_set {c : Nat} : ∀ (ds : List Nat) (i d k : Nat), ds[i]? = some d → num c (ds.set i k) + d * c ^ i = num c ds + k * c ^ i
  | [], i, d, k, h => by simp at h
  | a :: r, 0, d, k, h => by
    have e : a = d := Option.some.inj h
    subst e
    show num c r * c + k + a * c ^ 0 = num c r * c + a + k * c ^ 0
    rw [Nat.pow_zero]
    omega
  | a :: r, i + 1, d, k, h => by
    have ih := num_set (c := c) r i d k (by simpa using h)
    show num c (r.set i k) * c + a + d * c ^ (i + 1) = num c r * c + a + k * c ^ (i + 1)
    have e := congrArg (· * c) ih
    simp only [Nat.add_mul] at e
    rw [Nat.pow_succ, ← Nat.mul_assoc, ← Nat.mul_assoc]
    omega
theorem num_sum {c : Nat} (f : Nat → Nat) : ∀ n, num c ((List.range n).map f) = ((List.range n).map fun i => f i * c ^ i).sum := by
  have key : ∀ (n : Nat) (f : Nat → Nat), num c ((List.range n).map f) = ((List.range n).map fun i => f i * c ^ i).sum := by
    intro n
    induction n with
    | zero => intro f; rfl
    | succ n ih =>
      intro f
      rw [List.range_succ_eq_map, List.map_cons, List.map_cons, List.map_map, List.map_map, List.sum_cons]
      show num c ((List.range n).map (f ∘ Nat.succ)) * c + f 0 = _
      rw [ih (f ∘ Nat.succ)]
      have e : ∀ l : List Nat, (l.map fun i => (f ∘ Nat.succ) i * c ^ i).sum * c = (l.map ((fun i => f i * c ^ i) ∘ Nat.succ)).sum := by
        intro l
        induction l with
        | nil => simp
        | cons a l ihl =>
          simp only [List.map_cons, List.sum_cons, Nat.add_mul, ihl]
          show f (a + 1) * c ^ a * c + _ = f (a + 1) * c ^ (a + 1) + _
          rw [Nat.pow_succ, Nat.mul_assoc]
      rw [e, Nat.pow_zero, Nat.mul_one]
      omega
  exact fun n => key n f

/-! ### cases -/
def caseL (n m p : Nat) : List Nat := digs (many m) n p
def casesL (n m : Nat) : List (List Nat) := (List.range (cases n m)).map (caseL n m)
theorem casesL_len (n m : Nat) : (casesL n m).length = cases n m := by unfold casesL; simp
theorem casesL_at {n m p : Nat} (h : p < cases n m) : (casesL n m)[p]? = some (caseL n m p) := by
  unfold casesL
  simp [h]
theorem casesL_of {n m p : Nat} {c : List Nat} (h : (casesL n m)[p]? = some c) : p < cases n m ∧ c = caseL n m p := by
  have hl := (List.getElem?_eq_some_iff.mp h).1
  rw [casesL_len] at hl
  rw [casesL_at hl] at h
  exact ⟨hl, (Option.some.inj h).symm⟩
theorem caseL_len (n m p : Nat) : (caseL n m p).length = n := digs_len _ _ _
theorem caseL_at {n m p i : Nat} (h : i < n) : (caseL n m p)[i]? = some (wish m p i) := digs_at h
theorem wish_lt {m p i : Nat} (h1 : 2 ≤ m) (h2 : m ≤ 4) : wish m p i < many m := Nat.mod_lt _ (by have := many_pos h1 h2; omega)
theorem caseL_lt {n m p : Nat} (h1 : 2 ≤ m) (h2 : m ≤ 4) : ∀ d ∈ caseL n m p, d < many m := digs_lt (by have := many_pos h1 h2; omega)
theorem num_caseL {n m p : Nat} (h1 : 2 ≤ m) (h2 : m ≤ 4) (hp : p < cases n m) : num (many m) (caseL n m p) = p := num_digs (by have := many_pos h1 h2; omega) n p hp
/-- a case with another order of one voter -/
theorem retold_num {m : Nat} {ds : List Nat} {i k : Nat} (h1 : 2 ≤ m) (h2 : m ≤ 4) (hl : ∀ d ∈ ds, d < many m) (hi : i < ds.length) : retold m (num (many m) ds) i k = num (many m) (ds.set i k) := by
  have hc : 0 < many m := by have := many_pos h1 h2; omega
  have hd : ds[i]? = some ds[i] := List.getElem?_eq_getElem hi
  have e := digit_num hc ds i ds[i] hl hd
  have e2 := num_set (c := many m) ds i ds[i] k hd
  unfold retold wish
  rw [e]
  have e3 := num_set (c := many m) ds i ds[i] 0 hd
  rw [Nat.zero_mul, Nat.add_zero] at e3
  omega
theorem retold_lt {n m p i k : Nat} (h1 : 2 ≤ m) (h2 : m ≤ 4) (hp : p < cases n m) (hi : i < n) (hk : k < many m) : retold m p i k < cases n m := by
  have e := retold_num (k := k) h1 h2 (caseL_lt (n := n) (p := p) h1 h2) (i := i) (by rw [caseL_len]; exact hi)
  rw [num_caseL h1 h2 hp] at e
  rw [e]
  have := num_lt (c := many m) (by have := many_pos h1 h2; omega) ((caseL n m p).set i k) fun d hd => by
    rcases List.mem_or_eq_of_mem_set hd with h | h
    · exact caseL_lt h1 h2 d h
    · rw [h]; exact hk
  rw [List.length_set, caseL_len] at this
  exact this
def exch (l : List Nat) (i j : Nat) : List Nat := (l.set i (l.getD j 0)).set j (l.getD i 0)
theorem exchanged_num {n m p i j : Nat} (h1 : 2 ≤ m) (h2 : m ≤ 4) (hp : p < cases n m) (hij : i < j) (hj : j < n) :
    exchanged m p i j = num (many m) (exch (caseL n m p) i j) ∧ exchanged m p i j < cases n m := by
  have hc : 0 < many m := by have := many_pos h1 h2; omega
  have hi : i < n := by omega
  have di : (caseL n m p).getD i 0 = wish m p i := by rw [List.getD_eq_getElem?_getD, caseL_at hi]; rfl
  have dj : (caseL n m p).getD j 0 = wish m p j := by rw [List.getD_eq_getElem?_getD, caseL_at hj]; rfl
  have e1 := retold_num (k := wish m p j) h1 h2 (caseL_lt (n := n) (p := p) h1 h2) (i := i) (by rw [caseL_len]; exact hi)
  rw [num_caseL h1 h2 hp] at e1
  have l1 : ∀ d ∈ (caseL n m p).set i (wish m p j), d < many m := fun d hd => by
    rcases List.mem_or_eq_of_mem_set hd with h | h
    · exact caseL_lt h1 h2 d h
    · rw [h]; exact wish_lt h1 h2
  have e2 := retold_num (k := wish m p i) h1 h2 l1 (i := j) (by rw [List.length_set, caseL_len]; exact hj)
  have e : exchanged m p i j = num (many m) (exch (caseL n m p) i j) := by
    unfold exchanged exch
    rw [e1, e2, di, dj]
  refine ⟨e, ?_⟩
  rw [e]
  have := num_lt hc (exch (caseL n m p) i j) fun d hd => by
    unfold exch at hd
    rw [di, dj] at hd
    rcases List.mem_or_eq_of_mem_set hd with h | h
    · exact l1 d h
    · rw [h]; exact wish_lt h1 h2
  unfold exch at this
  rw [List.length_set, List.length_set, caseL_len] at this
  exact this
theorem renamed_mem {m : Nat} (h1 : 2 ≤ m) (h2 : m ≤ 4) : ∀ s ∈ orders m, ∀ o ∈ orders m, (o.map fun x => s.getD x 0) ∈ orders m := by
  rcases m_cases h1 h2 with rfl | rfl | rfl <;> decide +kernel
theorem numberOf_lt {m : Nat} {o : List Nat} (h : o ∈ orders m) : numberOf m o < many m := List.findIdx_lt_length_of_exists ⟨o, h, by simp⟩
theorem renamed_lt {m s k : Nat} (h1 : 2 ≤ m) (h2 : m ≤ 4) (hs : s < many m) (hk : k < many m) : renamed m s k < many m :=
  numberOf_lt (renamed_mem h1 h2 _ (order_mem hs) _ (order_mem hk))
theorem caseRenamed_num {n m s p : Nat} : caseRenamed n m s p = num (many m) ((caseL n m p).map (renamed m s)) := by
  have e : (caseL n m p).map (renamed m s) = (List.range n).map fun i => renamed m s (wish m p i) := by
    unfold caseL digs
    rw [List.map_map]
    rfl
  rw [e, num_sum]
  rfl
theorem caseRenamed_lt {n m s p : Nat} (h1 : 2 ≤ m) (h2 : m ≤ 4) (hs : s < many m) : caseRenamed n m s p < cases n m := by
  rw [caseRenamed_num]
  have := num_lt (c := many m) (by have := many_pos h1 h2; omega) ((caseL n m p).map (renamed m s)) fun d hd => by
    obtain ⟨k, hk, rfl⟩ := List.mem_map.mp hd
    exact renamed_lt h1 h2 hs (caseL_lt h1 h2 k hk)
  rw [List.length_map, caseL_len] at this
  exact this

/-! ### searches -/
/-- no place before the i-th gives anything -/
def NoneTo {α β : Type} (l : List α) (f : α → Option β) (i : Nat) : Prop := ∀ (j : Nat) (y : α), j < i → l[j]? = some y → f y = none
theorem NoneTo.zero {α β : Type} {l : List α} {f : α → Option β} : NoneTo l f 0 := fun j _ h => absurd h (Nat.not_lt_zero j)
theorem NoneTo.next {α β : Type} {l : List α} {f : α → Option β} {i : Nat} {x : α} (h : NoneTo l f i) (hx : l[i]? = some x) (hf : f x = none) : NoneTo l f (i + 1) := fun j y hj hy => by
  by_cases e : j = i
  · subst e
    rw [hx] at hy
    rw [← Option.some.inj hy]
    exact hf
  · exact h j y (by omega) hy
theorem NoneTo.none {α β : Type} : ∀ {l : List α} {f : α → Option β}, NoneTo l f l.length → l.findSome? f = Option.none
  | [], _, _ => rfl
  | a :: r, f, h => by
    have h0 : f a = Option.none := h 0 a (by simp) rfl
    rw [List.findSome?_cons, h0]
    exact NoneTo.none (l := r) fun j y hj hy => h (j + 1) y (by simpa using hj) (by simpa using hy)
theorem NoneTo.some {α β : Type} {v : β} : ∀ {l : List α} {f : α → Option β} {i : Nat} {x : α}, NoneTo l f i → l[i]? = Option.some x → f x = Option.some v → l.findSome? f = Option.some v
  | [], _, i, x, _, hx, _ => by simp at hx
  | a :: r, f, 0, x, _, hx, hf => by
    have e : a = x := Option.some.inj hx
    subst e
    rw [List.findSome?_cons, hf]
  | a :: r, f, i + 1, x, h, hx, hf => by
    have h0 : f a = Option.none := h 0 a (by omega) rfl
    rw [List.findSome?_cons, h0]
    exact NoneTo.some (l := r) (i := i) (x := x) (fun j y hj hy => h (j + 1) y (by omega) (by simpa using hy)) (by simpa using hx) hf
theorem told_true {l : List Nat} : told true l = some l := rfl
theorem told_false {l : List Nat} : told false l = none := rfl
/-- nothing before i holds -/
def NotTo (n : Nat) (f : Nat → Bool) (i : Nat) : Prop := ∀ j, j < i → j < n → f j = false
theorem NotTo.zero {n : Nat} {f : Nat → Bool} : NotTo n f 0 := fun j h _ => absurd h (Nat.not_lt_zero j)
theorem NotTo.next {n : Nat} {f : Nat → Bool} {i : Nat} (h : NotTo n f i) (hf : f i = false) : NotTo n f (i + 1) := fun j hj hn => by
  by_cases e : j = i
  · subst e; exact hf
  · exact h j (by omega) hn
theorem NotTo.none {n : Nat} {f : Nat → Bool} (h : NotTo n f n) : (List.range n).find? f = Option.none := by
  rw [List.find?_eq_none]
  intro x hx
  rw [h x (List.mem_range.mp hx) (List.mem_range.mp hx)]
  exact Bool.false_ne_true
theorem NotTo.some {n : Nat} {f : Nat → Bool} {i : Nat} (h : NotTo n f i) (hi : i < n) (hf : f i = true) : (List.range n).find? f = Option.some i := by
  rw [List.find?_range_eq_some]
  exact ⟨hf, List.mem_range.mpr hi, fun j hj => by rw [h j hj (by omega)]; rfl⟩
end Mw

set_option Elab.async false
set_option linter.all false
set_option maxRecDepth 100000
set_option maxHeartbeats 4000000
namespace Lb
open PySem PySem.Spec PyProof.Rows L2 Evl

/-! ### what is known (Hk) and what there is (Ha), since an entry that knew H and found H1 -/
structure Wd (H H1 Hk Ha : Hp) : Prop where
  a : Ex H Hk
  b : Ex Hk Ha
  c : Ex H1 Ha
  d : ∀ b o, H b = none → H1 b = some o → Hk b = none
variable {K : PySem.W.Frag} {H H1 Hk Ha Hk2 Ha2 : Hp} {σ : L2.St}
theorem Wd.start (e : Ex H H1) : Wd H H1 H H1 := ⟨Ex.refl _, e, Ex.refl _, fun _ _ h _ => h⟩
theorem Wd.trans (w : Wd H H1 Hk Ha) (u : Wd Hk Ha Hk2 Ha2) : Wd H H1 Hk2 Ha2 := ⟨w.a.trans u.a, u.b, w.c.trans u.c, fun b o h h1 => u.d b o (w.d b o h h1) (w.c b o h1)⟩
theorem Wd.ext (w : Wd H H1 Hk Ha) (e : Ex Ha Ha2) : Wd H H1 Hk Ha2 := ⟨w.a, w.b.trans e, w.c.trans e, w.d⟩
theorem ex_upd {Hk Ha : Hp} {p : Addr} {o : HO} (e : Ex Hk Ha) : Ex (upd Hk p o) (upd Ha p o) := fun b u h => by
  by_cases hb : b = p
  · rw [hb, upd_same] at h ⊢
    exact h
  · rw [upd_ne hb] at h ⊢
    exact e b u h
/-- a new object, known from now on -/
theorem Wd.new {p : Addr} {o : HO} (w : Wd H H1 Hk Ha) (hp : Ha p = none) : Wd H H1 (upd Hk p o) (upd Ha p o) :=
  ⟨w.a.trans (Ex.new (fresh_back w.b hp)), ex_upd w.b, w.c.trans (Ex.new hp), fun b u h h1 => by
    have hb : b ≠ p := ne_of_none (w.c b u h1) hp
    rw [upd_ne hb]
    exact w.d b u h h1⟩
/-- an object that is not known changes, or is laid -/
theorem Wd.mut {p : Addr} {o : HO} (w : Wd H H1 Hk Ha) (h : Hk p = none) (h1 : H1 p = none) : Wd H H1 Hk (upd Ha p o) := ⟨w.a, w.b.mut h, w.c.mut h1, w.d⟩
/-- an object of ours is known from now on -/
theorem Wd.pub {p : Addr} {o : HO} (w : Wd H H1 Hk Ha) (h : Ha p = some o) (hk : Hk p = none) (h1 : H1 p = none) : Wd H H1 (upd Hk p o) Ha :=
  ⟨w.a.trans (Ex.new hk), fun b u q => by
    by_cases hb : b = p
    · rw [hb, upd_same] at q
      rw [hb, h]
      exact q
    · rw [upd_ne hb] at q
      exact w.b b u q, w.c, fun b u q q1 => by
    have hb : b ≠ p := ne_of_none q1 h1
    rw [upd_ne hb]
    exact w.d b u q q1⟩
/-- what is not known and was there at the entry, stays unknown -/
theorem Wd.off {l : Addr} {o : HO} (w : Wd H H1 Hk Ha) (h : H l = none) (h1 : H1 l = some o) : Hk l = none ∧ Ha l = some o := ⟨w.d l o h h1, w.c l o h1⟩

/-! ### assertions about a value -/
abbrev As := V → Hp → Prop
class MonoP (P : As) : Prop where
  mono : ∀ {v : V} {H H' : Hp}, Ex H H' → P v H → P v H'
def Rv (v0 : V) : As := fun v _ => v = v0
instance : MonoP (Rv v0) := ⟨fun _ h => h⟩
abbrev Rn (n : Nat) : As := Rv (.int (n : Int))
abbrev Rb (b : Bool) : As := Rv (.bl b)
def Rl {α : Type} (R : α → As) (xs : List α) : As := fun v H => ∃ p ys, v = .ref p ∧ H p = some (.lst ys) ∧ Paired (fun x y => R x y H) xs ys
def Rp {α β : Type} (R : α → As) (S : β → As) (z : α × β) : As := fun v H => ∃ p x y, v = .ref p ∧ H p = some (.tup [x, y]) ∧ R z.1 x H ∧ S z.2 y H
theorem pr_imp {α β : Type} {F G : α → β → Prop} : ∀ {l : List α} {r : List β}, Paired F l r → (∀ a b, a ∈ l → F a b → G a b) → Paired G l r
  | _, _, .nil, _ => .nil
  | _, _, .cons r t, f => .cons (f _ _ List.mem_cons_self r) (pr_imp t fun a b h => f a b (List.mem_cons_of_mem _ h))
theorem pr_app {α β : Type} {F : α → β → Prop} : ∀ {l l2 : List α} {r r2 : List β}, Paired F l r → Paired F l2 r2 → Paired F (l ++ l2) (r ++ r2)
  | _, _, _, _, .nil, s => s
  | _, _, _, _, .cons h t, s => .cons h (pr_app t s)
theorem pr_get {α β : Type} {F : α → β → Prop} : ∀ {l : List α} {r : List β} {i : Nat} {x : α}, Paired F l r → l[i]? = some x → ∃ y, r[i]? = some y ∧ F x y
  | _, _, _, _, .nil, e => by simp at e
  | _, _, 0, _, .cons h _, e => by
    have e' := Option.some.inj e
    subst e'
    exact ⟨_, rfl, h⟩
  | _, _, i + 1, x, .cons _ t, e => by
    obtain ⟨y, h1, h2⟩ := pr_get (i := i) (x := x) t (by simpa using e)
    exact ⟨y, by simpa using h1, h2⟩
theorem pr_back {α β : Type} {F : α → β → Prop} : ∀ {l : List α} {r : List β} {i : Nat} {y : β}, Paired F l r → r[i]? = some y → ∃ x, l[i]? = some x ∧ F x y
  | _, _, _, _, .nil, e => by simp at e
  | _, _, 0, _, .cons h _, e => by
    have e' := Option.some.inj e
    subst e'
    exact ⟨_, rfl, h⟩
  | _, _, i + 1, x, .cons _ t, e => by
    obtain ⟨y, h1, h2⟩ := pr_back (i := i) (y := x) t (by simpa using e)
    exact ⟨y, by simpa using h1, h2⟩
theorem pr_rv {α : Type} {f : α → V} {H : Hp} : ∀ {l : List α} {r : List V}, Paired (fun x y => Rv (f x) y H) l r → r = l.map f
  | _, _, .nil => rfl
  | _, _, .cons h t => by
    have h' : _ = f _ := h
    rw [h', pr_rv t]
    rfl
theorem pr_of {α : Type} {f : α → V} {H : Hp} : ∀ (l : List α), Paired (fun x y => Rv (f x) y H) l (l.map f)
  | [] => .nil
  | _ :: t => .cons rfl (pr_of t)
instance {α : Type} {R : α → As} {xs : List α} [m : ∀ a, MonoP (R a)] : MonoP (Rl R xs) := ⟨fun e h => by
  obtain ⟨p, ys, h1, h2, h3⟩ := h
  exact ⟨p, ys, h1, e p _ h2, pr_imp h3 fun a b _ q => (m a).mono e q⟩⟩
instance {α β : Type} {R : α → As} {S : β → As} {z : α × β} [m : ∀ a, MonoP (R a)] [n : ∀ b, MonoP (S b)] : MonoP (Rp R S z) := ⟨fun e h => by
  obtain ⟨p, x, y, h1, h2, h3, h4⟩ := h
  exact ⟨p, x, y, h1, e p _ h2, (m _).mono e h3, (n _).mono e h4⟩⟩
abbrev nv (l : List Nat) : List V := l.map fun (n : Nat) => V.int (n : Int)
theorem nv_snoc (l : List Nat) (d : Nat) : nv (l ++ [d]) = nv l ++ [V.int (d : Int)] := List.map_append (f := fun (n : Nat) => V.int (n : Int))
abbrev bv (l : List Bool) : List V := l.map V.bl
theorem rl_rv {α : Type} {f : α → V} {xs : List α} {v : V} (h : Rl (fun x => Rv (f x)) xs v H) : ∃ p, v = .ref p ∧ H p = some (.lst (xs.map f)) := by
  obtain ⟨p, ys, h1, h2, h3⟩ := h
  exact ⟨p, h1, by rw [h2, pr_rv h3]⟩
theorem rl_of {α : Type} {f : α → V} {xs : List α} {p : Addr} (h : H p = some (.lst (xs.map f))) : Rl (fun x => Rv (f x)) xs (.ref p) H := ⟨p, _, rfl, h, pr_of xs⟩
/-- a list's item -/
theorem rl_at {α : Type} {R : α → As} {xs : List α} {v : V} {i : Nat} {x : α} (h : Rl R xs v H) (hx : xs[i]? = some x) : ∃ p ys y, v = .ref p ∧ H p = some (.lst ys) ∧ ys[i]? = some y ∧ R x y H := by
  obtain ⟨p, ys, h1, h2, h3⟩ := h
  obtain ⟨y, h4, h5⟩ := pr_get h3 hx
  exact ⟨p, ys, y, h1, h2, h4, h5⟩

/-! ### what an expression gives -/
def Ret (H H1 : Hp) (P : As) (Q : VK) : Prop := ∀ v Hk Ha, Wd H H1 Hk Ha → P v Hk → Q v Ha
theorem Ret.go {P : As} {Q : VK} (r : Ret H H1 P Q) (w : Wd H H1 Hk Ha) : Ret Hk Ha P Q := fun v Hk' Ha' u p => r v Hk' Ha' (w.trans u) p
theorem Ret.now {P : As} {Q : VK} {v : V} (r : Ret H H1 P Q) (e : Ex H H1) (p : P v H) : Q v H1 := r v H H1 (Wd.start e) p
def EvP (te : TE) (σ : L2.St) (H : Hp) (P : As) : Prop := ∀ H1, Ex H H1 → ∀ Q : VK, Ret H H1 P Q → te σ H1 Q
def join (H G : Hp) : Hp := fun b => match H b with
  | some o => some o
  | none => G b
theorem ex_join1 {H G : Hp} : Ex H (join H G) := fun b o h => by
  unfold join
  rw [h]
theorem ex_join2 {H G A : Hp} (h1 : Ex H A) (h2 : Ex G A) : Ex G (join H G) := fun b o h => by
  unfold join
  cases q : H b with
  | none => exact h
  | some u =>
    have e1 := h1 b u q
    rw [h2 b o h] at e1
    exact e1.symm
theorem ex_join {H G A : Hp} (h1 : Ex H A) (h2 : Ex G A) : Ex (join H G) A := fun b o h => by
  unfold join at h
  cases q : H b with
  | none =>
    rw [q] at h
    exact h2 b o h
  | some u =>
    rw [q] at h
    exact h1 b o (q.trans h)
theorem EvP.mono {te : TE} {P : As} [m : MonoP P] {H' : Hp} (e : Ex H H') (h : EvP te σ H P) : EvP te σ H' P := fun H1 e1 Q r => h H1 (e.trans e1) Q fun v Hk Ha w p =>
  r v (join Hk H') Ha ⟨ex_join2 w.b (e1.trans w.c), ex_join w.b (e1.trans w.c), w.c, fun b o h1 h2 => by
    have h3 : H b = none := fresh_back e h1
    unfold join
    rw [w.d b o h3 h2]
    exact h1⟩ (m.mono ex_join1 p)
theorem ep_ev {te : TE} {v : V} (h : Ev te σ H v) : EvP te σ H (Rv v) := fun H1 e Q r => h H1 e Q fun H2 e2 => r v H H2 ⟨Ex.refl _, e.trans e2, e2, fun _ _ q _ => q⟩ rfl
theorem ev_ep {te : TE} {v : V} (h : EvP te σ H (Rv v)) : Ev te σ H v := fun H1 e Q r => h H1 e Q fun u Hk Ha w p => by
  have p' : u = v := p
  rw [p']
  exact r Ha w.c
theorem ep_imp {te : TE} {P P' : As} (h : EvP te σ H P) (q : ∀ v H', Ex H H' → P v H' → P' v H') : EvP te σ H P' := fun H1 e Q r => h H1 e Q fun v Hk Ha w p => r v Hk Ha w (q v Hk w.a p)
theorem ep_var {i : Nat} {v : V} {P : As} (h : σ[i]? = some (some v)) (p : P v H) : EvP (tVar i) σ H P := fun H1 e Q r => ⟨v, h, r.now e p⟩
theorem ep_op {r : R2} {ta tb : TE} {P1 P2 P : As} [MonoP P1] [MonoP P2] (ha : EvP ta σ H P1) (hb : EvP tb σ H P2)
    (hr : ∀ x y Hk Ha, Ex H Hk → Ex Hk Ha → P1 x Hk → P2 y Hk → ∀ Q, Ret Hk Ha P Q → r x y Ha Q) : EvP (tOp r ta tb) σ H P := fun H1 e Q ret =>
  ha H1 e _ fun x Hk1 Ha1 w1 p1 => (hb.mono w1.a) Ha1 w1.b _ fun y Hk2 Ha2 w2 p2 => hr x y Hk2 Ha2 (w1.a.trans w2.a) w2.b (MonoP.mono w2.a p1) p2 Q (ret.go (w1.trans w2))
theorem ep_ix {α : Type} {R : α → As} {xs : List α} {x : α} {j : Nat} {ta tb : TE} [∀ a, MonoP (R a)] (ha : EvP ta σ H (Rl R xs)) (hb : EvP tb σ H (Rn j)) (hx : xs[j]? = some x) : EvP (tOp (rIxL K) ta tb) σ H (R x) :=
  ep_op ha hb fun u y Hk Ha e1 e2 p1 p2 Q ret => by
    have p2' : y = .int (j : Int) := p2
    subst p2'
    obtain ⟨p, ys, z, rfl, h2, h3, h4⟩ := rl_at p1 hx
    exact ⟨p, ys, (j : Int), z, rfl, rfl, SqL.of (e2 p _ h2), atI_nat h3, ret.now e2 h4⟩
/-- a known list, perhaps one that was handed in -/
theorem ep_ixS {a : Addr} {xs : List V} {v : V} {j : Nat} {ta tb : TE} (hs : SqL K H a xs) (ha : EvP ta σ H (Rv (.ref a))) (hb : EvP tb σ H (Rn j)) (hx : xs[j]? = some v) : EvP (tOp (rIxL K) ta tb) σ H (Rv v) :=
  ep_op ha hb fun u y Hk Ha e1 e2 p1 p2 Q ret => by
    have p1' : u = .ref a := p1
    have p2' : y = .int (j : Int) := p2
    subst p1' p2'
    exact ⟨a, xs, (j : Int), v, rfl, rfl, ex_l (e1.trans e2) hs, atI_nat hx, ret.now e2 rfl⟩
theorem ep_fst {α β : Type} {R : α → As} {S : β → As} {z : α × β} {ta tb : TE} [∀ a, MonoP (R a)] [∀ b, MonoP (S b)] (ha : EvP ta σ H (Rp R S z)) (hb : EvP tb σ H (Rv (.int 0))) : EvP (tOp (rIxT K) ta tb) σ H (R z.1) :=
  ep_op ha hb fun u y Hk Ha e1 e2 p1 p2 Q ret => by
    have p2' : y = .int 0 := p2
    subst p2'
    obtain ⟨p, a, b, rfl, h2, h3, h4⟩ := p1
    exact ⟨p, _, 0, a, rfl, rfl, SqT.of (e2 p _ h2), rfl, ret.now e2 h3⟩
theorem ep_snd {α β : Type} {R : α → As} {S : β → As} {z : α × β} {ta tb : TE} [∀ a, MonoP (R a)] [∀ b, MonoP (S b)] (ha : EvP ta σ H (Rp R S z)) (hb : EvP tb σ H (Rv (.int 1))) : EvP (tOp (rIxT K) ta tb) σ H (S z.2) :=
  ep_op ha hb fun u y Hk Ha e1 e2 p1 p2 Q ret => by
    have p2' : y = .int 1 := p2
    subst p2'
    obtain ⟨p, a, b, rfl, h2, h3, h4⟩ := p1
    exact ⟨p, _, 1, b, rfl, rfl, SqT.of (e2 p _ h2), rfl, ret.now e2 h4⟩
/-- int by int -/
theorem ep_rv {r : R2} {ta tb : TE} {x y z : V} (ha : EvP ta σ H (Rv x)) (hb : EvP tb σ H (Rv y)) (hr : ∀ H1, RV r x y H1 z) : EvP (tOp r ta tb) σ H (Rv z) := ep_ev (ev_op (ev_ep ha) (ev_ep hb) (hr H))
theorem ep_I0 {g : Int → Int → V} {i j : Int} {ta tb : TE} (ha : EvP ta σ H (Rv (.int i))) (hb : EvP tb σ H (Rv (.int j))) : EvP (tOp (rI0 g) ta tb) σ H (Rv (g i j)) := ep_rv ha hb fun _ => rv_I0
theorem ep_I {C : Int → Int → Prop} {g : Int → Int → V} {i j : Int} {ta tb : TE} (ha : EvP ta σ H (Rv (.int i))) (hb : EvP tb σ H (Rv (.int j))) (hc : C i j) : EvP (tOp (rI C g) ta tb) σ H (Rv (g i j)) := ep_rv ha hb fun _ => rv_I hc
theorem ep_c {v : V} : EvP (tC v) σ H (Rv v) := ep_ev ev_c
theorem ep_is {te : TE} {v w : V} (h : EvP te σ H (Rv v)) (e : v = w) : EvP te σ H (Rv w) := by
  rw [← e]
  exact h
/-- lists glued -/
theorem ep_cat {α : Type} {R : α → As} {xs ys : List α} {ta tb : TE} [m : ∀ a, MonoP (R a)] (ha : EvP ta σ H (Rl R xs)) (hb : EvP tb σ H (Rl R ys)) (hz : xs.length + ys.length ≤ 100000) : EvP (tOp rCat ta tb) σ H (Rl R (xs ++ ys)) :=
  ep_op ha hb fun u w Hk Ha e1 e2 p1 p2 Q ret => by
    obtain ⟨p, us, rfl, h2, h3⟩ := p1
    obtain ⟨q, ws, rfl, h5, h6⟩ := p2
    refine ⟨p, q, us, ws, rfl, rfl, e2 p _ h2, e2 q _ h5, sz_of (by rw [← h3.length, ← h6.length]; exact hz), fun l hl => ?_⟩
    have w0 := (Wd.start e2).new (o := .lst (us ++ ws)) hl
    exact ret _ _ _ w0 ⟨l, _, rfl, upd_same, pr_imp (pr_app h3 h6) fun a b _ z => (m a).mono w0.a z⟩
/-- a list displayed, of values -/
theorem ep_lstV {ta : TA} {vs : List V} (h : EvA ta σ H vs) (hz : vs.length ≤ 100000) : EvP (tLst ta) σ H (fun v H' => ∃ p, v = .ref p ∧ H' p = some (.lst vs)) := fun H1 e Q ret =>
  h H1 e _ fun H2 e2 => ⟨sz_of hz, fun p hp => by
    have w0 := ((Wd.start e).ext e2).new (o := .lst vs) hp
    exact ret _ _ _ w0 ⟨p, rfl, upd_same⟩⟩
theorem ea_c {ta : TE} {tr : TA} {v : V} {vs : List V} (h : EvP ta σ H (Rv v)) (hr : EvA tr σ H vs) : EvA (tCons ta tr) σ H (v :: vs) := ea_cons (ev_ep h) hr
/-- a pair made -/
theorem ep_pair {α β : Type} {R : α → As} {S : β → As} {a : α} {b : β} {ta tb : TE} [m : ∀ a, MonoP (R a)] [n : ∀ b, MonoP (S b)] (ha : EvP ta σ H (R a)) (hb : EvP tb σ H (S b)) : EvP (tTup (tCons ta (tCons tb tNil))) σ H (Rp R S (a, b)) := fun H1 e Q ret =>
  ha H1 e _ fun x Hk1 Ha1 w1 p1 => (hb.mono w1.a) Ha1 w1.b _ fun y Hk2 Ha2 w2 p2 => ⟨by show 2 ≤ sizeLine; decide, fun p hp => by
    have w0 := (w1.trans w2).new (o := .tup [x, y]) hp
    have e2 : Ex Hk2 (upd Hk2 p (.tup [x, y])) := Ex.new (fresh_back w2.b hp)
    exact ret _ _ _ w0 ⟨p, x, y, rfl, upd_same, (m a).mono (w2.a.trans e2) p1, (n b).mono e2 p2⟩⟩
/-- one argument of a built-in -/
theorem ep_cb1 {r : List V → Hp → VK → Prop} {ta : TE} {P1 P : As} (ha : EvP ta σ H P1) (hr : ∀ x Hk Ha, Ex H Hk → Ex Hk Ha → P1 x Hk → ∀ Q, Ret Hk Ha P Q → r [x] Ha Q) : EvP (tCB r (tCons ta tNil)) σ H P := fun H1 e Q ret =>
  ha H1 e _ fun x Hk1 Ha1 w1 p1 => hr x Hk1 Ha1 w1.a w1.b p1 Q (ret.go w1)
theorem ep_len {α : Type} {R : α → As} {xs : List α} {ta : TE} (ha : EvP ta σ H (Rl R xs)) : EvP (tCB (rLenS K) (tCons ta tNil)) σ H (Rn xs.length) := ep_cb1 ha fun u Hk Ha e1 e2 p1 Q ret => by
  obtain ⟨p, ys, rfl, h2, h3⟩ := p1
  refine ⟨p, ys, rfl, Or.inl (SqL.of (e2 p _ h2)), ?_⟩
  rw [← h3.length]
  exact ret.now e2 rfl
theorem ep_all {bs : List Bool} {ta : TE} (ha : EvP ta σ H (Rl Rb bs)) : EvP (tCB (rAll K) (tCons ta tNil)) σ H (Rb (bs.all id)) := ep_cb1 ha fun u Hk Ha e1 e2 p1 Q ret => by
  obtain ⟨p, rfl, h2⟩ := rl_rv p1
  exact ⟨p, bs, rfl, SqL.of (e2 p _ h2), ret.now e2 rfl⟩
theorem inV_nat (x : Nat) : ∀ xs : List Nat, inV (.int (x : Int)) (nv xs) = xs.contains x
  | [] => rfl
  | y :: r => by
    have ih := inV_nat x r
    have e : eqV (.int (y : Int)) (.int (x : Int)) = (x == y) := by
      show decide ((y : Int) = (x : Int)) = _
      by_cases h : x = y
      · subst h; simp
      · rw [beq_eq_false_iff_ne.mpr h]
        exact decide_eq_false (fun q => h (by omega))
    unfold inV at ih ⊢
    show (eqV (.int (y : Int)) (.int (x : Int)) || (nv r).any fun y => eqV y (.int (x : Int))) = _
    rw [ih, e, List.contains_cons]
theorem flat_nat (xs : List Nat) : (nv xs).all flatV = true := by
  rw [List.all_eq_true]
  intro v hv
  obtain ⟨n, _, rfl⟩ := List.mem_map.mp hv
  rfl
theorem ep_notin {x : Nat} {xs : List Nat} {ta tb : TE} (ha : EvP ta σ H (Rn x)) (hb : EvP tb σ H (Rl Rn xs)) : EvP (tOp (rIn K true) ta tb) σ H (Rb (!xs.contains x)) :=
  ep_op ha hb fun u y Hk Ha e1 e2 p1 p2 Q ret => by
    have p1' : u = .int (x : Int) := p1
    subst p1'
    obtain ⟨p, rfl, h2⟩ := rl_rv p2
    refine ⟨p, _, rfl, Or.inl (SqL.of (e2 p _ h2)), rfl, flat_nat xs, ?_⟩
    have e : inV (.int (x : Int)) (nv xs) = xs.contains x := inV_nat x xs
    show Q (.bl (!inV (.int (x : Int)) (nv xs))) Ha
    rw [e]
    exact ret.now e2 rfl
theorem ep_in {x : Nat} {xs : List Nat} {ta tb : TE} (ha : EvP ta σ H (Rn x)) (hb : EvP tb σ H (Rl Rn xs)) : EvP (tOp (rIn K false) ta tb) σ H (Rb (xs.contains x)) :=
  ep_op ha hb fun u y Hk Ha e1 e2 p1 p2 Q ret => by
    have p1' : u = .int (x : Int) := p1
    subst p1'
    obtain ⟨p, rfl, h2⟩ := rl_rv p2
    refine ⟨p, _, rfl, Or.inl (SqL.of (e2 p _ h2)), rfl, flat_nat xs, ?_⟩
    have e : inV (.int (x : Int)) (nv xs) = xs.contains x := inV_nat x xs
    show Q (.bl (inV (.int (x : Int)) (nv xs))) Ha
    rw [e]
    exact ret.now e2 rfl
/-- x in xs, a list that was handed in -/
theorem ep_inS {x : Nat} {xs : List Nat} {a : Addr} {ta tb : TE} (hs : SqL K H a (nv xs)) (ha : EvP ta σ H (Rn x)) (hb : EvP tb σ H (Rv (.ref a))) : EvP (tOp (rIn K false) ta tb) σ H (Rb (xs.contains x)) :=
  ep_op ha hb fun u y Hk Ha e1 e2 p1 p2 Q ret => by
    have p1' : u = .int (x : Int) := p1
    have p2' : y = .ref a := p2
    subst p1' p2'
    refine ⟨a, _, rfl, Or.inl (ex_l (e1.trans e2) hs), rfl, flat_nat xs, ?_⟩
    have e : inV (.int (x : Int)) (nv xs) = xs.contains x := inV_nat x xs
    show Q (.bl (inV (.int (x : Int)) (nv xs))) Ha
    rw [e]
    exact ret.now e2 rfl
/-- xs.index(a) of numbers -/
theorem ep_index {a : Nat} {xs : List Nat} {ta tb : TE} (ha : EvP ta σ H (Rl Rn xs)) (hb : EvP tb σ H (Rn a)) (hm : a ∈ xs) : EvP (tBM K "list" (rIndex K) ta (tCons tb tNil)) σ H (Rn (xs.findIdx fun x => x == a)) := fun H1 e Q ret =>
  ha H1 e _ fun u Hk1 Ha1 w1 p1 => by
    obtain ⟨p, rfl, h2⟩ := rl_rv p1
    refine ⟨Or.inl ⟨rfl, _, SqL.of (w1.b p _ h2)⟩, (hb.mono w1.a) Ha1 w1.b _ fun y Hk2 Ha2 w2 p2 => ?_⟩
    have p2' : y = .int (a : Int) := p2
    subst p2'
    have hlt : (xs.findIdx fun x => x == a) < xs.length := List.findIdx_lt_length_of_exists ⟨a, hm, by simp⟩
    have hz := List.findIdx_getElem (w := hlt)
    have eqn : ∀ x : Nat, eqV (.int (x : Int)) (.int (a : Int)) = (x == a) := fun x => by
      show decide ((x : Int) = (a : Int)) = _
      by_cases h : x = a
      · subst h; simp
      · rw [beq_eq_false_iff_ne.mpr h]
        exact decide_eq_false (fun q => h (by omega))
    refine ⟨p, nv xs, .int (a : Int), xs.findIdx fun x => x == a, .int ((xs[xs.findIdx fun x => x == a] : Nat) : Int), rfl, rfl, SqL.of (w2.b p _ (w2.a p _ h2)), rfl, flat_nat xs, ?_, ?_, fun m z hm hz' => ?_, ret.go (w1.trans w2) |>.now w2.b rfl⟩
    · rw [List.getElem?_map, List.getElem?_eq_getElem hlt]
      rfl
    · rw [eqn]
      exact hz
    · rw [List.getElem?_map] at hz'
      have hml : m < xs.length := by omega
      rw [List.getElem?_eq_getElem hml] at hz'
      have hz2 := Option.some.inj hz'
      subst hz2
      rw [eqn]
      exact Bool.eq_false_iff.mpr (by simpa using List.not_of_lt_findIdx hm)

/-- a <= b <= c and the like -/
theorem ep_chain {g1 g2 : Int → Int → Bool} {a b c : Int} {ta tb tc : TE} (ha : EvP ta σ H (Rv (.int a))) (hb : EvP tb σ H (Rv (.int b))) (hc : EvP tc σ H (Rv (.int c))) :
    EvP (tChain (rI0 fun i j => .bl (g1 i j)) (rI0 fun i j => .bl (g2 i j)) ta tb tc) σ H (Rb (g1 a b && g2 b c)) := ep_ev fun H1 e Q q =>
  (ev_ep ha) H1 e _ fun H2 e2 => (ev_ep hb) H2 (e.trans e2) _ fun H3 e3 => ⟨a, b, rfl, rfl, g1 a b, rfl, by
    cases hg : g1 a b with
    | true =>
      simp only [hg, Bool.true_and] at q
      show tc σ H3 _
      exact (ev_ep hc) H3 ((e.trans e2).trans e3) _ fun H4 e4 => ⟨b, c, rfl, rfl, q H4 ((e2.trans e3).trans e4)⟩
    | false =>
      simp only [hg, Bool.false_and] at q
      show Q (.bl false) H3
      exact q H3 (e2.trans e3)⟩
theorem ep_ifI {t : TT} {b : Bool} {x y : Int} {ta tb : TE} (h : EvT t σ H b) (ha : EvP ta σ H (Rv (.int x))) (hb : EvP tb σ H (Rv (.int y))) : EvP (tIf t ta tb) σ H (Rv (.int (if b = true then x else y))) := ep_ev (ev_if h
  (fun e => by
    rw [e]
    exact ev_ep ha) (fun e => by
    rw [e]
    exact ev_ep hb))

/-! ### tests -/
theorem et_of {te : TE} {b : Bool} (h : EvP te σ H (Rb b)) : EvT (tTest te) σ H b := et_test (ev_ep h)
theorem et_ofB {te : TE} {b : Bool} (h : EvP te σ H (Rb b)) : EvT (tB te) σ H b := et_B (ev_ep h)

/-! ### calls -/
def SpOf (Pre : List V → Hp → As → Prop) : Sp := fun vs H1 Q _ => ∃ H P, Ex H H1 ∧ Pre vs H P ∧ Ret H H1 P Q
variable {Pre : List V → Hp → As → Prop} {E : XK} {ta tb tc td : TE} {P P1 P2 P3 P4 : As}
theorem ep_call1 [MonoP P1] (ha : EvP ta σ H P1) (hp : ∀ x Hk, Ex H Hk → P1 x Hk → Pre [x] Hk P) : EvP (tCall (SpOf Pre) [] E (tCons ta tNil)) σ H P := fun H1 e Q ret =>
  ha H1 e _ fun x Hk1 Ha1 w1 p1 => ⟨Hk1, P, w1.b, hp x Hk1 w1.a p1, ret.go w1⟩
theorem ep_call2 [MonoP P1] [MonoP P2] (ha : EvP ta σ H P1) (hb : EvP tb σ H P2) (hp : ∀ x y Hk, Ex H Hk → P1 x Hk → P2 y Hk → Pre [x, y] Hk P) : EvP (tCall (SpOf Pre) [] E (tCons ta (tCons tb tNil))) σ H P := fun H1 e Q ret =>
  ha H1 e _ fun x Hk1 Ha1 w1 p1 => (hb.mono w1.a) Ha1 w1.b _ fun y Hk2 Ha2 w2 p2 => ⟨Hk2, P, w2.b, hp x y Hk2 (w1.a.trans w2.a) (MonoP.mono w2.a p1) p2, ret.go (w1.trans w2)⟩
theorem ep_call3 [MonoP P1] [MonoP P2] [MonoP P3] (ha : EvP ta σ H P1) (hb : EvP tb σ H P2) (hc : EvP tc σ H P3) (hp : ∀ x y z Hk, Ex H Hk → P1 x Hk → P2 y Hk → P3 z Hk → Pre [x, y, z] Hk P) : EvP (tCall (SpOf Pre) [] E (tCons ta (tCons tb (tCons tc tNil)))) σ H P := fun H1 e Q ret =>
  ha H1 e _ fun x Hk1 Ha1 w1 p1 => (hb.mono w1.a) Ha1 w1.b _ fun y Hk2 Ha2 w2 p2 => (hc.mono (w1.a.trans w2.a)) Ha2 w2.b _ fun z Hk3 Ha3 w3 p3 =>
    ⟨Hk3, P, w3.b, hp x y z Hk3 ((w1.a.trans w2.a).trans w3.a) (MonoP.mono (w2.a.trans w3.a) p1) (MonoP.mono w3.a p2) p3, ret.go ((w1.trans w2).trans w3)⟩
theorem ep_call4 [MonoP P1] [MonoP P2] [MonoP P3] [MonoP P4] (ha : EvP ta σ H P1) (hb : EvP tb σ H P2) (hc : EvP tc σ H P3) (hd : EvP td σ H P4) (hp : ∀ x y z u Hk, Ex H Hk → P1 x Hk → P2 y Hk → P3 z Hk → P4 u Hk → Pre [x, y, z, u] Hk P) : EvP (tCall (SpOf Pre) [] E (tCons ta (tCons tb (tCons tc (tCons td tNil))))) σ H P := fun H1 e Q ret =>
  ha H1 e _ fun x Hk1 Ha1 w1 p1 => (hb.mono w1.a) Ha1 w1.b _ fun y Hk2 Ha2 w2 p2 => (hc.mono (w1.a.trans w2.a)) Ha2 w2.b _ fun z Hk3 Ha3 w3 p3 => (hd.mono ((w1.a.trans w2.a).trans w3.a)) Ha3 w3.b _ fun u Hk4 Ha4 w4 p4 =>
    ⟨Hk4, P, w4.b, hp x y z u Hk4 (((w1.a.trans w2.a).trans w3.a).trans w4.a) (MonoP.mono ((w2.a.trans w3.a).trans w4.a) p1) (MonoP.mono (w3.a.trans w4.a) p2) (MonoP.mono w4.a p3) p4, ret.go (((w1.trans w2).trans w3).trans w4)⟩
/-- an instance whose fields are told -/
def Ins (C : Addr) (fs : List (Str × V)) : As := fun v H => ∃ x dx, v = .ref x ∧ H x = some (.ins C dx fs)
theorem ep_fld {C : Addr} {fs : List (Str × V)} {f : Str} {u : V} (c : Cls K C) (n : NoAttr K C f) (ha : EvP ta σ H (Ins C fs)) (l : fs.lookup f = some u) : EvP (tFld K ta f) σ H (Rv u) := fun H1 e Q ret =>
  ha H1 e _ fun v Hk Ha w p => by
    obtain ⟨x, dx, rfl, h2⟩ := p
    exact ⟨x, C, dx, fs, u, rfl, w.b x _ h2, c, n, l, (ret.go w).now w.b rfl⟩

/-- a def of the text: where it stands, its name, how its arguments bind -/
structure Dn (K : PySem.W.Frag) (mg : Str → Option Value) (x qual : Str) (st : Stmt) (ps : List Str) (f : Addr) (fd : FuncData) : Prop where
  F : Fun K x qual st f fd
  g : mg x = some (.ref f)
  b : Binds K fd ps []
/-- a list of ints -/
def Zl (l : List Int) : As := fun v H => ∃ p, v = .ref p ∧ H p = some (.lst (l.map V.int))
instance : MonoP (Zl l) := ⟨fun e h => by
  obtain ⟨p, h1, h2⟩ := h
  exact ⟨p, h1, e p _ h2⟩⟩
theorem ep_zl {ta : TA} {l : List Int} (h : EvA ta σ H (l.map V.int)) (hz : l.length ≤ 100000) : EvP (tLst ta) σ H (Zl l) := ep_lstV h (by rw [List.length_map]; exact hz)
theorem ea_z {ta : TE} {tr : TA} {i : Int} {l : List Int} (h : EvP ta σ H (Rv (.int i))) (hr : EvA tr σ H (l.map V.int)) : EvA (tCons ta tr) σ H ((i :: l).map V.int) := ea_c h hr
theorem ea_zn : EvA tNil σ H (([] : List Int).map V.int) := ea_nil

/-! ### comprehensions -/
/-- the loop of one: what it walks gives items one after another -/
structure Cst (H H1 : Hp) (D : Addr) {γ : Type} (S : γ → As) (done : List γ) (H' : Hp) : Prop where
  hd : H D = none
  h1 : H1 D = none
  ex : ∃ Hk zs, Wd H H1 Hk H' ∧ Hk D = none ∧ H' D = some (.lst zs) ∧ Paired (fun x y => S x y Hk) done zs
theorem Cst.start {D : Addr} {γ : Type} {S : γ → As} (e : Ex H H1) (h : H1 D = none) : Cst H H1 D S [] (upd H1 D (.lst [])) :=
  ⟨fresh_back e h, h, H, [], (Wd.start e).mut (fresh_back e h) h, fresh_back e h, upd_same, .nil⟩
theorem Cst.fin {D : Addr} {γ : Type} {S : γ → As} {done : List γ} {H' : Hp} {Q : VK} [m : ∀ a, MonoP (S a)] (c : Cst H H1 D S done H') (ret : Ret H H1 (Rl S done) Q) : Q (.ref D) H' := by
  obtain ⟨h0, h1, Hk, zs, w, hk, hd, hp⟩ := c
  have w2 := w.pub hd hk h1
  exact ret _ _ _ w2 ⟨D, zs, rfl, upd_same, pr_imp hp fun a b _ q => (m a).mono (Ex.new hk) q⟩
/-- one turn: the test, the element -/
theorem Cst.turn {D : Addr} {γ : Type} {S : γ → As} {done : List γ} {H' : Hp} {tt : TT} {te : TE} {σ2 : L2.St} {b : Bool} {y : γ} {Nx : Hp → Prop} [m : ∀ a, MonoP (S a)] (c : Cst H H1 D S done H') (hz : done.length < 90000)
    (ht : EvT tt σ2 H b) (he : b = true → EvP te σ2 H (S y)) (nx : ∀ H'', Cst H H1 D S (if b = true then done ++ [y] else done) H'' → Nx H'') :
    tt σ2 H' fun b H3 => if b = true then te σ2 H3 fun y H4 => ∃ acc, H4 D = some (.lst acc) ∧ acc.length < sizeLine ∧ Nx (upd H4 D (.lst (acc ++ [y]))) else Nx H3 := by
  obtain ⟨h0, h1, Hk, zs, w, hk, hd, hp⟩ := c
  refine ht H' (w.a.trans w.b) _ fun H3 e3 => ?_
  have w3 := w.ext e3
  cases b with
  | false => exact nx H3 ⟨h0, h1, Hk, zs, w3, hk, e3 D _ hd, hp⟩
  | true =>
    refine ((he rfl).mono w3.a) H3 w3.b _ fun v Hk4 Ha4 w4 p4 => ?_
    obtain ⟨hk4, hd4⟩ := w4.off hk (e3 D _ hd)
    have hl : zs.length < 90000 := by rw [← hp.length]; exact hz
    refine ⟨zs, hd4, sz_lt (by omega), nx _ ⟨h0, h1, Hk4, zs ++ [v], (w3.trans w4).mut hk4 h1, hk4, upd_same, ?_⟩⟩
    exact Paired.snoc (pr_imp hp fun a b _ q => (m a).mono w4.a q) p4
/-- Wd, the entry's knowledge forgotten -/
theorem Cst.ofStart {D : Addr} {γ : Type} {S : γ → As} {done : List γ} {H' : Hp} (c : Cst H H1 D S done H') : Ex H H' ∧ Ex H1 H' := by
  obtain ⟨h0, h1, Hk, zs, w, hk, hd, hp⟩ := c
  exact ⟨w.a.trans w.b, w.c⟩
def outs {α γ : Type} (f : α → Bool) (el : α → γ) (xs : List α) : List γ := (xs.filter f).map el
theorem outs_more {α γ : Type} {f : α → Bool} {el : α → γ} {xs : List α} {i : Nat} {x : α} (h : xs[i]? = some x) : outs f el (xs.take (i + 1)) = if f x = true then outs f el (xs.take i) ++ [el x] else outs f el (xs.take i) := by
  unfold outs
  rw [take_succ_filter f xs i x h, List.map_append]
  cases f x with
  | true => rfl
  | false => simp
theorem outs_len {α γ : Type} (f : α → Bool) (el : α → γ) (xs : List α) (i : Nat) : (outs f el (xs.take i)).length ≤ xs.length := by
  unfold outs
  rw [List.length_map]
  refine Nat.le_trans (List.length_filter_le _ _) ?_
  rw [List.length_take]
  omega
section
variable {α γ : Type} {R : α → As} {S : γ → As} [mR : ∀ a, MonoP (R a)] [mS : ∀ c, MonoP (S c)] {xs : List α} {tl te : TE} {tt : TT} {vs : List Nat} {g : TG}
/-- [el for x in xs if f], xs a list that is known -/
theorem ep_lc (f : α → Bool) (el : α → γ) (hl : EvP tl σ H (Rl R xs)) (hz : xs.length < 90000)
    (turn : ∀ x v Hk Ha, x ∈ xs → Ex H Hk → Ex Hk Ha → R x v Hk → ∀ Q' : L2.St → Hp → Prop, (∀ σ2, wipe σ2 vs = wipe σ vs → EvT tt σ2 Hk (f x) → (f x = true → EvP te σ2 Hk (S (el x))) → Q' σ2 Ha) → g v (wipe σ vs) Ha Q') :
    EvP (tLc (iList K tl) g tt te vs) σ H (Rl S (outs f el xs)) := fun H1 e Q ret =>
  hl H1 e _ fun v Hk0 Ha0 w0 p0 => by
    obtain ⟨a, ys, rfl, h2, h3⟩ := p0
    refine ⟨a, rfl, ⟨ys, SqL.of (w0.b a _ h2)⟩, fun D hD => ?_⟩
    refine lc_list (K := K) (a := a) (xs := ys) (fun i H' => Cst Hk0 Ha0 D S (outs f el (xs.take i)) H') (Cst.start w0.b hD) (fun i H' _ c => SqL.of (c.ofStart.1 a _ h2)) (fun i y H' hy c => ?_) fun H' c => ?_
    · obtain ⟨x, hx, hr⟩ := pr_back h3 hy
      refine turn x y Hk0 H' (List.mem_of_getElem? hx) w0.a c.ofStart.1 hr _ fun σ2 hw ht he => ⟨hw, ?_⟩
      refine c.turn (Nat.lt_of_le_of_lt (outs_len f el xs i) hz) ht he fun H'' c' => ?_
      rw [outs_more hx]
      exact c'
    · rw [← h3.length, List.take_length] at c
      exact c.fin (ret.go w0)
/-- .. xs handed in -/
theorem ep_lcS {a : Addr} {ys : List V} (f : α → Bool) (el : α → γ) (hl : EvP tl σ H (Rv (.ref a))) (hs : SqL K H a ys) (h3 : Paired (fun x y => R x y H) xs ys) (hz : xs.length < 90000)
    (turn : ∀ x v Hk Ha, x ∈ xs → Ex H Hk → Ex Hk Ha → R x v Hk → ∀ Q' : L2.St → Hp → Prop, (∀ σ2, wipe σ2 vs = wipe σ vs → EvT tt σ2 Hk (f x) → (f x = true → EvP te σ2 Hk (S (el x))) → Q' σ2 Ha) → g v (wipe σ vs) Ha Q') :
    EvP (tLc (iList K tl) g tt te vs) σ H (Rl S (outs f el xs)) := fun H1 e Q ret =>
  hl H1 e _ fun v Hk0 Ha0 w0 p0 => by
    have p0' : v = .ref a := p0
    subst p0'
    refine ⟨a, rfl, ⟨ys, ex_l (w0.a.trans w0.b) hs⟩, fun D hD => ?_⟩
    refine lc_list (K := K) (a := a) (xs := ys) (fun i H' => Cst Hk0 Ha0 D S (outs f el (xs.take i)) H') (Cst.start w0.b hD) (fun i H' _ c => ex_l (w0.a.trans c.ofStart.1) hs) (fun i y H' hy c => ?_) fun H' c => ?_
    · obtain ⟨x, hx, hr⟩ := pr_back h3 hy
      refine turn x y Hk0 H' (List.mem_of_getElem? hx) w0.a c.ofStart.1 ((mR x).mono w0.a hr) _ fun σ2 hw ht he => ⟨hw, ?_⟩
      refine c.turn (Nat.lt_of_le_of_lt (outs_len f el xs i) hz) ht he fun H'' c' => ?_
      rw [outs_more hx]
      exact c'
    · rw [← h3.length, List.take_length] at c
      exact c.fin (ret.go w0)
/-- over range(n) -/
theorem ep_lcR {ta : TE} {n j : Nat} (f : Nat → Bool) (el : Nat → γ) (ha : EvP ta σ H (Rn n)) (hz : n < 90000) (hw : ∀ v, wipe ((wipe σ vs).set j (some v)) vs = wipe σ vs)
    (ht : ∀ (i : Nat) Hk, i < n → Ex H Hk → EvT tt ((wipe σ vs).set j (some (.int (i : Int)))) Hk (f i))
    (he : ∀ (i : Nat) Hk, i < n → Ex H Hk → f i = true → EvP te ((wipe σ vs).set j (some (.int (i : Int)))) Hk (S (el i))) :
    EvP (tLc (iRng1 (tCons ta tNil)) (gName j) tt te vs) σ H (Rl S (outs f el (List.range n))) := fun H1 e Q ret =>
  ha H1 e _ fun v Hk0 Ha0 w0 p0 => by
    have p0' : v = .int (n : Int) := p0
    subst p0'
    refine ⟨(n : Int), rfl, by omega, by omega, fun D hD => ?_⟩
    have en : ((n : Int)).toNat = n := by omega
    rw [en]
    refine lc_range (lo := 0) (n := n) (fun i H' => Cst Hk0 Ha0 D S (outs f el ((List.range n).take i)) H') (Cst.start w0.b hD) (fun i H' hi c => ?_) fun H' c => ?_
    · have e0 : (0 : Int) + (i : Int) = (i : Int) := Int.zero_add _
      have hx : (List.range n)[i]? = some i := by simp [hi]
      show wipe ((wipe σ vs).set j (some (.int ((0 : Int) + (i : Int))))) vs = wipe σ vs ∧ _
      rw [e0]
      refine ⟨hw _, ?_⟩
      refine c.turn (b := f i) (y := el i) (Nat.lt_of_le_of_lt (outs_len f el _ i) (by rw [List.length_range]; exact hz)) (ht i Hk0 hi w0.a) (he i Hk0 hi w0.a) fun H'' c' => ?_
      rw [outs_more hx]
      exact c'
    · have el0 : (List.range n).take n = List.range n := by rw [List.take_of_length_le]; simp
      rw [el0] at c
      exact c.fin (ret.go w0)
/-- over enumerate(xs), the pair taken apart -/
theorem ep_lcE {ta : TE} {i1 i2 : Nat} (f : Nat × α → Bool) (el : Nat × α → γ) (hl : EvP ta σ H (Rl R xs)) (hz : xs.length < 90000) (hw : ∀ v u, wipe (((wipe σ vs).set i1 (some v)).set i2 (some u)) vs = wipe σ vs)
    (ht : ∀ (i : Nat) (x : α) (v : V) Hk, xs[i]? = some x → Ex H Hk → R x v Hk → EvT tt (((wipe σ vs).set i1 (some (.int (i : Int)))).set i2 (some v)) Hk (f (i, x)))
    (he : ∀ (i : Nat) (x : α) (v : V) Hk, xs[i]? = some x → Ex H Hk → R x v Hk → f (i, x) = true → EvP te (((wipe σ vs).set i1 (some (.int (i : Int)))).set i2 (some v)) Hk (S (el (i, x)))) :
    EvP (tLc (iEnum K (tCons ta tNil)) (gTup K 2 (gCons (gName i1) (gCons (gName i2) gNil))) tt te vs) σ H (Rl S (outs f el ((List.range xs.length).zip xs))) := fun H1 e Q ret =>
  hl H1 e _ fun v Hk0 Ha0 w0 p0 => by
    obtain ⟨a, ys, rfl, h2, h3⟩ := p0
    have hlen := h3.length
    refine ⟨a, ys, rfl, SqL.of (w0.b a _ h2), fun D hD => ?_⟩
    refine ⟨fun i m H' => m = ys.length - i ∧ i ≤ ys.length ∧ Cst Hk0 Ha0 D S (outs f el (((List.range xs.length).zip xs).take i)) H', ⟨ys.length, by simp, Nat.zero_le _, Cst.start w0.b hD⟩, ?_⟩
    rintro i m H' ⟨rfl, hi, c⟩
    have hq : SqL K H' a ys := SqL.of (c.ofStart.1 a _ h2)
    by_cases hlt : i < ys.length
    · refine .inr ⟨⟨ys, ys[i], hq, by simp [hlt]⟩, fun H'' => Cst Hk0 Ha0 D S (outs f el (((List.range xs.length).zip xs).take (i + 1))) H'', fun H'' p' => ⟨ys.length - (i + 1), by omega, rfl, hlt, p'⟩, fun z H'' yl => ?_⟩
      obtain ⟨T, y, rfl, hT, rfl, hy⟩ := yl
      have hyi := hy ys hq
      obtain ⟨x, hx, hr⟩ := pr_back h3 hyi
      have hne : T ≠ D := by
        obtain ⟨_, _, _, _, _, _, hd, _⟩ := c
        exact (ne_of_none hd hT).symm
      have c2 : Cst Hk0 Ha0 D S (outs f el (((List.range xs.length).zip xs).take i)) (upd H' T (.tup [.int (i : Nat), y])) := by
        obtain ⟨g0, g1, Hk, zs, w, hk, hd, hp⟩ := c
        exact ⟨g0, g1, Hk, zs, w.ext (Ex.new hT), hk, by rw [upd_ne (Ne.symm hne)]; exact hd, hp⟩
      refine ⟨T, _, rfl, SqT.of upd_same, rfl, _, _, rfl, _, _, rfl, rfl, hw _ _, ?_⟩
      have hzip : ((List.range xs.length).zip xs)[i]? = some (i, x) := by
        have hil : i < xs.length := by omega
        rw [List.getElem?_zip_eq_some]
        exact ⟨by simp [hil], hx⟩
      refine c2.turn (b := f (i, x)) (y := el (i, x)) (Nat.lt_of_le_of_lt (outs_len f el _ i) (by simp; exact hz)) (ht i x y Hk0 hx w0.a hr) (he i x y Hk0 hx w0.a hr) fun H'' c' => ?_
      rw [outs_more hzip]
      exact c'
    · have e1 : i = ys.length := by omega
      subst e1
      have el0 : ((List.range xs.length).zip xs).take ys.length = (List.range xs.length).zip xs := by
        rw [List.take_of_length_le]
        simp
        omega
      rw [el0] at c
      exact .inl ⟨⟨ys, hq, Nat.le_refl _⟩, c.fin (ret.go w0)⟩
end
/-- the name's slot stored: the turn of a comprehension whose target is a name -/
theorem tn_name {α γ : Type} {R : α → As} {S : γ → As} {xs : List α} {te : TE} {tt : TT} {vs : List Nat} {j : Nat} {f : α → Bool} {el : α → γ} (hw : ∀ v, wipe ((wipe σ vs).set j (some v)) vs = wipe σ vs)
    (ht : ∀ x v Hk, x ∈ xs → Ex H Hk → R x v Hk → EvT tt ((wipe σ vs).set j (some v)) Hk (f x)) (he : ∀ x v Hk, x ∈ xs → Ex H Hk → R x v Hk → f x = true → EvP te ((wipe σ vs).set j (some v)) Hk (S (el x))) :
    ∀ x v Hk Ha, x ∈ xs → Ex H Hk → Ex Hk Ha → R x v Hk → ∀ Q' : L2.St → Hp → Prop, (∀ σ2, wipe σ2 vs = wipe σ vs → EvT tt σ2 Hk (f x) → (f x = true → EvP te σ2 Hk (S (el x))) → Q' σ2 Ha) → gName j v (wipe σ vs) Ha Q' :=
  fun x v Hk Ha hx e1 e2 r Q' q => q _ (hw v) (ht x v Hk hx e1 r) (he x v Hk hx e1 r)
/-- a pair taken apart -/
theorem tn_pair {α β γ : Type} {R1 : α → As} {R2 : β → As} {S : γ → As} {xs : List (α × β)} {te : TE} {tt : TT} {vs : List Nat} {i j : Nat} {f : α × β → Bool} {el : α × β → γ} (hw : ∀ v u, wipe (((wipe σ vs).set i (some v)).set j (some u)) vs = wipe σ vs)
    (ht : ∀ x v u Hk, x ∈ xs → Ex H Hk → R1 x.1 v Hk → R2 x.2 u Hk → EvT tt (((wipe σ vs).set i (some v)).set j (some u)) Hk (f x))
    (he : ∀ x v u Hk, x ∈ xs → Ex H Hk → R1 x.1 v Hk → R2 x.2 u Hk → f x = true → EvP te (((wipe σ vs).set i (some v)).set j (some u)) Hk (S (el x))) :
    ∀ x v Hk Ha, x ∈ xs → Ex H Hk → Ex Hk Ha → Rp R1 R2 x v Hk → ∀ Q' : L2.St → Hp → Prop, (∀ σ2, wipe σ2 vs = wipe σ vs → EvT tt σ2 Hk (f x) → (f x = true → EvP te σ2 Hk (S (el x))) → Q' σ2 Ha) → gTup K 2 (gCons (gName i) (gCons (gName j) gNil)) v (wipe σ vs) Ha Q' :=
  fun x v Hk Ha hx e1 e2 r Q' q => by
    obtain ⟨p, a, b, rfl, h2, h3, h4⟩ := r
    exact ⟨p, _, rfl, SqT.of (e2 p _ h2), rfl, _, _, rfl, _, _, rfl, rfl, q _ (hw a b) (ht x a b Hk hx e1 h3 h4) (he x a b Hk hx e1 h3 h4)⟩
theorem et_yes : EvT tYes σ H true := fun H1 _ Q q => q H1 (Ex.refl _)
theorem outs_all {α γ : Type} (el : α → γ) (xs : List α) : outs (fun _ => true) el xs = xs.map el := by
  unfold outs
  rw [List.filter_eq_self.mpr fun _ _ => rfl]

/-! ### statements -/
section
variable {D : Ends} {tz tu tw : TS} {P0 : As} {i : Nat}
theorem p_asg (w : Wd H H1 Hk Ha) (h : EvP ta σ Hk P0) (k : ∀ v Hk2 Ha2, Wd H H1 Hk2 Ha2 → Wd Hk Ha Hk2 Ha2 → P0 v Hk2 → tz D (σ.set i (some v)) Ha2) : tSeq (tAsg ta (gName i)) tz D σ Ha :=
  h Ha w.b _ fun v Hk2 Ha2 u p => k v Hk2 Ha2 (w.trans u) u p
theorem p_ret {Q : VK} (w : Wd H H1 Hk Ha) (h : EvP ta σ Hk P0) (r : Ret H H1 P0 Q) (hq : D.rt = Q) : tRet ta D σ Ha := by
  subst hq
  exact h Ha w.b _ (r.go w)
theorem p_if {t : TT} {b : Bool} (w : Wd H H1 Hk Ha) (h : EvT t σ Hk b) (h1 : b = true → ∀ Ha2, Wd H H1 Hk Ha2 → Ex Ha Ha2 → tu { D with nx := tz D } σ Ha2) (h2 : b = false → ∀ Ha2, Wd H H1 Hk Ha2 → Ex Ha Ha2 → tw { D with nx := tz D } σ Ha2) : tSeq (tIfS t tu tw) tz D σ Ha :=
  h Ha w.b _ fun H2 e2 => by
    cases b with
    | true => exact h1 rfl H2 (w.ext e2) e2
    | false => exact h2 rfl H2 (w.ext e2) e2
theorem p_if1 {t : TT} {b : Bool} (w : Wd H H1 Hk Ha) (h : EvT t σ Hk b) (h1 : b = true → ∀ Ha2, Wd H H1 Hk Ha2 → Ex Ha Ha2 → tu D σ Ha2) (h2 : b = false → ∀ Ha2, Wd H H1 Hk Ha2 → Ex Ha Ha2 → tw D σ Ha2) : tIfS t tu tw D σ Ha :=
  h Ha w.b _ fun H2 e2 => by
    cases b with
    | true => exact h1 rfl H2 (w.ext e2) e2
    | false => exact h2 rfl H2 (w.ext e2) e2
/-- for x in xs, a known list; Inv by the turn, the slots and the heap -/
theorem p_forL {α : Type} {R : α → As} [mR : ∀ a, MonoP (R a)] {xs : List α} {g : TG} {tl : TE} (w : Wd H H1 Hk Ha) (hl : EvP tl σ Hk (Rl R xs)) (Iv : Nat → L2.St → Hp → Hp → Hp → Prop)
    (ex : ∀ i σ' Hk0 Ha0 H', Iv i σ' Hk0 Ha0 H' → Ex Hk0 H') (h0 : ∀ Hk0 Ha0, Wd H H1 Hk0 Ha0 → Wd Hk Ha Hk0 Ha0 → Iv 0 σ Hk0 Ha0 Ha0)
    (hs : ∀ Hk0 Ha0, Wd H H1 Hk0 Ha0 → Wd Hk Ha Hk0 Ha0 → ∀ i x v σ' H', xs[i]? = some x → R x v Hk0 → Iv i σ' Hk0 Ha0 H' → g v σ' H' fun σ2 H2 => tu { D with nx := fun σ3 H3 => Iv (i + 1) σ3 Hk0 Ha0 H3, ct := fun σ3 H3 => Iv (i + 1) σ3 Hk0 Ha0 H3, bk := tz D } σ2 H2)
    (hd : ∀ Hk0 Ha0 σ' H', Wd H H1 Hk0 Ha0 → Wd Hk Ha Hk0 Ha0 → Iv xs.length σ' Hk0 Ha0 H' → tz D σ' H') : tSeq (tFor (iList K tl) g tu) tz D σ Ha :=
  hl Ha w.b _ fun v Hk0 Ha0 u p => by
    obtain ⟨a, ys, rfl, h2, h3⟩ := p
    refine ⟨a, rfl, ⟨ys, SqL.of (u.b a _ h2)⟩, for_list (K := K) (a := a) (xs := ys) (fun i σ' H' => Iv i σ' Hk0 Ha0 H') (h0 Hk0 Ha0 (w.trans u) u) (fun i σ' H' _ q => SqL.of (ex _ _ _ _ _ q a _ h2)) (fun i y σ' H' hy q => ?_) fun σ' H' q => ?_⟩
    · obtain ⟨x, hx, hr⟩ := pr_back h3 hy
      exact hs Hk0 Ha0 (w.trans u) u i x y σ' H' hx hr q
    · rw [← h3.length] at q
      exact hd Hk0 Ha0 σ' H' (w.trans u) u q
/-- for i in range(n) -/
theorem p_forR {n j : Nat} {tl : TE} (w : Wd H H1 Hk Ha) (hl : EvP tl σ Hk (Rn n)) (hn : n < 90000) (Iv : Nat → L2.St → Hp → Prop)
    (h0 : ∀ Ha0, Wd H H1 Hk Ha0 → Ex Ha Ha0 → Iv 0 σ Ha0)
    (hs : ∀ i σ' H', i < n → Iv i σ' H' → tu { D with nx := Iv (i + 1), ct := Iv (i + 1), bk := tz D } (σ'.set j (some (.int (i : Int)))) H')
    (hd : ∀ σ' H', Iv n σ' H' → tz D σ' H') : tSeq (tFor (iRng1 (tCons tl tNil)) (gName j) tu) tz D σ Ha :=
  ev_ep hl Ha w.b _ fun H2 e2 => by
    refine ⟨(n : Int), rfl, by omega, by omega, ?_⟩
    have en : ((n : Int)).toNat = n := by omega
    rw [en]
    refine for_range (lo := 0) (n := n) Iv (h0 H2 (w.ext e2) e2) (fun i σ' H' hi q => ?_) hd
    have e0 : (0 : Int) + (i : Int) = (i : Int) := Int.zero_add _
    show tu _ (σ'.set j (some (.int ((0 : Int) + (i : Int))))) H'
    rw [e0]
    exact hs i σ' H' hi q
/-- for i in range(lo, n) -/
theorem p_forR2 {lo n j : Nat} {tl tl2 : TE} (w : Wd H H1 Hk Ha) (hl : EvP tl σ Hk (Rn lo)) (hl2 : EvP tl2 σ Hk (Rn n)) (hn : n < 90000) (hlo : lo ≤ n) (Iv : Nat → L2.St → Hp → Prop)
    (h0 : ∀ Ha0, Wd H H1 Hk Ha0 → Ex Ha Ha0 → Iv lo σ Ha0)
    (hs : ∀ i σ' H', lo ≤ i → i < n → Iv i σ' H' → tu { D with nx := Iv (i + 1), ct := Iv (i + 1), bk := tz D } (σ'.set j (some (.int (i : Int)))) H')
    (hd : ∀ σ' H', Iv n σ' H' → tz D σ' H') : tSeq (tFor (iRng2 (tCons tl (tCons tl2 tNil))) (gName j) tu) tz D σ Ha :=
  ev_ep hl Ha w.b _ fun H2 e2 => (ev_ep hl2) H2 (w.b.trans e2) _ fun H3 e3 => by
    refine ⟨(lo : Int), (n : Int), rfl, ⟨by omega, by omega, by omega, by omega⟩, ?_⟩
    have en : ((n : Int) - (lo : Int)).toNat = n - lo := by omega
    rw [en]
    refine for_range (lo := (lo : Int)) (n := n - lo) (fun i => Iv (lo + i)) (h0 H3 (w.ext (e2.trans e3)) (e2.trans e3)) (fun i σ' H' hi q => ?_) fun σ' H' q => ?_
    · have e0 : (lo : Int) + (i : Int) = ((lo + i : Nat) : Int) := by omega
      show tu _ (σ'.set j (some (.int ((lo : Int) + (i : Int))))) H'
      rw [e0]
      exact hs (lo + i) σ' H' (by omega) (by omega) q
    · have e0 : lo + (n - lo) = n := by omega
      rw [e0] at q
      exact hd σ' H' q
/-- for i, x in enumerate(xs), a known list -/
theorem p_forE {α : Type} {R : α → As} [mR : ∀ a, MonoP (R a)] {xs : List α} {i1 i2 : Nat} {tl : TE} (w : Wd H H1 Hk Ha) (hl : EvP tl σ Hk (Rl R xs)) (Iv : Nat → L2.St → Hp → Hp → Hp → Prop)
    (ex : ∀ i σ' Hk0 Ha0 H', Iv i σ' Hk0 Ha0 H' → Ex Hk0 H') (new : ∀ i σ' Hk0 Ha0 H' T o, H' T = none → Iv i σ' Hk0 Ha0 H' → Iv i σ' Hk0 Ha0 (upd H' T o)) (h0 : ∀ Hk0 Ha0, Wd H H1 Hk0 Ha0 → Wd Hk Ha Hk0 Ha0 → Iv 0 σ Hk0 Ha0 Ha0)
    (hs : ∀ Hk0 Ha0, Wd H H1 Hk0 Ha0 → Wd Hk Ha Hk0 Ha0 → ∀ i x v σ' H', xs[i]? = some x → R x v Hk0 → Iv i σ' Hk0 Ha0 H' → tu { D with nx := fun σ3 H3 => Iv (i + 1) σ3 Hk0 Ha0 H3, ct := fun σ3 H3 => Iv (i + 1) σ3 Hk0 Ha0 H3, bk := tz D } ((σ'.set i1 (some (.int (i : Int)))).set i2 (some v)) H')
    (hd : ∀ Hk0 Ha0 σ' H', Wd H H1 Hk0 Ha0 → Wd Hk Ha Hk0 Ha0 → Iv xs.length σ' Hk0 Ha0 H' → tz D σ' H') : tSeq (tFor (iEnum K (tCons tl tNil)) (gTup K 2 (gCons (gName i1) (gCons (gName i2) gNil))) tu) tz D σ Ha :=
  hl Ha w.b _ fun v Hk0 Ha0 u p => by
    obtain ⟨a, ys, rfl, h2, h3⟩ := p
    have hlen := h3.length
    refine ⟨a, ys, rfl, SqL.of (u.b a _ h2), fun i m σ' H' => m = ys.length - i ∧ i ≤ ys.length ∧ Iv i σ' Hk0 Ha0 H', ⟨ys.length, by simp, Nat.zero_le _, h0 Hk0 Ha0 (w.trans u) u⟩, ?_⟩
    rintro i m σ' H' ⟨rfl, hi, q⟩
    have hq : SqL K H' a ys := SqL.of (ex _ _ _ _ _ q a _ h2)
    by_cases hlt : i < ys.length
    · refine .inr ⟨⟨ys, ys[i], hq, by simp [hlt]⟩, fun σ'' H'' => Iv (i + 1) σ'' Hk0 Ha0 H'', fun σ'' H'' p' => ⟨ys.length - (i + 1), by omega, rfl, hlt, p'⟩, fun z H'' yl => ?_⟩
      obtain ⟨T, y, rfl, hT, rfl, hy⟩ := yl
      obtain ⟨x, hx, hr⟩ := pr_back h3 (hy ys hq)
      exact ⟨T, _, rfl, SqT.of upd_same, rfl, _, _, rfl, _, _, rfl, rfl, hs Hk0 Ha0 (w.trans u) u i x y σ' _ hx hr (new _ _ _ _ _ T _ hT q)⟩
    · have e1 : i = ys.length := by omega
      subst e1
      refine .inl ⟨⟨ys, hq, Nat.le_refl _⟩, ?_⟩
      rw [← hlen] at q
      exact hd Hk0 Ha0 σ' H' (w.trans u) u q
end
/-- a pair as a loop's target -/
theorem g_pair {α β : Type} {R1 : α → As} {R2 : β → As} {x : α × β} {v : V} {i j : Nat} {Q' : L2.St → Hp → Prop} (e : Ex Hk Ha) (r : Rp R1 R2 x v Hk) (q : ∀ a b, R1 x.1 a Hk → R2 x.2 b Hk → Q' ((σ.set i (some a)).set j (some b)) Ha) :
    gTup K 2 (gCons (gName i) (gCons (gName j) gNil)) v σ Ha Q' := by
  obtain ⟨p, a, b, rfl, h2, h3, h4⟩ := r
  exact ⟨p, _, rfl, SqT.of (e p _ h2), rfl, _, _, rfl, _, _, rfl, rfl, q a b h3 h4⟩
/-- out = [] -/
theorem p_newL {tz : TS} {D : Ends} {i : Nat} (w : Wd H H1 Hk Ha) (k : ∀ l, Hk l = none → H1 l = none → Wd H H1 Hk (upd Ha l (.lst [])) → tz D (σ.set i (some (.ref l))) (upd Ha l (.lst []))) : tSeq (tAsg (tLst tNil) (gName i)) tz D σ Ha :=
  ⟨Nat.zero_le _, fun l hl => k l (fresh_back w.b hl) (fresh_back w.c hl) (w.mut (fresh_back w.b hl) (fresh_back w.c hl))⟩
theorem ep_nil {α : Type} {R : α → As} : EvP (tLst tNil) σ H (Rl R []) := fun H1 e Q ret => ⟨Nat.zero_le _, fun p hp => ret _ _ _ ((Wd.start e).new (o := .lst []) hp) ⟨p, [], rfl, upd_same, .nil⟩⟩
theorem ep_one {α : Type} {R : α → As} {x : α} {ta : TE} [m : ∀ a, MonoP (R a)] (ha : EvP ta σ H (R x)) : EvP (tLst (tCons ta tNil)) σ H (Rl R [x]) := fun H1 e Q ret =>
  ha H1 e _ fun v Hk Ha w p => ⟨by show 1 ≤ sizeLine; decide, fun q hq => by
    have w2 := w.new (o := .lst [v]) hq
    exact ret _ _ _ w2 ⟨q, [v], rfl, upd_same, .cons ((m x).mono (Ex.new (fresh_back w.b hq)) p) .nil⟩⟩
/-- a local list is handed back -/
theorem p_retL {α : Type} {R : α → As} [m : ∀ a, MonoP (R a)] {xs : List α} {zs : List V} {D : Ends} {Q : VK} {l : Addr} {i : Nat} (w : Wd H H1 Hk Ha) (hk : Hk l = none) (h1 : H1 l = none) (ha : Ha l = some (.lst zs)) (hp : Paired (fun x y => R x y Hk) xs zs) (hs : σ[i]? = some (some (.ref l))) (r : Ret H H1 (Rl R xs) Q) (hq : D.rt = Q) : tRet (tVar i) D σ Ha := by
  subst hq
  have w2 := w.pub ha hk h1
  exact ⟨_, hs, r _ _ _ w2 ⟨l, zs, rfl, upd_same, pr_imp hp fun a b _ q => (m a).mono (Ex.new hk) q⟩⟩
/-- for x in reversed(xs) -/
theorem p_forV {α : Type} {R : α → As} [mR : ∀ a, MonoP (R a)] {xs : List α} {g : TG} {tl : TE} {tu tz : TS} {D : Ends} (w : Wd H H1 Hk Ha) (hl : EvP tl σ Hk (Rl R xs)) (Iv : Nat → L2.St → Hp → Hp → Hp → Prop)
    (ex : ∀ i σ' Hk0 Ha0 H', Iv i σ' Hk0 Ha0 H' → Ex Hk0 H') (h0 : ∀ Hk0 Ha0, Wd H H1 Hk0 Ha0 → Wd Hk Ha Hk0 Ha0 → Iv 0 σ Hk0 Ha0 Ha0)
    (hs : ∀ Hk0 Ha0, Wd H H1 Hk0 Ha0 → Wd Hk Ha Hk0 Ha0 → ∀ i x v σ' H', i < xs.length → xs[xs.length - 1 - i]? = some x → R x v Hk0 → Iv i σ' Hk0 Ha0 H' → g v σ' H' fun σ2 H2 => tu { D with nx := fun σ3 H3 => Iv (i + 1) σ3 Hk0 Ha0 H3, ct := fun σ3 H3 => Iv (i + 1) σ3 Hk0 Ha0 H3, bk := tz D } σ2 H2)
    (hd : ∀ Hk0 Ha0 σ' H', Wd H H1 Hk0 Ha0 → Wd Hk Ha Hk0 Ha0 → Iv xs.length σ' Hk0 Ha0 H' → tz D σ' H') : tSeq (tFor (iRev K (tCons tl tNil)) g tu) tz D σ Ha :=
  hl Ha w.b _ fun v Hk0 Ha0 u p => by
    obtain ⟨a, ys, rfl, h2, h3⟩ := p
    have hlen := h3.length
    refine ⟨a, ys, rfl, SqL.of (u.b a _ h2), fun i m σ' H' => m = ys.length - i ∧ i ≤ ys.length ∧ Iv i σ' Hk0 Ha0 H', ⟨ys.length, by simp, Nat.zero_le _, h0 Hk0 Ha0 (w.trans u) u⟩, ?_⟩
    rintro i m σ' H' ⟨rfl, hi, q⟩
    have hq : SqL K H' a ys := SqL.of (ex _ _ _ _ _ q a _ h2)
    by_cases hlt : i < ys.length
    · refine .inr ⟨⟨hlt, ys, ys[ys.length - 1 - i], hq, by simp⟩, fun σ'' H'' => Iv (i + 1) σ'' Hk0 Ha0 H'', fun σ'' H'' p' => ⟨ys.length - (i + 1), by omega, rfl, hlt, p'⟩, fun z H'' yl => ?_⟩
      obtain ⟨rfl, hy⟩ := yl
      obtain ⟨x, hx, hr⟩ := pr_back h3 (hy ys hq)
      rw [← hlen] at hx
      exact hs Hk0 Ha0 (w.trans u) u i x z σ' _ (by omega) hx hr q
    · have e1 : i = ys.length := by omega
      subst e1
      refine .inl ⟨Nat.le_refl _, ?_⟩
      rw [← hlen] at q
      exact hd Hk0 Ha0 σ' H' (w.trans u) u q
/-- a method of the text -/
structure Mn (K : PySem.W.Frag) (C : Addr) (m qual : Str) (st : Stmt) (ps : List Str) (f : Addr) (fd : FuncData) : Prop where
  F : Fun K m qual st f fd
  M : Meth K C m f
  b : Binds K fd ps []
theorem ep_meth0 {C : Addr} {m : Str} {P0 P : As} {Pre : List V → Hp → As → Prop} {E : XK} {ta : TE} [MonoP P0] (hP : ∀ v H', P0 v H' → ∃ a dx fl, v = .ref a ∧ H' a = some (.ins C dx fl) ∧ fl.lookup m = none) (ha : EvP ta σ H P0) (hp : ∀ x Hk, Ex H Hk → P0 x Hk → Pre [x] Hk P) : EvP (tMeth C m (SpOf Pre) [] E ta tNil) σ H P := fun H1 e Q ret =>
  ha H1 e _ fun x Hk1 Ha1 w1 p1 => by
    obtain ⟨a, dx, fl, rfl, h2, h3⟩ := hP _ _ p1
    exact ⟨a, dx, fl, rfl, w1.b a _ h2, h3, Hk1, P, w1.b, hp _ Hk1 w1.a p1, ret.go w1⟩
theorem ep_meth2 {C : Addr} {m : Str} {P0 P1 P2 P : As} {Pre : List V → Hp → As → Prop} {E : XK} {ta tb tc : TE} [MonoP P0] [MonoP P1] [MonoP P2] (hP : ∀ v H', P0 v H' → ∃ a dx fl, v = .ref a ∧ H' a = some (.ins C dx fl) ∧ fl.lookup m = none) (ha : EvP ta σ H P0) (hb : EvP tb σ H P1) (hc : EvP tc σ H P2)
    (hp : ∀ x y z Hk, Ex H Hk → P0 x Hk → P1 y Hk → P2 z Hk → Pre [x, y, z] Hk P) : EvP (tMeth C m (SpOf Pre) [] E ta (tCons tb (tCons tc tNil))) σ H P := fun H1 e Q ret =>
  ha H1 e _ fun x Hk1 Ha1 w1 p1 => by
    obtain ⟨a, dx, fl, rfl, h2, h3⟩ := hP _ _ p1
    exact ⟨a, dx, fl, rfl, w1.b a _ h2, h3, (hb.mono w1.a) Ha1 w1.b _ fun y Hk2 Ha2 w2 p2 => (hc.mono (w1.a.trans w2.a)) Ha2 w2.b _ fun z Hk3 Ha3 w3 p3 =>
      ⟨Hk3, P, w3.b, hp _ y z Hk3 ((w1.a.trans w2.a).trans w3.a) (MonoP.mono (w2.a.trans w3.a) p1) (MonoP.mono w3.a p2) p3, ret.go ((w1.trans w2).trans w3)⟩⟩
abbrev RO : List Nat → As := Rl Rn
abbrev RP : Nat × Nat → As := Rp Rn Rn
theorem ro_of {l : List Nat} {p : Addr} (h : H p = some (.lst (nv l))) : RO l (.ref p) H := rl_of h
theorem ro_at {l : List Nat} {v : V} (h : RO l v H) : ∃ p, v = .ref p ∧ H p = some (.lst (nv l)) := rl_rv h
/-! ### loops that are left by a return: Sl: what the slots are, NT: nothing has been met before the i-th turn -/
section
variable {D : Ends} {tu : TS} {Sl : L2.St → Prop} {NT : Nat → Prop}
theorem r_forE {α : Type} {R : α → As} [mR : ∀ a, MonoP (R a)] {xs : List α} {i1 i2 : Nat} {tl : TE} (w : Wd H H1 Hk Ha) (hl : EvP tl σ Hk (Rl R xs)) (Sl : L2.St → Prop) (NT : Nat → Prop) (s0 : Sl σ) (n0 : NT 0)
    (hs : ∀ Hk2 Ha2, Wd H H1 Hk2 Ha2 → Ex Hk Hk2 → ∀ i x v σ', xs[i]? = some x → R x v Hk2 → Sl σ' → NT i → ∀ D' : Ends, D'.rt = D.rt → (∀ σ3 H3, Ex Ha2 H3 → Sl σ3 → NT (i + 1) → D'.nx σ3 H3) → tu D' ((σ'.set i1 (some (.int (i : Int)))).set i2 (some v)) Ha2)
    (hd : ∀ Ha2 σ', Wd H H1 Hk Ha2 → Ex Ha Ha2 → Sl σ' → NT xs.length → D.nx σ' Ha2) : tFor (iEnum K (tCons tl tNil)) (gTup K 2 (gCons (gName i1) (gCons (gName i2) gNil))) tu D σ Ha :=
  hl Ha w.b _ fun v Hk0 Ha0 u p => by
    obtain ⟨a, ys, rfl, h2, h3⟩ := p
    have hlen := h3.length
    refine ⟨a, ys, rfl, SqL.of (u.b a _ h2), fun i m σ' H' => m = ys.length - i ∧ i ≤ ys.length ∧ Ex Ha0 H' ∧ Sl σ' ∧ NT i, ⟨ys.length, by simp, Nat.zero_le _, Ex.refl _, s0, n0⟩, ?_⟩
    rintro i m σ' H' ⟨rfl, hi, e', q1, q2⟩
    have hq : SqL K H' a ys := SqL.of (e' a _ (u.b a _ h2))
    by_cases hlt : i < ys.length
    · refine .inr ⟨⟨ys, ys[i], hq, by simp [hlt]⟩, fun σ'' H'' => Ex Ha0 H'' ∧ Sl σ'' ∧ NT (i + 1), fun σ'' H'' p' => ⟨ys.length - (i + 1), by omega, rfl, hlt, p'⟩, fun z H'' yl => ?_⟩
      obtain ⟨T, y, rfl, hT, rfl, hy⟩ := yl
      obtain ⟨x, hx, hr⟩ := pr_back h3 (hy ys hq)
      have e2 : Ex Ha0 (upd H' T (.tup [.int (i : Int), y])) := e'.trans (Ex.new hT)
      exact ⟨T, _, rfl, SqT.of upd_same, rfl, _, _, rfl, _, _, rfl, rfl, hs Hk0 _ ((w.trans u).ext e2) u.a i x y σ' hx hr q1 q2 _ rfl fun σ3 H3 e3 q3 q4 => ⟨e2.trans e3, q3, q4⟩⟩
    · have e1 : i = ys.length := by omega
      subst e1
      refine .inl ⟨⟨ys, hq, Nat.le_refl _⟩, ?_⟩
      rw [← hlen] at q2
      exact hd H' σ' (w.ext (u.c.trans e')) (u.c.trans e') q1 q2
/-- for a, b in a list of pairs -/
theorem r_forP {α β : Type} {R1 : α → As} {R2 : β → As} [m1 : ∀ a, MonoP (R1 a)] [m2 : ∀ a, MonoP (R2 a)] {xs : List (α × β)} {i1 i2 : Nat} {tl : TE} (w : Wd H H1 Hk Ha) (hl : EvP tl σ Hk (Rl (Rp R1 R2) xs)) (Sl : L2.St → Prop) (NT : Nat → Prop) (s0 : Sl σ) (n0 : NT 0)
    (hs : ∀ Hk2 Ha2, Wd H H1 Hk2 Ha2 → Ex Hk Hk2 → ∀ i x v1 v2 σ', xs[i]? = some x → R1 x.1 v1 Hk2 → R2 x.2 v2 Hk2 → Sl σ' → NT i → ∀ D' : Ends, D'.rt = D.rt → (∀ σ3 H3, Ex Ha2 H3 → Sl σ3 → NT (i + 1) → D'.nx σ3 H3) → tu D' ((σ'.set i1 (some v1)).set i2 (some v2)) Ha2)
    (hd : ∀ Ha2 σ', Wd H H1 Hk Ha2 → Ex Ha Ha2 → Sl σ' → NT xs.length → D.nx σ' Ha2) : tFor (iList K tl) (gTup K 2 (gCons (gName i1) (gCons (gName i2) gNil))) tu D σ Ha :=
  hl Ha w.b _ fun v Hk0 Ha0 u p => by
    obtain ⟨a, ys, rfl, h2, h3⟩ := p
    refine ⟨a, rfl, ⟨ys, SqL.of (u.b a _ h2)⟩, for_list (K := K) (a := a) (xs := ys) (fun i σ' H' => Ex Ha0 H' ∧ Sl σ' ∧ NT i) ⟨Ex.refl _, s0, n0⟩ (fun i σ' H' _ q => SqL.of (q.1 a _ (u.b a _ h2))) (fun i y σ' H' hy q => ?_) fun σ' H' q => ?_⟩
    · obtain ⟨e', q1, q2⟩ := q
      obtain ⟨x, hx, hr⟩ := pr_back h3 hy
      obtain ⟨T, y1, y2, rfl, hT, r1, r2⟩ := hr
      exact ⟨T, _, rfl, SqT.of (e' T _ (u.b T _ hT)), rfl, _, _, rfl, _, _, rfl, rfl, hs Hk0 _ ((w.trans u).ext e') u.a i x y1 y2 σ' hx r1 r2 q1 q2 _ rfl fun σ3 H3 e3 q3 q4 => ⟨e'.trans e3, q3, q4⟩⟩
    · obtain ⟨e', q1, q2⟩ := q
      rw [← h3.length] at q2
      exact hd H' σ' (w.ext (u.c.trans e')) (u.c.trans e') q1 q2
/-- for i in range(n) -/
theorem r_forR {n j : Nat} {tl : TE} (w : Wd H H1 Hk Ha) (hl : EvP tl σ Hk (Rn n)) (hn : n < 90000) (Sl : L2.St → Prop) (NT : Nat → Prop) (s0 : Sl σ) (n0 : NT 0)
    (hs : ∀ Ha2, Wd H H1 Hk Ha2 → ∀ i σ', i < n → Sl σ' → NT i → ∀ D' : Ends, D'.rt = D.rt → (∀ σ3 H3, Ex Ha2 H3 → Sl σ3 → NT (i + 1) → D'.nx σ3 H3) → tu D' (σ'.set j (some (.int (i : Int)))) Ha2)
    (hd : ∀ Ha2 σ', Wd H H1 Hk Ha2 → Ex Ha Ha2 → Sl σ' → NT n → D.nx σ' Ha2) : tFor (iRng1 (tCons tl tNil)) (gName j) tu D σ Ha :=
  ev_ep hl Ha w.b _ fun H2 e2 => by
    refine ⟨(n : Int), rfl, by omega, by omega, ?_⟩
    have en : ((n : Int)).toNat = n := by omega
    rw [en]
    refine for_range (lo := 0) (n := n) (fun i σ' H' => Ex Ha H' ∧ Sl σ' ∧ NT i) ⟨e2, s0, n0⟩ (fun i σ' H' hi q => ?_) (fun σ' H' q => hd H' σ' (w.ext q.1) q.1 q.2.1 q.2.2)
    have e0 : (0 : Int) + (i : Int) = (i : Int) := Int.zero_add _
    show tu _ (σ'.set j (some (.int ((0 : Int) + (i : Int))))) H'
    rw [e0]
    exact hs H' (w.ext q.1) i σ' hi q.2.1 q.2.2 _ rfl fun σ3 H3 e3 q3 q4 => ⟨q.1.trans e3, q3, q4⟩
/-- for i in range(lo, n) -/
theorem r_forR2 {lo n j : Nat} {tl tl2 : TE} (w : Wd H H1 Hk Ha) (hl : EvP tl σ Hk (Rn lo)) (hl2 : EvP tl2 σ Hk (Rn n)) (hn : n < 90000) (hlo : lo ≤ n) (Sl : L2.St → Prop) (NT : Nat → Prop) (s0 : Sl σ) (n0 : NT lo)
    (hs : ∀ Ha2, Wd H H1 Hk Ha2 → ∀ i σ', lo ≤ i → i < n → Sl σ' → NT i → ∀ D' : Ends, D'.rt = D.rt → (∀ σ3 H3, Ex Ha2 H3 → Sl σ3 → NT (i + 1) → D'.nx σ3 H3) → tu D' (σ'.set j (some (.int (i : Int)))) Ha2)
    (hd : ∀ Ha2 σ', Wd H H1 Hk Ha2 → Ex Ha Ha2 → Sl σ' → NT n → D.nx σ' Ha2) : tFor (iRng2 (tCons tl (tCons tl2 tNil))) (gName j) tu D σ Ha :=
  ev_ep hl Ha w.b _ fun H2 e2 => (ev_ep hl2) H2 (w.b.trans e2) _ fun H3 e3 => by
    refine ⟨(lo : Int), (n : Int), rfl, ⟨by omega, by omega, by omega, by omega⟩, ?_⟩
    have en : ((n : Int) - (lo : Int)).toNat = n - lo := by omega
    rw [en]
    refine for_range (lo := (lo : Int)) (n := n - lo) (fun i σ' H' => Ex Ha H' ∧ Sl σ' ∧ NT (lo + i)) ⟨e2.trans e3, s0, n0⟩ (fun i σ' H' hi q => ?_) fun σ' H' q => ?_
    · have e0 : (lo : Int) + (i : Int) = ((lo + i : Nat) : Int) := by omega
      show tu _ (σ'.set j (some (.int ((lo : Int) + (i : Int))))) H'
      rw [e0]
      exact hs H' (w.ext q.1) (lo + i) σ' (by omega) (by omega) q.2.1 q.2.2 _ rfl fun σ3 H3 e3 q3 q4 => ⟨q.1.trans e3, q3, q4⟩
    · have e0 : lo + (n - lo) = n := by omega
      rw [e0] at q
      exact hd H' σ' (w.ext q.1) q.1 q.2.1 q.2.2
/-- a value is handed back at a place whose end is told -/
theorem p_retD {Q : VK} {ta : TE} {P0 : As} (w : Wd H H1 Hk Ha) (h : EvP ta σ Hk P0) (r : Ret H H1 P0 Q) (hq : D.rt = Q) : tRet ta D σ Ha := p_ret w h r hq
end
/-! ### lists of numbers, of truth values as data: ==, index -/
def dN (l : List Nat) : PyData := .list (l.map fun (n : Nat) => PyData.int (n : Int))
def dB (l : List Bool) : PyData := .list (l.map PyData.bool)
theorem dNs_lay : ∀ l : List Nat, PyData.canLayAll0 (l.map fun (n : Nat) => PyData.int (n : Int)) = true
  | [] => by simp [PyData.canLayAll0]
  | a :: r => by simp [PyData.canLayAll0, PyData.canLay0, dNs_lay r]
theorem dNs_depth : ∀ l : List Nat, PyData.depthAll (l.map fun (n : Nat) => PyData.int (n : Int)) = 0
  | [] => by simp [PyData.depthAll]
  | a :: r => by simp [PyData.depthAll, PyData.depth, dNs_depth r]
theorem dBs_lay : ∀ l : List Bool, PyData.canLayAll0 (l.map PyData.bool) = true
  | [] => by simp [PyData.canLayAll0]
  | a :: r => by simp [PyData.canLayAll0, PyData.canLay0, dBs_lay r]
theorem dBs_depth : ∀ l : List Bool, PyData.depthAll (l.map PyData.bool) = 0
  | [] => by simp [PyData.depthAll]
  | a :: r => by simp [PyData.depthAll, PyData.depth, dBs_depth r]
theorem dN_shaped (l : List Nat) : SeqAt.shaped (dN l) = true := by
  show (PyData.canLay0 (dN l) && decide (PyData.depth (dN l) ≤ 64)) = true
  have h1 := dNs_depth l
  rw [Bool.and_eq_true]
  refine ⟨by unfold dN; simp only [PyData.canLay0]; exact dNs_lay l, decide_eq_true ?_⟩
  unfold dN
  simp only [PyData.depth]
  omega
theorem dB_shaped (l : List Bool) : SeqAt.shaped (dB l) = true := by
  show (PyData.canLay0 (dB l) && decide (PyData.depth (dB l) ≤ 64)) = true
  have h1 := dBs_depth l
  rw [Bool.and_eq_true]
  refine ⟨by unfold dB; simp only [PyData.canLay0]; exact dBs_lay l, decide_eq_true ?_⟩
  unfold dB
  simp only [PyData.depth]
  omega
theorem dNNs_lay : ∀ l : List (List Nat), PyData.canLayAll0 (l.map dN) = true
  | [] => by simp [PyData.canLayAll0]
  | a :: r => by
    have h : (dN a).canLay0 = true := by
      unfold dN
      simp only [PyData.canLay0]
      exact dNs_lay a
    simp [PyData.canLayAll0, h, dNNs_lay r]
theorem dNNs_depth : ∀ l : List (List Nat), PyData.depthAll (l.map dN) ≤ 2
  | [] => by simp [PyData.depthAll]
  | a :: r => by
    have h1 := dNNs_depth r
    have h2 : (dN a).depth ≤ 2 := by
      have h3 := dNs_depth a
      unfold dN
      simp only [PyData.depth]
      omega
    simp only [List.map_cons, PyData.depthAll]
    omega
theorem dNN_shaped (l : List (List Nat)) : SeqAt.shaped (.list (l.map dN)) = true := by
  have h1 := dNNs_depth l
  have h2 : PyData.depth (.list (l.map dN)) ≤ 64 := by
    simp only [PyData.depth]
    omega
  show (PyData.canLay0 (.list (l.map dN)) && decide (PyData.depth (.list (l.map dN)) ≤ 64)) = true
  rw [Bool.and_eq_true]
  exact ⟨by simp only [PyData.canLay0]; exact dNNs_lay l, decide_eq_true h2⟩
theorem eqvs_nat : ∀ a b : List Nat, PyData.eqvAll (a.map fun (n : Nat) => PyData.int (n : Int)) (b.map fun (n : Nat) => PyData.int (n : Int)) = (a == b)
  | [], [] => by simp [PyData.eqvAll]
  | [], _ :: _ => by simp [PyData.eqvAll]
  | _ :: _, [] => by simp [PyData.eqvAll]
  | x :: a, y :: b => by
    have ih := eqvs_nat a b
    simp only [List.map_cons, PyData.eqvAll, PyData.eqv]
    rw [ih]
    rw [Bool.eq_iff_iff]
    simp only [Bool.and_eq_true, beq_iff_eq, List.cons.injEq]
    constructor
    · rintro ⟨h1, h2⟩
      exact ⟨by omega, h2⟩
    · rintro ⟨h1, h2⟩
      exact ⟨by omega, h2⟩
theorem dN_eqv (a b : List Nat) : PyData.eqv (dN a) (dN b) = (a == b) := by
  unfold dN
  simp only [PyData.eqv]
  exact eqvs_nat a b
theorem eqvs_bool : ∀ a b : List Bool, PyData.eqvAll (a.map PyData.bool) (b.map PyData.bool) = (a == b)
  | [], [] => by simp [PyData.eqvAll]
  | [], _ :: _ => by simp [PyData.eqvAll]
  | _ :: _, [] => by simp [PyData.eqvAll]
  | x :: a, y :: b => by
    have ih := eqvs_bool a b
    simp only [List.map_cons, PyData.eqvAll, PyData.eqv]
    rw [ih]
    rfl
theorem dB_eqv (a b : List Bool) : PyData.eqv (dB a) (dB b) = (a == b) := by
  unfold dB
  simp only [PyData.eqv]
  exact eqvs_bool a b
theorem dp_nats : ∀ l : List Nat, DpAll K H (nv l) (l.map fun (n : Nat) => PyData.int (n : Int))
  | [] => .nil
  | a :: r => .cons (.int _) (dp_nats r)
theorem dp_bools : ∀ l : List Bool, DpAll K H (bv l) (l.map PyData.bool)
  | [] => .nil
  | a :: r => .cons (.bl _) (dp_bools r)
theorem dp_ro {l : List Nat} {v : V} (h : RO l v H) : Dp K H v (dN l) := by
  obtain ⟨p, rfl, hp⟩ := ro_at h
  exact .lst (SqL.of hp) (dp_nats l)
theorem dp_rb {l : List Bool} {v : V} (h : Rl Rb l v H) : Dp K H v (dB l) := by
  obtain ⟨p, rfl, hp⟩ := rl_rv h
  exact .lst (SqL.of hp) (dp_bools l)
theorem dp_ros : ∀ {xss : List (List Nat)} {ys : List V}, Paired (fun x y => RO x y H) xss ys → DpAll K H ys (xss.map dN)
  | _, _, .nil => .nil
  | _, _, .cons h t => .cons (dp_ro h) (dp_ros t)
/-- xss.index(o), lists of numbers -/
theorem ep_indexD {xss : List (List Nat)} {o : List Nat} {ta tb : TE} (ha : EvP ta σ H (Rl RO xss)) (hb : EvP tb σ H (RO o)) (hm : o ∈ xss) : EvP (tBM K "list" (rIndexD K) ta (tCons tb tNil)) σ H (Rn (xss.findIdx fun x => x == o)) := fun H1 e Q ret =>
  ha H1 e _ fun u Hk1 Ha1 w1 p1 => by
    obtain ⟨p, ys, rfl, h2, h3⟩ := p1
    refine ⟨Or.inl ⟨rfl, _, SqL.of (w1.b p _ h2)⟩, (hb.mono w1.a) Ha1 w1.b _ fun y Hk2 Ha2 w2 p2 => ?_⟩
    have hlt : (xss.findIdx fun x => x == o) < xss.length := List.findIdx_lt_length_of_exists ⟨o, hm, by simp⟩
    have hz := List.findIdx_getElem (w := hlt)
    have e12 : Ex Hk1 Ha2 := w2.a.trans w2.b
    refine ⟨p, y, dN o, xss.map dN, xss.findIdx fun x => x == o, dN xss[xss.findIdx fun x => x == o], rfl, rfl, .lst (SqL.of (e12 p _ h2)) (dp_ros (pr_imp h3 fun a b _ q => MonoP.mono (P := RO a) e12 q)), dp_ro (MonoP.mono (P := RO o) w2.b p2), dNN_shaped xss, dN_shaped o, ?_, ?_, fun m z hm hz' => ?_, (ret.go (w1.trans w2)).now w2.b rfl⟩
    · rw [List.getElem?_map, List.getElem?_eq_getElem hlt]
      rfl
    · rw [dN_eqv]
      exact hz
    · rw [List.getElem?_map] at hz'
      have hml : m < xss.length := by omega
      rw [List.getElem?_eq_getElem hml] at hz'
      have hz2 := Option.some.inj hz'
      subst hz2
      rw [dN_eqv]
      exact Bool.eq_false_iff.mpr (by simpa using List.not_of_lt_findIdx hm)
/-- == of lists of truth values -/
theorem ep_eqB {a b : List Bool} {ta tb : TE} (ha : EvP ta σ H (Rl Rb a)) (hb : EvP tb σ H (Rl Rb b)) : EvP (tOp (rEqD K) ta tb) σ H (Lb.Rb (a == b)) :=
  ep_op ha hb fun x y Hk Ha e1 e2 p1 p2 Q ret => ⟨dB a, dB b, dp_rb (MonoP.mono (P := Rl Rb a) e2 p1), dp_rb (MonoP.mono (P := Rl Rb b) e2 p2), dB_shaped a, dB_shaped b, by
    rw [dB_eqv]
    exact ret.now e2 rfl⟩
theorem hu65 {A : Around} {k : Nat} (hr : Room k A) : A.units + 65 < cLine := by have := hr.un; omega
end Lb

set_option Elab.async false
set_option maxRecDepth 100000
set_option maxHeartbeats 4000000
namespace Mw
open Sa92 Sa92Neutral
/-! ### what is asked of a table; the answer's two parts -/
theorem nats_lt (l : List Int) (h : ∀ x ∈ l, 0 ≤ x) : (nats l).map (fun (n : Nat) => (n : Int)) = l := by
  unfold nats
  rw [List.map_map]
  have e : ∀ l : List Int, (∀ x ∈ l, 0 ≤ x) → l.map ((fun (n : Nat) => (n : Int)) ∘ Int.toNat) = l := by
    intro l
    induction l with
    | nil => intro _; rfl
    | cons a r ih =>
      intro h
      rw [List.map_cons, ih fun x hx => h x (List.mem_cons_of_mem _ hx)]
      have := h a List.mem_cons_self
      congr 1
      show ((a.toNat : Nat) : Int) = a
      omega
  exact e l h
theorem table_len {n m : Int} {l : List Int} (h : table n m l = true) : l.length = if sized n m = true then cases n.toNat m.toNat else 0 := by
  unfold table at h
  simp only [Bool.and_eq_true, decide_eq_true_eq] at h
  exact h.2.2.2
theorem picks_is {n m : Int} {l : List Int} (h : table n m l = true) : forPicks (nats l) n m = (sized n m && (nats l).all fun x => decide ((x : Int) < m)) := by
  have hl := table_len h
  unfold forPicks
  cases hs : sized n m with
  | false => rfl
  | true =>
    rw [if_pos hs] at hl
    obtain ⟨n1, m1, rfl, rfl, ok⟩ := sized_of hs
    have e1 : decide ((nats l).length = cases ((n1 : Int)).toNat ((m1 : Int)).toNat) = true := decide_eq_true (by unfold nats; rw [List.length_map]; exact hl)
    rw [e1]
    simp only [Bool.true_and]
    refine congrArg (fun f => List.all (nats l) f) (funext fun x => ?_)
    exact decide_eq_decide.mpr (by omega)
theorem orders_is {n m : Int} {l : List Int} (h : table n m l = true) : forOrders (nats l) n m = (sized n m && (nats l).all fun x => decide ((x : Int) < ((many m.toNat : Nat) : Int))) := by
  have hl := table_len h
  unfold forOrders
  cases hs : sized n m with
  | false => rfl
  | true =>
    rw [if_pos hs] at hl
    obtain ⟨n1, m1, rfl, rfl, ok⟩ := sized_of hs
    have e1 : decide ((nats l).length = cases ((n1 : Int)).toNat ((m1 : Int)).toNat) = true := decide_eq_true (by unfold nats; rw [List.length_map]; exact hl)
    rw [e1]
    simp only [Bool.true_and]
    refine congrArg (fun f => List.all (nats l) f) (funext fun x => ?_)
    exact decide_eq_decide.mpr (by omega)
/-- a good table of picks, of orders -/
structure Tb (n m b : Nat) (w : List Nat) : Prop where
  ok : Ok n m
  len : w.length = cases n m
  lt : ∀ x ∈ w, x < b
theorem tb_picks {n m : Int} {l : List Int} (h : table n m l = true) (hg : (sized n m && (nats l).all fun x => decide ((x : Int) < m)) = true) : ∃ n1 m1 : Nat, n = (n1 : Int) ∧ m = (m1 : Int) ∧ Tb n1 m1 m1 (nats l) := by
  have hl := table_len h
  rw [Bool.and_eq_true, List.all_eq_true] at hg
  rw [if_pos hg.1] at hl
  obtain ⟨n1, m1, rfl, rfl, ok⟩ := sized_of hg.1
  refine ⟨n1, m1, rfl, rfl, ok, ?_, fun x hx => ?_⟩
  · unfold nats
    rw [List.length_map, hl]
    rfl
  · have := of_decide_eq_true (hg.2 x hx)
    omega
theorem tb_orders {n m : Int} {l : List Int} (h : table n m l = true) (hg : (sized n m && (nats l).all fun x => decide ((x : Int) < ((many m.toNat : Nat) : Int))) = true) : ∃ n1 m1 : Nat, n = (n1 : Int) ∧ m = (m1 : Int) ∧ Tb n1 m1 (many m1) (nats l) := by
  have hl := table_len h
  rw [Bool.and_eq_true, List.all_eq_true] at hg
  rw [if_pos hg.1] at hl
  obtain ⟨n1, m1, rfl, rfl, ok⟩ := sized_of hg.1
  refine ⟨n1, m1, rfl, rfl, ok, ?_, fun x hx => ?_⟩
  · unfold nats
    rw [List.length_map, hl]
    rfl
  · have h2 := of_decide_eq_true (hg.2 x hx)
    have e : ((m1 : Int)).toNat = m1 := by omega
    rw [e] at h2
    omega
theorem Tb.get {n m b : Nat} {w : List Nat} (t : Tb n m b w) {p : Nat} (hp : p < cases n m) : w[p]? = some (at_ w p) ∧ at_ w p < b := by
  have h : p < w.length := by rw [t.len]; exact hp
  have e : at_ w p = w[p] := by
    unfold at_
    rw [List.getD_eq_getElem?_getD, List.getElem?_eq_getElem h]
    rfl
  rw [e]
  exact ⟨List.getElem?_eq_getElem h, t.lt _ (List.getElem_mem h)⟩
def castL (l : List Nat) : List Int := l.map fun (x : Nat) => (x : Int)
def ansL (a : Ans) : List Int := a.v :: castL a.l
theorem said_none : ansL (said none) = [1] := rfl
theorem said_some (l : List Nat) : ansL (said (some l)) = 0 :: castL l := rfl
theorem voter_none : ansL (voter none) = [-1] := rfl
theorem voter_some (i : Nat) : ansL (voter (some i)) = [(i : Int)] := rfl
theorem zip_cases (n m : Nat) : (List.range (casesL n m).length).zip (casesL n m) = (List.range (cases n m)).map fun p => (p, caseL n m p) := by
  rw [casesL_len]
  unfold casesL
  rw [List.map_prod_left_eq_zip]
theorem all_cases {n m : Nat} (el : Nat × List Nat → Bool) : List.all (((List.range (casesL n m).length).zip (casesL n m)).map el) id = (List.range (cases n m)).all fun p => el (p, caseL n m p) := by
  rw [zip_cases, List.all_map, List.all_map]
  rfl
theorem caseL_getD {n m p i : Nat} (h : i < n) : (caseL n m p).getD i 0 = wish m p i := by
  rw [List.getD_eq_getElem?_getD, caseL_at h]
  rfl
theorem best_at {m k : Nat} (h1 : 2 ≤ m) (h2 : m ≤ 4) (h : k < many m) : (order m k)[0]? = some (best m k) := by
  have hl := order_len h1 h2 h
  unfold best
  cases e : order m k with
  | nil =>
    rw [e] at hl
    have : m = 0 := hl.symm
    omega
  | cons a r => rfl
theorem best_lt {m k : Nat} (h1 : 2 ≤ m) (h2 : m ≤ 4) (h : k < many m) : best m k < m := order_lt h1 h2 h (List.mem_of_getElem? (best_at h1 h2 h))
theorem dec_nat {a b : Nat} : decide (((a : Nat) : Int) = ((b : Nat) : Int)) = (a == b) := by
  rw [Bool.eq_iff_iff]
  simp
  omega
theorem filter_some {α β : Type} (q : α → Bool) (f : α → Option β) : ∀ l : List α, (l.filter q).findSome? f = l.findSome? fun x => if q x = true then f x else none
  | [] => rfl
  | a :: r => by
    rw [List.filter_cons, List.findSome?_cons]
    cases h : q a with
    | true =>
      rw [if_pos rfl, if_pos rfl, List.findSome?_cons, filter_some q f r]
    | false =>
      rw [if_neg Bool.false_ne_true, if_neg Bool.false_ne_true, filter_some q f r]
theorem exch_len (l : List Nat) (i j : Nat) : (exch l i j).length = l.length := by
  unfold exch
  rw [List.length_set, List.length_set]
theorem exch_lt {l : List Nat} {i j c : Nat} (h : ∀ d ∈ l, d < c) (hi : i < l.length) (hj : j < l.length) : ∀ d ∈ exch l i j, d < c := by
  have di : l.getD i 0 = l[i] := by rw [List.getD_eq_getElem?_getD, List.getElem?_eq_getElem hi]; rfl
  have dj : l.getD j 0 = l[j] := by rw [List.getD_eq_getElem?_getD, List.getElem?_eq_getElem hj]; rfl
  intro d hd
  unfold exch at hd
  rw [di, dj] at hd
  rcases List.mem_or_eq_of_mem_set hd with h1 | h1
  · rcases List.mem_or_eq_of_mem_set h1 with h2 | h2
    · exact h d h2
    · rw [h2]; exact h _ (List.getElem_mem hj)
  · rw [h1]; exact h _ (List.getElem_mem hi)
theorem orders_range {m : Nat} (h1 : 2 ≤ m) (h2 : m ≤ 4) : orders m = (List.range (many m)).map (order m) := by
  rcases m_cases h1 h2 with rfl | rfl | rfl <;> decide +kernel
/-- each renaming's numbers -/
def rens (m : Nat) : List (List Nat) := (List.range (many m)).map fun s => (List.range (many m)).map (renamed m s)
theorem rens_is {m : Nat} (h1 : 2 ≤ m) (h2 : m ≤ 4) : ((orders m).map fun s => (orders m).map fun o => numberOf m (o.map fun x => s.getD x 0)) = rens m := by
  unfold rens
  have e := orders_range h1 h2
  rw [show ((orders m).map fun s => (orders m).map fun o => numberOf m (o.map fun x => s.getD x 0)) = (((List.range (many m)).map (order m)).map fun s => ((List.range (many m)).map (order m)).map fun o => numberOf m (o.map fun x => s.getD x 0)) by rw [← e]]
  rw [List.map_map]
  refine List.map_congr_left fun s _ => ?_
  show ((List.range (many m)).map (order m)).map _ = _
  rw [List.map_map]
  rfl
theorem rens_at {m s : Nat} {r : List Nat} (h : (rens m)[s]? = some r) : s < many m ∧ r = (List.range (many m)).map (renamed m s) := by
  unfold rens at h
  have hl := (List.getElem?_eq_some_iff.mp h).1
  rw [List.length_map, List.length_range] at hl
  rw [List.getElem?_map, List.getElem?_range hl] at h
  exact ⟨hl, (Option.some.inj h).symm⟩
theorem ren_at {m s k : Nat} (h : k < many m) : ((List.range (many m)).map (renamed m s))[k]? = some (renamed m s k) := by
  rw [List.getElem?_map, List.getElem?_range h]
  rfl
theorem rens_len (m : Nat) : (rens m).length = many m := by
  unfold rens
  rw [List.length_map, List.length_range]
/-! ### what an order puts below an option -/
def belowL (o : List Nat) (x : Nat) : List Nat := o.drop (place o x + 1)
theorem below_has {m : Nat} (h1 : 2 ≤ m) (h2 : m ≤ 4) : ∀ o ∈ orders m, ∀ x ∈ List.range m, ∀ b ∈ List.range m, (belowL o x).contains b = decide (place o x < place o b) := by
  rcases m_cases h1 h2 with rfl | rfl | rfl <;> decide +kernel
theorem below_all {m x : Nat} {u v : List Nat} (h1 : 2 ≤ m) (h2 : m ≤ 4) (hu : u ∈ orders m) (hv : v ∈ orders m) (hx : x < m) :
    ((belowL u x).all fun y => (belowL v x).contains y) = (List.range m).all fun b => b == x || (!decide (place u x < place u b) || decide (place v x < place v b)) := by
  have hxr : x ∈ List.range m := List.mem_range.mpr hx
  rw [Bool.eq_iff_iff, List.all_eq_true, List.all_eq_true]
  constructor
  · intro h b hb
    have e1 := below_has h1 h2 u hu x hxr b hb
    have e2 := below_has h1 h2 v hv x hxr b hb
    rw [← e1, ← e2]
    cases hc : (belowL u x).contains b with
    | false => simp
    | true =>
      have hm : b ∈ belowL u x := List.contains_iff_mem.mp hc
      rw [h b hm]
      simp
  · intro h y hy
    have hyu : y ∈ u := List.mem_of_mem_drop hy
    have hyr : y ∈ List.range m := List.mem_range.mpr ((orders_good h1 h2 u hu).2.2.1 y hyu)
    have e1 := below_has h1 h2 u hu x hxr y hyr
    have e2 := below_has h1 h2 v hv x hxr y hyr
    have h3 := h y hyr
    rw [List.contains_iff_mem.mpr hy] at e1
    rw [← e1, ← e2] at h3
    have hne : (y == x) = false := by
      rw [beq_eq_false_iff_ne]
      intro e
      subst e
      have := of_decide_eq_true e1.symm
      omega
    rw [hne] at h3
    simpa using h3
def staysB (n m p q x : Nat) : Bool := (List.range n).all fun i => (belowL (order m (wish m p i)) x).all fun y => (belowL (order m (wish m q i)) x).contains y
theorem stays_is {c : Table} {n m p q : Nat} (h1 : 2 ≤ m) (h2 : m ≤ 4) (hx : at_ c p < m) : (at_ c q != at_ c p && staysB n m p q (at_ c p)) = falls c n m p q := by
  unfold falls
  rw [Bool.and_comm]
  refine congrArg (fun z => z && (at_ c q != at_ c p)) ?_
  unfold staysB
  refine congrArg (fun f => List.all (List.range n) f) (funext fun i => ?_)
  rw [below_all h1 h2 (order_mem (wish_lt h1 h2)) (order_mem (wish_lt h1 h2)) hx]
  rfl
/-! ### what is said, what comes of it -/
def saidC (n m : Nat) (cs : List Nat) : List (List Bool) := (pairs m).map fun x => (List.range n).map fun i => prefers m (cs.getD i 0) x.1 x.2
def comesC (m v : Nat) : List Bool := (pairs m).map fun x => prefers m v x.1 x.2
theorem saidC_at {n m k : Nat} {cs : List Nat} {x : Nat × Nat} (h : (pairs m)[k]? = some x) : (saidC n m cs)[k]? = some ((List.range n).map fun i => prefers m (cs.getD i 0) x.1 x.2) := by
  unfold saidC
  rw [List.getElem?_map, h]
  rfl
theorem comesC_at {m k v : Nat} {x : Nat × Nat} (h : (pairs m)[k]? = some x) : (comesC m v)[k]? = some (prefers m v x.1 x.2) := by
  unfold comesC
  rw [List.getElem?_map, h]
  rfl
theorem map_beq (f g : Nat → Bool) : ∀ l : List Nat, (l.map f == l.map g) = l.all fun i => f i == g i
  | [] => rfl
  | a :: r => by
    have ih := map_beq f g r
    rw [List.map_cons, List.map_cons, List.all_cons, ← ih]
    rfl
theorem said_beq {n m p q : Nat} (a b : Nat) : (((List.range n).map fun i => prefers m ((caseL n m p).getD i 0) a b) == ((List.range n).map fun i => prefers m ((caseL n m q).getD i 0) a b)) = (voters n).all fun i => prefers m (wish m p i) a b == prefers m (wish m q i) a b := by
  rw [map_beq]
  rw [Bool.eq_iff_iff, List.all_eq_true, List.all_eq_true]
  constructor
  · intro h i hi
    have hn : i < n := List.mem_range.mp hi
    have h2 := h i hi
    rw [caseL_getD hn, caseL_getD hn] at h2
    exact h2
  · intro h i hi
    have hn : i < n := List.mem_range.mp hi
    rw [caseL_getD hn, caseL_getD hn]
    exact h i hi
theorem hangs_is {t : Table} {n m p q a b : Nat} : ((((List.range n).map fun i => prefers m ((caseL n m p).getD i 0) a b) == ((List.range n).map fun i => prefers m ((caseL n m q).getD i 0) a b)) && !decide (prefers m (at_ t p) a b = prefers m (at_ t q) a b)) = hangs t n m p q a b := by
  unfold hangs
  rw [said_beq]
  refine congrArg (fun z => _ && z) ?_
  cases prefers m (at_ t p) a b <;> cases prefers m (at_ t q) a b <;> rfl

/-! ### apart -/
theorem apart_table {n m : Int} {l : List Int} (h : PySa92.apart_asked n m l = true) : table n m l = true := by
  unfold PySa92.apart_asked asked at h
  simp only [List.all_cons, List.all_nil, Bool.and_true, Bool.and_eq_true, decide_eq_true_eq] at h
  have h1 := h.1
  simp only [asked1, Bool.and_eq_true] at h1
  exact h1.1
theorem apart_short {n m : Int} {l : List Int} (h : PySa92.apart_asked n m l = true) : l.length ≤ 300 := by
  unfold PySa92.apart_asked asked at h
  simp only [List.all_cons, List.all_nil, Bool.and_true, Bool.and_eq_true, decide_eq_true_eq] at h
  have h1 := h.1
  simp only [asked1, Bool.and_eq_true, decide_eq_true_eq] at h1
  exact h1.2
theorem apart_is {n m : Int} {l : List Int} (h : PySa92.apart_asked n m l = true) : PySa92.apart n m l = if (sized n m && (nats l).all fun x => decide ((x : Int) < ((many m.toNat : Nat) : Int))) = true then ansL (said (apartAt (nats l) n.toNat m.toNat)) else [-2] := by
  have hp := orders_is (apart_table h)
  show ansL (does (.apart (nats l) n m)) = _
  unfold does
  show ansL (if forOrders (nats l) n m = false then ok (-2) else said (apartAt (nats l) n.toNat m.toNat)) = _
  rw [hp]
  cases (sized n m && (nats l).all fun x => decide ((x : Int) < ((many m.toNat : Nat) : Int))) with
  | true => rfl
  | false => rfl

end Mw
set_option linter.all false
namespace Pr
open PySem PySem.Spec PyProof.Rows L2 Evl Lb Mw
/-- the i-th statement of the text -/
def top (i : Nat) : Stmt := PySem.Challenge.pw_manywishes_s03_apart.main.body.getD i (.Pass ⟨0, 0, 0, 0⟩)
abbrev s_is_told : Stmt := top 3
abbrev s_are_within : Stmt := top 11
abbrev s_order_count : Stmt := top 12
abbrev s_is_for_orders : Stmt := top 13
abbrev s_power : Stmt := top 6
abbrev s_square : Stmt := top 7
abbrev s_digits : Stmt := top 8
abbrev s_longer : Stmt := top 2
abbrev s_orders_of : Stmt := top 1
abbrev s_prefers : Stmt := top 4
abbrev s_said_of : Stmt := top 14
abbrev s_apart : Stmt := top 15
abbrev s_m_init : Stmt := inClass (top 5) 0
abbrev s_m_pairs : Stmt := inClass (top 5) 2
abbrev s_m_wish : Stmt := inClass (top 5) 3
section
variable {P : Program} {w : World} {K : PySem.W.Frag} {mg : Str → Option Value} {base : Heap} {C : Addr}

/-! ### is_told -/
def pTold (vs : List V) (_ : Hp) (P : As) : Prop := ∃ n m : Int, vs = [.int n, .int m] ∧ P = Rb (Sa92.sized n m)
theorem sized_eq (n m : Int) : ((decide (2 ≤ m) && decide (m ≤ 4)) && (decide (1 ≤ n) && decide (n ≤ if decide (V.int m = V.int 4) = true then 3 else 4))) = Sa92.sized n m := by
  unfold Sa92.sized
  by_cases h : m = 4
  · subst h
    rw [if_pos (decide_eq_true rfl)]
    rw [Bool.eq_iff_iff]
    simp only [Bool.and_eq_true, Bool.or_eq_true, decide_eq_true_eq]
    omega
  · rw [if_neg (by simpa using h)]
    rw [Bool.eq_iff_iff]
    simp only [Bool.and_eq_true, Bool.or_eq_true, decide_eq_true_eq]
    omega
theorem sc_is_told : FnScope ["n", "m"] ["n", "m"] (defScope s_is_told) := ⟨rfl, rfl, rfl, by decide +kernel, rfl, by decide +kernel, by decide +kernel⟩
theorem ok_is_told {f : Addr} {fd : FuncData} (F : Fun K "is_told" "is_told" s_is_told f fd) : FnOk P w K mg base CX0 1 f fd ["n", "m"] (SpOf pTold) := by
  refine F.ok sc_is_told (fun vs H Q E h => ?_) (fun cdv A outer s H1 vs Q E hr h => ?_)
  · obtain ⟨H, P, e, ⟨n, m, rfl, _⟩, _⟩ := h
    rfl
  · obtain ⟨H, P, e, ⟨n, m, rfl, rfl⟩, ret⟩ := h
    refine ⟨_, pss_one (ps_ret (pe_and (pe_chain op_le op_le pe_int (pv 1) pe_int) (pe_one (pe_chain op_le op_le pe_int (pv 0) (pe_ifExp (pt_cmpR op_eq (pv 1) pe_int (nomark _)) pe_int pe_int))))), ?_⟩
    refine p_ret (Wd.start e) (ep_ev (ev_is (ev_andV (ev_ep (ep_chain ep_c (ep_var rfl rfl) ep_c)) fun _ => ev_ep (ep_chain ep_c (ep_var rfl rfl) (ep_ifI (et_of (ep_ev (ev_op (ev_ep (ep_var (P := Rv (.int m)) rfl rfl)) ev_c (rv_eq rfl)))) ep_c ep_c))) (congrArg V.bl (sized_eq n m)))) ret rfl

/-! ### are_within -/
def pWithin (K : PySem.W.Frag) (vs : List V) (H : Hp) (P : As) : Prop := ∃ (n m most : Int) (a : Addr) (t : List Nat), vs = [.int n, .int m, .ref a, .int most] ∧ SqL K H a (nv t) ∧ t.length < 90000 ∧ P = Rb (Sa92.sized n m && t.all fun x => decide ((x : Int) < most))
theorem sc_are_within : FnScope ["n", "m", "table", "most", "v"] ["n", "m", "table", "most"] (defScope s_are_within) := ⟨rfl, rfl, rfl, by decide +kernel, rfl, by decide +kernel, by decide +kernel⟩
theorem ok_are_within {f fT : Addr} {fd fdT : FuncData} (F : Fun K "are_within" "are_within" s_are_within f fd) (D1 : Dn K mg "is_told" "is_told" s_is_told ["n", "m"] fT fdT) (bAll : mg "all" = none) : FnOk P w K mg base CX0 2 f fd ["n", "m", "table", "most"] (SpOf (pWithin K)) := by
  have G1 : FnOk P w K mg base CX0 1 fT fdT ["n", "m"] (SpOf pTold) := ok_is_told D1.F
  refine F.ok sc_are_within (fun vs H Q E h => ?_) (fun cdv A outer s H1 vs Q E hr h => ?_)
  · obtain ⟨H, P, e, ⟨n, m, most, a, t, rfl, _⟩, _⟩ := h
    rfl
  · obtain ⟨H, P, e, ⟨n, m, most, a, t, rfl, hs, hz, rfl⟩, ret⟩ := h
    refine ⟨_, pss_one (ps_ret (pe_and (pe_call G1 (hr.mono (by decide)) rfl D1.g D1.F.kp D1.b .nil pass0 (pa_cons (pv 0) (pa_cons (pv 1) pa_nil)))
      (pe_one (pe_callB (cr_all rfl) (by rfl) bAll boot_all (pa_cons (pe_lc (own := [("v", 4)]) (g := gName 4) (tt := tYes) rfl sc_are_within.nd (pi_list (pv 2)) (blkOk_by (by kernel_rfl))
        (fun _ _ _ _ _ => pg_name (i := 4) sc_are_within.nd rfl (Or.inl rfl)) (fun _ _ _ _ _ => pts_nil) (fun _ _ _ _ _ => pe_cmpR op_lt (pv 4) (pv 3) (nomark _))) pa_nil))))), ?_⟩
    have hall := ep_all (K := K) (ep_lcS (K := K) (g := gName 4) (vs := [4]) (tt := tYes) (σ := start ["n", "m", "table", "most", "v"] [.int n, .int m, .ref a, .int most]) (R := Rn) (S := Rb) (xs := t) (fun _ => true) (fun (x : Nat) => decide ((x : Int) < most)) (ep_var (i := 2) rfl rfl) hs (pr_of t) hz
      (tn_name (fun _ => rfl) (fun _ _ _ _ _ _ => et_yes) fun x v Hk hx e1 r _ => by
        have r' : v = .int (x : Int) := r
        subst r'
        exact ep_I0 (g := fun i j => V.bl (decide (i < j))) (ep_var (i := 4) rfl rfl) (ep_var (i := 3) rfl rfl)))
    rw [outs_all] at hall
    refine p_ret (Wd.start e) (ep_ev (ev_is (ev_andV (a := Sa92.sized n m) (ev_ep (ep_call2 (ep_var (P := Rv (.int n)) rfl rfl) (ep_var (P := Rv (.int m)) rfl rfl) fun x y Hk e1 p1 p2 => ⟨n, m, by rw [show x = V.int n from p1, show y = V.int m from p2], rfl⟩)) fun _ => ev_ep hall) (congrArg V.bl ?_))) ret rfl
    rw [List.all_map]
    rfl

/-! ### order_count, is_for_orders -/
def pOcount (vs : List V) (_ : Hp) (P : As) : Prop := ∃ m : Nat, vs = [.int m] ∧ 2 ≤ m ∧ m ≤ 4 ∧ P = Rn (Sa92.many m)
theorem sc_order_count : FnScope ["m"] ["m"] (defScope s_order_count) := ⟨rfl, rfl, rfl, by decide +kernel, rfl, by decide +kernel, by decide +kernel⟩
theorem ok_order_count {f : Addr} {fd : FuncData} (F : Fun K "order_count" "order_count" s_order_count f fd) : FnOk P w K mg base CX0 1 f fd ["m"] (SpOf pOcount) := by
  refine F.ok sc_order_count (fun vs H Q E h => ?_) (fun cdv A outer s H1 vs Q E hr h => ?_)
  · obtain ⟨H, P, e, ⟨m, rfl, _⟩, _⟩ := h
    rfl
  · obtain ⟨H, P, e, ⟨m, rfl, hm1, hm2, rfl⟩, ret⟩ := h
    refine ⟨_, pss_one (ps_ret (pe_ix ix_tup (pe_tup (pa_cons pe_int (pa_cons pe_int (pa_cons pe_int (pa_cons pe_int pa_nil))))) (pe_op op_sub (pv 0) pe_int) (fun _ _ => rfl))), ?_⟩
    refine ⟨by show 4 ≤ sizeLine; decide, fun p hp => ?_⟩
    refine ⟨_, rfl, _, _, rfl, rfl, ?_⟩
    have hv : atI [V.int 1, V.int 2, V.int 6, V.int 24] ((m : Int) - 1) = some (.int ((Sa92.many m : Nat) : Int)) := by
      rcases m_cases hm1 hm2 with rfl | rfl | rfl
      · rw [many_two]; rfl
      · rw [many_three]; rfl
      · rw [many_four]; rfl
    exact ⟨p, _, _, _, rfl, rfl, SqT.of upd_same, hv, ret _ _ _ ((Wd.start e).ext (Ex.new hp)) rfl⟩
def pFor (K : PySem.W.Frag) (vs : List V) (H : Hp) (P : As) : Prop := ∃ (n m : Int) (a : Addr) (t : List Nat), vs = [.int n, .int m, .ref a] ∧ SqL K H a (nv t) ∧ t.length < 90000 ∧ P = Rb (Sa92.sized n m && t.all fun x => decide ((x : Int) < ((Sa92.many m.toNat : Nat) : Int)))
theorem sc_is_for_orders : FnScope ["n", "m", "table"] ["n", "m", "table"] (defScope s_is_for_orders) := ⟨rfl, rfl, rfl, by decide +kernel, rfl, by decide +kernel, by decide +kernel⟩
theorem ok_is_for_orders {f f1 f2 fT : Addr} {fd fd1 fd2 fdT : FuncData} (F : Fun K "is_for_orders" "is_for_orders" s_is_for_orders f fd) (D2 : Dn K mg "are_within" "are_within" s_are_within ["n", "m", "table", "most"] f1 fd1) (D3 : Dn K mg "order_count" "order_count" s_order_count ["m"] f2 fd2) (D1 : Dn K mg "is_told" "is_told" s_is_told ["n", "m"] fT fdT) (bAll : mg "all" = none) : FnOk P w K mg base CX0 3 f fd ["n", "m", "table"] (SpOf (pFor K)) := by
  have G1 : FnOk P w K mg base CX0 1 fT fdT ["n", "m"] (SpOf pTold) := ok_is_told D1.F
  have G2 : FnOk P w K mg base CX0 2 f1 fd1 ["n", "m", "table", "most"] (SpOf (pWithin K)) := ok_are_within D2.F D1 bAll
  have G3 : FnOk P w K mg base CX0 1 f2 fd2 ["m"] (SpOf pOcount) := ok_order_count D3.F
  refine F.ok sc_is_for_orders (fun vs H Q E h => ?_) (fun cdv A outer s H1 vs Q E hr h => ?_)
  · obtain ⟨H, P, e, ⟨n, m, a, t, rfl, _⟩, _⟩ := h
    rfl
  · obtain ⟨H, P, e, ⟨n, m, a, t, rfl, hs, hz, rfl⟩, ret⟩ := h
    refine ⟨_, pss_one (ps_ret (pe_and (pe_call G1 (hr.mono (by decide)) rfl D1.g D1.F.kp D1.b .nil pass0 (pa_cons (pv 0) (pa_cons (pv 1) pa_nil)))
      (pe_one (pe_call G2 (hr.mono (by decide)) rfl D2.g D2.F.kp D2.b .nil pass0 (pa_cons (pv 0) (pa_cons (pv 1) (pa_cons (pv 2) (pa_cons (pe_call G3 (hr.mono (by decide)) rfl D3.g D3.F.kp D3.b .nil pass0 (pa_cons (pv 1) pa_nil)) pa_nil)))))))), ?_⟩
    refine p_ret (Wd.start e) (ep_ev (ev_is (ev_andV (a := Sa92.sized n m) (b := Sa92.sized n m && t.all fun x => decide ((x : Int) < ((Sa92.many m.toNat : Nat) : Int))) (ev_ep (ep_call2 (ep_var (P := Rv (.int n)) rfl rfl) (ep_var (P := Rv (.int m)) rfl rfl) fun x y Hk e1 p1 p2 => ⟨n, m, by rw [show x = V.int n from p1, show y = V.int m from p2], rfl⟩)) fun hsz => ?_) (congrArg V.bl ?_))) ret rfl
    · obtain ⟨n1, m1, rfl, rfl, ok⟩ := sized_of hsz
      exact ev_ep (ep_call4 (P4 := Rn (Sa92.many m1)) (ep_var (P := Rv (.int (n1 : Int))) rfl rfl) (ep_var (P := Rv (.int (m1 : Int))) rfl rfl) (ep_var (P := Rv (.ref a)) rfl rfl) (ep_call1 (ep_var (P := Rn m1) rfl rfl) fun x Hk e1 p1 => ⟨m1, by rw [show x = V.int (m1 : Int) from p1], ok.1, ok.2.1, rfl⟩)
        fun x y z u Hk e1 p1 p2 p3 p4 => ⟨(n1 : Int), (m1 : Int), _, a, t, by rw [show x = V.int (n1 : Int) from p1, show y = V.int (m1 : Int) from p2, show z = V.ref a from p3, show u = V.int ((Sa92.many m1 : Nat) : Int) from p4, show ((m1 : Int)).toNat = m1 by omega], ex_l e1 hs, hz, rfl⟩)
    · cases Sa92.sized n m <;> rfl

/-! ### power -/
def pPower (vs : List V) (_ : Hp) (P : As) : Prop := ∃ x n : Nat, vs = [.int x, .int n] ∧ x ≤ 24 ∧ n ≤ 4 ∧ P = Rn (x ^ n)
theorem pow_small {x i : Nat} (hx : x ≤ 24) (hi : i ≤ 4) : x ^ i ≤ 331776 := by
  refine Nat.le_trans (Nat.pow_le_pow_left hx i) ?_
  have : i = 0 ∨ i = 1 ∨ i = 2 ∨ i = 3 ∨ i = 4 := by omega
  rcases this with rfl | rfl | rfl | rfl | rfl <;> decide
theorem sc_power : FnScope ["x", "n", "out", "k"] ["x", "n"] (defScope s_power) := ⟨rfl, rfl, rfl, by decide +kernel, rfl, by decide +kernel, by decide +kernel⟩
theorem ok_power {f : Addr} {fd : FuncData} (F : Fun K "power" "power" s_power f fd) (bRange : mg "range" = none) : FnOk P w K mg base CX0 1 f fd ["x", "n"] (SpOf pPower) := by
  refine F.ok sc_power (fun vs H Q E h => ?_) (fun cdv A outer s H1 vs Q E hr h => ?_)
  · obtain ⟨H, P, e, ⟨n, m, rfl, _⟩, _⟩ := h
    rfl
  · obtain ⟨H, P, e, ⟨x, n, rfl, hx, hn, rfl⟩, ret⟩ := h
    refine ⟨_, pss_cons (ps_set (i := 2) sc_power.nd rfl (Or.inl rfl) pe_int)
      (pss_cons (ps_for PassesOwn.never rfl (pi_range1 (by rfl) bRange (pa_cons (pv 1) pa_nil)) (pg_name (i := 3) sc_power.nd rfl (Or.inl rfl))
        (pss_one (ps_set (i := 2) sc_power.nd rfl (Or.inl rfl) (pe_op op_mul (pv 2) (pv 0)))))
      (pss_one (ps_ret (pv 2)))), ?_⟩
    refine p_asg (Wd.start e) ep_c fun v Hk Ha w1 _ pv1 => ?_
    have pv1' : v = .int 1 := pv1
    subst pv1'
    refine p_forR (n := n) w1 (ep_var rfl rfl) (by omega) (fun i σ' H' => ∃ y, σ' = [some (.int x), some (.int n), some (.int ((x ^ i : Nat) : Int)), y] ∧ Wd H H1 Hk H') (fun Ha0 w2 _ => ⟨none, rfl, w2⟩) (fun i σ' H' hi q => ?_) (fun σ' H' q => ?_)
    · obtain ⟨y, rfl, w2⟩ := q
      have hp := pow_small hx (i := i) (by omega)
      refine (ep_I (σ := _) (i := ((x ^ i : Nat) : Int)) (j := (x : Int)) (ep_var rfl rfl) (ep_var rfl rfl) (Or.inl ⟨by omega, by omega⟩)) H' w2.b _ fun v Hk3 Ha3 w3 p3 => ?_
      have p3' : v = .int (((x ^ i : Nat) : Int) * (x : Int)) := p3
      subst p3'
      refine ⟨some (.int (i : Int)), ?_, w2.ext w3.c⟩
      rw [Nat.pow_succ, Int.natCast_mul]
      rfl
    · obtain ⟨y, rfl, w2⟩ := q
      exact p_ret w2 (ep_var rfl rfl) ret rfl

/-! ### square -/
def pSquare (vs : List V) (_ : Hp) (P : As) : Prop := ∃ m : Nat, vs = [.int m] ∧ 2 ≤ m ∧ m ≤ 4 ∧ P = Rl RP (sq m)
theorem sc_square : FnScope ["m", "k"] ["m"] (defScope s_square) := ⟨rfl, rfl, rfl, by decide +kernel, rfl, by decide +kernel, by decide +kernel⟩
theorem ok_square {f : Addr} {fd : FuncData} (F : Fun K "square" "square" s_square f fd) (bRange : mg "range" = none) : FnOk P w K mg base CX0 1 f fd ["m"] (SpOf pSquare) := by
  refine F.ok sc_square (fun vs H Q E h => ?_) (fun cdv A outer s H1 vs Q E hr h => ?_)
  · obtain ⟨H, P, e, ⟨m, rfl, _⟩, _⟩ := h
    rfl
  · obtain ⟨H, P, e, ⟨m, rfl, hm1, hm2, rfl⟩, ret⟩ := h
    refine ⟨_, pss_one (ps_ret (pe_lc (own := [("k", 1)]) (g := gName 1) (tt := tYes) rfl sc_square.nd (pi_range1 (by rfl) bRange (pa_cons (pe_op op_mul (pv 0) (pv 0)) pa_nil)) (blkOk_by (by kernel_rfl))
      (fun _ _ _ _ _ => pg_name (i := 1) sc_square.nd rfl (Or.inl rfl)) (fun _ _ _ _ _ => pts_nil)
      (fun _ _ _ _ _ => pe_tup (pa_cons (pe_op op_fdiv (pv 1) (pv 0)) (pa_cons (pe_op op_sub (pv 1) (pe_op op_mul (pe_op op_fdiv (pv 1) (pv 0)) (pv 0))) pa_nil))))), ?_⟩
    have hmm : m * m ≤ 16 := Nat.mul_le_mul hm2 hm2
    have hd : ∀ σ2 : L2.St, σ2 = [some (.int m), none] → ∀ (i : Nat) Hk, i < m * m → EvP (tOp (rI CDiv fun i j => .int (i / j)) (tVar 1) (tVar 0)) (σ2.set 1 (some (.int (i : Int)))) Hk (Rn (i / m)) := fun σ2 e2 i Hk hi => by
      subst e2
      exact ep_is (ep_I (i := (i : Int)) (j := (m : Int)) (ep_var rfl rfl) (ep_var rfl rfl) ⟨by omega, by omega⟩) (congrArg V.int (Int.natCast_ediv i m).symm)
    have hc := ep_lcR (S := RP) (σ := start ["m", "k"] [.int (m : Int)]) (H := H) (vs := [1]) (j := 1) (n := m * m) (tt := tYes) (fun _ => true) (fun k => (k / m, k - k / m * m)) (ep_is (ep_I (g := fun i j => V.int (i * j)) (C := CMul) (i := (m : Int)) (j := (m : Int)) (ta := tVar 0) (tb := tVar 0) (ep_var rfl rfl) (ep_var rfl rfl) (Or.inl ⟨by omega, by omega⟩)) (congrArg V.int (Int.natCast_mul m m).symm)) (by omega) (fun _ => rfl) (fun _ _ _ _ => et_yes)
      (fun i Hk hi e1 _ => ep_pair (R := Rn) (S := Rn) (hd _ rfl i Hk hi) (ep_is (ep_I0 (g := fun i j => V.int (i - j)) (ta := tVar 1) (i := (i : Int)) (j := ((i / m * m : Nat) : Int)) (ep_var rfl rfl) (ep_is (ep_I (g := fun i j => V.int (i * j)) (C := CMul) (tb := tVar 0) (i := ((i / m : Nat) : Int)) (j := (m : Int)) (hd _ rfl i Hk hi) (ep_var rfl rfl) (Or.inr ⟨by omega, by omega⟩)) (congrArg V.int (Int.natCast_mul _ _).symm))) (congrArg V.int (Int.ofNat_sub (Nat.div_mul_le_self i m)).symm)))
    rw [outs_all] at hc
    exact p_ret (Wd.start e) hc ret rfl

/-! ### digits -/
def pDigits (vs : List V) (_ : Hp) (P : As) : Prop := ∃ k n c : Nat, vs = [.int k, .int n, .int c] ∧ 0 < c ∧ c ≤ 24 ∧ k ≤ 1000000 ∧ n ≤ 4 ∧ P = RO (digs c n k)
theorem sc_digits : FnScope ["k", "n", "count", "out", "i"] ["k", "n", "count"] (defScope s_digits) := ⟨rfl, rfl, rfl, by decide +kernel, rfl, by decide +kernel, by decide +kernel⟩
theorem ok_digits {f : Addr} {fd : FuncData} (F : Fun K "digits" "digits" s_digits f fd) (bRange : mg "range" = none) : FnOk P w K mg base CX0 1 f fd ["k", "n", "count"] (SpOf pDigits) := by
  refine F.ok sc_digits (fun vs H Q E h => ?_) (fun cdv A outer s H1 vs Q E hr h => ?_)
  · obtain ⟨H, P, e, ⟨k, n, c, rfl, _⟩, _⟩ := h
    rfl
  · obtain ⟨H, P, e, ⟨k, n, c, rfl, hc0, hc, hk0, hn, rfl⟩, ret⟩ := h
    refine ⟨_, pss_cons (ps_set (i := 3) sc_digits.nd rfl (Or.inl rfl) (pe_lst pa_nil))
      (pss_cons (ps_for PassesOwn.never rfl (pi_range1 (by rfl) bRange (pa_cons (pv 1) pa_nil)) (pg_name (i := 4) sc_digits.nd rfl (Or.inl rfl))
        (pss_cons (ps_expr (pe_bm PySem.F.plainAttrs_list PySem.F.slot_list_append PySem.F.type_list_append mt_append (pv 3) (pa_cons (pe_op op_sub (pv 0) (pe_op op_mul (pe_op op_fdiv (pv 0) (pv 2)) (pv 2))) pa_nil)))
        (pss_one (ps_set (i := 0) sc_digits.nd rfl (Or.inl rfl) (pe_op op_fdiv (pv 0) (pv 2))))))
      (pss_one (ps_ret (pv 3)))), ?_⟩
    refine p_newL (Wd.start e) fun l hk h1 w1 => ?_
    refine p_forR (n := n) w1 (ep_var rfl rfl) (by omega) (fun i σ' H' => ∃ y, σ' = [some (.int ((k / c ^ i : Nat) : Int)), some (.int n), some (.int c), some (.ref l), y] ∧ Wd H H1 H H' ∧ H' l = some (.lst (nv (digs c i k)))) (fun Ha0 w2 ex => ⟨none, ?_, w2, ex l _ upd_same⟩) (fun i σ' H' hi q => ?_) (fun σ' H' q => ?_)
    · rw [Nat.pow_zero, Nat.div_one]
      rfl
    · obtain ⟨y, rfl, w2, hl⟩ := q
      generalize hq : k / c ^ i = q at *
      have hq0 : q ≤ 1000000 := by rw [← hq]; exact Nat.le_trans (Nat.div_le_self _ _) hk0
      have hd : ∀ y2 Hk, EvP (tOp (rI CDiv fun i j => .int (i / j)) (tVar 0) (tVar 2)) [some (.int (q : Int)), some (.int n), some (.int c), some (.ref l), y2] Hk (Rn (q / c)) := fun y2 Hk =>
        ep_is (ep_I (i := (q : Int)) (j := (c : Int)) (ep_var rfl rfl) (ep_var rfl rfl) ⟨by omega, by omega⟩) (congrArg V.int (Int.natCast_ediv q c).symm)
      have hmod : q - q / c * c = q % c := by
        have := Nat.div_add_mod q c
        rw [Nat.mul_comm] at this
        omega
      have hv := ep_is (ep_I0 (H := H) (g := fun i j => V.int (i - j)) (ta := tVar 0) (i := (q : Int)) (j := ((q / c * c : Nat) : Int)) (ep_var (σ := [some (.int (q : Int)), some (.int n), some (.int c), some (.ref l), some (.int (i : Int))]) rfl rfl) (ep_is (ep_I (g := fun i j => V.int (i * j)) (C := CMul) (tb := tVar 2) (i := ((q / c : Nat) : Int)) (j := (c : Int)) (hd _ H) (ep_var rfl rfl) (Or.inr ⟨by omega, by omega⟩)) (congrArg V.int (Int.natCast_mul _ _).symm))) (congrArg V.int (Int.ofNat_sub (Nat.div_mul_le_self q c)).symm)
      refine ⟨_, rfl, Or.inl ⟨rfl, _, SqL.of hl⟩, hv H' w2.b _ fun v Hk3 Ha3 w3 p3 => ?_⟩
      have p3' : v = .int (((q - q / c * c : Nat) : Int)) := p3
      subst p3'
      have hl3 := w3.c l _ hl
      refine ⟨l, _, _, rfl, rfl, hl3, sz_lt (by rw [List.length_map, digs_len]; omega), ?_⟩
      have w4 : Wd H H1 H (upd Ha3 l (.lst (nv (digs c i k) ++ [.int (((q - q / c * c : Nat) : Int))]))) := (w2.ext w3.c).mut hk h1
      refine (hd _ H) _ w4.b _ fun v Hk5 Ha5 w5 p5 => ?_
      have p5' : v = .int ((q / c : Nat) : Int) := p5
      subst p5'
      refine ⟨some (.int (i : Int)), ?_, w4.ext w5.c, ?_⟩
      · rw [Nat.pow_succ, ← Nat.div_div_eq_div_mul, hq]
        rfl
      · rw [w5.c l _ upd_same, hmod, digs_snoc, hq]
        rw [nv_snoc]
    · obtain ⟨y, rfl, w2, hl⟩ := q
      exact p_retL (R := Rn) w2 hk h1 hl (pr_of _) rfl ret rfl

/-! ### longer, orders_of -/
def pLonger (vs : List V) (H : Hp) (P : As) : Prop := ∃ (ss : List (List Nat)) (v : V) (m : Nat), vs = [v, .int m] ∧ Rl RO ss v H ∧ m ≤ 4 ∧ ss.length ≤ 24 ∧ (∀ s ∈ ss, s.length ≤ 4) ∧ P = Rl RO (lon m ss)
theorem sc_longer : FnScope ["starts", "m", "out", "s", "x"] ["starts", "m"] (defScope s_longer) := ⟨rfl, rfl, rfl, by decide +kernel, rfl, by decide +kernel, by decide +kernel⟩
theorem ok_longer {f : Addr} {fd : FuncData} (F : Fun K "longer" "longer" s_longer f fd) (bRange : mg "range" = none) : FnOk P w K mg base CX0 1 f fd ["starts", "m"] (SpOf pLonger) := by
  refine F.ok sc_longer (fun vs H Q E h => ?_) (fun cdv A outer s H1 vs Q E hr h => ?_)
  · obtain ⟨H, P, e, ⟨ss, v, m, rfl, _⟩, _⟩ := h
    rfl
  · obtain ⟨H, P, e, ⟨ss, v, m, rfl, hv, hm, hss, hs4, rfl⟩, ret⟩ := h
    refine ⟨_, pss_cons (ps_set (i := 2) sc_longer.nd rfl (Or.inl rfl) (pe_lst pa_nil))
      (pss_cons (ps_for PassesOwn.never rfl (pi_list (pv 0)) (pg_name (i := 3) sc_longer.nd rfl (Or.inr rfl))
        (pss_one (ps_expr (pe_bm PySem.F.plainAttrs_list PySem.F.slot_list_extend PySem.F.type_list_extend mt_extend (pv 2) (pa_cons (pe_lc (own := [("x", 4)]) (g := gName 4) (tt := tTest (tOp (rIn K true) (tVar 4) (tVar 3))) rfl sc_longer.nd (pi_range1 (by rfl) bRange (pa_cons (pv 1) pa_nil)) (blkOk_by (by kernel_rfl))
          (fun _ _ _ _ _ => pg_name (i := 4) sc_longer.nd rfl (Or.inl rfl)) (fun _ _ _ _ _ => pts_one (pt_cmpR op_notIn_seq (pv 4) (pv 3) rfl)) (fun _ _ _ _ _ => pe_op op_cat (pv 3) (pe_lst (pa_cons (pv 4) pa_nil)))) pa_nil)))))
      (pss_one (ps_ret (pv 2)))), ?_⟩
    refine p_newL (Wd.start e) fun l hk h1 w1 => ?_
    refine p_forL (R := RO) (xs := ss) w1 (ep_var rfl hv) (fun i σ' Hk0 Ha0 H' => ∃ Hk2 zs y, σ' = [some v, some (.int m), some (.ref l), y, none] ∧ Wd H H1 Hk2 H' ∧ Ex Hk0 Hk2 ∧ Hk2 l = none ∧ H' l = some (.lst zs) ∧ Paired (fun x y => RO x y Hk2) (lon m (ss.take i)) zs)
      (fun i σ' Hk0 Ha0 H' q => ?_) (fun Hk0 Ha0 w2 u => ?_) (fun Hk0 Ha0 w2 u i s sv σ' H' hs hrs q => ?_) (fun Hk0 Ha0 σ' H' w2 u q => ?_)
    · obtain ⟨Hk2, zs, y, _, w3, e3, _⟩ := q
      exact e3.trans w3.b
    · obtain ⟨o1, o2⟩ := u.off hk upd_same
      exact ⟨Hk0, [], none, rfl, w2, Ex.refl _, o1, o2, .nil⟩
    · obtain ⟨Hk2, zs, y, rfl, w3, e3, hk2, hl, hp⟩ := q
      have hs2 : RO s sv Hk2 := MonoP.mono e3 hrs
      have hsl : s.length ≤ 4 := hs4 s (List.mem_of_getElem? hs)
      have hc := ep_lcR (S := RO) (σ := [some v, some (.int m), some (.ref l), some sv, none]) (H := Hk2) (vs := [4]) (j := 4) (n := m) (ta := tVar 1) (tt := tTest (tOp (rIn K true) (tVar 4) (tVar 3))) (te := tOp rCat (tVar 3) (tLst (tCons (tVar 4) tNil))) (fun x => !s.contains x) (fun x => s ++ [x]) (ep_var rfl rfl) (by omega) (fun _ => rfl)
        (fun i Hk hi e1 => et_of (ep_notin (ep_var rfl rfl) (ep_var rfl (MonoP.mono (P := RO s) e1 hs2))))
        (fun i Hk hi e1 _ => ep_cat (R := Rn) (ep_var rfl (MonoP.mono (P := RO s) e1 hs2)) (ep_one (R := Rn) (ep_var rfl rfl)) (by show s.length + 1 ≤ 100000; omega))
      refine ⟨_, rfl, Or.inl ⟨rfl, _, SqL.of hl⟩, hc H' w3.b _ fun z Hk4 Ha4 w4 p4 => ?_⟩
      obtain ⟨q, ws, rfl, hq, hpw⟩ := p4
      obtain ⟨hk4, hl4⟩ := w4.off hk2 hl
      have hlen : (lon m (ss.take i)).length ≤ 96 := by
        refine Nat.le_trans (lon_len _ _) ?_
        have h3 : (ss.take i).length ≤ 24 := by rw [List.length_take]; omega
        exact Nat.le_trans (Nat.mul_le_mul h3 hm) (by decide)
      have hlw : (outs (fun x => !s.contains x) (fun x => s ++ [x]) (List.range m)).length ≤ 4 := by
        unfold outs
        rw [List.length_map]
        refine Nat.le_trans (List.length_filter_le _ _) ?_
        rw [List.length_range]
        exact hm
      refine ⟨l, q, zs, ws, rfl, rfl, hl4, w4.b q _ hq, sz_of (by rw [← hp.length, ← hpw.length]; omega), ?_⟩
      refine ⟨Hk4, zs ++ ws, some sv, rfl, (w3.trans w4).mut hk4 h1, e3.trans w4.a, hk4, upd_same, ?_⟩
      rw [lon_more hs]
      exact pr_app (pr_imp hp fun a b _ r => MonoP.mono (P := RO a) w4.a r) hpw
    · obtain ⟨Hk2, zs, y, rfl, w3, e3, hk2, hl, hp⟩ := q
      rw [List.take_length] at hp
      exact p_retL (R := RO) w3 hk2 h1 hl hp rfl ret rfl
def pOrders (vs : List V) (_ : Hp) (P : As) : Prop := ∃ m : Nat, vs = [.int m] ∧ m ≤ 4 ∧ P = Rl RO (lonN m m)
theorem sc_orders_of : FnScope ["m", "out", "k"] ["m"] (defScope s_orders_of) := ⟨rfl, rfl, rfl, by decide +kernel, rfl, by decide +kernel, by decide +kernel⟩
theorem ok_orders_of {f f1 : Addr} {fd fd1 : FuncData} (F : Fun K "orders_of" "orders_of" s_orders_of f fd) (D1 : Dn K mg "longer" "longer" s_longer ["starts", "m"] f1 fd1) (bRange : mg "range" = none) : FnOk P w K mg base CX0 2 f fd ["m"] (SpOf pOrders) := by
  have G1 : FnOk P w K mg base CX0 1 f1 fd1 ["starts", "m"] (SpOf pLonger) := ok_longer D1.F bRange
  refine F.ok sc_orders_of (fun vs H Q E h => ?_) (fun cdv A outer s H1 vs Q E hr h => ?_)
  · obtain ⟨H, P, e, ⟨m, rfl, _⟩, _⟩ := h
    rfl
  · obtain ⟨H, P, e, ⟨m, rfl, hm, rfl⟩, ret⟩ := h
    refine ⟨_, pss_cons (ps_set (i := 1) sc_orders_of.nd rfl (Or.inl rfl) (pe_lst (pa_cons (pe_lst pa_nil) pa_nil)))
      (pss_cons (ps_for PassesOwn.never rfl (pi_range1 (by rfl) bRange (pa_cons (pv 0) pa_nil)) (pg_name (i := 2) sc_orders_of.nd rfl (Or.inl rfl))
        (pss_one (ps_set (i := 1) sc_orders_of.nd rfl (Or.inl rfl) (pe_call G1 (hr.mono (by decide)) rfl D1.g D1.F.kp D1.b .nil pass0 (pa_cons (pv 1) (pa_cons (pv 0) pa_nil))))))
      (pss_one (ps_ret (pv 1)))), ?_⟩
    refine p_asg (Wd.start e) (ep_one (R := RO) (x := []) ep_nil) fun v Hk Ha w1 _ p1 => ?_
    refine p_forR (n := m) w1 (ep_var rfl rfl) (by omega) (fun i σ' H' => ∃ Hk2 v y, σ' = [some (.int m), some v, y] ∧ Wd H H1 Hk2 H' ∧ Rl RO (lonN m i) v Hk2) (fun Ha0 w2 _ => ⟨Hk, v, none, rfl, w2, p1⟩) (fun i σ' H' hi q => ?_) (fun σ' H' q => ?_)
    · obtain ⟨Hk2, v2, y, rfl, w2, p2⟩ := q
      refine (ep_call2 (P1 := Rl RO (lonN m i)) (P2 := Rn m) (P := Rl RO (lonN m (i + 1))) (σ := [some (.int m), some v2, some (.int (i : Int))]) (ta := tVar 1) (tb := tVar 0) (ep_var rfl p2) (ep_var rfl rfl) fun x y Hk e1 q1 q2 => ?_) H' w2.b _ fun v3 Hk3 Ha3 w3 p3 => ?_
      · have q2' : y = .int m := q2
        subst q2'
        exact ⟨lonN m i, x, m, rfl, q1, hm, lonN_len hm (by omega), lonN_item hm (by omega), rfl⟩
      · exact ⟨Hk3, v3, some (.int (i : Int)), rfl, w2.trans w3, p3⟩
    · obtain ⟨Hk2, v2, y, rfl, w2, p2⟩ := q
      exact p_ret w2 (ep_var rfl p2) ret rfl

/-! ### prefers -/
def pPrefers (vs : List V) (H : Hp) (P : As) : Prop := ∃ (o : List Nat) (v : V) (a b : Nat), vs = [v, .int a, .int b] ∧ RO o v H ∧ a ∈ o ∧ b ∈ o ∧ P = Rb (decide (Sa92.place o a < Sa92.place o b))
theorem sc_prefers : FnScope ["order", "a", "b"] ["order", "a", "b"] (defScope s_prefers) := ⟨rfl, rfl, rfl, by decide +kernel, rfl, by decide +kernel, by decide +kernel⟩
theorem ok_prefers {f : Addr} {fd : FuncData} (F : Fun K "prefers" "prefers" s_prefers f fd) : FnOk P w K mg base CX0 1 f fd ["order", "a", "b"] (SpOf pPrefers) := by
  refine F.ok sc_prefers (fun vs H Q E h => ?_) (fun cdv A outer s H1 vs Q E hr h => ?_)
  · obtain ⟨H, P, e, ⟨o, v, a, b, rfl, _⟩, _⟩ := h
    rfl
  · obtain ⟨H, P, e, ⟨o, v, a, b, rfl, hv, ha, hb, rfl⟩, ret⟩ := h
    refine ⟨_, pss_one (ps_ret (pe_cmpR op_lt (pe_bm PySem.F.plainAttrs_list PySem.F.slot_list_index PySem.F.type_list_index mt_index (pv 0) (pa_cons (pv 1) pa_nil)) (pe_bm PySem.F.plainAttrs_list PySem.F.slot_list_index PySem.F.type_list_index mt_index (pv 0) (pa_cons (pv 2) pa_nil)) (nomark _))), ?_⟩
    refine p_ret (Wd.start e) (ep_is (ep_I0 (ep_index (K := K) (ep_var rfl hv) (ep_var rfl rfl) ha) (ep_index (K := K) (ep_var rfl hv) (ep_var rfl rfl) hb)) (congrArg V.bl (decide_eq_decide.mpr ?_))) ret rfl
    unfold Sa92.place
    omega

/-! ### Wishes: how one lies in the heap -/
structure Txt (K : PySem.W.Frag) (mg : Str → Option Value) (C : Addr) : Prop where
  cl : Cls K C
  nV : NoAttr K C "voters"
  nO : NoAttr K C "options"
  nR : NoAttr K C "orders"
  nC : NoAttr K C "cases"
  gC : mg "Wishes" = some (.ref C)
theorem lk_here {k : Str} {v : V} {r : List (Str × V)} : List.lookup k ((k, v) :: r) = some v := by
  have e : (k == k) = true := beq_self_eq_true k
  simp only [List.lookup, e]
theorem lk_past {k g : Str} {v : V} {r : List (Str × V)} (h : (k == g) = false) : List.lookup k ((g, v) :: r) = List.lookup k r := by
  simp only [List.lookup, h]
theorem put_past {f g : Str} {v x : V} {r : List (Str × V)} (h : ¬ g = f) : putF f v ((g, x) :: r) = (g, x) :: putF f v r := if_neg h
def wF1 (a : V) : List (Str × V) := [("voters", a)]
def wF2 (a b : V) : List (Str × V) := [("voters", a), ("options", b)]
def wF3 (a b c : V) : List (Str × V) := [("voters", a), ("options", b), ("orders", c)]
def wF (a b c d : V) : List (Str × V) := [("voters", a), ("options", b), ("orders", c), ("cases", d)]
theorem put1 {a : V} : putF "voters" a [] = wF1 a := rfl
theorem put2 {a b : V} : putF "options" b (wF1 a) = wF2 a b := (put_past (by decide +kernel)).trans rfl
theorem put3 {a b c : V} : putF "orders" c (wF2 a b) = wF3 a b c := (put_past (by decide +kernel)).trans (congrArg _ ((put_past (by decide +kernel)).trans rfl))
theorem put4 {a b c d : V} : putF "cases" d (wF3 a b c) = wF a b c d := (put_past (by decide +kernel)).trans (congrArg _ ((put_past (by decide +kernel)).trans (congrArg _ ((put_past (by decide +kernel)).trans rfl))))
theorem lk3_orders {a b c : V} : (wF3 a b c).lookup ("orders" : Str) = some c := (lk_past (by decide +kernel)).trans ((lk_past (by decide +kernel)).trans lk_here)
theorem lk_voters {a b c d : V} : (wF a b c d).lookup ("voters" : Str) = some a := lk_here
theorem lk_options {a b c d : V} : (wF a b c d).lookup ("options" : Str) = some b := (lk_past (by decide +kernel)).trans lk_here
theorem lk_orders {a b c d : V} : (wF a b c d).lookup ("orders" : Str) = some c := (lk_past (by decide +kernel)).trans ((lk_past (by decide +kernel)).trans lk_here)
theorem lk_cases {a b c d : V} : (wF a b c d).lookup ("cases" : Str) = some d := (lk_past (by decide +kernel)).trans ((lk_past (by decide +kernel)).trans ((lk_past (by decide +kernel)).trans lk_here))
theorem lk_none {a b c d : V} {m : Str} (h1 : (m == "voters") = false) (h2 : (m == "options") = false) (h3 : (m == "orders") = false) (h4 : (m == "cases") = false) : (wF a b c d).lookup m = none :=
  (lk_past h1).trans ((lk_past h2).trans ((lk_past h3).trans ((lk_past h4).trans rfl)))
/-- an object of the class for n voters, m options -/
def WA (C : Addr) (n m : Nat) : As := fun v H => ∃ x dx vo vc, v = .ref x ∧ H x = some (.ins C dx (wF (.int (n : Int)) (.int (m : Int)) vo vc)) ∧ Rl RO (Sa92.orders m) vo H ∧ Rl RO (casesL n m) vc H
instance : MonoP (WA C n m) := ⟨fun e h => by
  obtain ⟨x, dx, vo, vc, h1, h2, h3, h4⟩ := h
  exact ⟨x, dx, vo, vc, h1, e x _ h2, MonoP.mono e h3, MonoP.mono e h4⟩⟩
theorem wa_meth {n m : Nat} {f : Str} {v : V} {H : Hp} (h1 : (f == "voters") = false) (h2 : (f == "options") = false) (h3 : (f == "orders") = false) (h4 : (f == "cases") = false) (h : WA C n m v H) : ∃ a dx fl, v = .ref a ∧ H a = some (.ins C dx fl) ∧ fl.lookup f = none := by
  obtain ⟨x, dx, vo, vc, e1, e2, _⟩ := h
  exact ⟨x, dx, _, e1, e2, lk_none h1 h2 h3 h4⟩
theorem ep_voters {H : Hp} {σ : L2.St} {ta : TE} {n m : Nat} (T : Txt K mg C) (ha : EvP ta σ H (WA C n m)) : EvP (tFld K ta "voters") σ H (Rn n) := fun H1 e Q ret => ha H1 e _ fun v Hk Ha w p => by
  obtain ⟨x, dx, vo, vc, rfl, h2, h3, h4⟩ := p
  exact ⟨x, C, dx, _, _, rfl, w.b x _ h2, T.cl, T.nV, lk_voters, (ret.go w).now w.b rfl⟩
theorem ep_options {H : Hp} {σ : L2.St} {ta : TE} {n m : Nat} (T : Txt K mg C) (ha : EvP ta σ H (WA C n m)) : EvP (tFld K ta "options") σ H (Rn m) := fun H1 e Q ret => ha H1 e _ fun v Hk Ha w p => by
  obtain ⟨x, dx, vo, vc, rfl, h2, h3, h4⟩ := p
  exact ⟨x, C, dx, _, _, rfl, w.b x _ h2, T.cl, T.nO, lk_options, (ret.go w).now w.b rfl⟩
theorem ep_orders {H : Hp} {σ : L2.St} {ta : TE} {n m : Nat} (T : Txt K mg C) (ha : EvP ta σ H (WA C n m)) : EvP (tFld K ta "orders") σ H (Rl RO (Sa92.orders m)) := fun H1 e Q ret => ha H1 e _ fun v Hk Ha w p => by
  obtain ⟨x, dx, vo, vc, rfl, h2, h3, h4⟩ := p
  exact ⟨x, C, dx, _, _, rfl, w.b x _ h2, T.cl, T.nR, lk_orders, (ret.go w).now w.b h3⟩
theorem ep_cases {H : Hp} {σ : L2.St} {ta : TE} {n m : Nat} (T : Txt K mg C) (ha : EvP ta σ H (WA C n m)) : EvP (tFld K ta "cases") σ H (Rl RO (casesL n m)) := fun H1 e Q ret => ha H1 e _ fun v Hk Ha w p => by
  obtain ⟨x, dx, vo, vc, rfl, h2, h3, h4⟩ := p
  exact ⟨x, C, dx, _, _, rfl, w.b x _ h2, T.cl, T.nC, lk_cases, (ret.go w).now w.b h4⟩
theorem ep_known {H : Hp} {σ : L2.St} {te : TE} {v : V} {P : As} [MonoP P] (h : EvP te σ H (Rv v)) (p : P v H) : EvP te σ H P := ep_imp h fun u H' e q => by
  have q' : u = v := q
  rw [q']
  exact MonoP.mono e p
/-- without one address -/
def del (H : Hp) (x : Addr) : Hp := fun b => if b = x then none else H b
theorem del_same {H : Hp} {x : Addr} : del H x x = none := if_pos rfl
theorem del_ne {H : Hp} {x b : Addr} (h : b ≠ x) : del H x b = H b := if_neg h
theorem del_some {H : Hp} {x b : Addr} {o : HO} (h : del H x b = some o) : b ≠ x ∧ H b = some o := by
  unfold del at h
  by_cases e : b = x
  · rw [if_pos e] at h
    cases h
  · rw [if_neg e] at h
    exact ⟨e, h⟩
/-- lists lean on lists alone -/
theorem ro_lists {H H' : Hp} (k : ∀ b ys, H b = some (.lst ys) → H' b = some (.lst ys)) {xss : List (List Nat)} {v : V} (h : Rl RO xss v H) : Rl RO xss v H' := by
  obtain ⟨p, ys, h1, h2, h3⟩ := h
  refine ⟨p, ys, h1, k p _ h2, pr_imp h3 fun a b _ r => ?_⟩
  obtain ⟨q, e1, e2⟩ := ro_at r
  rw [e1]
  exact ro_of (k q _ e2)
/-- __init__'s promise: x stands among what there is, not among what is known -/
def spInit (C : Addr) : Sp := fun vs H1 Q _ => ∃ (H : Hp) (n m : Nat) (x dx : Addr), Ex H H1 ∧ vs = [.ref x, .int (n : Int), .int (m : Int)] ∧ Ok n m ∧ H x = none ∧ H1 x = some (.ins C dx []) ∧
  ∀ Hk Ha vo vc, Wd H (del H1 x) Hk Ha → Hk x = none → Ha x = some (.ins C dx (wF (.int (n : Int)) (.int (m : Int)) vo vc)) → Rl RO (Sa92.orders m) vo Hk → Rl RO (casesL n m) vc Hk → Q .non Ha
theorem ep_make {H : Hp} {σ : L2.St} {ta tb : TE} {n m : Nat} {E : XK} (ok : Ok n m) (ha : EvP ta σ H (Rn n)) (hb : EvP tb σ H (Rn m)) : EvP (tMake C (spInit C) [] E (tCons ta (tCons tb tNil))) σ H (WA C n m) := fun H1 e Q ret =>
  (ev_ep ha) H1 e _ fun H2 e2 => (ev_ep hb) H2 (e.trans e2) _ fun H3 e3 => fun x dx hx hdx hne => by
    have w0 := (Wd.start e).ext (e2.trans e3)
    have hx0 : H x = none := fresh_back w0.b hx
    have hdx0 : H dx = none := fresh_back w0.b hdx
    have e4 : Ex H3 (upd (upd H3 dx (.own x)) x (.ins C dx [])) := fun b o q => by
      rw [upd_ne (ne_of_none q hx), upd_ne (ne_of_none q hdx)]
      exact q
    refine ⟨H, n, m, x, dx, w0.b.trans e4, rfl, ok, hx0, upd_same, fun Hk Ha vo vc w hk hax ho hc => ⟨rfl, ?_⟩⟩
    refine ret (.ref x) (upd Hk x (.ins C dx (wF (.int (n : Int)) (.int (m : Int)) vo vc))) Ha ⟨w.a.trans (Ex.new hk), fun b o q => ?_, fun b o q => ?_, fun b o q q1 => ?_⟩ ⟨x, dx, vo, vc, rfl, upd_same, MonoP.mono (Ex.new hk) ho, MonoP.mono (Ex.new hk) hc⟩
    · by_cases hb : b = x
      · rw [hb, upd_same] at q
        rw [hb, hax]
        exact q
      · rw [upd_ne hb] at q
        exact w.b b o q
    · have q3 := w0.c b o q
      refine w.c b o ?_
      rw [del_ne (ne_of_none q3 hx)]
      exact e4 b o q3
    · have q3 := w0.c b o q1
      rw [upd_ne (ne_of_none q3 hx)]
      exact w.d b o q (by rw [del_ne (ne_of_none q3 hx)]; exact e4 b o q3)
theorem sc_m_init : FnScope ["self", "n", "m", "k"] ["self", "n", "m"] (defScope s_m_init) := ⟨rfl, rfl, rfl, by decide +kernel, rfl, by decide +kernel, by decide +kernel⟩
theorem ok_m_init {f f1 f2 f3 f4 : Addr} {fd fd1 fd2 fd3 fd4 : FuncData} (F : Fun K "__init__" "Wishes.__init__" s_m_init f fd) (T : Txt K mg C) (D1 : Dn K mg "longer" "longer" s_longer ["starts", "m"] f1 fd1) (D2 : Dn K mg "orders_of" "orders_of" s_orders_of ["m"] f2 fd2)
    (D3 : Dn K mg "power" "power" s_power ["x", "n"] f3 fd3) (D4 : Dn K mg "digits" "digits" s_digits ["k", "n", "count"] f4 fd4) (bRange : mg "range" = none) (bLen : mg "len" = none) : FnOk P w K mg base CX0 3 f fd ["self", "n", "m"] (spInit C) := by
  have G2 : FnOk P w K mg base CX0 2 f2 fd2 ["m"] (SpOf pOrders) := ok_orders_of D2.F D1 bRange
  have G3 : FnOk P w K mg base CX0 1 f3 fd3 ["x", "n"] (SpOf pPower) := ok_power D3.F bRange
  have G4 : FnOk P w K mg base CX0 1 f4 fd4 ["k", "n", "count"] (SpOf pDigits) := ok_digits D4.F bRange
  refine F.ok sc_m_init (fun vs H Q E h => ?_) (fun cdv A outer s H1 vs Q E hr h => ?_)
  · obtain ⟨H, n, m, x, dx, _, rfl, _⟩ := h
    rfl
  · obtain ⟨H, n, m, x, dx, e, rfl, ok, hx, h1x, k⟩ := h
    refine ⟨_, pss_cons (ps_fld (pv 0) (pv 1) rfl) (pss_cons (ps_fld (pv 0) (pv 2) rfl) (pss_cons (ps_fld (pv 0) (pe_call G2 (hr.mono (by decide)) rfl D2.g D2.F.kp D2.b .nil pass0 (pa_cons (pv 2) pa_nil)) rfl)
      (pss_one (ps_fld (pv 0) (pe_lc (own := [("k", 3)]) (g := gName 3) (tt := tYes) rfl sc_m_init.nd (pi_range1 (by rfl) bRange (pa_cons (pe_call G3 (hr.mono (by decide)) rfl D3.g D3.F.kp D3.b .nil pass0 (pa_cons (pe_callB call_len_seq (by rfl) bLen boot_len (pa_cons (pe_fld (pv 0) rfl) pa_nil)) (pa_cons (pv 1) pa_nil))) pa_nil)) (blkOk_by (by kernel_rfl))
        (fun _ _ _ _ _ => pg_name (i := 3) sc_m_init.nd rfl (Or.inl rfl)) (fun _ _ _ _ _ => pts_nil)
        (te := tCall (SpOf pDigits) [] E0 (tCons (tVar 3) (tCons (tVar 1) (tCons (tCB (rLenS K) (tCons (tFld K (tVar 0) "orders") tNil)) tNil))))
        (fun _ _ _ _ _ => pe_call G4 (hr.mono (by decide)) rfl D4.g D4.F.kp D4.b .nil pass0 (pa_cons (pv 3) (pa_cons (pv 1) (pa_cons (pe_callB call_len_seq (by rfl) bLen boot_len (pa_cons (pe_fld (pv 0) rfl) pa_nil)) pa_nil))))) rfl)))), ?_⟩
    obtain ⟨hm1, hm2, hn1, hn2, hmn⟩ := id ok
    have hmany := many_pos hm1 hm2
    have w0 : Wd H (del H1 x) H H1 := ⟨Ex.refl _, e, fun b o q => (del_some q).2, fun b o q _ => q⟩
    -- self.voters = n
    refine ⟨_, rfl, _, rfl, x, C, dx, _, rfl, h1x, T.cl, T.nV, (by show 0 < 1000; decide), ?_⟩
    rw [put1]
    have w1 := w0.mut (o := .ins C dx (wF1 (.int (n : Int)))) hx del_same
    -- self.options = m
    refine ⟨_, rfl, _, rfl, x, C, dx, _, rfl, upd_same, T.cl, T.nO, (by show 1 < 1000; decide), ?_⟩
    rw [put2]
    have w2 := w1.mut (o := .ins C dx (wF2 (.int (n : Int)) (.int (m : Int)))) hx del_same
    -- self.orders = orders_of(m)
    refine (ep_call1 (P1 := Rn m) (P := Rl RO (Sa92.orders m)) (H := H) (ep_var rfl rfl) fun y Hk e1 p => ⟨m, by rw [show y = V.int (m : Int) from p], hm2, by rw [lonN_all hm1 hm2]⟩) _ w2.b _ fun vo Hk3 Ha3 w3 p3 => ?_
    obtain ⟨hk3, hx3⟩ := w3.off hx upd_same
    refine ⟨_, rfl, x, C, dx, _, rfl, hx3, T.cl, T.nR, (by show 2 < 1000; decide), ?_⟩
    rw [put3]
    have w4 := (w2.trans w3).mut (o := .ins C dx (wF3 (.int (n : Int)) (.int (m : Int)) vo)) hk3 del_same
    -- self.cases = [..]: while it is made, x is known as it stands
    have ho5 : Rl RO (Sa92.orders m) vo (upd Hk3 x (.ins C dx (wF3 (.int (n : Int)) (.int (m : Int)) vo))) := MonoP.mono (Ex.new hk3) p3
    have e5 : Ex (upd Hk3 x (.ins C dx (wF3 (.int (n : Int)) (.int (m : Int)) vo))) (upd Ha3 x (.ins C dx (wF3 (.int (n : Int)) (.int (m : Int)) vo))) := ex_upd w3.b
    have hlen : ∀ (σ2 : L2.St) (Hk : Hp), σ2[0]? = some (some (V.ref x)) → Ex (upd Hk3 x (.ins C dx (wF3 (.int (n : Int)) (.int (m : Int)) vo))) Hk → EvP (tCB (rLenS K) (tCons (tFld K (tVar 0) "orders") tNil)) σ2 Hk (Rn (Sa92.many m)) := fun σ2 Hk h0 eq =>
      ep_len (R := RO) (ep_known (ep_fld T.cl T.nR (ep_var (P := Ins C (wF3 (.int (n : Int)) (.int (m : Int)) vo)) h0 ⟨x, dx, rfl, eq x _ upd_same⟩) lk3_orders) (MonoP.mono (P := Rl RO (Sa92.orders m)) eq ho5))
    have hcs : Sa92.cases n m ≤ 13824 := cases_le ok
    have hc := ep_lcR (S := RO) (σ := [some (.ref x), some (.int (n : Int)), some (.int (m : Int)), none]) (H := upd Hk3 x (.ins C dx (wF3 (.int (n : Int)) (.int (m : Int)) vo))) (vs := [3]) (j := 3) (n := Sa92.cases n m) (ta := tCall (SpOf pPower) [] E0 (tCons (tCB (rLenS K) (tCons (tFld K (tVar 0) "orders") tNil)) (tCons (tVar 1) tNil))) (tt := tYes)
      (te := tCall (SpOf pDigits) [] E0 (tCons (tVar 3) (tCons (tVar 1) (tCons (tCB (rLenS K) (tCons (tFld K (tVar 0) "orders") tNil)) tNil)))) (fun _ => true) (caseL n m)
      (ep_call2 (P1 := Rn (Sa92.many m)) (P2 := Rn n) (hlen _ _ rfl (Ex.refl _)) (ep_var rfl rfl) fun a b Hk e1 p1 p2 => ⟨Sa92.many m, n, by rw [show a = V.int _ from p1, show b = V.int _ from p2], hmany.2, hn2, rfl⟩) (by omega) (fun _ => rfl) (fun _ _ _ _ => et_yes)
      (fun i Hk hi e1 _ => ep_call3 (P1 := Rn i) (P2 := Rn n) (P3 := Rn (Sa92.many m)) (ep_var rfl rfl) (ep_var rfl rfl) (hlen _ _ rfl e1) fun a b c Hk e1 p1 p2 p3 => ⟨i, n, Sa92.many m, by rw [show a = V.int _ from p1, show b = V.int _ from p2, show c = V.int _ from p3], by omega, hmany.2, by omega, hn2, rfl⟩)
    rw [outs_all] at hc
    show sFld K (tVar 0) (tLc (iRng1 (tCons (tCall (SpOf pPower) [] E0 (tCons (tCB (rLenS K) (tCons (tFld K (tVar 0) "orders") tNil)) (tCons (tVar 1) tNil))) tNil)) (gName 3) tYes (tCall (SpOf pDigits) [] E0 (tCons (tVar 3) (tCons (tVar 1) (tCons (tCB (rLenS K) (tCons (tFld K (tVar 0) "orders") tNil)) tNil)))) [3]) "cases" _ [some (.ref x), some (.int (n : Int)), some (.int (m : Int)), none] _
    unfold sFld
    refine hc _ e5 _ fun vc Hk6 Ha6 w6 p6 => ?_
    have hx6 : Ha6 x = some (.ins C dx (wF3 (.int (n : Int)) (.int (m : Int)) vo)) := w6.c x _ upd_same
    have hx6k : Hk6 x = some (.ins C dx (wF3 (.int (n : Int)) (.int (m : Int)) vo)) := w6.a x _ upd_same
    refine ⟨_, rfl, x, C, dx, _, rfl, hx6, T.cl, T.nC, (by show 3 < 1000; decide), ?_⟩
    rw [put4]
    have hk_lists : ∀ b ys, Hk6 b = some (.lst ys) → del Hk6 x b = some (.lst ys) := fun b ys q => by
      rw [del_ne (ne_of q hx6k (by intro z; cases z))]
      exact q
    refine k (del Hk6 x) _ vo vc ⟨fun b o q => ?_, fun b o q => ?_, fun b o q => ?_, fun b o q q1 => ?_⟩ del_same upd_same (ro_lists hk_lists (MonoP.mono w6.a ho5)) (ro_lists hk_lists p6)
    · have hb := ne_of_none q hx
      rw [del_ne hb]
      refine w6.a b o ?_
      rw [upd_ne hb]
      exact w3.a b o q
    · obtain ⟨hb, q2⟩ := del_some q
      rw [upd_ne hb]
      exact w6.b b o q2
    · obtain ⟨hb, q2⟩ := del_some q
      rw [upd_ne hb]
      refine w6.c b o ?_
      exact w4.c b o q
    · obtain ⟨hb, q2⟩ := del_some q1
      rw [del_ne hb]
      refine w6.d b o ?_ (w4.c b o q1)
      rw [upd_ne hb]
      exact w4.d b o q q1

theorem sc_m_wish : FnScope ["self", "case", "voter"] ["self", "case", "voter"] (defScope s_m_wish) := ⟨rfl, rfl, rfl, by decide +kernel, rfl, by decide +kernel, by decide +kernel⟩
def pWish (C : Addr) (vs : List V) (H : Hp) (P : As) : Prop := ∃ (n m : Nat) (v u : V) (cs : List Nat) (i d : Nat), vs = [v, u, .int (i : Int)] ∧ WA C n m v H ∧ RO cs u H ∧ cs[i]? = some d ∧ d < Sa92.many m ∧ P = RO (Sa92.order m d)
theorem ok_m_wish {f : Addr} {fd : FuncData} (F : Fun K "wish" "Wishes.wish" s_m_wish f fd) (T : Txt K mg C) : FnOk P w K mg base CX0 1 f fd ["self", "case", "voter"] (SpOf (pWish C)) := by
  refine F.ok sc_m_wish (fun vs H Q E h => ?_) (fun cdv A outer s H1 vs Q E hr h => ?_)
  · obtain ⟨H, P, e, ⟨n, m, v, u, cs, i, d, rfl, _⟩, _⟩ := h
    rfl
  · obtain ⟨H, P, e, ⟨n, m, v, u, cs, i, d, rfl, hv, hu, hd, hdm, rfl⟩, ret⟩ := h
    refine ⟨_, pss_one (ps_ret (pe_ix ix_list (pe_fld (pv 0) rfl) (pe_ix ix_list (pv 1) (pv 2) (fun _ _ => rfl)) (fun _ _ => rfl))), ?_⟩
    exact p_ret (Wd.start e) (ep_ix (K := K) (R := RO) (ep_orders T (ep_var rfl hv)) (ep_ix (K := K) (R := Rn) (ep_var rfl hu) (ep_var rfl rfl) hd) (order_at hdm)) ret rfl
/-- w.wish(case, i) -/
theorem ep_wish {H : Hp} {σ : L2.St} {ta tb tc : TE} {n m i d : Nat} {cs : List Nat} {E : XK} (ha : EvP ta σ H (WA C n m)) (hb : EvP tb σ H (RO cs)) (hc : EvP tc σ H (Rn i)) (hd : cs[i]? = some d) (hdm : d < Sa92.many m) : EvP (tMeth C "wish" (SpOf (pWish C)) [] E ta (tCons tb (tCons tc tNil))) σ H (RO (Sa92.order m d)) :=
  ep_meth2 (fun v H' h => wa_meth (by decide +kernel) (by decide +kernel) (by decide +kernel) (by decide +kernel) h) ha hb hc fun x y z Hk e1 p0 p1 p2 => ⟨n, m, x, y, cs, i, d, by rw [show z = V.int _ from p2], p0, p1, hd, hdm, rfl⟩

theorem sc_m_pairs : FnScope ["self", "a", "b"] ["self"] (defScope s_m_pairs) := ⟨rfl, rfl, rfl, by decide +kernel, rfl, by decide +kernel, by decide +kernel⟩
def pPairs (C : Addr) (vs : List V) (H : Hp) (P : As) : Prop := ∃ (n m : Nat) (v : V), vs = [v] ∧ 2 ≤ m ∧ m ≤ 4 ∧ WA C n m v H ∧ P = Rl RP (Sa92.pairs m)
theorem ok_m_pairs {f f1 : Addr} {fd fd1 : FuncData} (F : Fun K "pairs" "Wishes.pairs" s_m_pairs f fd) (T : Txt K mg C) (D1 : Dn K mg "square" "square" s_square ["m"] f1 fd1) (bRange : mg "range" = none) : FnOk P w K mg base CX0 2 f fd ["self"] (SpOf (pPairs C)) := by
  have G1 : FnOk P w K mg base CX0 1 f1 fd1 ["m"] (SpOf pSquare) := ok_square D1.F bRange
  refine F.ok sc_m_pairs (fun vs H Q E h => ?_) (fun cdv A outer s H1 vs Q E hr h => ?_)
  · obtain ⟨H, P, e, ⟨n, m, v, rfl, _⟩, _⟩ := h
    rfl
  · obtain ⟨H, P, e, ⟨n, m, v, rfl, hm1, hm2, hv, rfl⟩, ret⟩ := h
    refine ⟨_, pss_one (ps_ret (pe_lc (own := [("a", 1), ("b", 2)]) (g := gTup K 2 (gCons (gName 1) (gCons (gName 2) gNil))) (tt := tTest (tOp rNe (tVar 1) (tVar 2))) rfl sc_m_pairs.nd (pi_list (pe_call G1 (hr.mono (by decide)) rfl D1.g D1.F.kp D1.b .nil pass0 (pa_cons (pe_fld (pv 0) rfl) pa_nil))) (blkOk_by (by kernel_rfl))
      (fun _ _ _ _ _ => pg_tup rfl (pgs_cons (pg_name (i := 1) sc_m_pairs.nd rfl (Or.inl rfl)) (pgs_cons (pg_name (i := 2) sc_m_pairs.nd rfl (Or.inl rfl)) pgs_nil))) (fun _ _ _ _ _ => pts_one (pt_cmpR op_ne (pv 1) (pv 2) (nomark _))) (fun _ _ _ _ _ => pe_tup (pa_cons (pv 1) (pa_cons (pv 2) pa_nil))))), ?_⟩
    have hsq : (sq m).length ≤ 16 := by
      unfold sq
      rw [List.length_map, List.length_range]
      exact Nat.mul_le_mul hm2 hm2
    have hc := ep_lc (K := K) (R := RP) (S := RP) (H := H) (σ := start ["self", "a", "b"] [v]) (xs := sq m) (vs := [1, 2]) (g := gTup K 2 (gCons (gName 1) (gCons (gName 2) gNil))) (tt := tTest (tOp rNe (tVar 1) (tVar 2))) (te := tTup (tCons (tVar 1) (tCons (tVar 2) tNil))) (tl := tCall (SpOf pSquare) [] E0 (tCons (tFld K (tVar 0) "options") tNil)) (fun x => x.1 != x.2) (fun x => x)
      (ep_call1 (P1 := Rn m) (ep_options T (ep_var rfl hv)) fun x Hk e1 p => ⟨m, by rw [show x = V.int _ from p], hm1, hm2, rfl⟩) (by omega)
      (tn_pair (R1 := Rn) (R2 := Rn) (fun _ _ => rfl) (fun x u1 u2 Hk hx e1 r1 r2 => by
        have r1' : u1 = .int (x.1 : Int) := r1
        have r2' : u2 = .int (x.2 : Int) := r2
        subst r1' r2'
        refine et_of (ep_is (ep_rv (ep_var (P := Rv (.int (x.1 : Int))) rfl rfl) (ep_var (P := Rv (.int (x.2 : Int))) rfl rfl) fun _ => rv_ne rfl) (congrArg V.bl ?_))
        rw [dec_int]
        rw [Bool.eq_iff_iff]
        simp
        omega) (fun x u1 u2 Hk hx e1 r1 r2 _ => by
        have r1' : u1 = .int (x.1 : Int) := r1
        have r2' : u2 = .int (x.2 : Int) := r2
        subst r1' r2'
        exact ep_pair (R := Rn) (S := Rn) (a := x.1) (b := x.2) (ep_var rfl rfl) (ep_var rfl rfl)))
    have e1 : outs (fun x : Nat × Nat => x.1 != x.2) (fun x => x) (sq m) = Sa92.pairs m := by
      unfold outs
      rw [sq_pairs hm1 hm2, List.map_id']
    rw [e1] at hc
    exact p_ret (Wd.start e) hc ret rfl
/-- w.pairs() -/
theorem ep_pairs {H : Hp} {σ : L2.St} {ta : TE} {n m : Nat} {E : XK} (hm1 : 2 ≤ m) (hm2 : m ≤ 4) (ha : EvP ta σ H (WA C n m)) : EvP (tMeth C "pairs" (SpOf (pPairs C)) [] E ta tNil) σ H (Rl RP (Sa92.pairs m)) :=
  ep_meth0 (fun v H' h => wa_meth (by decide +kernel) (by decide +kernel) (by decide +kernel) (by decide +kernel) h) ha fun x Hk e1 p0 => ⟨n, m, x, rfl, hm1, hm2, p0, rfl⟩

/-! ### said_of -/
def pSaid (C : Addr) (vs : List V) (H : Hp) (P : As) : Prop := ∃ (n m : Nat) (v cv pv : V) (cs : List Nat), vs = [v, cv, pv] ∧ 2 ≤ m ∧ m ≤ 4 ∧ n ≤ 4 ∧ WA C n m v H ∧ RO cs cv H ∧ cs.length = n ∧ (∀ d ∈ cs, d < Sa92.many m) ∧ Rl RP (Sa92.pairs m) pv H ∧ P = Rl (Rl Rb) (saidC n m cs)
theorem sc_said_of : FnScope ["w", "case", "pairs", "a", "b", "i"] ["w", "case", "pairs"] (defScope s_said_of) := ⟨rfl, rfl, rfl, by decide +kernel, rfl, by decide +kernel, by decide +kernel⟩
theorem ok_said_of {f m2 e2 : Addr} {fd md2 ed2 : FuncData} (F : Fun K "said_of" "said_of" s_said_of f fd) (T : Txt K mg C) (MW : Mn K C "wish" "Wishes.wish" s_m_wish ["self", "case", "voter"] m2 md2) (DF : Dn K mg "prefers" "prefers" s_prefers ["order", "a", "b"] e2 ed2) (bRange : mg "range" = none) : FnOk P w K mg base CX0 2 f fd ["w", "case", "pairs"] (SpOf (pSaid C)) := by
  have GW : FnOk P w K mg base CX0 1 m2 md2 ["self", "case", "voter"] (SpOf (pWish C)) := ok_m_wish MW.F T
  have GF : FnOk P w K mg base CX0 1 e2 ed2 ["order", "a", "b"] (SpOf pPrefers) := ok_prefers DF.F
  refine F.ok sc_said_of (fun vs H Q E h => ?_) (fun cdv A outer s H1 vs Q E hr h => ?_)
  · obtain ⟨H, P, e, ⟨n, m, v, cv, pv, cs, rfl, _⟩, _⟩ := h
    rfl
  · obtain ⟨H, P, e, ⟨n, m, v, cv, pv, cs, rfl, hm1, hm2, hn2, hv, hc, hcl, hcd, hp, rfl⟩, ret⟩ := h
    refine ⟨_, pss_one (ps_ret (pe_lc (own := [("a", 3), ("b", 4)]) (g := gTup K 2 (gCons (gName 3) (gCons (gName 4) gNil))) (tt := tYes) (te := tLc (iRng1 (tCons (tFld K (tVar 0) "voters") tNil)) (gName 5) tYes (tCall (SpOf pPrefers) [] E0 (tCons (tMeth C "wish" (SpOf (pWish C)) [] E0 (tVar 0) (tCons (tVar 1) (tCons (tVar 5) tNil))) (tCons (tVar 3) (tCons (tVar 4) tNil)))) [5]) rfl sc_said_of.nd (pi_list (L2.pv 2)) (blkOk_by (by kernel_rfl))
      (fun _ _ _ _ _ => pg_tup rfl (pgs_cons (pg_name (i := 3) sc_said_of.nd rfl (Or.inr rfl)) (pgs_cons (pg_name (i := 4) sc_said_of.nd rfl (Or.inr rfl)) pgs_nil))) (fun _ _ _ _ _ => pts_nil)
      (fun _ _ _ _ _ => pe_lc (own := [("i", 5)]) (g := gName 5) (tt := tYes) (te := tCall (SpOf pPrefers) [] E0 (tCons (tMeth C "wish" (SpOf (pWish C)) [] E0 (tVar 0) (tCons (tVar 1) (tCons (tVar 5) tNil))) (tCons (tVar 3) (tCons (tVar 4) tNil)))) rfl sc_said_of.nd (pi_range1 (by rfl) bRange (pa_cons (pe_fld (L2.pv 0) rfl) pa_nil)) (blkOk_by (by kernel_rfl))
        (fun _ _ _ _ _ => pg_name (i := 5) sc_said_of.nd rfl (Or.inl rfl)) (fun _ _ _ _ _ => pts_nil)
        (fun _ _ _ _ _ => pe_call GF (hr.mono (by decide)) rfl DF.g DF.F.kp DF.b .nil pass0 (pa_cons (pe_meth (L2.pv 0) T.cl MW.M GW (hr.mono (by decide)) MW.b .nil pass0 (pa_cons (L2.pv 1) (pa_cons (L2.pv 5) pa_nil))) (pa_cons (L2.pv 3) (pa_cons (L2.pv 4) pa_nil))))))), ?_⟩
    have hpl := pairs_len hm1 hm2
    have h1 := ep_lc (K := K) (R := RP) (S := Rl Rb) (H := H) (σ := start ["w", "case", "pairs", "a", "b", "i"] [v, cv, pv]) (xs := Sa92.pairs m) (vs := [3, 4]) (g := gTup K 2 (gCons (gName 3) (gCons (gName 4) gNil))) (tt := tYes) (tl := tVar 2) (te := tLc (iRng1 (tCons (tFld K (tVar 0) "voters") tNil)) (gName 5) tYes (tCall (SpOf pPrefers) [] E0 (tCons (tMeth C "wish" (SpOf (pWish C)) [] E0 (tVar 0) (tCons (tVar 1) (tCons (tVar 5) tNil))) (tCons (tVar 3) (tCons (tVar 4) tNil)))) [5]) (fun _ => true) (fun x => (List.range n).map fun i => Sa92.prefers m (cs.getD i 0) x.1 x.2) (ep_var rfl hp) (by omega)
      (tn_pair (R1 := Rn) (R2 := Rn) (fun _ _ => rfl) (fun _ _ _ _ _ _ _ _ => et_yes) fun x u1 u2 Hk hx e1 r1 r2 _ => by
        have r1' : u1 = .int (x.1 : Int) := r1
        have r2' : u2 = .int (x.2 : Int) := r2
        subst r1' r2'
        have hxm := pairs_lt hm1 hm2 x hx
        have h2 := ep_lcR (S := Rb) (H := Hk) (σ := [some v, some cv, some pv, some (.int (x.1 : Int)), some (.int (x.2 : Int)), none]) (vs := [5]) (j := 5) (n := n) (tt := tYes) (ta := tFld K (tVar 0) "voters") (te := tCall (SpOf pPrefers) [] E0 (tCons (tMeth C "wish" (SpOf (pWish C)) [] E0 (tVar 0) (tCons (tVar 1) (tCons (tVar 5) tNil))) (tCons (tVar 3) (tCons (tVar 4) tNil)))) (fun _ => true) (fun i => Sa92.prefers m (cs.getD i 0) x.1 x.2) (ep_voters T (ep_var rfl (MonoP.mono (P := WA C n m) e1 hv))) (by omega) (fun _ => rfl) (fun _ _ _ _ => et_yes)
          (fun i Hk2 hi e2 _ => by
            have hil : i < cs.length := by omega
            have hg : cs[i]? = some (cs.getD i 0) := by
              rw [List.getD_eq_getElem?_getD, List.getElem?_eq_getElem hil]
              rfl
            have hgl := hcd _ (List.mem_of_getElem? hg)
            exact ep_call3 (P1 := RO (Sa92.order m (cs.getD i 0))) (P2 := Rn x.1) (P3 := Rn x.2) (ep_wish (cs := cs) (ep_var rfl (MonoP.mono (P := WA C n m) (e1.trans e2) hv)) (ep_var rfl (MonoP.mono (P := RO cs) (e1.trans e2) hc)) (ep_var rfl rfl) hg hgl) (ep_var rfl rfl) (ep_var rfl rfl)
              fun u b c Hk e1 q1 q2 q3 => ⟨_, u, x.1, x.2, by rw [show b = V.int _ from q2, show c = V.int _ from q3], q1, order_has hm1 hm2 hgl hxm.1, order_has hm1 hm2 hgl hxm.2, rfl⟩)
        rw [outs_all] at h2
        exact h2)
    rw [outs_all] at h1
    exact p_ret (Wd.start e) h1 ret rfl

/-! ### apart -/
def pApart (K : PySem.W.Frag) (vs : List V) (H : Hp) (P : As) : Prop := ∃ (n m : Int) (a : Addr) (l : List Int), vs = [.int n, .int m, .ref a] ∧ SqL K H a (l.map V.int) ∧ (∀ x ∈ l, 0 ≤ x) ∧ l.length ≤ 13824 ∧ PySa92.apart_asked n m l = true ∧ P = Zl (PySa92.apart n m l)
theorem sc_apart : FnScope ["n", "m", "table", "w", "pairs", "said", "comes", "p", "q", "k", "pair", "case", "v", "a", "b"] ["n", "m", "table"] (defScope s_apart) := ⟨rfl, rfl, rfl, by decide +kernel, rfl, by decide +kernel, by decide +kernel⟩
theorem ok_apart {f : Addr} {fd : FuncData} {t0 : Tok} {q1 q2 q3 q4 : Addr} {qd1 qd2 qd3 qd4 : FuncData} {fI g1 g2 g3 g4 : Addr} {fdI gd1 gd2 gd3 gd4 : FuncData} {m1 m2 e1 e2 e3 : Addr} {md1 md2 ed1 ed2 ed3 : FuncData} (F : Fun K "apart" "apart" s_apart f fd) (DG : Dn K mg "is_for_orders" "is_for_orders" s_is_for_orders ["n", "m", "table"] q1 qd1) (DW : Dn K mg "are_within" "are_within" s_are_within ["n", "m", "table", "most"] q2 qd2) (DC : Dn K mg "order_count" "order_count" s_order_count ["m"] q3 qd3) (DT : Dn K mg "is_told" "is_told" s_is_told ["n", "m"] q4 qd4) (bAll : mg "all" = none) (T : Txt K mg C) (MK : Mk K C fI) (MI : Mn K C "__init__" "Wishes.__init__" s_m_init ["self", "n", "m"] fI fdI) (DL : Dn K mg "longer" "longer" s_longer ["starts", "m"] g1 gd1) (DO : Dn K mg "orders_of" "orders_of" s_orders_of ["m"] g2 gd2) (DP : Dn K mg "power" "power" s_power ["x", "n"] g3 gd3) (DD : Dn K mg "digits" "digits" s_digits ["k", "n", "count"] g4 gd4) (bRange : mg "range" = none) (bLen : mg "len" = none) (MP : Mn K C "pairs" "Wishes.pairs" s_m_pairs ["self"] m1 md1) (MW : Mn K C "wish" "Wishes.wish" s_m_wish ["self", "case", "voter"] m2 md2) (DS : Dn K mg "square" "square" s_square ["m"] e1 ed1) (DF : Dn K mg "prefers" "prefers" s_prefers ["order", "a", "b"] e2 ed2) (DX : Dn K mg "said_of" "said_of" s_said_of ["w", "case", "pairs"] e3 ed3) (bEnum : mg "enumerate" = none)
    (gR : mg "REFUSED" = some (.int (-2) t0)) : FnOk P w K mg base CX0 5 f fd ["n", "m", "table"] (SpOf (pApart K)) := by
  have GG : FnOk P w K mg base CX0 3 q1 qd1 ["n", "m", "table"] (SpOf (pFor K)) := ok_is_for_orders DG.F DW DC DT bAll
  have GI : FnOk P w K mg base CX0 3 fI fdI ["self", "n", "m"] (spInit C) := ok_m_init MI.F T DL DO DP DD bRange bLen
  have GP : FnOk P w K mg base CX0 2 m1 md1 ["self"] (SpOf (pPairs C)) := ok_m_pairs MP.F T DS bRange
  have GF : FnOk P w K mg base CX0 1 e2 ed2 ["order", "a", "b"] (SpOf pPrefers) := ok_prefers DF.F
  have GX : FnOk P w K mg base CX0 2 e3 ed3 ["w", "case", "pairs"] (SpOf (pSaid C)) := ok_said_of DX.F T MW DF bRange
  refine F.ok sc_apart (fun vs H Q E h => ?_) (fun cdv A outer s H1 vs Q E hr h => ?_)
  · obtain ⟨H, P, e, ⟨n, m, a, t, rfl, _⟩, _⟩ := h
    rfl
  · obtain ⟨H, P, e, ⟨n, m, a, l, rfl, hs, hpos, hlen, hask, rfl⟩, ret⟩ := h
    refine ⟨_, pss_cons (ps_if (pt_not (pt_val (pe_call GG (hr.mono (by decide)) rfl DG.g DG.F.kp DG.b .nil pass0 (pa_cons (pv 0) (pa_cons (pv 1) (pa_cons (pv 2) pa_nil))))))
        (pss_one (ps_ret (pe_lst (pa_cons (pe_glob (v := .int (-2)) rfl gR ⟨_, rfl⟩) pa_nil)))) pss_nil)
      (pss_cons (ps_set (i := 3) sc_apart.nd rfl (Or.inr rfl) (pe_make MK GI (hr.mono (by decide)) rfl T.gC MI.b .nil pass0 (pa_cons (pv 0) (pa_cons (pv 1) pa_nil))))
      (pss_cons (ps_set (i := 4) sc_apart.nd rfl (Or.inr rfl) (pe_meth0 (pv 3) T.cl MP.M GP (hr.mono (by decide)) MP.b .nil pass0))
      (pss_cons (ps_setLc (i := 5) (own := [("case", 11)]) (g := gName 11) (tt := tYes) (te := tCall (SpOf (pSaid C)) [] E0 (tCons (tVar 3) (tCons (tVar 11) (tCons (tVar 4) tNil)))) (by rfl) sc_apart.nd rfl rfl (sw_true rfl rfl rfl (by decide +kernel)) (pi_list (pe_fld (pv 3) rfl)) (blkOk_by (by kernel_rfl))
        (fun _ _ _ _ _ => pg_name (i := 11) sc_apart.nd rfl (Or.inl rfl)) (fun _ _ _ _ _ => pts_nil)
        (fun _ _ _ _ _ => pe_call GX (hr.mono (by decide)) rfl DX.g DX.F.kp DX.b .nil pass0 (pa_cons (pv 3) (pa_cons (pv 11) (pa_cons (pv 4) pa_nil)))))
      (pss_cons (ps_setLc (i := 6) (own := [("v", 12)]) (g := gName 12) (tt := tYes) (te := tLc (iList K (tVar 4)) (gTup K 2 (gCons (gName 13) (gCons (gName 14) gNil))) tYes (tCall (SpOf pPrefers) [] E0 (tCons (tOp (rIxL K) (tFld K (tVar 3) "orders") (tVar 12)) (tCons (tVar 13) (tCons (tVar 14) tNil)))) [13, 14]) (by rfl) sc_apart.nd rfl rfl (sw_true rfl rfl rfl (by decide +kernel)) (pi_list (pv 2)) (blkOk_by (by kernel_rfl))
        (fun _ _ _ _ _ => pg_name (i := 12) sc_apart.nd rfl (Or.inr rfl)) (fun _ _ _ _ _ => pts_nil)
        (fun _ _ _ _ _ => pe_lc (own := [("a", 13), ("b", 14)]) (g := gTup K 2 (gCons (gName 13) (gCons (gName 14) gNil))) (tt := tYes) (te := tCall (SpOf pPrefers) [] E0 (tCons (tOp (rIxL K) (tFld K (tVar 3) "orders") (tVar 12)) (tCons (tVar 13) (tCons (tVar 14) tNil)))) rfl sc_apart.nd (pi_list (pv 4)) (blkOk_by (by kernel_rfl))
          (fun _ _ _ _ _ => pg_tup rfl (pgs_cons (pg_name (i := 13) sc_apart.nd rfl (Or.inl rfl)) (pgs_cons (pg_name (i := 14) sc_apart.nd rfl (Or.inl rfl)) pgs_nil))) (fun _ _ _ _ _ => pts_nil)
          (fun _ _ _ _ _ => pe_call GF (hr.mono (by decide)) rfl DF.g DF.F.kp DF.b .nil pass0 (pa_cons (pe_ix ix_list (pe_fld (pv 3) rfl) (pv 12) (fun _ _ => rfl)) (pa_cons (pv 13) (pa_cons (pv 14) pa_nil))))))
      (pss_cons (ps_for PassesOwn.never rfl (pi_range1 (by rfl) bRange (pa_cons (pe_callB call_len_seq (by rfl) bLen boot_len (pa_cons (pv 2) pa_nil)) pa_nil)) (pg_name (i := 7) sc_apart.nd rfl (Or.inl rfl))
        (pss_one (ps_for PassesOwn.never rfl (pi_range1 (by rfl) bRange (pa_cons (pe_callB call_len_seq (by rfl) bLen boot_len (pa_cons (pv 2) pa_nil)) pa_nil)) (pg_name (i := 8) sc_apart.nd rfl (Or.inl rfl))
          (pss_one (ps_for PassesOwn.never rfl (pi_enum (by rfl) bEnum (pa_cons (pv 4) pa_nil)) (pg_tup rfl (pgs_cons (pg_name (i := 9) sc_apart.nd rfl (Or.inl rfl)) (pgs_cons (pg_name (i := 10) sc_apart.nd rfl (Or.inl rfl)) pgs_nil)))
            (pss_one (ps_if (PW.pt (pw_and (pt_cmpR (op_eqD hr.units) (pe_ix ix_list (pe_ix ix_list (pv 5) (pv 7) (fun _ _ => rfl)) (pv 9) (fun _ _ => rfl)) (pe_ix ix_list (pe_ix ix_list (pv 5) (pv 8) (fun _ _ => rfl)) (pv 9) (fun _ _ => rfl)) (nomark _))
                (pw_and1 (pt_cmpR op_ne (pe_ix ix_list (pe_ix ix_list (pv 6) (pv 7) (fun _ _ => rfl)) (pv 9) (fun _ _ => rfl)) (pe_ix ix_list (pe_ix ix_list (pv 6) (pv 8) (fun _ _ => rfl)) (pv 9) (fun _ _ => rfl)) (nomark _)))))
              (pss_one (ps_ret (pe_lst (pa_cons pe_int (pa_cons (pv 7) (pa_cons (pv 8) (pa_cons (pe_ix ix_tup (pv 10) pe_int (fun _ _ => rfl)) (pa_cons (pe_ix ix_tup (pv 10) pe_int (fun _ _ => rfl)) pa_nil)))))))) pss_nil)))))))
      (pss_one (ps_ret (pe_lst (pa_cons pe_int pa_nil))))))))), ?_⟩
    have hl : (Sa92Neutral.nats l).length ≤ 13824 := by
      unfold Sa92Neutral.nats
      rw [List.length_map]
      exact hlen
    have hs2 : SqL K H a (nv (Sa92Neutral.nats l)) := by
      have e1 : nv (Sa92Neutral.nats l) = l.map V.int := by
        show (Sa92Neutral.nats l).map (V.int ∘ fun (n : Nat) => (n : Int)) = _
        rw [← List.map_map, nats_lt l hpos]
      rw [e1]
      exact hs
    have ht := apart_table hask
    have htb := tb_orders ht
    have hr2 := apart_is hask
    generalize Sa92Neutral.nats l = t at hl hs2 hr2 htb
    refine p_if (b := !(Sa92.sized n m && t.all fun x => decide ((x : Int) < ((Sa92.many m.toNat : Nat) : Int)))) (Wd.start e) (et_not (et_ofB (ep_call3 (ep_var (P := Rv (.int n)) rfl rfl) (ep_var (P := Rv (.int m)) rfl rfl) (ep_var (P := Rv (.ref a)) rfl rfl) fun x y z Hk e1 p1 p2 p3 => ⟨n, m, a, t, by rw [show x = V.int n from p1, show y = V.int m from p2, show z = V.ref a from p3], ex_l e1 hs2, by omega, rfl⟩))) (fun hb Ha2 w2 _ => ?_) (fun hb Ha2 w2 _ => ?_)
    · rw [Bool.not_eq_true'] at hb
      rw [hb, if_neg Bool.false_ne_true] at hr2
      rw [hr2] at ret
      exact p_ret w2 (ep_zl (ea_z ep_c ea_zn) (by show 1 ≤ 100000; decide)) ret rfl
    · rw [Bool.not_eq_false'] at hb
      obtain ⟨n1, m1, rfl, rfl, tb⟩ := htb hb
      rw [hb, if_pos rfl] at hr2
      have en : ((n1 : Int)).toNat = n1 := by omega
      have em : ((m1 : Int)).toNat = m1 := by omega
      rw [en, em] at hr2
      rw [hr2] at ret
      obtain ⟨hm1, hm2, hn1, hn2, hmn⟩ := id tb.ok
      have hmany := many_pos hm1 hm2
      have hcs : Sa92.cases n1 m1 ≤ 13824 := cases_le tb.ok
      refine p_asg (P0 := WA C n1 m1) w2 (ep_make tb.ok (ep_var rfl rfl) (ep_var rfl rfl)) fun wv Hk Ha w3 u3 pw => ?_
      have hs3 : SqL K Hk a (nv t) := ex_l w3.a hs2
      refine p_asg (P0 := Rl RP (Sa92.pairs m1)) w3 (ep_pairs hm1 hm2 (ep_var rfl pw)) fun pv Hk4 Ha4 w4 u4 pp4 => ?_
      have hpl := pairs_len hm1 hm2
      have pw4 : WA C n1 m1 wv Hk4 := MonoP.mono (P := WA C n1 m1) u4.a pw
      have hs4 : SqL K Hk4 a (nv t) := ex_l u4.a hs3
      -- said
      have hsaid := ep_lc (K := K) (R := RO) (S := Rl (Rl Rb)) (H := Hk4) (σ := [some (.int (n1 : Int)), some (.int (m1 : Int)), some (.ref a), some wv, some pv, none, none, none, none, none, none, none, none, none, none]) (xs := casesL n1 m1) (vs := [11]) (g := gName 11) (tt := tYes) (tl := tFld K (tVar 3) "cases") (te := tCall (SpOf (pSaid C)) [] E0 (tCons (tVar 3) (tCons (tVar 11) (tCons (tVar 4) tNil)))) (fun _ => true) (saidC n1 m1) (ep_cases T (ep_var rfl pw4)) (by rw [casesL_len]; omega)
        (tn_name (fun _ => rfl) (fun _ _ _ _ _ _ => et_yes) fun cs cv Hk hcs e1 hcv _ => by
          obtain ⟨p, _, rfl⟩ := List.mem_map.mp hcs
          exact ep_call3 (P1 := WA C n1 m1) (P2 := RO (caseL n1 m1 p)) (P3 := Rl RP (Sa92.pairs m1)) (ep_var rfl (MonoP.mono (P := WA C n1 m1) e1 pw4)) (ep_var rfl hcv) (ep_var rfl (MonoP.mono (P := Rl RP (Sa92.pairs m1)) e1 pp4))
            fun x y z Hk e1 q1 q2 q3 => ⟨n1, m1, x, y, z, caseL n1 m1 p, rfl, hm1, hm2, hn2, q1, q2, caseL_len _ _ _, caseL_lt hm1 hm2, q3, rfl⟩)
      rw [outs_all] at hsaid
      refine p_asg w4 hsaid fun sv Hk5 Ha5 w5 u5 ps5 => ?_
      have pw5 : WA C n1 m1 wv Hk5 := MonoP.mono (P := WA C n1 m1) u5.a pw4
      have pp5 : Rl RP (Sa92.pairs m1) pv Hk5 := MonoP.mono (P := Rl RP (Sa92.pairs m1)) u5.a pp4
      have hs5 : SqL K Hk5 a (nv t) := ex_l u5.a hs4
      -- comes
      have hcomes := ep_lcS (K := K) (R := Rn) (S := Rl Rb) (H := Hk5) (σ := [some (.int (n1 : Int)), some (.int (m1 : Int)), some (.ref a), some wv, some pv, some sv, none, none, none, none, none, none, none, none, none]) (xs := t) (vs := [12]) (g := gName 12) (tt := tYes) (tl := tVar 2) (te := tLc (iList K (tVar 4)) (gTup K 2 (gCons (gName 13) (gCons (gName 14) gNil))) tYes (tCall (SpOf pPrefers) [] E0 (tCons (tOp (rIxL K) (tFld K (tVar 3) "orders") (tVar 12)) (tCons (tVar 13) (tCons (tVar 14) tNil)))) [13, 14]) (fun _ => true) (comesC m1) (ep_var rfl rfl) hs5 (pr_of t) (by omega)
        (tn_name (fun _ => rfl) (fun _ _ _ _ _ _ => et_yes) fun v vv Hk hv e1 rv _ => by
          have rv' : vv = .int (v : Int) := rv
          subst rv'
          have hvm := tb.lt v hv
          have h2 := ep_lc (K := K) (R := RP) (S := Rb) (H := Hk) (σ := [some (.int (n1 : Int)), some (.int (m1 : Int)), some (.ref a), some wv, some pv, some sv, none, none, none, none, none, none, some (.int (v : Int)), none, none]) (xs := Sa92.pairs m1) (vs := [13, 14]) (g := gTup K 2 (gCons (gName 13) (gCons (gName 14) gNil))) (tt := tYes) (tl := tVar 4) (te := tCall (SpOf pPrefers) [] E0 (tCons (tOp (rIxL K) (tFld K (tVar 3) "orders") (tVar 12)) (tCons (tVar 13) (tCons (tVar 14) tNil)))) (fun _ => true) (fun x => Sa92.prefers m1 v x.1 x.2) (ep_var rfl (MonoP.mono (P := Rl RP (Sa92.pairs m1)) e1 pp5)) (by omega)
            (tn_pair (R1 := Rn) (R2 := Rn) (fun _ _ => rfl) (fun _ _ _ _ _ _ _ _ => et_yes) fun x u1 u2 Hk2 hx e2 r1 r2 _ => by
              have r1' : u1 = .int (x.1 : Int) := r1
              have r2' : u2 = .int (x.2 : Int) := r2
              subst r1' r2'
              have hxm := pairs_lt hm1 hm2 x hx
              exact ep_call3 (P1 := RO (Sa92.order m1 v)) (P2 := Rn x.1) (P3 := Rn x.2) (ep_ix (R := RO) (ep_orders T (ep_var rfl (MonoP.mono (P := WA C n1 m1) (e1.trans e2) pw5))) (ep_var rfl rfl) (order_at hvm)) (ep_var rfl rfl) (ep_var rfl rfl)
                fun u b c Hk e1 q1 q2 q3 => ⟨_, u, x.1, x.2, by rw [show b = V.int _ from q2, show c = V.int _ from q3], q1, order_has hm1 hm2 hvm hxm.1, order_has hm1 hm2 hvm hxm.2, rfl⟩)
          rw [outs_all] at h2
          exact h2)
      rw [outs_all] at hcomes
      refine p_asg w5 hcomes fun kv Hk6 Ha6 w6 u6 pk6 => ?_
      have ps6 : Rl (Rl (Rl Rb)) ((casesL n1 m1).map (saidC n1 m1)) sv Hk6 := MonoP.mono (P := Rl (Rl (Rl Rb)) ((casesL n1 m1).map (saidC n1 m1))) u6.a ps5
      have pp6 : Rl RP (Sa92.pairs m1) pv Hk6 := MonoP.mono (P := Rl RP (Sa92.pairs m1)) u6.a pp5
      have hs6 : SqL K Hk6 a (nv t) := ex_l u6.a hs5
      have htl := tb.len
      have hlen : ∀ (σ2 : L2.St), σ2[2]? = some (some (.ref a)) → EvP (tCB (rLenS K) (tCons (tVar 2) tNil)) σ2 Hk6 (Rn (Sa92.cases n1 m1)) := fun σ2 h2 => by
        have hh := ep_ev (ev_len (K := K) (ev_var h2) hs6)
        rw [List.length_map, htl] at hh
        exact hh
      let go : Nat → Nat → Nat × Nat → Option (List Nat) := fun p q x => Sa92.told (Sa92.hangs t n1 m1 p q x.1 x.2) [p, q, x.1, x.2]
      let gq : Nat → Nat → Option (List Nat) := fun p q => (Sa92.pairs m1).findSome? (go p q)
      let fo : Nat → Option (List Nat) := fun p => (List.range (Sa92.cases n1 m1)).findSome? (gq p)
      have hfo : Sa92.apartAt t n1 m1 = (List.range (Sa92.cases n1 m1)).findSome? fo := rfl
      refine r_forR (D := { nx := _, rt := _ }) (n := Sa92.cases n1 m1) w6 (hlen _ rfl) (by omega) (fun σ' => ∃ y7 y8 y9 y10, σ' = [some (.int (n1 : Int)), some (.int (m1 : Int)), some (.ref a), some wv, some pv, some sv, some kv, y7, y8, y9, y10, none, none, none, none]) (NoneTo (List.range (Sa92.cases n1 m1)) fo) ⟨_, _, _, _, rfl⟩ NoneTo.zero
        (fun Ha7 w7 p σ' hpc hσ hNT D' hD hnx => ?_) (fun Ha7 σ' w7 _ hσ hNT => ?_)
      · obtain ⟨y7, y8, y9, y10, rfl⟩ := hσ
        have hpr : (List.range (Sa92.cases n1 m1))[p]? = some p := by simp [hpc]
        obtain ⟨ht1, ht2⟩ := tb.get hpc
        refine r_forR (n := Sa92.cases n1 m1) w7 (hlen _ rfl) (by omega) (fun σ' => ∃ y8 y9 y10, σ' = [some (.int (n1 : Int)), some (.int (m1 : Int)), some (.ref a), some wv, some pv, some sv, some kv, some (.int (p : Int)), y8, y9, y10, none, none, none, none]) (NoneTo (List.range (Sa92.cases n1 m1)) (gq p)) ⟨_, _, _, rfl⟩ NoneTo.zero
          (fun Ha8 w8 q σ2 hqc hσ2 hNT2 D2 hD2 hnx2 => ?_) (fun Ha8 σ2 w8 x8 hσ2 hNT2 => ?_)
        · obtain ⟨y8, y9, y10, rfl⟩ := hσ2
          have hqr : (List.range (Sa92.cases n1 m1))[q]? = some q := by simp [hqc]
          obtain ⟨hu1, hu2⟩ := tb.get hqc
          refine r_forE (R := RP) (xs := Sa92.pairs m1) w8 (ep_var rfl pp6) (fun σ' => ∃ y9 y10, σ' = [some (.int (n1 : Int)), some (.int (m1 : Int)), some (.ref a), some wv, some pv, some sv, some kv, some (.int (p : Int)), some (.int (q : Int)), y9, y10, none, none, none, none]) (NoneTo (Sa92.pairs m1) (go p q)) ⟨_, _, rfl⟩ NoneTo.zero
            (fun Hk9 Ha9 w9 x9 k x xv σ3 hx hxv hσ3 hNT3 D3 hD3 hnx3 => ?_) (fun Ha9 σ3 w9 x9 hσ3 hNT3 => ?_)
          · obtain ⟨y9, y10, rfl⟩ := hσ3
            have hsaidAt : ∀ (i : Nat) (pc : Nat), pc < Sa92.cases n1 m1 → ([some (V.int (n1 : Int)), some (.int (m1 : Int)), some (.ref a), some wv, some pv, some sv, some kv, some (.int (p : Int)), some (.int (q : Int)), some (.int (k : Int)), some xv, none, none, none, none])[i]? = some (some (V.int (pc : Int))) → EvP (tOp (rIxL K) (tOp (rIxL K) (tVar 5) (tVar i)) (tVar 9)) [some (V.int (n1 : Int)), some (.int (m1 : Int)), some (.ref a), some wv, some pv, some sv, some kv, some (.int (p : Int)), some (.int (q : Int)), some (.int (k : Int)), some xv, none, none, none, none] Hk9 (Rl Rb ((List.range n1).map fun i => Sa92.prefers m1 ((caseL n1 m1 pc).getD i 0) x.1 x.2)) := fun i pc hpc hi =>
              ep_ix (R := Rl Rb) (j := k) (ep_ix (R := Rl (Rl Rb)) (j := pc) (ep_var rfl (MonoP.mono (P := Rl (Rl (Rl Rb)) ((casesL n1 m1).map (saidC n1 m1))) x9 ps6)) (ep_var hi rfl) (by rw [List.getElem?_map, casesL_at hpc]; rfl)) (ep_var rfl rfl) (saidC_at hx)
            have hcomesAt : ∀ (i : Nat) (pc : Nat), t[pc]? = some (Sa92.at_ t pc) → ([some (V.int (n1 : Int)), some (.int (m1 : Int)), some (.ref a), some wv, some pv, some sv, some kv, some (.int (p : Int)), some (.int (q : Int)), some (.int (k : Int)), some xv, none, none, none, none])[i]? = some (some (V.int (pc : Int))) → EvP (tOp (rIxL K) (tOp (rIxL K) (tVar 6) (tVar i)) (tVar 9)) [some (V.int (n1 : Int)), some (.int (m1 : Int)), some (.ref a), some wv, some pv, some sv, some kv, some (.int (p : Int)), some (.int (q : Int)), some (.int (k : Int)), some xv, none, none, none, none] Hk9 (Rb (Sa92.prefers m1 (Sa92.at_ t pc) x.1 x.2)) := fun i pc hpc hi =>
              ep_ix (R := Rb) (j := k) (ep_ix (R := Rl Rb) (j := pc) (ep_var rfl (MonoP.mono (P := Rl (Rl Rb) (t.map (comesC m1))) x9 pk6)) (ep_var hi rfl) (by rw [List.getElem?_map, hpc]; rfl)) (ep_var rfl rfl) (comesC_at hx)
            have hne := ep_is (ep_rv (r := rNe) (hcomesAt 7 p ht1 rfl) (hcomesAt 8 q hu1 rfl) fun _ => rv_ne rfl)
              (congrArg V.bl (show (!decide (V.bl (Sa92.prefers m1 (Sa92.at_ t p) x.1 x.2) = V.bl (Sa92.prefers m1 (Sa92.at_ t q) x.1 x.2))) = (!decide (Sa92.prefers m1 (Sa92.at_ t p) x.1 x.2 = Sa92.prefers m1 (Sa92.at_ t q) x.1 x.2)) by rw [dec_bl, Bool.beq_eq_decide_eq]))
            refine p_if1 (b := Sa92.hangs t n1 m1 p q x.1 x.2) w9 (et_is (et_and (et_of (ep_eqB (hsaidAt 7 p hpc rfl) (hsaidAt 8 q hqc rfl))) fun _ => et_of hne) hangs_is) (fun hb Ha10 w10 x10 => ?_) (fun hb Ha10 w10 x10 => ?_)
            · have hg : go p q x = some [p, q, x.1, x.2] := by
                show Sa92.told (Sa92.hangs t n1 m1 p q x.1 x.2) [p, q, x.1, x.2] = _
                rw [hb]
                rfl
              have ha : Sa92.apartAt t n1 m1 = some [p, q, x.1, x.2] := by
                rw [hfo]
                exact hNT.some hpr (hNT2.some hqr (hNT3.some hx hg))
              rw [ha, said_some] at ret
              exact p_ret w10 (ep_zl (l := 0 :: castL [p, q, x.1, x.2]) (ea_z ep_c (ea_z (ep_var rfl rfl) (ea_z (ep_var rfl rfl) (ea_z (ep_fst (R := Rn) (S := Rn) (ep_var rfl hxv) ep_c) (ea_z (ep_snd (R := Rn) (S := Rn) (ep_var rfl hxv) ep_c) ea_zn))))) (by show 5 ≤ 100000; decide)) ret (by rw [hD3, hD2]; exact hD)
            · refine hnx3 _ _ x10 ⟨_, _, rfl⟩ (hNT3.next hx ?_)
              show Sa92.told (Sa92.hangs t n1 m1 p q x.1 x.2) [p, q, x.1, x.2] = none
              rw [hb]
              rfl
          · obtain ⟨y9, y10, rfl⟩ := hσ3
            exact hnx2 _ _ x9 ⟨_, _, _, rfl⟩ (hNT2.next hqr hNT3.none)
        · obtain ⟨y8, y9, y10, rfl⟩ := hσ2
          exact hnx _ _ x8 ⟨_, _, _, _, rfl⟩ (hNT.next hpr (NoneTo.none (by rw [List.length_range]; exact hNT2)))
      · obtain ⟨y7, y8, y9, y10, rfl⟩ := hσ
        have ha : Sa92.apartAt t n1 m1 = none := by
          rw [hfo]
          exact NoneTo.none (by rw [List.length_range]; exact hNT)
        rw [ha, said_none] at ret
        exact p_ret (σ := [some (.int (n1 : Int)), some (.int (m1 : Int)), some (.ref a), some wv, some pv, some sv, some kv, y7, y8, y9, y10, none, none, none, none]) w7 (ep_zl (ea_z ep_c ea_zn) (by show 1 ≤ 100000; decide)) ret rfl
end
theorem all_mk {P : Program} {w : World} {K : PySem.W.Frag} {h : Heap} {mg : Str → Option Value} {fa C f_is_told f_are_within f_order_count f_is_for_orders f_power f_square f_digits f_longer f_orders_of f_prefers f_said_of f_apart m_init m_pairs m_wish : Addr} (X : K.In h) (G : h.Ns mainGlobals mg) (hfa : mg "apart" = some (.ref fa))
    {od_is_told an_is_told od_are_within an_are_within od_order_count an_order_count od_is_for_orders an_is_for_orders od_power an_power od_square an_square od_digits an_digits od_longer an_longer od_orders_of an_orders_of od_prefers an_prefers od_said_of an_said_of od_apart an_apart odm_init anm_init odm_pairs anm_pairs odm_wish anm_wish : Option Addr} {sl_is_told sl_are_within sl_order_count sl_is_for_orders sl_power sl_square sl_digits sl_longer sl_orders_of sl_prefers sl_said_of sl_apart slm_init slm_pairs slm_wish : Array (Option Value)} {oc_is_told kV_is_told dc_is_told pm_is_told cd_is_told ct_is_told oc_are_within kV_are_within dc_are_within pm_are_within cd_are_within ct_are_within oc_order_count kV_order_count dc_order_count pm_order_count cd_order_count ct_order_count oc_is_for_orders kV_is_for_orders dc_is_for_orders pm_is_for_orders cd_is_for_orders ct_is_for_orders oc_power kV_power dc_power pm_power cd_power ct_power oc_square kV_square dc_square pm_square cd_square ct_square oc_digits kV_digits dc_digits pm_digits cd_digits ct_digits oc_longer kV_longer dc_longer pm_longer cd_longer ct_longer oc_orders_of kV_orders_of dc_orders_of pm_orders_of cd_orders_of ct_orders_of oc_prefers kV_prefers dc_prefers pm_prefers cd_prefers ct_prefers oc_said_of kV_said_of dc_said_of pm_said_of cd_said_of ct_said_of oc_apart kV_apart dc_apart pm_apart cd_apart ct_apart ocm_init kVm_init dcm_init pmm_init cdm_init ctm_init ocm_pairs kVm_pairs dcm_pairs pmm_pairs cdm_pairs ctm_pairs ocm_wish kVm_wish dcm_wish pmm_wish cdm_wish ctm_wish : Value} {t0 : Tok}
    (a_is_told : PySem.W.nsIn K mainGlobals "is_told" = some (some (.ref f_is_told)))
    (l_is_told : K.lookup f_is_told = some ⟨oc_is_told, od_is_told, .func (PySem.W.fnOf "is_told" "is_told" (defArgs s_is_told) (defBody s_is_told) (defScope s_is_told) .none kV_is_told dc_is_told pm_is_told an_is_told cd_is_told ct_is_told), sl_is_told⟩)
    (c_is_told : PySem.W.codeIn K cd_is_told "is_told" = true)
    (k_is_told : PySem.W.keepIn K (.ref f_is_told) = true)
    (a_are_within : PySem.W.nsIn K mainGlobals "are_within" = some (some (.ref f_are_within)))
    (l_are_within : K.lookup f_are_within = some ⟨oc_are_within, od_are_within, .func (PySem.W.fnOf "are_within" "are_within" (defArgs s_are_within) (defBody s_are_within) (defScope s_are_within) .none kV_are_within dc_are_within pm_are_within an_are_within cd_are_within ct_are_within), sl_are_within⟩)
    (c_are_within : PySem.W.codeIn K cd_are_within "are_within" = true)
    (k_are_within : PySem.W.keepIn K (.ref f_are_within) = true)
    (a_order_count : PySem.W.nsIn K mainGlobals "order_count" = some (some (.ref f_order_count)))
    (l_order_count : K.lookup f_order_count = some ⟨oc_order_count, od_order_count, .func (PySem.W.fnOf "order_count" "order_count" (defArgs s_order_count) (defBody s_order_count) (defScope s_order_count) .none kV_order_count dc_order_count pm_order_count an_order_count cd_order_count ct_order_count), sl_order_count⟩)
    (c_order_count : PySem.W.codeIn K cd_order_count "order_count" = true)
    (k_order_count : PySem.W.keepIn K (.ref f_order_count) = true)
    (a_is_for_orders : PySem.W.nsIn K mainGlobals "is_for_orders" = some (some (.ref f_is_for_orders)))
    (l_is_for_orders : K.lookup f_is_for_orders = some ⟨oc_is_for_orders, od_is_for_orders, .func (PySem.W.fnOf "is_for_orders" "is_for_orders" (defArgs s_is_for_orders) (defBody s_is_for_orders) (defScope s_is_for_orders) .none kV_is_for_orders dc_is_for_orders pm_is_for_orders an_is_for_orders cd_is_for_orders ct_is_for_orders), sl_is_for_orders⟩)
    (c_is_for_orders : PySem.W.codeIn K cd_is_for_orders "is_for_orders" = true)
    (k_is_for_orders : PySem.W.keepIn K (.ref f_is_for_orders) = true)
    (a_power : PySem.W.nsIn K mainGlobals "power" = some (some (.ref f_power)))
    (l_power : K.lookup f_power = some ⟨oc_power, od_power, .func (PySem.W.fnOf "power" "power" (defArgs s_power) (defBody s_power) (defScope s_power) .none kV_power dc_power pm_power an_power cd_power ct_power), sl_power⟩)
    (c_power : PySem.W.codeIn K cd_power "power" = true)
    (k_power : PySem.W.keepIn K (.ref f_power) = true)
    (a_square : PySem.W.nsIn K mainGlobals "square" = some (some (.ref f_square)))
    (l_square : K.lookup f_square = some ⟨oc_square, od_square, .func (PySem.W.fnOf "square" "square" (defArgs s_square) (defBody s_square) (defScope s_square) .none kV_square dc_square pm_square an_square cd_square ct_square), sl_square⟩)
    (c_square : PySem.W.codeIn K cd_square "square" = true)
    (k_square : PySem.W.keepIn K (.ref f_square) = true)
    (a_digits : PySem.W.nsIn K mainGlobals "digits" = some (some (.ref f_digits)))
    (l_digits : K.lookup f_digits = some ⟨oc_digits, od_digits, .func (PySem.W.fnOf "digits" "digits" (defArgs s_digits) (defBody s_digits) (defScope s_digits) .none kV_digits dc_digits pm_digits an_digits cd_digits ct_digits), sl_digits⟩)
    (c_digits : PySem.W.codeIn K cd_digits "digits" = true)
    (k_digits : PySem.W.keepIn K (.ref f_digits) = true)
    (a_longer : PySem.W.nsIn K mainGlobals "longer" = some (some (.ref f_longer)))
    (l_longer : K.lookup f_longer = some ⟨oc_longer, od_longer, .func (PySem.W.fnOf "longer" "longer" (defArgs s_longer) (defBody s_longer) (defScope s_longer) .none kV_longer dc_longer pm_longer an_longer cd_longer ct_longer), sl_longer⟩)
    (c_longer : PySem.W.codeIn K cd_longer "longer" = true)
    (k_longer : PySem.W.keepIn K (.ref f_longer) = true)
    (a_orders_of : PySem.W.nsIn K mainGlobals "orders_of" = some (some (.ref f_orders_of)))
    (l_orders_of : K.lookup f_orders_of = some ⟨oc_orders_of, od_orders_of, .func (PySem.W.fnOf "orders_of" "orders_of" (defArgs s_orders_of) (defBody s_orders_of) (defScope s_orders_of) .none kV_orders_of dc_orders_of pm_orders_of an_orders_of cd_orders_of ct_orders_of), sl_orders_of⟩)
    (c_orders_of : PySem.W.codeIn K cd_orders_of "orders_of" = true)
    (k_orders_of : PySem.W.keepIn K (.ref f_orders_of) = true)
    (a_prefers : PySem.W.nsIn K mainGlobals "prefers" = some (some (.ref f_prefers)))
    (l_prefers : K.lookup f_prefers = some ⟨oc_prefers, od_prefers, .func (PySem.W.fnOf "prefers" "prefers" (defArgs s_prefers) (defBody s_prefers) (defScope s_prefers) .none kV_prefers dc_prefers pm_prefers an_prefers cd_prefers ct_prefers), sl_prefers⟩)
    (c_prefers : PySem.W.codeIn K cd_prefers "prefers" = true)
    (k_prefers : PySem.W.keepIn K (.ref f_prefers) = true)
    (a_said_of : PySem.W.nsIn K mainGlobals "said_of" = some (some (.ref f_said_of)))
    (l_said_of : K.lookup f_said_of = some ⟨oc_said_of, od_said_of, .func (PySem.W.fnOf "said_of" "said_of" (defArgs s_said_of) (defBody s_said_of) (defScope s_said_of) .none kV_said_of dc_said_of pm_said_of an_said_of cd_said_of ct_said_of), sl_said_of⟩)
    (c_said_of : PySem.W.codeIn K cd_said_of "said_of" = true)
    (k_said_of : PySem.W.keepIn K (.ref f_said_of) = true)
    (a_apart : PySem.W.nsIn K mainGlobals "apart" = some (some (.ref f_apart)))
    (l_apart : K.lookup f_apart = some ⟨oc_apart, od_apart, .func (PySem.W.fnOf "apart" "apart" (defArgs s_apart) (defBody s_apart) (defScope s_apart) .none kV_apart dc_apart pm_apart an_apart cd_apart ct_apart), sl_apart⟩)
    (c_apart : PySem.W.codeIn K cd_apart "apart" = true)
    (k_apart : PySem.W.keepIn K (.ref f_apart) = true)
    (aC : PySem.W.nsIn K mainGlobals "Wishes" = some (some (.ref C)))
    (am_init : PySem.W.findIn K (.ref C) "__init__" = some (some (.ref m_init)))
    (im_init : PySem.W.isFn K (.ref m_init) = true)
    (lm_init : K.lookup m_init = some ⟨ocm_init, odm_init, .func (PySem.W.fnOf "__init__" "Wishes.__init__" (defArgs s_m_init) (defBody s_m_init) (defScope s_m_init) .none kVm_init dcm_init pmm_init anm_init cdm_init ctm_init), slm_init⟩)
    (cm_init : PySem.W.codeIn K cdm_init "Wishes.__init__" = true)
    (km_init : PySem.W.keepIn K (.ref m_init) = true)
    (am_pairs : PySem.W.findIn K (.ref C) "pairs" = some (some (.ref m_pairs)))
    (im_pairs : PySem.W.isFn K (.ref m_pairs) = true)
    (lm_pairs : K.lookup m_pairs = some ⟨ocm_pairs, odm_pairs, .func (PySem.W.fnOf "pairs" "Wishes.pairs" (defArgs s_m_pairs) (defBody s_m_pairs) (defScope s_m_pairs) .none kVm_pairs dcm_pairs pmm_pairs anm_pairs cdm_pairs ctm_pairs), slm_pairs⟩)
    (cm_pairs : PySem.W.codeIn K cdm_pairs "Wishes.pairs" = true)
    (km_pairs : PySem.W.keepIn K (.ref m_pairs) = true)
    (am_wish : PySem.W.findIn K (.ref C) "wish" = some (some (.ref m_wish)))
    (im_wish : PySem.W.isFn K (.ref m_wish) = true)
    (lm_wish : K.lookup m_wish = some ⟨ocm_wish, odm_wish, .func (PySem.W.fnOf "wish" "Wishes.wish" (defArgs s_m_wish) (defBody s_m_wish) (defScope s_m_wish) .none kVm_wish dcm_wish pmm_wish anm_wish cdm_wish ctm_wish), slm_wish⟩)
    (cm_wish : PySem.W.codeIn K cdm_wish "Wishes.wish" = true)
    (km_wish : PySem.W.keepIn K (.ref m_wish) = true)
    (pg : PySem.W.plainGet K C Str.empty = true)
    (hd : PySem.W.hasDictIn K C = true)
    (po : PySem.W.plainOver K C = true)
    (sa : PySem.W.findIn K (.ref C) "__setattr__" = some (some (.builtin "object.__setattr__")))
    (mk : PySem.W.makesIn K C = true)
    (kc : PySem.W.keepIn K (.ref C) = true)
    (n_voters : PySem.W.findIn K (.ref C) "voters" = some none)
    (n_options : PySem.W.findIn K (.ref C) "options" = some none)
    (n_orders : PySem.W.findIn K (.ref C) "orders" = some none)
    (n_cases : PySem.W.findIn K (.ref C) "cases" = some none)
    (b_all : PySem.W.nsIn K mainGlobals "all" = some none)
    (b_range : PySem.W.nsIn K mainGlobals "range" = some none)
    (b_len : PySem.W.nsIn K mainGlobals "len" = some none)
    (b_enumerate : PySem.W.nsIn K mainGlobals "enumerate" = some none)
    (aR : PySem.W.nsIn K mainGlobals "REFUSED" = some (some (.int (-2) t0))) :
    ∃ fd : FuncData, (∀ (s : Shared) (us : List Value), us.length = (["n", "m", "table"] : List Str).length → BindsTo s fd ⟨us, []⟩ ((["n", "m", "table"] : List Str).zip us)) ∧ ∀ base : Heap, K.In base → base.Ns mainGlobals mg → FnOk P w K mg base CX0 5 fa fd ["n", "m", "table"] (SpOf (pApart K)) := by
  have e := hfa.symm.trans (PySem.W.mg_of X G a_apart)
  cases e
  have D_is_told : Dn K mg "is_told" "is_told" s_is_told ["n", "m"] f_is_told _ := ⟨fun_mk (st := s_is_told) l_is_told c_is_told k_is_told, PySem.W.mg_of X G a_is_told, (fun_mk (st := s_is_told) l_is_told c_is_told k_is_told).binds (ps := ["n", "m"]) fun _ _ _ _ _ _ us hl => match us, hl with | [_, _], _ => rfl⟩
  have D_are_within : Dn K mg "are_within" "are_within" s_are_within ["n", "m", "table", "most"] f_are_within _ := ⟨fun_mk (st := s_are_within) l_are_within c_are_within k_are_within, PySem.W.mg_of X G a_are_within, (fun_mk (st := s_are_within) l_are_within c_are_within k_are_within).binds (ps := ["n", "m", "table", "most"]) fun _ _ _ _ _ _ us hl => match us, hl with | [_, _, _, _], _ => rfl⟩
  have D_order_count : Dn K mg "order_count" "order_count" s_order_count ["m"] f_order_count _ := ⟨fun_mk (st := s_order_count) l_order_count c_order_count k_order_count, PySem.W.mg_of X G a_order_count, (fun_mk (st := s_order_count) l_order_count c_order_count k_order_count).binds (ps := ["m"]) fun _ _ _ _ _ _ us hl => match us, hl with | [_], _ => rfl⟩
  have D_is_for_orders : Dn K mg "is_for_orders" "is_for_orders" s_is_for_orders ["n", "m", "table"] f_is_for_orders _ := ⟨fun_mk (st := s_is_for_orders) l_is_for_orders c_is_for_orders k_is_for_orders, PySem.W.mg_of X G a_is_for_orders, (fun_mk (st := s_is_for_orders) l_is_for_orders c_is_for_orders k_is_for_orders).binds (ps := ["n", "m", "table"]) fun _ _ _ _ _ _ us hl => match us, hl with | [_, _, _], _ => rfl⟩
  have D_power : Dn K mg "power" "power" s_power ["x", "n"] f_power _ := ⟨fun_mk (st := s_power) l_power c_power k_power, PySem.W.mg_of X G a_power, (fun_mk (st := s_power) l_power c_power k_power).binds (ps := ["x", "n"]) fun _ _ _ _ _ _ us hl => match us, hl with | [_, _], _ => rfl⟩
  have D_square : Dn K mg "square" "square" s_square ["m"] f_square _ := ⟨fun_mk (st := s_square) l_square c_square k_square, PySem.W.mg_of X G a_square, (fun_mk (st := s_square) l_square c_square k_square).binds (ps := ["m"]) fun _ _ _ _ _ _ us hl => match us, hl with | [_], _ => rfl⟩
  have D_digits : Dn K mg "digits" "digits" s_digits ["k", "n", "count"] f_digits _ := ⟨fun_mk (st := s_digits) l_digits c_digits k_digits, PySem.W.mg_of X G a_digits, (fun_mk (st := s_digits) l_digits c_digits k_digits).binds (ps := ["k", "n", "count"]) fun _ _ _ _ _ _ us hl => match us, hl with | [_, _, _], _ => rfl⟩
  have D_longer : Dn K mg "longer" "longer" s_longer ["starts", "m"] f_longer _ := ⟨fun_mk (st := s_longer) l_longer c_longer k_longer, PySem.W.mg_of X G a_longer, (fun_mk (st := s_longer) l_longer c_longer k_longer).binds (ps := ["starts", "m"]) fun _ _ _ _ _ _ us hl => match us, hl with | [_, _], _ => rfl⟩
  have D_orders_of : Dn K mg "orders_of" "orders_of" s_orders_of ["m"] f_orders_of _ := ⟨fun_mk (st := s_orders_of) l_orders_of c_orders_of k_orders_of, PySem.W.mg_of X G a_orders_of, (fun_mk (st := s_orders_of) l_orders_of c_orders_of k_orders_of).binds (ps := ["m"]) fun _ _ _ _ _ _ us hl => match us, hl with | [_], _ => rfl⟩
  have D_prefers : Dn K mg "prefers" "prefers" s_prefers ["order", "a", "b"] f_prefers _ := ⟨fun_mk (st := s_prefers) l_prefers c_prefers k_prefers, PySem.W.mg_of X G a_prefers, (fun_mk (st := s_prefers) l_prefers c_prefers k_prefers).binds (ps := ["order", "a", "b"]) fun _ _ _ _ _ _ us hl => match us, hl with | [_, _, _], _ => rfl⟩
  have D_said_of : Dn K mg "said_of" "said_of" s_said_of ["w", "case", "pairs"] f_said_of _ := ⟨fun_mk (st := s_said_of) l_said_of c_said_of k_said_of, PySem.W.mg_of X G a_said_of, (fun_mk (st := s_said_of) l_said_of c_said_of k_said_of).binds (ps := ["w", "case", "pairs"]) fun _ _ _ _ _ _ us hl => match us, hl with | [_, _, _], _ => rfl⟩
  have F_apart := fun_mk (st := s_apart) l_apart c_apart k_apart
  have M_init : Mn K C "__init__" "Wishes.__init__" s_m_init ["self", "n", "m"] m_init _ := ⟨fun_mk (st := s_m_init) lm_init cm_init km_init, ⟨am_init, im_init, km_init⟩, (fun_mk (st := s_m_init) lm_init cm_init km_init).binds (ps := ["self", "n", "m"]) fun _ _ _ _ _ _ us hl => match us, hl with | [_, _, _], _ => rfl⟩
  have M_pairs : Mn K C "pairs" "Wishes.pairs" s_m_pairs ["self"] m_pairs _ := ⟨fun_mk (st := s_m_pairs) lm_pairs cm_pairs km_pairs, ⟨am_pairs, im_pairs, km_pairs⟩, (fun_mk (st := s_m_pairs) lm_pairs cm_pairs km_pairs).binds (ps := ["self"]) fun _ _ _ _ _ _ us hl => match us, hl with | [_], _ => rfl⟩
  have M_wish : Mn K C "wish" "Wishes.wish" s_m_wish ["self", "case", "voter"] m_wish _ := ⟨fun_mk (st := s_m_wish) lm_wish cm_wish km_wish, ⟨am_wish, im_wish, km_wish⟩, (fun_mk (st := s_m_wish) lm_wish cm_wish km_wish).binds (ps := ["self", "case", "voter"]) fun _ _ _ _ _ _ us hl => match us, hl with | [_, _, _], _ => rfl⟩
  have T : Txt K mg C := ⟨⟨pg, hd, po, sa⟩, n_voters, n_options, n_orders, n_cases, PySem.W.mg_of X G aC⟩
  have MK : Mk K C m_init := ⟨mk, am_init, im_init, kc⟩
  have B_all : mg "all" = none := PySem.W.mg_none_of X G b_all
  have B_range : mg "range" = none := PySem.W.mg_none_of X G b_range
  have B_len : mg "len" = none := PySem.W.mg_none_of X G b_len
  have B_enumerate : mg "enumerate" = none := PySem.W.mg_none_of X G b_enumerate
  have gR := PySem.W.mg_of X G aR
  exact ⟨_, fun s us hu => match us, hu with | [_, _, _], _ => .of_eq rfl, fun base _ _ => ok_apart F_apart D_is_for_orders D_are_within D_order_count D_is_told B_all T MK M_init D_longer D_orders_of D_power D_digits B_range B_len M_pairs M_wish D_square D_prefers D_said_of B_enumerate gR⟩
end Pr
open PySem PySem.W PyProof.Rows
set_option maxRecDepth 100000 in
set_option maxHeartbeats 0 in
theorem PySem.Challenge.cw_manywishes_s03_apart_holds : PySem.Challenge.rw_manywishes_s03_apart.Holds := by
  w_on; k_headS; (case hw => exact ⟨[.int 0, .int 0, .list []], by decide +kernel, by decide +kernel⟩)
  k_fillS
  refine L2.walk_specK (r := PySem.Challenge.rw_manywishes_s03_apart) (k := 5) (CX := L2.CX0) (ps := ["n", "m", "table"]) (sp := fun K => Lb.SpOf (Pr.pApart K)) (by decide +kernel) rfl rfl ⟨rfl, by decide, by decide⟩ (fun w h Y => PySem.W.kIn_of Y) ?F ?S (fun _ _ _ _ z => z)
  case F =>
    intro w mg fa h Y KX G hmg
    have hfa : mg ("apart" : PySem.Str) = some (.ref fa) := hmg
    clear hmg
    refine' Pr.all_mk KX G hfa ?a_is_told ?l_is_told ?c_is_told ?k_is_told ?a_are_within ?l_are_within ?c_are_within ?k_are_within ?a_order_count ?l_order_count ?c_order_count ?k_order_count ?a_is_for_orders ?l_is_for_orders ?c_is_for_orders ?k_is_for_orders ?a_power ?l_power ?c_power ?k_power ?a_square ?l_square ?c_square ?k_square ?a_digits ?l_digits ?c_digits ?k_digits ?a_longer ?l_longer ?c_longer ?k_longer ?a_orders_of ?l_orders_of ?c_orders_of ?k_orders_of ?a_prefers ?l_prefers ?c_prefers ?k_prefers ?a_said_of ?l_said_of ?c_said_of ?k_said_of ?a_apart ?l_apart ?c_apart ?k_apart ?aC ?am_init ?im_init ?lm_init ?cm_init ?km_init ?am_pairs ?im_pairs ?lm_pairs ?cm_pairs ?km_pairs ?am_wish ?im_wish ?lm_wish ?cm_wish ?km_wish ?pg ?hd ?po ?sa ?mk ?kc ?n_voters ?n_options ?n_orders ?n_cases ?b_all ?b_range ?b_len ?b_enumerate ?aR
    (case a_is_told => k_is)
    (case l_is_told => k_is)
    (case c_is_told => k_is)
    (case k_is_told => k_is)
    (case a_are_within => k_is)
    (case l_are_within => k_is)
    (case c_are_within => k_is)
    (case k_are_within => k_is)
    (case a_order_count => k_is)
    (case l_order_count => k_is)
    (case c_order_count => k_is)
    (case k_order_count => k_is)
    (case a_is_for_orders => k_is)
    (case l_is_for_orders => k_is)
    (case c_is_for_orders => k_is)
    (case k_is_for_orders => k_is)
    (case a_power => k_is)
    (case l_power => k_is)
    (case c_power => k_is)
    (case k_power => k_is)
    (case a_square => k_is)
    (case l_square => k_is)
    (case c_square => k_is)
    (case k_square => k_is)
    (case a_digits => k_is)
    (case l_digits => k_is)
    (case c_digits => k_is)
    (case k_digits => k_is)
    (case a_longer => k_is)
    (case l_longer => k_is)
    (case c_longer => k_is)
    (case k_longer => k_is)
    (case a_orders_of => k_is)
    (case l_orders_of => k_is)
    (case c_orders_of => k_is)
    (case k_orders_of => k_is)
    (case a_prefers => k_is)
    (case l_prefers => k_is)
    (case c_prefers => k_is)
    (case k_prefers => k_is)
    (case a_said_of => k_is)
    (case l_said_of => k_is)
    (case c_said_of => k_is)
    (case k_said_of => k_is)
    (case a_apart => k_is)
    (case l_apart => k_is)
    (case c_apart => k_is)
    (case k_apart => k_is)
    (case aC => k_is)
    (case am_init => k_is)
    (case im_init => k_is)
    (case lm_init => k_is)
    (case cm_init => k_is)
    (case km_init => k_is)
    (case am_pairs => k_is)
    (case im_pairs => k_is)
    (case lm_pairs => k_is)
    (case cm_pairs => k_is)
    (case km_pairs => k_is)
    (case am_wish => k_is)
    (case im_wish => k_is)
    (case lm_wish => k_is)
    (case cm_wish => k_is)
    (case km_wish => k_is)
    (case pg => k_is)
    (case hd => k_is)
    (case po => k_is)
    (case sa => k_is)
    (case mk => k_is)
    (case kc => k_is)
    (case n_voters => k_is)
    (case n_options => k_is)
    (case n_orders => k_is)
    (case n_cases => k_is)
    (case b_all => k_is)
    (case b_range => k_is)
    (case b_len => k_is)
    (case b_enumerate => k_is)
    (case aR => k_is)
  case S =>
    intro K H xs a hO hwi hask hx
    obtain ⟨n, m, l, u⟩ := a
    cases hx with
    | cons h1 hx =>
      cases hx with
      | cons h2 hx =>
        cases hx with
        | cons h3 hx =>
          cases hx
          cases h1
          cases h2
          cases h3 with
          | lst hs ha =>
            have e := L2.ints_dw l _ ha
            subst e
            have q : (Codec.inInt (-2147483648) 2147483647 n && (Codec.inInt (-2147483648) 2147483647 m && ((Codec.inLen 0 300 l && l.all (Codec.inInt 0 255)) && true))) = true := hwi
            simp only [Bool.and_eq_true] at q
            have hlen := (Codec.inNat_iff.mp q.2.2.1.1).2
            have hpos : ∀ x ∈ l, 0 ≤ x := fun x hx => (Codec.inInt_iff.mp (List.all_eq_true.mp q.2.2.1.2 x hx)).1
            refine ⟨H, _, Evl.Ex.refl H, ⟨n, m, _, l, rfl, hs, hpos, Nat.le_trans hlen (by decide), hask, rfl⟩, fun v Hk Ha w p => ?_⟩
            obtain ⟨p, rfl, hp⟩ := p
            exact .lst (L2.SqL.of (w.b p _ hp)) (L2.dw_ints _)
#print axioms PySem.Challenge.cw_manywishes_s03_apart_holds
