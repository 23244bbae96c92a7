import PyProof.Rows.All
import Wide.All
import OpenK.AllK
import Wide.FinOn
import PySem.Challenge.RW_wheelnines_k44_whole_seen
import HandS.Iter
import KE.GoesMore
import KE.GoesEnum
import PyProof.ReprRoads
import PyProof.ReprLen
import PyProof.CallFns
import HandS.Call
import HandS.List
import HandS.Lambda
import HandS.Words
import HandS.Defaults
import HandS.Exc
import KE.KExcSuper
import KE.KExcInit
import KE.KSuper
import HandS.ExcField
import KE.KDflt
import HandS.ExcOwn
import HandS.ForMost
import HandS.ForExc
import HandS.IsInst
import HandS.TupMul
import HandS.SetFor
import HandS.EndTab
import HandS.HeadWalk
import KE.KStateDown
import HandS.Head0
import HandS.Head1
import HandS.Head2
import HandS.HeadHook1
import HandS.HeadHook2
import HandS.HeadHook3
import HandS.HeadHook4
set_option Elab.async false
set_option linter.all false
set_option maxRecDepth 100000
set_option maxHeartbeats 0
/-! Plain mathematics of the law k44: digits of a quotient, what fits what was seen, all fractions up to a bound, the digits that all have in common. No program here. -/
namespace K44
/-! ### digits of r / d in base b -/
def digs (b d : Nat) : Nat → Nat → List Nat
  | 0, _ => []
  | n + 1, r => r * b / d :: digs b d n (r * b % d)
def remn (b d : Nat) : Nat → Nat → Nat
  | 0, r => r
  | n + 1, r => remn b d n (r * b % d)
theorem digs_len (b d : Nat) : ∀ n r, (digs b d n r).length = n
  | 0, _ => rfl
  | n + 1, r => by
    show (digs b d n (r * b % d)).length + 1 = n + 1
    rw [digs_len b d n]
theorem remn_more (b d : Nat) : ∀ n r, remn b d (n + 1) r = remn b d n r * b % d
  | 0, _ => rfl
  | n + 1, r => remn_more b d n (r * b % d)
theorem digs_more (b d : Nat) : ∀ n r, digs b d (n + 1) r = digs b d n r ++ [remn b d n r * b / d]
  | 0, _ => rfl
  | n + 1, r => by
    show r * b / d :: digs b d (n + 1) (r * b % d) = r * b / d :: (digs b d n (r * b % d) ++ [remn b d n (r * b % d) * b / d])
    rw [digs_more b d n]
theorem remn_lt {b d : Nat} (hd : 0 < d) : ∀ n r, r < d → remn b d n r < d
  | 0, _, h => h
  | n + 1, r, _ => remn_lt hd n _ (Nat.mod_lt _ hd)
theorem dig_lt {b d r : Nat} (hd : 0 < d) (h : r < d) (hb : 0 < b) : r * b / d < b := by
  rw [Nat.div_lt_iff_lt_mul hd, Nat.mul_comm b d]
  exact Nat.mul_lt_mul_of_pos_right h hb
theorem digs_lt {b d : Nat} (hd : 0 < d) (hb : 0 < b) : ∀ n r, r < d → ∀ x ∈ digs b d n r, x < b
  | 0, _, _, x, hx => by cases hx
  | n + 1, r, h, x, hx => by
    rcases List.mem_cons.mp hx with e | hx
    · rw [e]
      exact dig_lt hd h hb
    · exact digs_lt hd hb n _ (Nat.mod_lt _ hd) x hx
theorem digs_get (b d : Nat) : ∀ n r k, k < n → (digs b d n r)[k]? = some (remn b d k r * b / d)
  | 0, _, k, h => absurd h (Nat.not_lt_zero k)
  | n + 1, r, 0, _ => rfl
  | n + 1, r, k + 1, h => by
    show (digs b d n (r * b % d))[k]? = some (remn b d k (r * b % d) * b / d)
    exact digs_get b d n _ k (Nat.lt_of_succ_lt_succ h)
/-! ### the greatest common divisor -/
theorem gcd_turn {a c : Nat} (_h : c ≠ 0) : Nat.gcd c (a % c) = Nat.gcd a c := by
  rw [Nat.gcd_comm a c, Nat.gcd_rec c a, Nat.gcd_comm]
theorem gcd_end (a : Nat) : Nat.gcd a 0 = a := Nat.gcd_zero_right a
/-! ### what was seen -/
def okAt : Option Nat → Nat → Bool
  | none, _ => true
  | some v, x => x == v
def fitP (b d : Nat) : List (Option Nat) → Nat → Bool
  | [], _ => true
  | o :: s, r => okAt o (r * b / d) && fitP b d s (r * b % d)
theorem fitP_app (b d : Nat) : ∀ (s t : List (Option Nat)) (r : Nat), fitP b d (s ++ t) r = (fitP b d s r && fitP b d t (remn b d s.length r))
  | [], t, r => by simp [fitP, remn]
  | o :: s, t, r => by
    show (okAt o (r * b / d) && fitP b d (s ++ t) (r * b % d)) = ((okAt o (r * b / d) && fitP b d s (r * b % d)) && fitP b d t (remn b d s.length (r * b % d)))
    rw [fitP_app b d s t, Bool.and_assoc]
/-- the law's own look: the places that differ -/
def missB (p : Nat × Option Nat) : Bool := match p.2 with
  | none => false
  | some v => !(p.1 == v)
def miss (own : List Nat) (seen : List (Option Nat)) : List (Nat × Option Nat) := (own.zip seen).filter missB
theorem miss_nil (b d : Nat) : ∀ (s : List (Option Nat)) (r : Nat), (miss (digs b d s.length r) s).isEmpty = fitP b d s r
  | [], r => rfl
  | o :: s, r => by
    show (List.filter missB ((r * b / d, o) :: (digs b d s.length (r * b % d)).zip s)).isEmpty = (okAt o (r * b / d) && fitP b d s (r * b % d))
    rw [← miss_nil b d s (r * b % d)]
    unfold miss
    cases o with
    | none => rfl
    | some v =>
      by_cases h : (r * b / d == v) = true
      · rw [List.filter_cons_of_neg (by show ¬ (!(r * b / d == v)) = true; rw [h]; decide)]
        show _ = ((r * b / d == v) && _)
        rw [h, Bool.true_and]
      · have h' : (r * b / d == v) = false := by simpa using h
        rw [List.filter_cons_of_pos (by show (!(r * b / d == v)) = true; rw [h']; rfl)]
        show false = ((r * b / d == v) && _)
        rw [h', Bool.false_and]
/-! ### all fractions up to a bound -/
def good (b : Nat) (seen : List (Option Nat)) (d j : Nat) : Bool := (Nat.gcd j d == 1) && fitP b d seen j
def row (b : Nat) (seen : List (Option Nat)) (d : Nat) : Nat → List (Nat × Nat)
  | 0 => []
  | j + 1 => row b seen d j ++ (if good b seen d j = true then [(j, d)] else [])
def upTo (b : Nat) (seen : List (Option Nat)) : Nat → List (Nat × Nat)
  | 0 => []
  | i + 1 => upTo b seen i ++ row b seen (i + 1) (i + 1)
def units (n : Nat) : Nat → List Nat
  | 0 => []
  | k + 1 => units n k ++ (if (Nat.gcd k n == 1) = true then [k] else [])
def fitU (b : Nat) (seen : List (Option Nat)) (d : Nat) (us : List Nat) : List (Nat × Nat) := (us.filter fun k => fitP b d seen k).map fun k => (k, d)
theorem fitU_app (b : Nat) (seen : List (Option Nat)) (d : Nat) (us vs : List Nat) : fitU b seen d (us ++ vs) = fitU b seen d us ++ fitU b seen d vs := by
  unfold fitU
  rw [List.filter_append, List.map_append]
theorem fitU_one (b : Nat) (seen : List (Option Nat)) (d k : Nat) : fitU b seen d [k] = if fitP b d seen k = true then [(k, d)] else [] := by
  unfold fitU
  by_cases h : fitP b d seen k = true
  · rw [if_pos h, List.filter_cons_of_pos (by exact h)] <;> rfl
  · rw [if_neg h, List.filter_cons_of_neg (by exact h)] <;> rfl
theorem row_units (b : Nat) (seen : List (Option Nat)) (d : Nat) : ∀ j, fitU b seen d (units d j) = row b seen d j
  | 0 => rfl
  | j + 1 => by
    show fitU b seen d (units d j ++ (if (Nat.gcd j d == 1) = true then [j] else [])) = row b seen d j ++ (if good b seen d j = true then [(j, d)] else [])
    rw [fitU_app, row_units b seen d j]
    congr 1
    unfold good
    by_cases h : (Nat.gcd j d == 1) = true
    · rw [if_pos h, fitU_one, h, Bool.true_and]
    · have h' : (Nat.gcd j d == 1) = false := by simpa using h
      rw [if_neg h, h', Bool.false_and, if_neg Bool.false_ne_true]
      rfl
theorem units_mem {n : Nat} : ∀ {j k : Nat}, k ∈ units n j → k < j ∧ Nat.gcd k n = 1
  | 0, k, h => by cases h
  | j + 1, k, h => by
    rcases List.mem_append.mp (show k ∈ units n j ++ (if (Nat.gcd j n == 1) = true then [j] else []) from h) with h | h
    · obtain ⟨h1, h2⟩ := units_mem h
      exact ⟨Nat.lt_succ_of_lt h1, h2⟩
    · by_cases c : (Nat.gcd j n == 1) = true
      · rw [if_pos c] at h
        have e : k = j := by simpa using h
        rw [e]
        exact ⟨Nat.lt_succ_self j, by simpa using c⟩
      · rw [if_neg c] at h
        cases h
theorem units_ne {n : Nat} (h : 0 < n) : units n n ≠ [] := by
  have one : ∀ j, 1 < j → 1 < n → 1 ∈ units n j := by
    intro j
    induction j with
    | zero => intro a; exact absurd a (by omega)
    | succ j ih =>
      intro hj hn
      show 1 ∈ units n j ++ (if (Nat.gcd j n == 1) = true then [j] else [])
      by_cases e : j = 1
      · subst e
        rw [if_pos (by simp)]
        simp
      · exact List.mem_append_left _ (ih (by omega) hn)
  by_cases c : n = 1
  · subst c
    decide
  · intro z
    have q := one n (by omega) (by omega)
    rw [z] at q
    cases q
theorem units_len (n : Nat) : ∀ j, (units n j).length ≤ j
  | 0 => Nat.le_refl 0
  | j + 1 => by
    show (units n j ++ (if (Nat.gcd j n == 1) = true then [j] else [])).length ≤ j + 1
    have ih := units_len n j
    rw [List.length_append]
    split <;> simp <;> omega
theorem row_len (b : Nat) (seen : List (Option Nat)) (d : Nat) : ∀ j, (row b seen d j).length ≤ j
  | 0 => Nat.le_refl 0
  | j + 1 => by
    show (row b seen d j ++ (if good b seen d j = true then [(j, d)] else [])).length ≤ j + 1
    have ih := row_len b seen d j
    rw [List.length_append]
    split <;> simp <;> omega
theorem upTo_len (b : Nat) (seen : List (Option Nat)) {m : Nat} : ∀ i, i ≤ m → (upTo b seen i).length ≤ i * m
  | 0, _ => Nat.zero_le _
  | i + 1, h => by
    show (upTo b seen i ++ row b seen (i + 1) (i + 1)).length ≤ (i + 1) * m
    have ih := upTo_len b seen (m := m) i (by omega)
    have h2 := row_len b seen (i + 1) (i + 1)
    rw [List.length_append, Nat.add_mul]
    omega
/-- each fraction told is one: d from 1 to the bound, j below it -/
theorem row_mem {b : Nat} {seen : List (Option Nat)} {d : Nat} {p : Nat × Nat} : ∀ {j : Nat}, p ∈ row b seen d j → p.2 = d ∧ p.1 < j
  | 0, h => by cases h
  | j + 1, h => by
    rcases List.mem_append.mp (show p ∈ row b seen d j ++ (if good b seen d j = true then [(j, d)] else []) from h) with h | h
    · obtain ⟨h1, h2⟩ := row_mem h
      exact ⟨h1, Nat.lt_succ_of_lt h2⟩
    · split at h
      · have e : p = (j, d) := by simpa using h
        rw [e]
        exact ⟨rfl, Nat.lt_succ_self j⟩
      · cases h
theorem upTo_mem {b : Nat} {seen : List (Option Nat)} {p : Nat × Nat} : ∀ {i : Nat}, p ∈ upTo b seen i → 0 < p.2 ∧ p.2 ≤ i ∧ p.1 < p.2
  | 0, h => by cases h
  | i + 1, h => by
    rcases List.mem_append.mp (show p ∈ upTo b seen i ++ row b seen (i + 1) (i + 1) from h) with h | h
    · obtain ⟨h1, h2, h3⟩ := upTo_mem h
      exact ⟨h1, Nat.le_succ_of_le h2, h3⟩
    · obtain ⟨h1, h2⟩ := row_mem h
      rw [h1]
      exact ⟨Nat.succ_pos i, Nat.le_refl _, h2⟩
/-! ### the digits that all have in common -/
def meet1 (m : Option Nat) (x : Nat) : Option Nat := match m with
  | none => none
  | some v => if v = x then some v else none
def meet (f : List (Option Nat)) (own : List Nat) : List (Option Nat) := List.zipWith meet1 f own
def dg (b count : Nat) (p : Nat × Nat) : List Nat := digs b p.2 count p.1
def sureFrom (b count : Nat) (f : List (Option Nat)) (l : List (Nat × Nat)) : List (Option Nat) := l.foldl (fun f p => meet f (dg b count p)) f
def sure (b count : Nat) : List (Nat × Nat) → List (Option Nat)
  | [] => []
  | p :: l => sureFrom b count ((dg b count p).map some) l
/-- the law's own: by columns -/
def colm (b count : Nat) (l : List (Nat × Nat)) (k : Nat) : List Nat := l.map fun p => (dg b count p).getD k 0
def colD (c : List Nat) : Option Nat := match c with
  | [] => none
  | x :: r => if c.count x = c.length then some x else none
def sureL (b count : Nat) (l : List (Nat × Nat)) : List (Option Nat) := (List.range count).map fun k => colD (colm b count l k)
theorem meet_len {f : List (Option Nat)} {own : List Nat} {n : Nat} (h1 : f.length = n) (h2 : own.length = n) : (meet f own).length = n := by
  unfold meet
  rw [List.length_zipWith, h1, h2, Nat.min_self]
theorem dg_len (b count : Nat) (p : Nat × Nat) : (dg b count p).length = count := digs_len _ _ _ _
theorem sureFrom_len (b count : Nat) : ∀ (l : List (Nat × Nat)) (f : List (Option Nat)), f.length = count → (sureFrom b count f l).length = count
  | [], f, h => h
  | p :: l, f, h => sureFrom_len b count l (meet f (dg b count p)) (meet_len h (dg_len b count p))
theorem sure_len (b count : Nat) {l : List (Nat × Nat)} (h : l ≠ []) : (sure b count l).length = count := by
  cases l with
  | nil => exact absurd rfl h
  | cons p l => exact sureFrom_len b count l _ (by rw [List.length_map, dg_len])
theorem meet_get {f : List (Option Nat)} {own : List Nat} {k : Nat} {m : Option Nat} {x : Nat} (h1 : f[k]? = some m) (h2 : own[k]? = some x) : (meet f own)[k]? = some (meet1 m x) := by
  unfold meet
  rw [List.getElem?_zipWith, h1, h2]
theorem dg_get {b count : Nat} {p : Nat × Nat} {k : Nat} (h : k < count) : (dg b count p)[k]? = some ((dg b count p).getD k 0) := by
  have hl : k < (dg b count p).length := by rw [dg_len]; exact h
  rw [List.getD_eq_getElem?_getD, List.getElem?_eq_getElem hl]
  rfl
theorem sureFrom_none {b count k : Nat} (hk : k < count) : ∀ (l : List (Nat × Nat)) (f : List (Option Nat)), f[k]? = some none → (sureFrom b count f l)[k]? = some none
  | [], f, h => h
  | p :: l, f, h => sureFrom_none hk l (meet f (dg b count p)) (by rw [meet_get h (dg_get hk)]; rfl)
theorem sureFrom_get {b count k c : Nat} (hk : k < count) : ∀ (l : List (Nat × Nat)) (f : List (Option Nat)), f[k]? = some (some c) →
    (sureFrom b count f l)[k]? = some (if (∀ x ∈ colm b count l k, x = c) then some c else none)
  | [], f, h => by
    show f[k]? = _
    rw [h, if_pos (fun x hx => by cases hx)]
  | p :: l, f, h => by
    show (sureFrom b count (meet f (dg b count p)) l)[k]? = _
    have h1 := meet_get h (dg_get (b := b) (p := p) hk)
    by_cases e : c = (dg b count p).getD k 0
    · have h2 : (meet f (dg b count p))[k]? = some (some c) := by
        rw [h1]
        show some (if c = (dg b count p).getD k 0 then some c else none) = _
        rw [if_pos e]
      rw [sureFrom_get hk l _ h2]
      congr 1
      by_cases q : ∀ x ∈ colm b count l k, x = c
      · rw [if_pos q, if_pos]
        intro x hx
        rcases List.mem_cons.mp (show x ∈ (dg b count p).getD k 0 :: colm b count l k from hx) with z | z
        · rw [z, e]
        · exact q x z
      · rw [if_neg q, if_neg]
        intro z
        exact q fun x hx => z x (List.mem_cons_of_mem _ hx)
    · have h2 : (meet f (dg b count p))[k]? = some none := by
        rw [h1]
        show some (if c = (dg b count p).getD k 0 then some c else none) = _
        rw [if_neg e]
      rw [sureFrom_none hk l _ h2, if_neg]
      intro z
      exact e (z _ (List.mem_cons_self ..)).symm
theorem count_all {x : Nat} {r : List Nat} : (x :: r).count x = (x :: r).length ↔ ∀ y ∈ r, y = x := by
  rw [List.count_eq_length]
  constructor
  · intro h y hy
    exact (h y (List.mem_cons_of_mem _ hy)).symm
  · intro h y hy
    rcases List.mem_cons.mp hy with e | e
    · exact e.symm
    · exact (h y e).symm
theorem sure_law (b count : Nat) {l : List (Nat × Nat)} (hl : l ≠ []) : sureL b count l = sure b count l := by
  cases l with
  | nil => exact absurd rfl hl
  | cons p l =>
    refine List.ext_getElem? fun k => ?_
    by_cases hk : k < count
    · have h1 : (sureL b count (p :: l))[k]? = some (colD (colm b count (p :: l) k)) := by
        unfold sureL
        rw [List.getElem?_map, List.getElem?_range hk]
        rfl
      have h2 : (((dg b count p).map some) : List (Option Nat))[k]? = some (some ((dg b count p).getD k 0)) := by
        rw [List.getElem?_map, dg_get hk]
        rfl
      rw [h1]
      show _ = (sureFrom b count ((dg b count p).map some) l)[k]?
      rw [sureFrom_get hk l _ h2]
      congr 1
      show (if ((dg b count p).getD k 0 :: colm b count l k).count ((dg b count p).getD k 0) = ((dg b count p).getD k 0 :: colm b count l k).length then some ((dg b count p).getD k 0) else none) = _
      by_cases q : ∀ x ∈ colm b count l k, x = (dg b count p).getD k 0
      · rw [if_pos q, if_pos (count_all.mpr q)]
      · rw [if_neg q, if_neg fun z => q (count_all.mp z)]
    · have h1 : (sureL b count (p :: l)).length = count := by
        unfold sureL
        rw [List.length_map, List.length_range]
      have h2 := sure_len b count hl
      rw [List.getElem?_eq_none_iff.mpr (by omega), List.getElem?_eq_none_iff.mpr (by omega)]
end K44

/-! zip of a list and a tuple, to a written pair of names. -/
namespace K44
open PySem PySem.Spec PyProof.Rows L2
/-- the list at a beside the tuple at b -/
def ItzM (K : PySem.W.Frag) (a b : Addr) : It :=
  ⟨fun i H => ∃ (xs ys : List V) (x y : V), SqL K H a xs ∧ SqT K H b ys ∧ xs[i]? = some x ∧ ys[i]? = some y,
    fun i H v H' => ∃ T x y, v = .ref T ∧ H T = none ∧ H' = upd H T (.tup [x, y]) ∧ (∀ xs, SqL K H a xs → xs[i]? = some x) ∧ ∀ ys, SqT K H b ys → ys[i]? = some y,
    fun i H => ∃ xs ys : List V, SqL K H a xs ∧ SqT K H b ys ∧ i ≤ xs.length ∧ i ≤ ys.length ∧ (i = xs.length ∨ i = ys.length)⟩
theorem turn_zipM {P : Program} {w : World} {K : PySem.W.Frag} {elts : List Expr} {kk : Nat} {tpos : Pos} {a b z TI TO i1 i2 : Addr} (S : ZipSep2 z TI TO i1 i2 [i1, a] [i2, b]) (n1 : a ≠ i1) (n2 : b ≠ i2) :
    Turn P w K (.Tuple elts kk tpos) (ItzM K a b) [z, TI, TO, i1, i2] z (fun i h => IsZip h z TI TO .none ∧ IsTupOf2 h TI (.ref i1) (.ref i2) ∧ (∃ x y, IsTupOf2 h TO x y) ∧ h.IsListIter i1 a i ∧ h.IsTupleIter i2 b i) where
  mem := by simp
  obj := fun i h st c hc => by
    obtain ⟨hz, hTI, ⟨x, y, hTO⟩, ⟨o1, e1, _, d1⟩, ⟨o2, e2, _, d2⟩⟩ := st
    have e' : c = z ∨ c = TI ∨ c = TO ∨ c = i1 ∨ c = i2 := by simpa using hc
    rcases e' with q | q | q | q | q
    · rw [q]
      exact ⟨_, hz, fun v r => nomatch r⟩
    · rw [q]
      exact ⟨_, hTI, fun v r => nomatch r⟩
    · rw [q]
      exact ⟨_, hTO, fun v r => nomatch r⟩
    · exact ⟨o1, by rw [q]; exact e1, fun v r => by rw [d1] at r; cases r⟩
    · exact ⟨o2, by rw [q]; exact e2, fun v r => by rw [d2] at r; cases r⟩
  keep := fun i h h' st k => by
    obtain ⟨hz, hTI, ⟨x, y, hTO⟩, h1, h2⟩ := st
    exact ⟨k z (by simp) _ hz, k TI (by simp) _ hTI, ⟨x, y, k TO (by simp) _ hTO⟩, h1.at fun o q => k i1 (by simp) o q, h2.at fun o q => k i2 (by simp) o q⟩
  item := by
    intro X hP hw hK hc i pins s σ H E I hf st hg
    subst hP hw hK
    obtain ⟨hz, hTI, ⟨x0, y0, hTO⟩, h1, h2⟩ := st
    obtain ⟨xs, ys, x, y, hqx, hqy, hx, hy⟩ := hg
    obtain ⟨its, rv, p, _⟩ := I.list hqx
    obtain ⟨its2, rv2, p2, _⟩ := I.tuple hqy
    have hzl : z < s.heap.objs.size := Heap.lt_size hz
    have hh : X.A.in1.handled = none := I.ok.hd hc
    have lt1 : i < its.toArray.size := by
      rw [List.size_toArray, ← rv.length]
      exact (List.getElem?_eq_some_iff.mp hx).1
    have lt2 : i < its2.toArray.size := by
      rw [List.size_toArray, ← rv2.length]
      exact (List.getElem?_eq_some_iff.mp hy).1
    refine wpAny_pyNext_zipD2_item S (Draws.list (prog := X.prog) (w := X.w) hh i1 a n1 its.toArray) (Draws.tuple (prog := X.prog) (w := X.w) hh i2 b n2 its2.toArray) hz hTI hTO ⟨h1, p.isList⟩ ⟨h2, p2⟩ lt1 lt2
      fun u u2 h' tk hu hu2 z' TO' h1' h2' hT hsz hk => ?_
    refine ⟨_, rfl, wpAny_letOwnedTupleGo_zip (s := { s with heap := h', toks := tk }) z' fun h'' z'' sb => ?_⟩
    obtain ⟨v1, e1, r1⟩ := rv.get hx
    obtain ⟨v2, e2, r2⟩ := rv2.get hy
    have q1 : v1 = u := Option.some.inj (e1.symm.trans (by simpa using hu))
    have q2 : v2 = u2 := Option.some.inj (e2.symm.trans (by simpa using hu2))
    subst q1 q2
    have hT2 : h''.get? s.heap.objs.size = some { cls := .type "tuple", data := .seq #[v1, v2] } := (sb.2 _ (Nat.ne_of_gt hzl)).trans hT
    have new : ObjOk X.prog X.w (upd H s.heap.objs.size (.tup [x, y])) h'' s.heap.objs.size (.tup [x, y]) :=
      ⟨by show 2 ≤ sizeLine; decide, [v1, v2], .cons r1 (.cons r2 .nil), ⟨_, hT2, rfl, _, rfl⟩⟩
    have I1 : Inv X pins σ (upd H s.heap.objs.size (.tup [x, y])) { s with heap := h'', toks := tk } :=
      I.turnedNew (t' := tk) (ch := [z, TI, TO, i1, i2]) (fun c o hb q => (sb.2 c fun e => hb (by simp [e])).trans (hk c o (fun e => hb (by simp [e])) (fun e => hb (by simp [e])) (fun e => hb (by simp [e])) (fun e => hb (by simp [e])) q)) hf (Nat.le_refl _) new
    refine ⟨.ref s.heap.objs.size, _, I1, rfl, ⟨_, x, y, rfl, I.hok.fresh (Nat.le_refl _), rfl, fun l hl => by rw [I.list_inj hl hqx]; exact hx, fun l hl => by rw [I.tuple_inj hl hqy]; exact hy⟩, ⟨z'', ?_, ⟨v1, v2, ?_⟩, ?_, ?_⟩, fun c hcm => ?_⟩
    · exact (sb.2 _ S.TIz).trans (hk _ _ S.TIz S.TITO S.TIi1 S.TIi2 hTI)
    · exact (sb.2 _ S.TOz).trans TO'
    · exact h1'.1.at fun o q => (sb.2 _ (Ne.symm S.zi1)).trans q
    · exact h2'.1.at fun o q => (sb.2 _ (Ne.symm S.zi2)).trans q
    · have hlt : c < s.heap.objs.size := by
        have e' : c = z ∨ c = TI ∨ c = TO ∨ c = i1 ∨ c = i2 := by simpa using hcm
        rcases e' with q | q | q | q | q
        · rw [q]; exact hzl
        · rw [q]; exact Heap.lt_size hTI
        · rw [q]; exact Heap.lt_size hTO
        · obtain ⟨_, e, _⟩ := h1
          rw [q]; exact Heap.lt_size e
        · obtain ⟨_, e, _⟩ := h2
          rw [q]; exact Heap.lt_size e
      rw [upd_ne (Nat.ne_of_lt hlt)]
      exact (hf c hcm).1
  done := by
    intro X hP hw hK hc i pins s σ H E I hf st hg
    subst hP hw hK
    obtain ⟨hz, hTI, ⟨x0, y0, hTO⟩, h1, h2⟩ := st
    obtain ⟨xs, ys, hqx, hqy, le1, le2, hend⟩ := hg
    obtain ⟨its, rv, p, _⟩ := I.list hqx
    obtain ⟨its2, rv2, p2, _⟩ := I.tuple hqy
    have hh : X.A.in1.handled = none := I.ok.hd hc
    have l1 : its.toArray.size = xs.length := by rw [List.size_toArray, ← rv.length]
    have l2 : its2.toArray.size = ys.length := by rw [List.size_toArray, ← rv2.length]
    exact wpAny_pyNext_zipD2_end S (Draws.list (prog := X.prog) (w := X.w) hh i1 a n1 its.toArray) (Draws.tuple (prog := X.prog) (w := X.w) hh i2 b n2 its2.toArray) hz hTI hTO ⟨h1, p.isList⟩ ⟨h2, p2⟩
      (by rw [l1]; exact le1) (by rw [l2]; exact le2) (by rw [l1, l2]; exact hend) fun h' tk hk =>
      ⟨rfl, I.turnedL (t' := tk) (ch := [z, TI, TO, i1, i2]) (fun c o hb q => hk c o (fun e => hb (by simp [e])) (fun e => hb (by simp [e])) (fun e => hb (by simp [e])) (fun e => hb (by simp [e])) q) hf⟩
  self := fun A i s Q E st h => wpAny_pyIter_zip st.1 h
def iZipM (K : PySem.W.Frag) (ta : TA) : TI := fun σ H R => ta σ H fun vs H1 => ∃ a b xs ys, vs = [.ref a, .ref b] ∧ SqL K H1 a xs ∧ SqT K H1 b ys ∧ R (ItzM K a b) H1
theorem pi_zipM {X : Cx} {e e2 : Expr} {ta : TA} {p pos tpos : Pos} {elts : List Expr} {kk : Nat} (hg : Gl X "zip") (hm : X.mg "zip" = none) (ha : PA X [e, e2] ta)
    (hs : starEach [e, e2] X.env = (false, eval e X.env) :: starEach [e2] X.env := by rfl) (hpl : (backTo pos (starEach [e2] X.env)).any (·.1) = false := by rfl) :
    PI X (.Tuple elts kk tpos) (.Call (.Name "zip" p) [e, e2] [] pos) (iZipM X.K ta) := by
  refine ⟨fun pins s σ H R I h => ?_⟩
  refine Call_ (ld_blt I hg hm PyProof.Rows.boot_zip (PyProof.Rows.callWith_type1 (thn (ha.run pos pins s σ H _ I h) fun us s1 ⟨vs, H1, I1, r1, q1⟩ => ?_) hs hpl))
  obtain ⟨a, b, xs, ys, ex, hqx, hqy, q⟩ := q1
  subst ex
  cases r1 with
  | cons r rr =>
    cases rr with
    | cons r' rr =>
      cases rr
      cases r
      cases r'
      obtain ⟨its, rv, p1, _⟩ := I1.list hqx
      obtain ⟨its2, rv2, p2, _⟩ := I1.tuple hqy
      have la : a < s1.heap.objs.size := p1.lt
      have lb : b < s1.heap.objs.size := p2.lt
      refine zip_begins2 (begins_list a its.toArray) (begins_tuple b its2.toArray) p1.isList p2 fun h' hz hTI hTO h1 h2 hsz hk => wpAny_pyIter_zip (s := { s1 with heap := h' }) hz ?_
      have I2 : Inv X pins σ H1 { s1 with heap := h' } := I1.kept (t' := s1.toks) hk
      have na : a ≠ s1.heap.objs.size := Nat.ne_of_lt la
      have nb : b ≠ s1.heap.objs.size + 1 := Nat.ne_of_lt (Nat.lt_succ_of_lt lb)
      have S : ZipSep2 (s1.heap.objs.size + 4) (s1.heap.objs.size + 2) (s1.heap.objs.size + 3) s1.heap.objs.size (s1.heap.objs.size + 1) [s1.heap.objs.size, a] [s1.heap.objs.size + 1, b] :=
        zip_sep2 (fp1 := [a]) (fp2 := [b]) (fun c hc => by
          rw [List.mem_singleton.mp hc]
          exact la) (fun c hc => by
          rw [List.mem_singleton.mp hc]
          exact lb)
      refine ⟨s1.heap.objs.size + 4, [s1.heap.objs.size + 4, s1.heap.objs.size + 2, s1.heap.objs.size + 3, s1.heap.objs.size, s1.heap.objs.size + 1], _, _, H1, rfl, I2, turn_zipM S na nb, ⟨hz, hTI, ⟨_, _, hTO⟩, ⟨_, h1, rfl, rfl⟩, ⟨_, h2, rfl, rfl⟩⟩, fun c hcm => ?_, q⟩
      have hle : s1.heap.objs.size ≤ c := by
        have e' : c = s1.heap.objs.size + 4 ∨ c = s1.heap.objs.size + 2 ∨ c = s1.heap.objs.size + 3 ∨ c = s1.heap.objs.size ∨ c = s1.heap.objs.size + 1 := by simpa using hcm
        rcases e' with q | q | q | q | q <;> rw [q] <;> first | exact Nat.le_add_right _ _ | exact Nat.le_refl _
      exact I1.fpOk hle (I1.hok.fresh hle)
end K44

/-! Data of small whole numbers; repr of such data; a def whose promise wants that no repr is under way around it. -/
namespace K44
open PySem PySem.Spec PyProof.Rows L2
/-! ### small data -/
mutual
/-- None, bools, ints from 0 to below a million, the written words, lists and tuples of these -/
def okD : PyData → Bool
  | .none => true
  | .bool _ => true
  | .int i => decide (0 ≤ i) && decide (i < 1000000)
  | .str x => PyData.strOk x && x.cps.toList.all fun c => decide (c < 16 ^ 8)
  | .list xs => okA xs
  | .tuple xs => okA xs
  | .dict _ => false
def okA : List PyData → Bool
  | [] => true
  | x :: xs => okD x && okA xs
end
mutual
def szD : PyData → Nat
  | .none => 0
  | .bool _ => 0
  | .int _ => 20
  | .str x => x.cps.size
  | .list xs => szA xs
  | .tuple xs => szA xs
  | .dict _ => 0
def szA : List PyData → Nat
  | [] => 0
  | x :: xs => szD x + 1 + szA xs
end
theorem int_short {i : Int} (h0 : 0 ≤ i) (h1 : i < 1000000) : i.natAbs < 10 ^ 12 := by
  have e : (10 : Nat) ^ 12 = 1000000000000 := by decide
  rw [e]
  omega
theorem int_log {i : Int} (h0 : 0 ≤ i) (h1 : i < 1000000) : i.natAbs.log2 < 20 := by
  by_cases z : i.natAbs = 0
  · rw [z]
    decide
  · exact (Nat.log2_lt z).mpr (by
      have e : (2 : Nat) ^ 20 = 1048576 := by decide
      rw [e]
      omega)
mutual
theorem okD_lay : ∀ d : PyData, okD d = true → d.canLay0 = true
  | .none, _ => by simp only [PyData.canLay0]
  | .bool _, _ => by simp only [PyData.canLay0]
  | .int _, _ => by simp only [PyData.canLay0]
  | .str x, h => by
    simp only [okD, Bool.and_eq_true] at h
    simp only [PyData.canLay0]
    exact h.1
  | .list xs, h => by
    simp only [okD] at h
    simp only [PyData.canLay0]
    exact okA_lay xs h
  | .tuple xs, h => by
    simp only [okD] at h
    simp only [PyData.canLay0]
    exact okA_lay xs h
  | .dict _, h => by simp only [okD] at h; cases h
theorem okA_lay : ∀ xs : List PyData, okA xs = true → PyData.canLayAll0 xs = true
  | [], _ => by simp only [PyData.canLayAll0]
  | x :: xs, h => by
    simp only [okA, Bool.and_eq_true] at h
    simp only [PyData.canLayAll0, Bool.and_eq_true]
    exact ⟨okD_lay x h.1, okA_lay xs h.2⟩
end
mutual
theorem okD_show : ∀ d : PyData, okD d = true → d.showable = true
  | .none, _ => by simp only [PyData.showable]
  | .bool _, _ => by simp only [PyData.showable]
  | .int i, h => by
    simp only [okD, Bool.and_eq_true, decide_eq_true_eq] at h
    simp only [PyData.showable, decide_eq_true_eq]
    have := int_log h.1 h.2
    omega
  | .str x, h => by simp only [PyData.showable]
  | .list xs, h => by
    simp only [okD] at h
    simp only [PyData.showable]
    exact okA_show xs h
  | .tuple xs, h => by
    simp only [okD] at h
    simp only [PyData.showable]
    exact okA_show xs h
  | .dict _, h => by simp only [okD] at h; cases h
theorem okA_show : ∀ xs : List PyData, okA xs = true → PyData.showableAll xs = true
  | [], _ => by simp only [PyData.showableAll]
  | x :: xs, h => by
    simp only [okA, Bool.and_eq_true] at h
    simp only [PyData.showableAll, Bool.and_eq_true]
    exact ⟨okD_show x h.1, okA_show xs h.2⟩
end
mutual
theorem okD_short : ∀ d : PyData, okD d = true → d.leavesShort 13 = true
  | .none, _ => by simp only [PyData.leavesShort]
  | .bool _, _ => by simp only [PyData.leavesShort]
  | .int i, h => by
    simp only [okD, Bool.and_eq_true, decide_eq_true_eq] at h
    simp only [PyData.leavesShort, decide_eq_true_eq]
    exact PyData.shown_int_le (int_short h.1 h.2)
  | .str x, h => by
    simp only [okD, Bool.and_eq_true] at h
    simp only [PyData.leavesShort]
    exact h.2
  | .list xs, h => by
    simp only [okD] at h
    simp only [PyData.leavesShort]
    exact okA_short xs h
  | .tuple xs, h => by
    simp only [okD] at h
    simp only [PyData.leavesShort]
    exact okA_short xs h
  | .dict _, h => by simp only [okD] at h; cases h
theorem okA_short : ∀ xs : List PyData, okA xs = true → PyData.leavesShortAll 13 xs = true
  | [], _ => by simp only [PyData.leavesShortAll]
  | x :: xs, h => by
    simp only [okA, Bool.and_eq_true] at h
    simp only [PyData.leavesShortAll, Bool.and_eq_true]
    exact ⟨okD_short x h.1, okA_short xs h.2⟩
end
mutual
theorem okD_size : ∀ d : PyData, okD d = true → d.weight ≤ szD d
  | .none, _ => by simp only [PyData.weight, szD, Nat.le_refl]
  | .bool _, _ => by simp only [PyData.weight, szD, Nat.le_refl]
  | .int i, h => by
    simp only [okD, Bool.and_eq_true, decide_eq_true_eq] at h
    simp only [PyData.weight, szD]
    have := int_log h.1 h.2
    split <;> omega
  | .str x, h => by simp only [PyData.weight, szD, Nat.le_refl]
  | .list xs, h => by
    simp only [okD] at h
    simp only [PyData.weight, szD]
    exact okA_size xs h
  | .tuple xs, h => by
    simp only [okD] at h
    simp only [PyData.weight, szD]
    exact okA_size xs h
  | .dict _, h => by simp only [okD] at h; cases h
theorem okA_size : ∀ xs : List PyData, okA xs = true → PyData.weightAll xs ≤ szA xs
  | [], _ => by simp only [PyData.weightAll, szA, Nat.le_refl]
  | x :: xs, h => by
    simp only [okA, Bool.and_eq_true] at h
    simp only [PyData.weightAll, szA]
    have h1 := okD_size x h.1
    have h2 := okA_size xs h.2
    omega
end
/-- what repr and == take -/
structure Fine (d : PyData) : Prop where
  ok : okD d = true
  sz : szD d ≤ 1000000
  dp : d.depth ≤ 40
theorem Fine.shaped {d : PyData} (f : Fine d) : SeqAt.shaped d = true := by
  unfold SeqAt.shaped
  rw [okD_lay d f.ok, Bool.true_and]
  exact decide_eq_true (Nat.le_trans f.dp (by decide))
theorem Fine.eqv {d : PyData} (f : Fine d) : PyData.eqv d d = true := by
  first
    | exact eqv_refl d (okD_lay d f.ok)
    | exact PySem.P3.eqv_refl d (okD_lay d f.ok)
    | exact PySem.SeqAt.eqv_refl d (okD_lay d f.ok)
theorem Fine.len {d : PyData} (f : Fine d) : d.shown.length ≤ sizeLine :=
  PyData.shown_fits (B := 13) (by decide) (by decide) (okD_short d f.ok) (by
    have h1 := okD_size d f.ok
    have h2 := f.sz
    have e : (2 : Nat) ^ 20 = 1048576 := by decide
    omega)
theorem Fine.nd {d : PyData} (f : Fine d) : d.hasDict = false := PyData.hasDict_of_canLay d (okD_lay d f.ok)
theorem fine_bool (b : Bool) : Fine (.bool b) := ⟨by simp only [okD], by simp only [szD]; decide, by simp only [PyData.depth]; decide⟩
/-! ### repr -/
section
variable {X : Cx}
def rRepr (K : PySem.W.Frag) : List V → Hp → VK → Prop := fun xs H Q => ∃ x d, xs = [x] ∧ Dp K H x d ∧ Fine d ∧ Q (.str d.shown) H
theorem call_reprD (hg : X.A.guards = some []) (hu : X.A.units + 64 < cLine) : CallR X (.builtin "repr") (rRepr X.K) := by
  intro pins s σ H xs us Q I r h
  obtain ⟨x, d, rfl, hd, f, q⟩ := h
  obtain ⟨u, rfl, ru⟩ := vals1 r
  obtain ⟨as, rd⟩ := Dp.reads I d x u hd ru
  cases rd with
  | none =>
    simp only [PyData.shown] at q
    exact PySem.P.repr_of_none ⟨.str _, H, I.tok _, ⟨_, rfl⟩, q⟩
  | bool b =>
    simp only [PyData.shown] at q
    exact PySem.P.repr_of_bool ⟨.str _, H, I.tok _, ⟨_, rfl⟩, q⟩
  | int i t =>
    have hs := okD_show _ f.ok
    simp only [PyData.showable, decide_eq_true_eq] at hs
    simp only [PyData.shown] at q
    exact PySem.P.repr_of_int hs ⟨.str _, H, I.tok _, ⟨_, rfl⟩, q⟩
  | str z t =>
    have hs := f.len
    simp only [PyData.shown] at q hs
    exact PySem.P.repr_of_str ⟨.str _, H, I.tok _, ⟨_, rfl⟩, q⟩ hs
  | list h1 h2 h3 h4 =>
    have dp := f.dp
    exact repr_of_reads' (Reads.list h1 h2 h3 h4) (okD_show _ f.ok) (PyData.noDict_hsm f.nd) hg (by omega) (fun _ _ e => e) (fun h' u tk hk => ⟨.str _, H, I.kept (t' := tk) hk, ⟨u, rfl⟩, q⟩) f.len
  | tuple h1 h2 h3 h4 =>
    have dp := f.dp
    exact repr_of_reads' (Reads.tuple h1 h2 h3 h4) (okD_show _ f.ok) (PyData.noDict_hsm f.nd) hg (by omega) (fun _ _ e => e) (fun h' u tk hk => ⟨.str _, H, I.kept (t' := tk) hk, ⟨u, rfl⟩, q⟩) f.len
  | dict h1 h2 h3 h4 h5 =>
    have z := f.ok
    simp only [okD] at z
    cases z
end
/-! ### a def that is called where no repr is under way -/
structure FnG (P : Program) (w : World) (K : PySem.W.Frag) (mg : Str → Option Value) (base : Heap) (CX : CXT) (k : Nat) (f : Addr) (fd : FuncData) (ps : List Str) (sp : Sp) : Prop where
  len : ∀ vs H Q E, sp vs H Q E → vs.length = ps.length
  run : ∀ (A : Around) (outer : List Env) (s : Shared) (H : Hp) (args : Args) (us : List Value) (vs : List V) (Q : VK) (E : XK), A.guards = some [] → Room k A → Env0 P w K mg base A outer s H → BindsTo s fd args (ps.zip us) → Vals vs us → sp vs H Q E →
    codeAny (model P w) A (.call (.ref f) args) (CR CX outer P w H s Q E) s
section
variable {P : Program} {w : World} {K : PySem.W.Frag} {mg : Str → Option Value} {base : Heap} {x qual : Str} {params : Arguments} {body : List Stmt} {scope : Scope} {dvs : List V} {kws : List (Str × V)} {f : Addr} {fd : FuncData}
theorem FnG.ok {CX : CXT} {N ps : List Str} {k : Nat} {sp : Sp} (F : FunD K x qual params body scope dvs kws f fd) (S : FnScope N ps scope) (len : ∀ vs H Q E, sp vs H Q E → vs.length = ps.length)
    (hbody : ∀ (cdv : Value) (A : Around) (outer : List Env) (s : Shared) (H : Hp) (vs : List V) (Q : VK) (E : XK), A.guards = some [] → PySem.W.codeIn K cdv qual = true → (∃ oc od osl, K.lookup f = some ⟨oc, od, .func fd, osl⟩ ∧ fd.code = cdv) → Room k (A.deeper (envOfC qual scope s.heap.objs.size f cdv)) → sp vs H Q E →
      ∃ t, PSs (cxOf CX P w K mg base N qual scope f cdv A outer s H E) body t ∧ t { nx := fun _ H' => Q .non H', rt := Q } (L2.start N vs) H) : FnG P w K mg base CX (k + 1) f fd ps sp := by
  obtain ⟨oc, od, dV, kV, doc, pm, an, cdv, ct, osl, rfl, lk, hcd, _, _⟩ := F.ex
  refine ⟨len, fun A outer s H args us vs Q E hg hr e0 hb r hsp => ?_⟩
  exact LamX.run_ofS lk hcd S hr e0 hb r (len _ _ _ _ hsp) fun hr' => hbody cdv A outer s H vs Q E hg hcd ⟨_, _, _, lk, rfl⟩ hr' hsp
end
section
variable {X : Cx} {CX : CXT} {k : Nat} {f : Addr} {fd : FuncData} {ps : List Str} {sp : Sp} {E : XK} {x : Str} {p pos : Pos} {e : Expr} {es : List Expr} {t : TA}
theorem run_g {pins : List (Addr × Obj)} {σ : L2.St} {H : Hp} {s : Shared} {Q : VK} {us : List Value} {vs : List V} (F : FnG X.prog X.w X.K X.mg X.base CX k f fd ps sp) (hA : X.A.guards = some []) (hr : Room k X.A) (hb : Binds X.K fd ps []) (hx : Passes CX X E)
    (I : Inv X pins σ H s) (r : Vals vs us) (h : sp vs H Q E) : wpAny (model X.prog X.w) X.A (call (.ref f) us) (EP X pins σ Q) X.xe s := by
  have hl : (us ++ []).length = ps.length := by
    rw [List.append_nil, ← r.length]
    exact F.len _ _ _ _ h
  have hb' := hb s us I.kIn hl
  rw [List.append_nil] at hb'
  refine wpAny_call (codeAny_mono (F.run X.A X.stack s H ⟨us, []⟩ us vs Q E hA hr I.env0 hb' r h) fun res s' hq => ?_)
  cases res with
  | error er => exact hx pins σ H s er s' I hq
  | ok fl =>
    cases fl with
    | ret u => exact I.after hq
    | next => exact False.elim hq
    | brk => exact False.elim hq
    | cont => exact False.elim hq
theorem pe_callG (F : FnG X.prog X.w X.K X.mg X.base CX k f fd ps sp) (hA : X.A.guards = some []) (hr : Room k X.A) (hg : Gl X x) (hm : X.mg x = some (.ref f)) (hk : PySem.W.keepIn X.K (.ref f) = true) (hb : Binds X.K fd ps []) (hx : Passes CX X E)
    (ha : PA X (e :: es) t) (hdb : (x == ("__debug__" : Str)) = false := by decide) (he : starEach (e :: es) X.env = (false, eval e X.env) :: starEach es X.env := by rfl) (hpl : (backTo pos (starEach es X.env)).any (·.1) = false := by rfl) :
    PE X (.Call (.Name x p) (e :: es) [] pos) (fun σ H Q => t σ H fun vs H1 => sp vs H1 Q E) := by
  refine ⟨fun pins s σ H Q I h => ?_⟩
  refine wpAny_Call_Name_kw (ld_glob I hg hm ?_ hdb)
  refine PySem.W.callWith_K (h₀ := X.base) I.ok.mod.kin hk (thn (ha.run pos pins s σ H _ I h) fun us s1 ⟨vs, H1, I1, r, q⟩ => ⟨I1.kIn, ?_⟩) he hpl
  exact run_g F hA hr hb hx I1 r q
theorem pe_callG0 (F : FnG X.prog X.w X.K X.mg X.base CX k f fd ps sp) (hA : X.A.guards = some []) (hr : Room k X.A) (hg : Gl X x) (hm : X.mg x = some (.ref f)) (hk : PySem.W.keepIn X.K (.ref f) = true) (hb : Binds X.K fd ps []) (hx : Passes CX X E)
    (hdb : (x == ("__debug__" : Str)) = false := by decide) : PE X (.Call (.Name x p) [] [] pos) (fun σ H Q => sp [] H Q E) := by
  refine ⟨fun pins s σ H Q I h => ?_⟩
  refine wpAny_Call_Name_kw (ld_glob I hg hm ?_ hdb)
  exact PySem.W.callWith_K0 I.kIn hk (run_g (us := []) F hA hr hb hx I .nil h)
end
end K44

/-! try: .. except X as n: .. except Y as n: .. (several clauses, each with a name). -/
namespace K44
open PySem PySem.Spec PyProof.Rows L2
abbrev Clause : Type := Value × Nat × (Addr → Value → Option Addr → TS)
/-- behind a suite the clause's name is gone -/
def offName (D : Ends) (i : Nat) : Ends := { nx := fun σ' H' => D.nx (σ'.set i none) H', rt := D.rt, bk := fun σ' H' => D.bk (σ'.set i none) H', ct := fun σ' H' => D.ct (σ'.set i none) H' }
def wAsL (K : PySem.W.Frag) (D : Ends) : List Clause → WX
  | [] => fun _ _ _ _ => False
  | c :: r => fun cls d σ H => ∃ b, PySem.W.exmOne K cls c.1 = some b ∧ (b = true → ∀ a, H a = none → c.2.2 a cls d (offName D c.2.1) (σ.set c.2.1 (some (.ref a))) H) ∧ (b = false → wAsL K D r cls d σ H)
inductive HdsAs (X : Cx) : List ExceptHandler → List Clause → Prop
  | nil : HdsAs X [] []
  | cons {x n : Str} {c : Value} {i : Nat} {ts : Addr → Value → Option Addr → TS} {b₀ : Stmt} {suite : List Stmt} {np pos' : Pos} {hds : List ExceptHandler} {l : List Clause} (hc : Names X x c) (hi : X.N[i]? = some n) (hln : X.env.kindOf n = some .local)
      (hsu : ∀ (a : Addr) (oe : Obj) (cls : Value) (d : Option Addr) (pn : List (Addr × Obj)), Zc cls d oe → (∃ vs, oe.data = .fields vs) → PSs (X.suite a ((a, oe) :: pn)) (b₀ :: suite) (ts a cls d)) (r : HdsAs X hds l) :
      HdsAs X (.ExceptHandler (some (.Name x np)) (some n) (b₀ :: suite) pos' :: hds) ((c, i, ts) :: l)
section
variable {X : Cx} {body : List Stmt} {h₀ : ExceptHandler} {hds : List ExceptHandler} {l : List Clause} {pos : Pos} {tb : WX → TS}
theorem ps_try_manyAs (hs : X.stack = X.env :: X.outer) (hf : X.env.frame = some X.env.locals) (hN : X.N.Nodup)
    (hb : ∀ (W : WX) (pn : List (Addr × Obj)) (xe : Value → Shared → Prop), Takes (X.tr pn xe) W → PassesOwn (model X.prog X.w) X.A X.env xe → PSs (X.tr pn xe) body (tb W))
    (hh : HdsAs X (h₀ :: hds) l) : PS X (.Try body (h₀ :: hds) [] [] pos) (fun D σ H => tb (wAsL X.K D l) D σ H) := by
  refine ⟨fun pins s σ H D I h => ?_⟩
  have ok := I.ok
  have hfr : X.A.frames = some (X.env :: X.outer) := by rw [ok.frames, hs]
  refine wpAny_Try_except ?_
  refine wpAny_mono ((hb (wAsL X.K D l) (X.pn ++ pins) (fun e s₁ => wpAny (model X.prog X.w) X.A (noteFrame e X.env) (fun _ s₂ => wpAny (model X.prog X.w) X.A (setFlight e none) (fun _ s₃ =>
    wpAny (model X.prog X.w) X.A (handleBy e X.env (h₀ :: hds)) (SP X pins D) X.xe s₃) X.xe s₂) X.xe s₁) (fun u s' xx => ?_) PassesOwn.looking).run [] s σ H D (I.toTry _) h) (fun f s1 hsp => ?_) (fun e s1 he => he)
  · obtain ⟨a, B, sI, pins', σ', H', cls, d, rfl, J', nb, up, sky, na, os, ag, w⟩ := xx
    have J : Inv X pins σ' H' sI := J'.ofTry ok
    have sky' : Sky B (X.env :: X.outer) a (Zc cls d) X.env.locals s'.heap := by rw [← hs]; exact sky
    show wpAny (model X.prog X.w) X.A (noteFrame (.ref a) X.env) _ _ _
    refine Sky.land Zc.steady hfr hf sky' fun h3 fl3 up3 => ?_
    have J3 : Inv X pins σ' H' { s' with heap := h3 } := J.landed nb fl3.1 (up.trans up3) os ag
    obtain ⟨oe3, vs3, he3, hz3, hd3⟩ := fl3.there
    have nfr : a ∉ frs (X.env :: X.outer) := fun hm => by
      obtain ⟨_, o', e', hnf⟩ := fl3.2.2.1.mem hm
      rw [he3] at e'; cases e'
      exact hnf _ hd3
    have nL : a ≠ X.env.locals := fun z => nfr (List.mem_filterMap.mpr ⟨X.env, List.mem_cons_self, by rw [hf, z]⟩)
    have nF : a ∉ X.fs := fun hm => by
      obtain ⟨e, he, q⟩ := List.mem_filterMap.mp hm
      exact nfr (List.mem_filterMap.mpr ⟨e, List.mem_cons_of_mem _ he, q⟩)
    have S3 := J3.suite he3 hd3 na nL nF
    have go : ∀ {hds' : List ExceptHandler} {l' : List Clause}, HdsAs X hds' l' → wAsL X.K D l' cls d σ' H' →
        wpAny (model X.prog X.w) X.A (handleBy (.ref a) X.env hds') (SP X pins D) X.xe { s' with heap := h3 } := by
      intro hds' l' hk
      induction hk with
      | nil => exact fun z => False.elim z
      | @cons x n c i ts b₀ suite np pos' hds2 l2 hc hi hln hsu r ih =>
        intro w
        obtain ⟨b, hb1, hyes, hno⟩ := w
        refine wpAny_handleBy_cons (codeAny_handlers_test ?_) (by intro q; cases q)
        have LT : PySem.W.Looks (model X.prog X.w) h3 (typeOf (.ref a)) cls := fun A Q E s k q => wpAny_typeOf_ref (k _ _ he3) (by rw [hz3.1]; exact q)
        have LM := PySem.W.exm_one (M := model X.prog X.w) (J3.kIn) LT hb1
        have test : ∀ {Q : Value → Shared → Prop} {E : Value → Shared → Prop}, Q c { s' with heap := h3 } → wpAny (model X.prog X.w) (X.A.mark (some (.ref a))) (eval (.Name x np) X.env) Q E { s' with heap := h3 } := fun {Q E} q => by
          obtain ⟨hg, hdbg, hm | ⟨hm, hv, hnn⟩⟩ := hc
          · exact ld_glob (X := X.suite a ((a, oe3) :: (X.pn ++ pins))) S3 hg hm q hdbg
          · exact ld_blt (X := X.suite a ((a, oe3) :: (X.pn ++ pins))) S3 hg hm hv q hnn hdbg
        refine test (LM.here ?_)
        cases b with
        | false =>
          show wpAny _ X.A (handleBy (.ref a) X.env hds2) _ _ _
          exact ih (hno rfl)
        | true =>
          refine codeAny_handlers_suite_as ?_
          refine HandSPX.lands_againZ fl3 fun h4 fl4 up4 => ?_
          have J4 : Inv X pins σ' H' { s' with heap := h4 } := J.landed nb fl4.1 ((up.trans up3).trans up4) os ag
          obtain ⟨oe4, vs4, he4, hz4, hd4⟩ := fl4.there
          have S4 := J4.suite he4 hd4 na nL nF
          refine store_ok (X := X.suite a ((a, oe4) :: (X.pn ++ pins))) (v := .ref a) S4 hN hi (.inl hln) rfl (fun s5 S5 => ?_) (.inr hln)
          refine wpAny_mono ((hsu a oe4 cls d (X.pn ++ pins) hz4 ⟨_, hd4⟩).run [] s5 _ H' _ S5 (hyes rfl a na)) (fun f s6 hsp => ?_) (fun _ _ z => False.elim z)
          have off : ∀ {σ6 : L2.St} {H6 : Hp} {Q : Shared → Prop}, Inv (X.suite a ((a, oe4) :: (X.pn ++ pins))) [] σ6 H6 s6 → (∀ s7, Inv X pins (σ6.set i none) H6 s7 → Q s7) →
              wpAny (model X.prog X.w) X.A (do bindName X.env n .none; unbindBehindTheSuite X.env n pos') (fun _ s7 => Q s7) X.xe s6 := fun {σ6 H6 Q} S6 hq => gone_ok (S6.unsuite ok) hN hi hln hq
          cases f with
          | ret u =>
            obtain ⟨v6, σ6, H6, S6, r6, q6⟩ := hsp
            exact off S6 fun s7 J7 => ⟨_, _, _, J7, r6, q6⟩
          | next =>
            obtain ⟨σ6, H6, S6, q6⟩ := hsp
            exact off S6 fun s7 J7 => ⟨_, _, J7, q6⟩
          | brk =>
            obtain ⟨σ6, H6, S6, q6⟩ := hsp
            exact off S6 fun s7 J7 => ⟨_, _, J7, q6⟩
          | cont =>
            obtain ⟨σ6, H6, S6, q6⟩ := hsp
            exact off S6 fun s7 J7 => ⟨_, _, J7, q6⟩
    exact go hh w
  · cases f with
    | next =>
      obtain ⟨σ', H', J', q⟩ := hsp
      exact wpAny_execs_nil ⟨σ', H', J'.ofTry ok, q⟩
    | brk =>
      obtain ⟨σ', H', J', q⟩ := hsp
      exact ⟨σ', H', J'.ofTry ok, q⟩
    | cont =>
      obtain ⟨σ', H', J', q⟩ := hsp
      exact ⟨σ', H', J'.ofTry ok, q⟩
    | ret u =>
      obtain ⟨v, σ', H', J', r, q⟩ := hsp
      exact ⟨v, σ', H', J'.ofTry ok, r, q⟩
end
end K44

/-! An own exception over a built-in one: its __init__ says super().__init__(a text) and keeps its one argument in a field. -/
namespace K44
open PySem PySem.Spec PyProof.Rows L2
section
open PySem.W PySem.Calls PySem.HandSPX Builtin Builtin.ObjectAttr
def xA (fld : Str) (p1 p2 : Pos) : Arguments := { posonlyargs := [], args := [{ arg := "self", annotation := none, pos := p1 }, { arg := fld, annotation := none, pos := p2 }], vararg := none, kwonlyargs := [], kw_defaults := [], kwarg := none, defaults := [] }
def xBody (fld msg : Str) (a1 a2 a3 a4 a5 a6 q1 q2 q3 q4 : Pos) : List Stmt :=
  [.Expr (.Call (.Attribute (.Call (.Name "super" a1) [] [] a2) "__init__" a3) [.Constant (.str msg) 0 a4] [] a5) a6, .Assign [.Attribute (.Name "self" q1) fld q2] (.Name fld q3) q4]
def xScope (fld : Str) : Scope := { kind := .function, names := [(PySem.Str.ofString "self", .local), (fld, .local), (PySem.Str.ofString "__class__", .free), (PySem.Str.ofString "super", .globalImplicit)], isGenerator := false, isCoroutine := false, more := [] }
/-- what is written of the class at C and of its __init__ at fI -/
structure OxT (P : Program) (K : Frag) (mg : Str → Option Value) (cn fld : Str) (B newId initId : String) (bmB : List Value) (C fI : Addr) : Prop where
  gC : mg cn = some (.ref C)
  noS : mg "super" = none
  q : excInitIn K C bmB newId = true
  ov : excOver K C bmB = true
  hd : hasDictIn K C = true
  tk : takerIn K C fld = some none
  sa : findIn K (.ref C) "__setattr__" = some (some (.builtin "object.__setattr__"))
  iC : findIn K (.ref C) "__init__" = some (some (.ref fI))
  tC : typeIn K (.ref fI) = some (.type "function")
  kC : keepIn K (.ref C) = true
  exC : subIn K (.ref C) (.type "BaseException") = some true
  exB : subIn K (.ref C) (.type B) = some true
  mC : mroIn K C (.ref C) = some true
  tyC : typeIn K (.ref C) = some (.type "type")
  sup : ks_superIn K C C "__init__" = some (some (.builtin initId))
  opq : nsIn K cStatics "thirdparty.any" = some none
  htop : (P.main.scope.names.lookup ("super" : Str)).isSome = false
  nf : (fld == ("self" : Str)) = false
  nd : (fld == ("__debug__" : Str)) = false
  ns : (("super" : Str) == fld) = false
  nc : (("__class__" : Str) == fld) = false
  fn : ∃ (oc : Value) (od : Option Addr) (doc pm : Value) (an : Option Addr) (cda : Addr) (ct : Value) (osl : Array (Option Value)) (qual msg : Str) (cc : Addr) (p1 p2 a1 a2 a3 a4 a5 a6 q1 q2 q3 q4 : Pos),
    K.lookup fI = some ⟨oc, od, .func (ksFn "__init__" qual (xA fld p1 p2) (xBody fld msg a1 a2 a3 a4 a5 a6 q1 q2 q3 q4) (xScope fld) .none .none doc pm an (.ref cda) ct cc), osl⟩ ∧ codeIn K (.ref cda) qual = true ∧ (a3.endLine == a5.line) = true ∧
    (∀ (s : Shared) (x v : Value), BindsTo s (ksFn "__init__" qual (xA fld p1 p2) (xBody fld msg a1 a2 a3 a4 a5 a6 q1 q2 q3 q4) (xScope fld) .none .none doc pm an (.ref cda) ct cc) ⟨[x, v], []⟩ [("self", x), (fld, v)]) ∧
    (∃ cl cld csl, K.lookup cc = some ⟨cl, cld, .cell (some (.ref C)), csl⟩) ∧ ∃ ccl cdd vs ccs file tf, K.lookup cda = some ⟨ccl, cdd, .fields vs, ccs⟩ ∧ vs[2]? = some (.str file tf) ∧ ((P.main.file : Str) == file) = true
/-- what __init__ leaves of a fresh exception at x -/
structure XEnd (h h' : Heap) (x C dx t1 : Addr) (fld : Str) (v : Value) : Prop where
  keep : ∀ b o, b ≠ x → h.get? b = some o → h'.get? b = some o
  obj : h'.get? x = some { cls := .ref C, dict := some dx, data := .fields #[.ref t1, .none, .none, .none, .bool false, .none] }
  dbig : h.objs.size ≤ dx
  dne : dx ≠ x
  ns : h'.Ns1 dx (fun y => if y = fld then some v else none)
section
variable {prog : Program} {w : World} {A : Around} {E : Value → Shared → Prop} {R : Result → Shared → Prop} {s : Shared} {K : Frag} {mg : Str → Option Value} {cn fld : Str} {B newId initId : String} {bmB : List Value} {C fI : Addr}
theorem xs_lk (fld : Str) (nf : (fld == ("self" : Str)) = false) : (xScope fld).names.lookup fld = some .local := by
  have e : (fld == PySem.Str.ofString "self") = false := nf
  simp [xScope, List.lookup, e]
theorem call_pos {o : Expr} {name : Str} {apos pos a4 : Pos} {msg : Str} {env : Env} (hl : (apos.endLine == pos.line) = true) : eval (.Call (.Attribute o name apos) [.Constant (.str msg) 0 a4] [] pos) env = (do
      let ov ← attributeBase o name env (eval o env)
      standAt apos.atName
      let (f, first) ← holding [ov] (getMethod ov name (do return (← importBound o env).getD true))
      callWith pos f first (backTo pos (starEach [.Constant (.str msg) 0 a4] env)) []) := by
  rw [arm_eval_Call]
  unfold methodCall methodCallPos
  rw [hl, Bool.or_true]
  rfl
theorem ksuper (fld : Str) (hs : (("super" : Str) == fld) = false) : (xScope fld).names.lookup ("super" : Str) = some .globalImplicit := by
  have e : (PySem.Str.ofString "super" == fld) = false := hs
  have e1 : (PySem.Str.ofString "super" == PySem.Str.ofString "self") = false := by decide
  have e2 : (PySem.Str.ofString "super" == PySem.Str.ofString "__class__") = false := by decide
  simp [xScope, List.lookup, e, e1, e2]
theorem kclass (fld : Str) (hs : (("__class__" : Str) == fld) = false) : (xScope fld).names.lookup ("__class__" : Str) = some .free := by
  have e : (PySem.Str.ofString "__class__" == fld) = false := hs
  have e1 : (PySem.Str.ofString "__class__" == PySem.Str.ofString "self") = false := by decide
  simp [xScope, List.lookup, e, e1]
theorem ox_store {name : Str} {tk : Tok} {v : Value} {x : Addr} {t1 : Addr} {hp : Heap} {g : Array GenState} {d : Drawn} {t : Nat} {os : OsState} (SF : StoreFacts B bmB "object.__setattr__" "object") (X : K.In hp) (hx : hp.get? x = some (excO C t1)) (ov : excOver K C bmB = true) (ht : takerIn K C name = some none) (hh : hasDictIn K C = true)
    (hq : ∀ h' tk' dx, (∀ b o, b ≠ x → hp.get? b = some o → h'.get? b = some o) → hp.objs.size ≤ dx → dx ≠ x → h'.get? x = some { cls := .ref C, dict := some dx, data := .fields #[.ref t1, .none, .none, .none, .bool false, .none] } →
      h'.Ns1 dx (fun y => if y = name then some v else none) → R (.ok (.ret .none)) ⟨h', g, d, tk', os⟩) :
    codeAny (model prog w) A (.call (.builtin "object.__setattr__") ⟨[.ref x, .str name tk, v], []⟩) R ⟨hp, g, d, t, os⟩ := by
  have hxs : x ≠ hp.objs.size := Nat.ne_of_lt (Heap.lt_size hx)
  obtain ⟨cd, hc, hd'⟩ := any_some hh
  refine osa_openX (s := ⟨hp, g, d, t, os⟩) (od := none) (ox := excO C t1) SF X ⟨hx, rfl, rfl, trivial⟩ ov ht fun b => ?_
  refine wpAny_bind (wpAny_pure (wpAny_bind (instanceDict_exc (s := ⟨hp, g, d, t, os⟩) (c2 := .none) hx (looks_clsIn X hc) hd' ?_)))
  show wpAny _ _ (storeInDict hp.objs.size (.str name tk) name v) _ _ _
  refine HandSPX.store_in_new (hp := (hp.push (dictOf [] 0)).update x fun o => { o with dict := some hp.objs.size }) ?_ ?_
  · exact ⟨_, #[], _, (Heap.get?_update_ne _ _ _ _ hxs.symm).trans (Heap.get?_push_at rfl rfl), rfl, fun e he => absurd he (by simp), fun _ => rfl⟩
  · intro h' tk' hn' hs
    have hx₁ : (hp.push (dictOf [] 0)).get? x = some (excO C t1) := Heap.get?_push_of_some _ hx
    refine hq h' tk' hp.objs.size (fun b o hb ho => ?_) (Nat.le_refl _) hxs.symm ?_ hn'
    · exact (hs.2 b (Nat.ne_of_lt (Heap.lt_size ho))).trans ((Heap.get?_update_ne _ _ _ _ hb).trans (Heap.get?_push_of_some _ ho))
    · exact (hs.2 x hxs).trans (Heap.get?_update_self _ hx₁ rfl)
theorem ox_super {u x t0 : Addr} {rest : List Value} {hp : Heap} {g : Array GenState} {d : Drawn} {t : Nat} {os : OsState} {Q : Value → Shared → Prop} (FB : ExcBaseFacts B newId initId bmB) (q : excInitIn K C bmB newId = true) (X : K.In hp) (he : hp.get? x = some (excO C t0)) (hu : hp.get? u = some (kxs_mw initId x)) (hz : rest.length ≤ sizeLine)
    (h : ∀ h', (∀ b o, b ≠ x → hp.get? b = some o → h'.get? b = some o) → (∃ t1, h'.get? x = some (excO C t1)) → hp.objs.size ≤ h'.objs.size → Q .none ⟨h', g, d, t, os⟩) :
    wpAny (model prog w) A (call (.ref u) rest) Q E ⟨hp, g, d, t, os⟩ := by
  obtain ⟨nm, N', qn, bs, bm, hdct, sn, sub, ab, col, dd, k0, k1, k2, k3, k5, hC, hT⟩ := excInit_of X q
  refine wpAny_call (codeAny_of_tree ?_)
  show wpAny _ A.in1 (callAny (.ref u) ⟨rest, []⟩) _ _ _
  simp only [callAny]
  refine wpAny_bind (wpAny_load hu ?_)
  simp only [kxs_mw, show (Value.type "method-wrapper" == Value.type "method" || Value.type "method-wrapper" == Value.type "builtin_function_or_method" || Value.type "method-wrapper" == Value.type "method-wrapper") = true by decide, if_true]
  refine KFB.if_so (by decide) ?_
  refine wpAny_bind (check_bound_init FB.toExcCallFacts hC he rfl ?_)
  refine wpAny_bind (wpAny_pure (wpAny_pure ?_))
  refine ⟨plainId_quiet FB.init.plain _, codeAny_builtin FB.initEntry ?_⟩
  refine exc_init_tree (cls := .ref C) (t0 := t0) (dv := none) (c2 := .none) (c3 := .none) (b4 := .bool false) he hz fun h' k e' t' => ?_
  exact h h' k ⟨_, e'⟩ (Nat.le_of_lt (Heap.lt_size t'))
theorem ox_init (T : OxT prog K mg cn fld B newId initId bmB C fI) (FB : ExcBaseFacts B newId initId bmB) (KF : KxsFacts B initId) (SF : StoreFacts B bmB "object.__setattr__" "object") {x t0 : Addr} {v : Value} (X : K.In s.heap) (hlim : s.heap.NoLimit) (hx : s.heap.get? x = some (excO C t0)) (hnx : K.lookup x = none) (hroom : A.depth < recursionLimit)
    (hG : s.heap.Ns mainGlobals mg) (hB : ∃ mb, s.heap.Ns builtinsNs mb ∧ mb "super" = some (.type "super"))
    (hq : ∀ h' tk dx t1, XEnd s.heap h' x C dx t1 fld v → R (.ok (.ret .none)) { s with heap := h', toks := tk }) :
    codeAny (model prog w) A (.call (.ref fI) ⟨[.ref x, v], []⟩) R s := by
  obtain ⟨oc, od, doc, pm, an, cda, ct, osl, qual, msg, cc, p1, p2, a1, a2, a3, a4, a5, a6, q1, q2, q3, q4, ho, hcd, hline, hbind, ⟨cl, cld, csl, hcell⟩, ccl, cdd, vs, ccs, file, tf, hcode, hvs, hfile⟩ := T.fn
  have hne := T.nf
  have fself : (("self" : Str) == fld) = false := by
    rw [beq_eq_false_iff_ne] at hne ⊢
    exact fun z => hne z.symm
  refine ks_codeAny_call_defAt (fd := ksFn "__init__" qual (xA fld p1 p2) (xBody fld msg a1 a2 a3 a4 a5 a6 q1 q2 q3 q4) (xScope fld) .none .none doc pm an (.ref cda) ct cc) (body := xBody fld msg a1 a2 a3 a4 a5 a6 q1 q2 q3 q4) (binds := [("self", .ref x), (fld, v)])
    hroom (X _ _ ho) rfl hlim (codeRec_of X hcd) rfl (hbind _ _ _) ?hcell ?hloc (fun h₁ hns k => ?_)
  case hcell =>
    intro y hy
    simp [xScope] at hy
    rcases hy with rfl | rfl | rfl | rfl <;> (intro z; cases z)
  case hloc =>
    intro y hy
    rcases List.mem_cons.mp hy with rfl | hy
    · rfl
    · obtain rfl := List.mem_singleton.mp hy
      exact xs_lk fld hne
  obtain ⟨hp, g, d, tk, os⟩ := s
  have X₁ : K.In h₁ := X.keeps k
  have hx₁ := k _ _ hx
  have hlt : x < hp.objs.size := Heap.lt_size hx
  have hxL : hp.objs.size ≠ x := Nat.ne_of_gt hlt
  have vself : List.lookup ("self" : Str) [(("self" : Str), Value.ref x), (fld, v)].reverse = some (Value.ref x) := by
    simp [List.lookup, fself]
  have vfld : List.lookup fld [(("self" : Str), Value.ref x), (fld, v)].reverse = some v := by
    simp [List.lookup]
  obtain ⟨cdC, hcC, hdC⟩ := any_some T.hd
  obtain ⟨oD, hD1, hD2⟩ : ∃ oD, h₁.get? C = some oD ∧ oD.data = .cls cdC := by
    unfold clsIn at hcC
    split at hcC
    · rename_i c d cd' sl hoo
      cases hcC
      exact ⟨_, X₁ _ _ hoo, rfl⟩
    · cases hcC
  have I₁ : InstAt h₁ x (excO C t0) C none := ⟨hx₁, rfl, rfl, trivial⟩
  refine ks_wpAt_execs_cons (ks_wpAt_Expr_any (ks_wpAt_MethodCall ?_ (call_pos hline)))
  refine ks_wpAt_super_base (ksuper fld T.ns) (kclass fld T.nc) rfl rfl (X₁ _ _ ho) rfl rfl rfl (X₁ _ _ hcode) rfl hvs hfile T.htop ?_
  obtain ⟨mb, hB1, hB2⟩ := hB
  refine ks_loadName_global rfl (ksuper fld T.ns) (loadGlobal_builtin (hG.keeps k) T.noS (hB1.keeps k) hB2 ⟨rfl, ?_⟩)
  refine wpAny_loadName_free rfl (kclass fld T.nc) rfl ⟨_, X₁ _ _ hcell, rfl⟩ ?_
  refine wpAny_loadName_local rfl rfl hns vself ?_
  refine ks_wpAny_isType_cls hD1 hD2 ⟨rfl, ?_⟩
  refine ks_wpAny_call_super hD1 hD2 hx₁ rfl (fun c e => nomatch e) (looks_mroIn X₁ T.mC) fun h₂ e2 k2 => ?_
  have X₂ := X₁.keeps k2
  have hx₂ := k2 _ _ hx₁
  have I₂ : InstAt h₂ x (excO C t0) C none := ⟨hx₂, rfl, rfl, trivial⟩
  have hxC : x ≠ C := ks_ne X₂ I₂ hcC
  have hsup := T.sup
  unfold ks_superIn at hsup
  rw [hcC] at hsup
  refine kxs_getMethod KF e2 (looks_opaque X₂ T.opq) (l₀ := cdC.mro) (fun A Q E s k q => wpAny_bind ((looks_clsIn X₂ hcC) A _ E s k (wpAny_pure q))) rfl X₂ hsup (I₂.type.andThen (looks_subIn X₂ T.exB)) hxC rfl ?_
  have e3 : (h₂.push (kxs_mw initId x)).get? h₂.objs.size = some (kxs_mw initId x) := Heap.get?_push_at rfl rfl
  have k3 : ∀ b o, h₂.get? b = some o → (h₂.push (kxs_mw initId x)).get? b = some o := fun b o e => Heap.get?_push_of_some _ e
  have hz : (1 : Nat) ≤ sizeLine := by rw [sizeLine_eq]; decide
  have X₃ := X₂.keeps k3
  show wpAny _ _ (callWith a5 (.ref h₂.objs.size) [] (backTo a5 (starEach [.Constant (.str msg) 0 a4] _)) []) _ _ _
  have ec : ∀ env : Env, starEach [.Constant (.str msg) 0 a4] env = (false, eval (.Constant (.str msg) 0 a4) env) :: starEach [] env := fun _ => rfl
  rw [ec]
  refine kxs_callWith (i := initId) (x := x) rfl (Calls.evalArgs_plain (Calls.spliced_cons (Calls.Constant_str (k := 0) (pos := a4) (Calls.spliced_nil ⟨e3, ?_⟩))))
  refine ox_super FB T.q X₃ (k3 _ _ hx₂) e3 hz fun h₄ k4 hx₄ z4 => ?_
  obtain ⟨t1, hx₄⟩ := hx₄
  have kall : ∀ b o, b ≠ x → h₁.get? b = some o → h₄.get? b = some o := fun b o hb e => k4 b o hb (k3 _ _ (k2 _ _ e))
  have X₄ : K.In h₄ := fun a o e => kall a o (fun z => by rw [z] at e; have e' : K.lookup x = some o := e; rw [hnx] at e'; cases e') (X₁ _ _ e)
  have lt₄ : hp.objs.size < h₄.objs.size := by
    obtain ⟨oL, es, ep, hL, r⟩ := hns
    exact Heap.lt_size (kall _ _ hxL hL)
  have hn₄ : h₄.Ns hp.objs.size (fun y => List.lookup y [(("self" : Str), Value.ref x), (fld, v)].reverse) := by
    obtain ⟨oL, es, ep, hL, r⟩ := hns
    exact ⟨oL, es, ep, kall _ _ hxL hL, r⟩
  refine wpAt_of_wpAny ?_
  refine wpAny_execs_cons (plainObj_wpAny_Assign_Attribute ?_)
  refine wpAny_Name (wpAny_loadName_local rfl (xs_lk fld hne) hn₄ vfld ?_) T.nd
  refine wpAny_Name (wpAny_loadName_local rfl rfl hn₄ vself ?_) (by decide)
  refine set_plain X₄ (ox := excO C t1) (od := none) ⟨hx₄, rfl, rfl, trivial⟩ T.sa ?_
  refine ox_store SF X₄ hx₄ T.ov T.tk T.hd fun h₅ tk₅ dx k₅ dn dne hx₅ hn₅ => ?_
  show wpAny _ _ (execs _ _) _ _ _
  exact wpAny_execs_nil (hq h₅ tk₅ dx t1 ⟨fun b o hb e => k₅ b o hb (kall b o hb (k b o e)), hx₅, Nat.le_of_lt (Nat.lt_of_lt_of_le lt₄ dn), dne, hn₅⟩)
/-- a made one -/
structure XMade (h h' : Heap) (e C d : Addr) (fld : Str) (v : Value) : Prop where
  keep : ∀ b o, h.get? b = some o → h'.get? b = some o
  new : h.objs.size ≤ e
  obj : ∃ oe vs, h'.get? e = some oe ∧ oe.cls = .ref C ∧ oe.dict = some d ∧ oe.data = .fields vs ∧ vs[1]? = some .none
  dbig : h.objs.size ≤ d
  dne : d ≠ e
  ns : h'.Ns1 d (fun y => if y = fld then some v else none)
theorem ox_made (T : OxT prog K mg cn fld B newId initId bmB C fI) (FB : ExcBaseFacts B newId initId bmB) (KF : KxsFacts B initId) (SF : StoreFacts B bmB "object.__setattr__" "object") {v : Value} (X : K.In s.heap) (hlim : s.heap.NoLimit) (hroom : A.depth + 1 < recursionLimit)
    (hG : s.heap.Ns mainGlobals mg) (hB : ∃ mb, s.heap.Ns builtinsNs mb ∧ mb "super" = some (.type "super"))
    (hq : ∀ h' tk e d, XMade s.heap h' e C d fld v → R (.ok (.ret (.ref e))) { s with heap := h', toks := tk }) :
    codeAny (model prog w) A (.call (.ref C) ⟨[v], []⟩) R s := by
  obtain ⟨nm, N', qn, bs, bm, hdct, sn, sub, ab, col, dd, k0, k1, k2, k3, k5, hC, hT⟩ := excInit_of X T.q
  obtain ⟨hp, g, dr, tk, os⟩ := s
  have k : ∀ b o, hp.get? b = some o → ((hp.push (kdv_tup [v])).push (excO C hp.objs.size)).get? b = some o := fun b o e => Heap.get?_push_of_some _ (Heap.get?_push_of_some _ e)
  have hget : ((hp.push (kdv_tup [v])).push (excO C hp.objs.size)).get? (hp.objs.size + 1) = some (excO C hp.objs.size) := by heap_get
  have hnx : K.lookup (hp.objs.size + 1) = none := by
    cases e : K.lookup (hp.objs.size + 1) with
    | none => rfl
    | some o =>
      have z : hp.get? (hp.objs.size + 1) = some o := X _ _ e
      exact absurd (Nat.lt_of_succ_lt (Heap.lt_size z)) (Nat.lt_irrefl _)
  have hz : [v].length ≤ sizeLine := by rw [sizeLine_eq]; exact (by decide : 1 ≤ 16777216)
  obtain ⟨mb, hB1, hB2⟩ := hB
  refine HandSPX.call_own FB hT hC (looks_findIn X T.iC) (fun self => PySem.W.bind_fn X self T.tC) hz ?_
  refine ox_init (s := ⟨(hp.push (kdv_tup [v])).push (excO C hp.objs.size), g, dr, tk, os⟩) T FB KF SF (X.keeps k) (hlim.keeps k) hget hnx ?_ (hG.keeps k) ⟨mb, hB1.keeps k, hB2⟩ fun h' tk' dx t1 ⟨k', hx, dn, dne, hns⟩ => ?_
  · show A.depth + 1 < recursionLimit
    exact hroom
  · have old : ∀ b o, hp.get? b = some o → h'.get? b = some o := fun b o e => k' b o (Nat.ne_of_lt (Nat.lt_succ_of_lt (Heap.lt_size e))) (k b o e)
    have z : hp.objs.size + 1 + 1 ≤ dx := by
      first
        | (simpa only [Heap.size_push] using dn)
        | exact dn
        | (have q := dn; rw [Heap.size_push, Heap.size_push] at q; exact q)
    exact ⟨rfl, hq h' tk' (hp.objs.size + 1) dx ⟨old, Nat.le_succ _, ⟨_, _, hx, rfl, rfl, rfl, rfl⟩, Nat.le_trans (Nat.le_trans (Nat.le_succ _) (Nat.le_succ _)) z, dne, hns⟩⟩
end
end
/-! ### the words of a body -/
theorem relO_one {fld : Str} {v : V} {v' : Value} (r : RelV v v') (f : Str) : RelO (List.lookup f [(fld, v)]) (if f = fld then some v' else none) := by
  by_cases hw : f = fld
  · subst hw
    rw [if_pos rfl]
    have q : List.lookup f [(f, v)] = some v := by simp [List.lookup]
    rw [q]
    exact r
  · rw [if_neg hw]
    have qw : (f == fld) = false := by simpa using hw
    have q2 : List.lookup f [(fld, v)] = none := by simp [List.lookup, qw]
    rw [q2]
    trivial
section
variable {X : Cx} {cn fld : Str} {B newId initId : String} {bmB : List Value} {C fI : Addr}
/-- cn(e) -/
def tMkX (C : Addr) (fld : Str) (ta : TA) : L2.St → Hp → XK → Prop := fun σ H Q => ta σ H fun vs H1 => ∃ v, vs = [v] ∧ ∀ d, H1 d = none → Q (.ref C) (some d) (upd H1 d (.xd [(fld, v)]))
theorem pmk_ox {a : Expr} {ta : TA} {p pos : Pos} {k : Nat} (T : OxT X.prog X.K X.mg cn fld B newId initId bmB C fI) (FB : ExcBaseFacts B newId initId bmB) (KF : PySem.W.KxsFacts B initId) (SF : PySem.StoreFacts B bmB "object.__setattr__" "object") (hr : Room k X.A) (ha : PA X [a] ta) (hg : Gl X cn)
    (hdb : (cn == ("__debug__" : Str)) = false := by decide) (he : starEach (a :: []) X.env = (false, eval a X.env) :: starEach [] X.env := by rfl) (hpl : (backTo pos (starEach [] X.env)).any (·.1) = false := by rfl) :
    PMk X (.Call (.Name cn p) [a] [] pos) (tMkX C fld ta) := by
  intro pins s σ H Q I h
  refine wpAny_Call_Name_kw (ld_glob I hg T.gC ?_ hdb)
  refine PySem.W.callWith_K (h₀ := X.base) I.ok.mod.kin T.kC (thn (ha.run pos pins s σ H _ I h) fun us s1 hh => ?_) he hpl
  obtain ⟨vs, H1, I1, r1, v, ev, q1⟩ := hh
  subst ev
  refine ⟨I1.kIn, ?_⟩
  cases r1 with
  | cons rv rn =>
    rename_i v' us'
    cases rn
    show wpAny _ _ (call (.ref C) [v']) _ _ _
    have hlim := I1.nolimit
    have hG : s1.heap.Ns mainGlobals X.mg := I1.mod.glob.keeps I1.bk
    have hB : ∃ mb, s1.heap.Ns builtinsNs mb ∧ mb "super" = some (.type "super") := by
      obtain ⟨mb, h1, h2⟩ := I1.mod.blt
      exact ⟨mb, h1.keeps I1.bk, (h2 "super" (by decide)).trans rfl⟩
    obtain ⟨hp, g, dr, tk, os⟩ := s1
    refine wpAny_call (ox_made T FB KF SF I1.kIn hlim (by have := hr.dp; omega) hG hB fun h' tk' e d M => ?_)
    show MkP X pins σ Q (.ref e) ⟨h', g, dr, tk', os⟩
    obtain ⟨oe, fv, hoe, hc, hd, hdat, h1⟩ := M.obj
    have hns := M.ns
    obtain ⟨G', g1, g2⟩ := restrict h' fun b => decide (b ≠ e)
    have gk : ∀ b, b ≠ e → G'.get? b = h'.get? b := fun b hb => g1 b (decide_eq_true hb)
    have ge : G'.get? e = none := g2 e (by simp)
    have old : ∀ b o, hp.get? b = some o → G'.get? b = some o := fun b o q => (gk b (Nat.ne_of_lt (Nat.lt_of_lt_of_le (Heap.lt_size q) M.new))).trans (M.keep b o q)
    have ob : ObjOk X.prog X.w (upd H1 d (.xd [(fld, v)])) G' d (.xd [(fld, v)]) :=
      ⟨_, hns.at (fun o q => (gk d M.dne).trans q), fun f => relO_one rv f⟩
    have J : Inv X pins σ (upd H1 d (.xd [(fld, v)])) ⟨G', g, dr, tk', os⟩ := I1.laid (t' := tk') old M.dbig ob
    refine ⟨e, oe, fv, ⟨G', g, dr, tk', os⟩, _, .ref C, some d, rfl, J, fun b o q => ?_, ge, hoe, ⟨hc, hd⟩, hdat, h1, ?_, rfl, I1.bare, raises_own T.exC T.tyC, q1 d (I1.hok.fresh M.dbig)⟩
    · by_cases hb : b = e
      · have q' : G'.get? b = some o := q
        rw [hb, ge] at q'; cases q'
      · exact (gk b hb).symm.trans q
    · rw [upd_ne (Ne.symm M.dne)]
      exact I1.hok.fresh M.new
/-- raise cn(e) -/
def tRaiseX (C : Addr) (fld : Str) (W : WX) (ta : TA) : TS := fun _ σ H => tMkX C fld ta σ H fun cls d H' => W cls d σ H'
theorem ps_raiseX {a : Expr} {ta : TA} {W : WX} {p pos pos2 : Pos} {k : Nat} (hc : X.calm = true) (T : OxT X.prog X.K X.mg cn fld B newId initId bmB C fI) (FB : ExcBaseFacts B newId initId bmB) (KF : PySem.W.KxsFacts B initId) (SF : PySem.StoreFacts B bmB "object.__setattr__" "object") (hr : Room k X.A) (tk : Takes X W) (ha : PA X [a] ta) (hg : Gl X cn)
    (hdb : (cn == ("__debug__" : Str)) = false := by decide) (he : starEach (a :: []) X.env = (false, eval a X.env) :: starEach [] X.env := by rfl) (hpl : (backTo pos (starEach [] X.env)).any (·.1) = false := by rfl) :
    PS X (.Raise (some (.Call (.Name cn p) [a] [] pos)) none pos2) (tRaiseX C fld W ta) := ps_raise hc tk (pmk_ox T FB KF SF hr ha hg hdb he hpl)
end
end K44

/-! A lambda handed to a def, with parameters that have defaults or with none. -/
namespace K44
open PySem PySem.Spec PyProof.Rows L2
open LamX (CodeO TabS Tabs ExtN TabB lamEnv lamCx tLam codeO_ne among_app inv_table)
/-- the lambda's names: parameters that the maker doesn't know, captured names, globals -/
structure LamN (N : List Str) (sc scope : Scope) : Prop where
  kind : scope.kind = .function
  co : scope.isCoroutine = false
  gen : scope.isGenerator = false
  own : ∀ y ∈ scope.names, y.2 ≠ .cell ∧ (y.2 = .local → y.1 ∉ N)
  free : ∀ y ∈ scope.names, y.2 = .free → sc.names.lookup y.1 = some .cell ∨ sc.names.lookup y.1 = some .free
def lamNB (N : List Str) (sc scope : Scope) : Bool :=
  decide (scope.kind = .function) && !scope.isCoroutine && !scope.isGenerator && scope.names.all fun y => !decide (y.2 = .cell) && (!decide (y.2 = .local) || decide (y.1 ∉ N)) && (!decide (y.2 = .free) || decide (sc.names.lookup y.1 = some .cell) || decide (sc.names.lookup y.1 = some .free))
theorem lamN_by {N : List Str} {sc scope : Scope} (h : lamNB N sc scope = true) : LamN N sc scope := by
  unfold lamNB at h
  simp only [Bool.and_eq_true, Bool.or_eq_true, Bool.not_eq_true', decide_eq_true_eq, decide_eq_false_iff_not, List.all_eq_true] at h
  obtain ⟨⟨⟨h1, h2⟩, h3⟩, h4⟩ := h
  refine ⟨h1, h2, h3, fun y hy => ⟨(h4 y hy).1.1, fun e => (h4 y hy).1.2.resolve_left fun z => z e⟩, fun y hy e => ?_⟩
  rcases (h4 y hy).2 with (z | z) | z
  · exact absurd e z
  · exact .inl z
  · exact .inr z
theorem LamN.has {X : Cx} {N : List Str} {scope : Scope} (L : LamN N X.env.scope scope) (ok : X.Ok) : ∀ y ∈ scope.names, y.2 = .free → ∃ c, X.env.cells.lookup y.1 = some c := fun y hy e => by
  rcases L.free y hy e with k | k
  · exact ok.has _ (.inl k)
  · exact ok.has _ (.inr k)
section
variable {X : Cx} {pins : List (Addr × Obj)} {σ : L2.St} {H HZ : Hp} {s s1 : Shared}
/-- the function object of the lambda -/
abbrev lob (X : Cx) (params : Arguments) (body : Expr) (scope : Scope) (dV doc pm : Value) (c' : Addr) (ctv : Value) : Obj :=
  PySem.W.kdv_obj "<lambda>" (X.env.qual ++ "<lambda>") params (.expr body) scope (cloFrom X.env.cells scope.names []) dV doc pm c' ctv
abbrev lfd (X : Cx) (params : Arguments) (body : Expr) (scope : Scope) (dV doc pm : Value) (c' : Addr) (ctv : Value) : FuncData :=
  PySem.W.kdv_fn "<lambda>" (X.env.qual ++ "<lambda>") params (.expr body) scope (cloFrom X.env.cells scope.names []) dV doc pm (.ref c') ctv
/-- the function is made, its defaults at hand -/
theorem lam_tail {T : List (Addr × Str)} {c P : Addr} {params : Arguments} {body : Expr} {scope : Scope} {pos : Pos} {fl : Nat} {dV : Value} {E : Value → Shared → Prop} {Q : Value → Shared → Prop} (I : Inv X pins σ H s) (TB : TabB X.base X.mg c P) (hcode : X.env.code = .ref c)
    (hm : (P, X.env.qual ++ "<lambda>") ∈ T) (hu : ∀ p ∈ T, p.1 = P → p.2 = X.env.qual ++ "<lambda>") (hT : Tabs T H) (hfree : ∀ y ∈ scope.names, y.2 = .free → ∃ c, X.env.cells.lookup y.1 = some c)
    (h : ∀ (f c' : Addr) (doc pm ctv : Value) (H1 : Hp) (s' : Shared), Inv X pins σ H1 s' → ExtN H H1 → Tabs T H1 →
      s'.heap.get? f = some (lob X params body scope dV doc pm c' ctv) → H1 f = none → f ∉ frs X.stack → H1 c' = some (CodeO c' (X.env.qual ++ "<lambda>")) → Q (.ref f) s') :
    wpAny (model X.prog X.w) X.A (makeTail "<lambda>" (X.env.qual ++ "<lambda>") params (.expr body) scope X.env dV .none none pos fl) Q E s := by
  obtain ⟨ps, hP, ht, ha⟩ := hT _ hm
  have bP : s.heap.BuiltinsAt X.mg P := TB.bm.keeps I.bk
  have hP' : s.heap.get? P = some { cls := .none, data := .fields ps } := I.hok P _ hP
  have nofr : ∀ f, s.heap.objs.size ≤ f → f ∉ frs X.stack := fun f hf z => by
    rcases List.mem_cons.mp (I.stkSub _ z) with e | e
    · have h1 := I.lt
      rw [← e] at h1
      exact Nat.lt_irrefl _ (Nat.lt_of_lt_of_le h1 hf)
    · exact I.nofs hf e
  cases hc : codeAmong pos ps.toList with
  | none =>
    refine PySem.W.kdv_makeTail (mg := X.mg) (c := c) (P := P) (ps := ps) (closure_ok hfree) I.ok.glob (I.mod.glob.keeps I.bk) hcode (TB.code.keeps I.bk) hP' ht hc TB.gP bP fun c' ctv doc h' tk hx hge hlt hrec htb => ?_
    obtain ⟨c2, oc, vs, t, e2, hoc, hd, hv⟩ := hrec
    cases e2
    have hsz : s.heap.objs.size ≤ h'.objs.size := Nat.le_trans hge (Nat.le_of_lt hlt)
    have nC : H c' = none := I.hok.fresh hge
    have I1 := inv_table (t' := tk) (more := #[rawInt pos.line, rawInt pos.col, .ref c']) (h' := h'.push (lob X params body scope dV doc ((X.mg "__name__").getD .none) c' ctv)) I hP
      (fun b o hb e => Heap.get?_push_of_some _ (hx b o hb e)) (Heap.get?_push_of_some _ htb) hge ⟨oc, vs, t, Heap.get?_push_of_some _ hoc, hd, hv⟩
    have hE : ExtN H (upd (upd H P (.tbl (ps ++ #[rawInt pos.line, rawInt pos.col, .ref c']))) c' (CodeO c' (X.env.qual ++ "<lambda>"))) := fun b o e n => by
      rw [upd_ne (ne_of_none e nC), upd_ne (fun z => n ps (Option.some.inj (e.symm.trans (by rw [z]; exact hP))))]
      exact e
    have eL : (ps ++ #[rawInt pos.line, rawInt pos.col, .ref c']).toList = ps.toList ++ [rawInt pos.line, rawInt pos.col, .ref c'] := by simp
    refine h h'.objs.size c' doc ((X.mg "__name__").getD .none) ctv _ _ I1 hE (fun p hp => ?_) (Heap.get?_push_size _ rfl) ?_ (nofr _ hsz) upd_same
    · by_cases hb : p.1 = P
      · rw [hu p hp hb, hb]
        refine ⟨_, by rw [upd_ne (ne_of_none hP nC), upd_same], by rw [eL]; exact PySem.TriplesOk_snoc _ _ _ _ ht, fun p' cv hcv => ?_⟩
        rw [eL] at hcv
        rcases among_app _ ht hcv with z | z
        · obtain ⟨c0, e1, e2⟩ := ha p' cv z
          exact ⟨c0, e1, hE _ _ e2 codeO_ne⟩
        · exact ⟨c', z, upd_same⟩
      · obtain ⟨ps', a1, a2, a3⟩ := hT p hp
        refine ⟨ps', by rw [upd_ne (ne_of_none a1 nC), upd_ne hb]; exact a1, a2, fun p' cv hcv => ?_⟩
        obtain ⟨c0, e1, e2⟩ := a3 p' cv hcv
        exact ⟨c0, e1, hE _ _ e2 codeO_ne⟩
    · have n1 : h'.objs.size ≠ c' := Nat.ne_of_gt hlt
      have n2 : h'.objs.size ≠ P := Nat.ne_of_gt (Nat.lt_of_lt_of_le (Heap.lt_size hP') hsz)
      rw [upd_ne n1, upd_ne n2]
      exact I.hok.fresh hsz
  | some cv =>
    obtain ⟨c', e, hco⟩ := ha pos cv hc
    subst e
    refine PySem.W.kdv_makeTailHit (mg := X.mg) (c := c) (P := P) (ps := ps) (closure_ok hfree) I.ok.glob (I.mod.glob.keeps I.bk) hcode (TB.code.keeps I.bk) hP' ht hc bP fun ctv doc h' tk hx hsz => ?_
    have I1 : Inv X pins σ H { s with heap := h'.push (lob X params body scope dV doc ((X.mg "__name__").getD .none) c' ctv), toks := tk } := I.kept fun b o e => Heap.get?_push_of_some _ (hx b o e)
    exact h h'.objs.size c' doc ((X.mg "__name__").getD .none) ctv H _ I1 (ExtN.refl H) hT (Heap.get?_push_size _ rfl) (I.hok.fresh hsz) (nofr _ hsz) hco
theorem lam_startN {A : Around} {outer : List Env} {E : XK} {scope : Scope} {f c' : Addr} {h₁ : Heap} {tk : Nat} {m₁ : Str → Option Value} (I : Inv X pins σ H s) (L : LamN X.N X.env.scope scope) (e0 : Env0 X.prog X.w X.K X.mg X.base A outer s1 HZ) (hd : A.handled = none)
    (un : Un (frs X.stack) [] H HZ s.heap s1.heap) (hns : h₁.Ns s1.heap.objs.size m₁) (kp : ∀ b o, s1.heap.get? b = some o → h₁.get? b = some o) :
    Inv (lamCx X A outer s1 HZ E scope f c') [] σ HZ { s1 with heap := h₁, toks := tk } := by
  have hfree := L.has I.ok
  have cm : ∀ {y c}, (cloFrom X.env.cells scope.names []).lookup y = some c → X.env.cells.lookup y = some c := fun {y c} e => by
    rcases cloFrom_mem (PySem.mem_of_lookup e) with hm | ⟨h1, h2⟩
    · cases hm
    · obtain ⟨c1, hc⟩ := hfree _ h1 rfl
      have hc : X.env.cells.lookup y = some c1 := hc
      have e2 : c = c1 := by
        rw [h2, hc] <;> rfl
      rw [e2]
      exact hc
  have look : ∀ {y}, scope.names.lookup y = some .free → ∃ c, (cloFrom X.env.cells scope.names []).lookup y = some c := fun {y} hl => by
    have hy : (y, NameKind.free) ∈ scope.names := PySem.mem_of_lookup hl
    exact mem_lookup (cloFrom_has (cells := X.env.cells) (acc := []) hy)
  have cellK : ∀ {c : Addr} {v : Option Value}, H c = none → s.heap.IsCell c v → h₁.IsCell c v := fun {c v} n ⟨o, ho, hd⟩ => by
    obtain ⟨sl, q⟩ := un.any ho n (by simp)
    exact ⟨_, kp _ _ q, hd⟩
  have noA : ∀ b : Addr, b ∉ (lamCx X A outer s1 HZ E scope f c').ex := fun b z => absurd (show b ∈ ([] : List Addr) from z) (by simp)
  refine ⟨⟨e0.mod, L.kind, rfl, rfl, Nat.le_refl _, fun y z c e1 e2 => I.ok.inj y z c (cm e1) (cm e2), fun y hy => ?_, fun y c z _ => ?_, fun _ => hd, Around.frames_deeper e0.frames, .inr ⟨rfl, rfl⟩, fun b z => absurd z (noA b), e0.bs, e0.bsz, fun b _ _ => noA b,
      fun b z => absurd z (noA b), e0.funs, e0.frf⟩,
    rfl, e0.bare, Un.kept kp, ⟨_, hns, fun i y v e1 e2 e3 => ?_⟩, fun y c e => ?_, e0.hok.fresh (Nat.le_refl _), fun y c e => ?_, fun q hq => absurd (show q ∈ ([] : List (Addr × Obj)) ++ [] from hq) (by simp), e0.hok.kept kp, I.len⟩
  · have hy : scope.names.lookup y = some .cell ∨ scope.names.lookup y = some .free := hy
    rcases hy with hy | hy
    · exact absurd rfl (L.own _ (PySem.mem_of_lookup hy)).1
    · exact look hy
  · have z : false = true := z
    cases z
  · have e3 : Vis scope y := e3
    rcases e3 with k | k | k
    · exact absurd (List.mem_of_getElem? e1) ((L.own _ (PySem.mem_of_lookup k)).2 rfl)
    · exact absurd rfl (L.own _ (PySem.mem_of_lookup k)).1
    · obtain ⟨m, hn, hl⟩ := I.loc
      have hvis : Vis X.env.scope y := (L.free _ (PySem.mem_of_lookup k) rfl).elim (fun k => .inr (.inl k)) (fun k => .inr (.inr k))
      obtain ⟨w', r, q⟩ := hl i y v e1 e2 hvis
      obtain ⟨c2, h2⟩ := look k
      refine ⟨w', r, .inr ⟨.inr k, c2, h2, ?_⟩⟩
      have c1 := cm h2
      rcases q with ⟨k', _⟩ | ⟨_, c3, e', z⟩
      · have k' : X.env.scope.names.lookup y = some .local := k'
        rcases L.free _ (PySem.mem_of_lookup k) rfl with k2 | k2 <;> rw [show X.env.scope.names.lookup y = _ from k2] at k' <;> cases k'
      · rw [c1] at e'
        cases e'
        exact cellK (I.freeC y _ c1) z
  · obtain ⟨w', z⟩ := I.cell y c (cm e)
    exact ⟨w', cellK (I.freeC y c (cm e)) z⟩
  · obtain ⟨v, o, ho, hd⟩ := I.cell y c (cm e)
    exact un.free c o ho (I.freeC y c (cm e)) (by simp)
/-- a(), in the def that got the lambda -/
theorem pe_actN {CXg : CXT} {Eg : XK} {Ng : List Str} {qg : Str} {sg : Scope} {g f c' : Addr} {cdg dV doc pm ctv : Value} {params : Arguments} {body : Expr} {scope : Scope} {k i : Nat} {a : Str} {pn : List (Addr × Obj)} {xe : Value → Shared → Prop} {W : WX} {t : XK → TE} {p1 p2 : Pos} {Kp : Hp → Prop}
    (I : Inv X pins σ H s) (L : LamN X.N X.env.scope scope) (hf : s.heap.get? f = some (lob X params body scope dV doc pm c' ctv)) (hfn : H f = none) (hfr : f ∉ frs X.stack)
    (hKc : ∀ H1, Kp H1 → H1 c' = some (CodeO c' (X.env.qual ++ "<lambda>")))
    (hbind : ∀ (s1 : Shared) (H1 : Hp), HOk X.prog X.w H1 s1.heap → Kp H1 → ∃ binds, BindsTo s1 (lfd X params body scope dV doc pm c' ctv) ⟨[], []⟩ binds ∧ ∀ y ∈ binds, scope.names.lookup y.1 = some .local)
    (tk : Takes ((cxOf CXg X.prog X.w X.K X.mg X.base Ng qg sg g cdg X.A X.stack s H Eg).tr pn xe) W) (hr : Room (k + 1) (X.A.deeper (envOfC qg sg s.heap.objs.size g cdg)))
    (hbody : ∀ (A : Around) (outer : List Env) (s : Shared) (H : Hp) (E : XK), Room k (A.deeper (lamEnv X scope s.heap.objs.size f c')) → PE (lamCx X A outer s H E scope f c') body (t E))
    (hN : Ng[i]? = some a) (hv : Vis sg a) (hd : (a == ("__debug__" : Str)) = false := by decide) (hcd : (a == ("__classdict__" : Str)) = false := by decide) :
    PE ((cxOf CXg X.prog X.w X.K X.mg X.base Ng qg sg g cdg X.A X.stack s H Eg).tr pn xe) (.Call (.Name a p1) [] [] p2)
      (fun σZ HZ Q => σZ[i]? = some (some (.ref f)) ∧ Kp HZ ∧ t (WE W σZ) σ HZ Q) := by
  refine ⟨fun pinsZ sZ σZ HZ Q IZ h => ?_⟩
  obtain ⟨hs, hKp, ht⟩ := h
  have hc := hKc _ hKp
  refine wpAny_Call_Name_kw (thn ((pe_var (pos := p1) (i := i) hN hv hd hcd).run pinsZ sZ σZ HZ (fun v H1 => v = .ref f ∧ H1 = HZ) IZ ⟨.ref f, hs, rfl, rfl⟩) fun u s1 ⟨v, H1, I1, r1, q1⟩ => ?_)
  obtain ⟨ev, eH⟩ := q1
  subst ev
  rw [eH] at I1
  obtain rfl : u = Value.ref f := r1
  have of1 : s1.heap.get? f = some (lob X params body scope dV doc pm c' ctv) := I1.base.keep f _ hf hfn hfr (fun z => nomatch (show f ∈ ([] : List Addr) from z))
  refine PySem.W.callWith_F0 ⟨_, _, _, _, of1⟩ ?_
  have un : Un (frs X.stack) [] H HZ s.heap s1.heap := I1.base
  obtain ⟨⟨oc, vs, t, hoc, hdc, hvc⟩, _, _⟩ := I1.hok c' _ hc
  obtain ⟨binds, hb1, hb2⟩ := hbind s1 HZ I1.hok hKp
  have rc : codeAny (model X.prog X.w) (X.A.deeper (envOfC qg sg s.heap.objs.size g cdg)) (.call (.ref f) ⟨[], []⟩) (CR (L2.CX X.prog X.w) (envOfC qg sg s.heap.objs.size g cdg :: X.stack) X.prog X.w HZ s1 Q (WE W σZ)) s1 := by
    refine PySem.W.kla_callFunE hr.depth of1 rfl L.co L.gen rfl ⟨c', oc, vs, t, rfl, hoc, hdc, hvc⟩ (hb1 _ _ _ _ ?_)
    refine wpAny_newFunctionEnv (fun y hy => (L.own y hy).1) hb2 (fun h₁ hns hsb => ⟨I1.nolimit.fresh _ hsb, ?_⟩) L.kind
    show codeAny _ _ (.expr body (lamEnv X scope s1.heap.objs.size f c')) _ _
    have kp : ∀ b o, s1.heap.get? b = some o → h₁.get? b = some o := fun b o e => hsb.extBut b o (Nat.ne_of_lt (Heap.lt_size e)) (Heap.get?_push_of_some _ e)
    have J : Inv (lamCx X (X.A.deeper (envOfC qg sg s.heap.objs.size g cdg)) (envOfC qg sg s.heap.objs.size g cdg :: X.stack) s1 HZ (WE W σZ) scope f c') [] σ HZ { s1 with heap := h₁, toks := s1.toks + binds.length } :=
      lam_startN I L I1.env0 hr.hd un hns kp
    refine PySem.W.kla_codeExpr (wpAny_mono ((hbody _ _ s1 HZ _ (hr.deeper _)).run [] _ _ HZ Q J ht) (fun v s' hq => ?_) fun e s' hq => hq)
    obtain ⟨w', H', J', rv, q⟩ := hq
    exact ⟨w', H', J'.os, J'.bare, J'.base, J'.hok, rv, q⟩
  have hx := passAt tk σZ
  refine wpAny_call (codeAny_mono rc fun r s' hq => ?_)
  cases r with
  | error e => exact hx pinsZ HZ s1 e s' I1 hq
  | ok fl =>
    cases fl with
    | ret u => exact I1.after hq
    | next => exact False.elim hq
    | brk => exact False.elim hq
    | cont => exact False.elim hq
end
/-- the def that calls what it got; TT: what it makes of the lambda's reading -/
def GivesX (X : Cx) (Ng : List Str) (x : Str) (sg : Scope) (g : Addr) (cdg : Value) (bg : List Stmt) (a : Str) (TT : (XK → Hp → VK → Prop) → Hp → VK → Prop) : Prop :=
  ∀ (f : Addr) (Kp : Hp → Prop) (s : Shared) (H : Hp) (Q : VK) (tl : XK → Hp → VK → Prop),
    (∀ (W : WX) (pn : List (Addr × Obj)) (xe : Value → Shared → Prop) (p1 p2 : Pos), Takes ((cxOf C8.CX0 X.prog X.w X.K X.mg X.base Ng x sg g cdg X.A X.stack s H C8.E0).tr pn xe) W →
      PE ((cxOf C8.CX0 X.prog X.w X.K X.mg X.base Ng x sg g cdg X.A X.stack s H C8.E0).tr pn xe) (.Call (.Name a p1) [] [] p2) (fun σZ HZ Q => σZ[0]? = some (some (.ref f)) ∧ Kp HZ ∧ tl (WE W σZ) HZ Q)) →
    Kp H → TT tl H Q →
    ∃ t, PSs (cxOf C8.CX0 X.prog X.w X.K X.mg X.base Ng x sg g cdg X.A X.stack s H C8.E0).nox bg t ∧ t { nx := fun _ H' => Q .non H', rt := Q } (L2.start Ng [.ref f]) H
section
variable {X : Cx} {T : List (Addr × Str)} {TT : (XK → Hp → VK → Prop) → Hp → VK → Prop} {x a : Str} {g c P : Addr} {k : Nat} {pg : Arguments} {bg : List Stmt} {sg : Scope} {kV doc pm cdv ct oc : Value} {dVg : Value} {an od : Option Addr} {osl : Array (Option Value)} {Ng : List Str}
    {params : Arguments} {body : Expr} {scope : Scope} {t : XK → TE} {p lpos pos : Pos}
theorem lam_rest {pins : List (Addr × Obj)} {σ : L2.St} {H1 : Hp} {s' : Shared} {Q : VK} {f c' : Addr} {dV doc' pm' ctv : Value} {Kp : Hp → Prop}
    (lk : X.K.lookup g = some ⟨oc, od, .func (PySem.W.fnOf x x pg bg sg dVg kV doc pm an cdv ct), osl⟩) (hcg : PySem.W.codeIn X.K cdv x = true) (hb : L2.Binds X.K (PySem.W.fnOf x x pg bg sg dVg kV doc pm an cdv ct) [a] []) (Sg : FnScope Ng [a] sg) (hNg : Ng[0]? = some a) (hva : Vis sg a)
    (hG : GivesX X Ng x sg g cdv bg a TT) (hr : Room (k + 2) X.A) (L : LamN X.N X.env.scope scope)
    (hKc : ∀ H1, Kp H1 → H1 c' = some (CodeO c' (X.env.qual ++ "<lambda>")))
    (hbind : ∀ (s1 : Shared) (H1 : Hp), HOk X.prog X.w H1 s1.heap → Kp H1 → ∃ binds, BindsTo s1 (lfd X params body scope dV doc' pm' c' ctv) ⟨[], []⟩ binds ∧ ∀ y ∈ binds, scope.names.lookup y.1 = some .local)
    (hbody : ∀ (A : Around) (outer : List Env) (s : Shared) (H : Hp) (E : XK) (f c' : Addr), Room k (A.deeper (lamEnv X scope s.heap.objs.size f c')) → PE (lamCx X A outer s H E scope f c') body (t E))
    (hd : (a == ("__debug__" : Str)) = false) (hcd : (a == ("__classdict__" : Str)) = false)
    (I1 : Inv X pins σ H1 s') (hf : s'.heap.get? f = some (lob X params body scope dV doc' pm' c' ctv)) (hfn : H1 f = none) (hfr : f ∉ frs X.stack) (hKp : Kp H1) (h : TT (fun E H' Q' => t E σ H' Q') H1 Q) :
    wpAny (model X.prog X.w) X.A (call (.ref g) [.ref f]) (EP X pins σ Q) X.xe s' := by
  have rc : codeAny (model X.prog X.w) X.A (.call (.ref g) ⟨[.ref f], []⟩) (CR C8.CX0 X.stack X.prog X.w H1 s' Q C8.E0) s' := by
    refine LamX.run_ofS (N := Ng) (ps := [a]) (us := [.ref f]) (vs := [.ref f]) lk hcg Sg hr I1.env0 (hb s' [.ref f] I1.kIn rfl) (.cons rfl .nil) rfl fun hr' => ?_
    obtain ⟨t', ht', hq'⟩ := hG f Kp s' H1 Q (fun E H' Q' => t E σ H' Q') (fun W pn xe p1 p2 tk => pe_actN (i := 0) I1 L hf hfn hfr hKc hbind tk hr' (fun A outer s H E hr2 => hbody A outer s H E f c' hr2) hNg hva hd hcd) hKp h
    exact ⟨t', ht'.nox, hq'⟩
  refine wpAny_call (codeAny_mono rc fun r s2 hq => ?_)
  cases r with
  | error e => exact (show False from hq).elim
  | ok fl =>
    cases fl with
    | ret u => exact I1.after hq
    | next => exact False.elim hq
    | brk => exact False.elim hq
    | cont => exact False.elim hq
/-- x(lambda: body) -/
theorem pe_lam0 (hg : Gl X x) (hm : X.mg x = some (.ref g)) (hk : PySem.W.keepIn X.K (.ref g) = true)
    (lk : X.K.lookup g = some ⟨oc, od, .func (PySem.W.fnOf x x pg bg sg dVg kV doc pm an cdv ct), osl⟩) (hcg : PySem.W.codeIn X.K cdv x = true) (hb : L2.Binds X.K (PySem.W.fnOf x x pg bg sg dVg kV doc pm an cdv ct) [a] []) (Sg : FnScope Ng [a] sg) (hNg : Ng[0]? = some a) (hva : Vis sg a)
    (hG : GivesX X Ng x sg g cdv bg a TT)
    (TB : TabB X.base X.mg c P) (hcode : X.env.code = .ref c) (hmT : (P, X.env.qual ++ "<lambda>") ∈ T) (hu : ∀ p ∈ T, p.1 = P → p.2 = X.env.qual ++ "<lambda>") (hr : Room (k + 2) X.A) (L : LamN X.N X.env.scope scope) (hdef : defaultsOf params X.env = ([], []))
    (hbind : ∀ (q : Str) (cl : List (Str × Addr)) (doc pm cv ctv : Value), bindArgs (PySem.W.kdv_fn "<lambda>" q params (.expr body) scope cl .none doc pm cv ctv) ⟨[], []⟩ = pure [])
    (hbody : ∀ (A : Around) (outer : List Env) (s : Shared) (H : Hp) (E : XK) (f c' : Addr), Room k (A.deeper (lamEnv X scope s.heap.objs.size f c')) → PE (lamCx X A outer s H E scope f c') body (t E))
    (hdb : (x == ("__debug__" : Str)) = false := by decide) (hd : (a == ("__debug__" : Str)) = false := by decide) (hcd : (a == ("__classdict__" : Str)) = false := by decide) :
    PE X (.Call (.Name x p) [.Lambda params body scope lpos] [] pos) (tLam T TT t) := by
  refine ⟨fun pins s σ H Q I h => ?_⟩
  obtain ⟨hT, h⟩ := h
  refine wpAny_Call_Name_kw (ld_glob I hg hm ?_ hdb)
  refine PySem.W.callWith_K (h₀ := X.base) I.ok.mod.kin hk ?_ (by rfl) (by rfl)
  show wpAny _ _ (spliced ((false, eval (.Lambda params body scope lpos) X.env) :: backTo pos (starEach [] X.env))) _ _ s
  refine Calls.spliced_cons (PySem.W.kla_eval hdef ?_)
  rw [makeFunction_eq]
  simp only [List.zip_nil_right, List.filterMap_nil, List.isEmpty_nil, if_true, pure_bind]
  refine lam_tail I TB hcode hmT hu hT (L.has I.ok) fun f c' doc' pm' ctv H1 s' I1 eN T1 hf hfn hfr hco => ?_
  refine Calls.spliced_nil ⟨I1.kIn, ?_⟩
  exact lam_rest (Kp := fun H1 => H1 c' = some (CodeO c' (X.env.qual ++ "<lambda>"))) lk hcg hb Sg hNg hva hG hr L (fun _ e => e) (fun s1 _ _ _ => ⟨[], BindsTo.of_eq (hbind _ _ _ _ _ _), fun y hy => absurd hy (by simp)⟩) hbody hd hcd I1 hf hfn hfr hco (h H1 eN T1)
/-- x(lambda a=0: body) -/
theorem pe_lam1 {b : Str} {e0 : Expr} {v0 : V} (hg : Gl X x) (hm : X.mg x = some (.ref g)) (hk : PySem.W.keepIn X.K (.ref g) = true)
    (lk : X.K.lookup g = some ⟨oc, od, .func (PySem.W.fnOf x x pg bg sg dVg kV doc pm an cdv ct), osl⟩) (hcg : PySem.W.codeIn X.K cdv x = true) (hb : L2.Binds X.K (PySem.W.fnOf x x pg bg sg dVg kV doc pm an cdv ct) [a] []) (Sg : FnScope Ng [a] sg) (hNg : Ng[0]? = some a) (hva : Vis sg a)
    (hG : GivesX X Ng x sg g cdv bg a TT)
    (TB : TabB X.base X.mg c P) (hcode : X.env.code = .ref c) (hmT : (P, X.env.qual ++ "<lambda>") ∈ T) (hu : ∀ p ∈ T, p.1 = P → p.2 = X.env.qual ++ "<lambda>") (hr : Room (k + 2) X.A) (L : LamN X.N X.env.scope scope)
    (hpd : params.defaults = [e0]) (hpk : params.kw_defaults = []) (he0 : PE X e0 (tC v0)) (hlb : scope.names.lookup b = some .local)
    (hbind : ∀ (s : Shared) (D : Addr) (o : Obj) (u : Value) (n : Nat) (q : Str) (cl : List (Str × Addr)) (doc pm cv ctv : Value), s.heap.get? D = some o → o.data = .seq #[u] n → BindsTo s (PySem.W.kdv_fn "<lambda>" q params (.expr body) scope cl (.ref D) doc pm cv ctv) ⟨[], []⟩ [(b, u)])
    (hbody : ∀ (A : Around) (outer : List Env) (s : Shared) (H : Hp) (E : XK) (f c' : Addr), Room k (A.deeper (lamEnv X scope s.heap.objs.size f c')) → PE (lamCx X A outer s H E scope f c') body (t E))
    (hdb : (x == ("__debug__" : Str)) = false := by decide) (hd : (a == ("__debug__" : Str)) = false := by decide) (hcd : (a == ("__classdict__" : Str)) = false := by decide) :
    PE X (.Call (.Name x p) [.Lambda params body scope lpos] [] pos) (tLam T TT t) := by
  refine ⟨fun pins s σ H Q I h => ?_⟩
  obtain ⟨hT, h⟩ := h
  refine wpAny_Call_Name_kw (ld_glob I hg hm ?_ hdb)
  refine PySem.W.callWith_K (h₀ := X.base) I.ok.mod.kin hk ?_ (by rfl) (by rfl)
  show wpAny _ _ (spliced ((false, eval (.Lambda params body scope lpos) X.env) :: backTo pos (starEach [] X.env))) _ _ s
  refine Calls.spliced_cons (PySem.W.kdv_lam (by rw [hpd]; rfl) hpk ?_)
  rw [hpd]
  refine PySem.W.kdv_all1 (thn (he0.run pins s σ H (fun v H1 => v = v0 ∧ H1 = H) I ⟨rfl, rfl⟩) fun u s1 hh => PySem.W.kdv_all0 ?_)
  obtain ⟨v1, H1, I1, rv, ev, eH⟩ := hh
  subst ev
  subst eH
  rw [makeFunction_eq]
  simp only [List.zip_nil_right, List.filterMap_nil, List.isEmpty_nil, List.isEmpty_cons, Bool.false_eq_true, if_true, if_false, pure_bind]
  refine wpAny_bind (wpAny_newTextTuple ?_)
  have hfD : H1 s1.heap.objs.size = none := I1.hok.fresh (Nat.le_refl _)
  have I2 : Inv X pins σ (upd H1 s1.heap.objs.size (.tup [v1])) { s1 with heap := s1.heap.push (PySem.W.kdv_tup [u]), toks := s1.toks } :=
    I1.laid (t' := s1.toks) (fun b u e => Heap.get?_push_of_some _ e) (Nat.le_refl _) ⟨(by show 1 ≤ sizeLine; rw [sizeLine_eq]; decide), [u], .cons rv .nil, ⟨_, Heap.get?_push_size _ rfl, rfl, _, rfl⟩⟩
  have eD : ExtN H1 (upd H1 s1.heap.objs.size (.tup [v1])) := fun b o e _ => by
    rw [upd_ne (ne_of_none e hfD)]
    exact e
  have T2 : Tabs T (upd H1 s1.heap.objs.size (.tup [v1])) := hT.ext fun b o e => by
    rw [upd_ne (ne_of_none e hfD)]
    exact e
  refine lam_tail I2 TB hcode hmT hu T2 (L.has I2.ok) fun f c' doc' pm' ctv H3 s' I3 eN T3 hf hfn hfr hco => ?_
  refine Calls.spliced_nil ⟨I3.kIn, ?_⟩
  have hD3 : H3 s1.heap.objs.size = some (.tup [v1]) := eN _ _ upd_same (fun ps z => nomatch z)
  refine lam_rest (Kp := fun H1 => H1 c' = some (CodeO c' (X.env.qual ++ "<lambda>")) ∧ H1 s1.heap.objs.size = some (.tup [v1])) lk hcg hb Sg hNg hva hG hr L (fun _ e => e.1) (fun s4 H4 ok4 e4 => ?_) hbody hd hcd I3 hf hfn hfr ⟨hco, hD3⟩ (h H3 (eD.trans eN) T3)
  obtain ⟨_, us, rr, o, ho, _, n, hdt⟩ := ok4 _ _ e4.2
  cases rr with
  | cons r0 rr =>
    cases rr
    exact ⟨_, hbind s4 _ o _ n _ _ _ _ _ _ ho hdt, fun y hy => by obtain rfl := List.mem_singleton.mp hy; exact hlb⟩
end
end K44

/-! The text of the program: where its defs stand, what the top has left. -/
namespace K44
open PySem PySem.Spec PyProof.Rows L2
def top (i : Nat) : Stmt := PySem.Challenge.pw_wheelnines_k44_whole_seen.main.body.getD i (.Pass ⟨0, 0, 0, 0⟩)
abbrev FnP (K : PySem.W.Frag) (x : Str) (st : Stmt) (f : Addr) (fd : FuncData) : Prop := FunD K x x (defArgs st) (defBody st) (defScope st) [] [] f fd
structure Fs (K : PySem.W.Frag) (mg : Str → Option Value) (x : Str) (st : Stmt) (f : Addr) (fd : FuncData) : Prop where
  F : FnP K x st f fd
  g : mg x = some (.ref f)
def Cst (mg : Str → Option Value) (x : Str) (n : Int) : Prop := ∃ t, mg x = some (.int n t)
theorem pe_cst {X : Cx} {x : Str} {n : Int} {pos : Pos} (hg : Gl X x) (h : Cst X.mg x n) (hd : (x == ("__debug__" : Str)) = false := by decide) : PE X (.Name x pos) (tC (.int n)) := by
  obtain ⟨t, h⟩ := h
  exact pe_glob hg h ⟨_, rfl⟩ hd
abbrev mroL : List Value := [.type "LookupError", .type "Exception", .type "BaseException", .type "object"]
abbrev mroO : List Value := [.type "OverflowError", .type "ArithmeticError", .type "Exception", .type "BaseException", .type "object"]
abbrev s_is_integer : Stmt := top 11
abbrev s_is_whole : Stmt := top 12
abbrev s_need_base : Stmt := top 13
abbrev s_common_divisor : Stmt := top 14
abbrev s_is_fraction : Stmt := top 15
abbrev s_need_fraction : Stmt := top 16
abbrev s_digits_after : Stmt := top 18
abbrev s_need_most : Stmt := top 20
abbrev s_need_seen : Stmt := top 26
abbrev s_does_fit : Stmt := top 27
abbrev s_fits : Stmt := top 28
abbrev s_fitting_in : Stmt := top 29
abbrev s_fitting : Stmt := top 30
abbrev s_simplest : Stmt := top 31
abbrev s_sure_digits : Stmt := top 32
abbrev s_law_begun : Stmt := top 34
abbrev s_law_draw : Stmt := top 35
abbrev s_law_of : Stmt := top 36
abbrev s_law_divisor : Stmt := top 37
abbrev s_law_units : Stmt := top 38
abbrev s_law_digits : Stmt := top 39
abbrev s_law_fit : Stmt := top 40
abbrev s_law_all : Stmt := top 41
abbrev s_law_sure : Stmt := top 42
abbrev s_law_heard : Stmt := top 43
abbrev s_law_right : Stmt := top 44
abbrev s_law_hand_right : Stmt := top 45
abbrev s_law : Stmt := top 46
theorem sc_is_integer : FnScope ["value"] ["value"] (defScope s_is_integer) := ⟨rfl, rfl, rfl, by decide +kernel, rfl, by decide +kernel, by decide +kernel⟩
theorem sc_is_whole : FnScope ["value", "least", "most"] ["value", "least", "most"] (defScope s_is_whole) := ⟨rfl, rfl, rfl, by decide +kernel, rfl, by decide +kernel, by decide +kernel⟩
theorem sc_need_base : FnScope ["value"] ["value"] (defScope s_need_base) := ⟨rfl, rfl, rfl, by decide +kernel, rfl, by decide +kernel, by decide +kernel⟩
theorem sc_common_divisor : FnScope ["one", "other"] ["one", "other"] (defScope s_common_divisor) := ⟨rfl, rfl, rfl, by decide +kernel, rfl, by decide +kernel, by decide +kernel⟩
theorem sc_is_fraction : FnScope ["value"] ["value"] (defScope s_is_fraction) := ⟨rfl, rfl, rfl, by decide +kernel, rfl, by decide +kernel, by decide +kernel⟩
theorem sc_need_fraction : FnScope ["value"] ["value"] (defScope s_need_fraction) := ⟨rfl, rfl, rfl, by decide +kernel, rfl, by decide +kernel, by decide +kernel⟩
theorem sc_digits_after : FnScope ["base", "rest", "denominator", "count", "found", "_"] ["base", "rest", "denominator", "count"] (defScope s_digits_after) := ⟨rfl, rfl, rfl, by decide +kernel, rfl, by decide +kernel, by decide +kernel⟩
theorem sc_need_most : FnScope ["value", "least", "most"] ["value", "least", "most"] (defScope s_need_most) := ⟨rfl, rfl, rfl, by decide +kernel, rfl, by decide +kernel, by decide +kernel⟩
theorem sc_need_seen : FnScope ["base", "value", "item"] ["base", "value"] (defScope s_need_seen) := ⟨rfl, rfl, rfl, by decide +kernel, rfl, by decide +kernel, by decide +kernel⟩
theorem sc_does_fit : FnScope ["base", "numerator", "denominator", "seen", "rest", "item"] ["base", "numerator", "denominator", "seen"] (defScope s_does_fit) := ⟨rfl, rfl, rfl, by decide +kernel, rfl, by decide +kernel, by decide +kernel⟩
theorem sc_fits : FnScope ["base", "fraction", "seen"] ["base", "fraction", "seen"] (defScope s_fits) := ⟨rfl, rfl, rfl, by decide +kernel, rfl, by decide +kernel, by decide +kernel⟩
theorem sc_fitting_in : FnScope ["base", "seen", "most", "found", "denominator", "numerator"] ["base", "seen", "most"] (defScope s_fitting_in) := ⟨rfl, rfl, rfl, by decide +kernel, rfl, by decide +kernel, by decide +kernel⟩
theorem sc_fitting : FnScope ["base", "seen", "most", "found"] ["base", "seen", "most"] (defScope s_fitting) := ⟨rfl, rfl, rfl, by decide +kernel, rfl, by decide +kernel, by decide +kernel⟩
theorem sc_simplest : FnScope ["base", "seen", "most", "found"] ["base", "seen", "most"] (defScope s_simplest) := ⟨rfl, rfl, rfl, by decide +kernel, rfl, by decide +kernel, by decide +kernel⟩
theorem sc_sure_digits : FnScope ["base", "seen", "most", "count", "some", "found", "numerator", "denominator", "own", "mine", "its"] ["base", "seen", "most", "count"] (defScope s_sure_digits) := ⟨rfl, rfl, rfl, by decide +kernel, rfl, by decide +kernel, by decide +kernel⟩
theorem sc_law_begun : FnScope ["script", "k", "cells", "cell", "great", "seed"] ["script", "k"] (defScope s_law_begun) := ⟨rfl, rfl, rfl, by decide +kernel, rfl, by decide +kernel, by decide +kernel⟩
theorem sc_law_draw : FnScope ["m", "limit", "found", "spot", "cells", "added", "cell", "blend"] ["m", "limit"] (defScope s_law_draw) := ⟨rfl, rfl, rfl, by decide +kernel, rfl, by decide +kernel, by decide +kernel⟩
theorem sc_law_of : FnScope ["m", "some"] ["m", "some"] (defScope s_law_of) := ⟨rfl, rfl, rfl, by decide +kernel, rfl, by decide +kernel, by decide +kernel⟩
theorem sc_law_divisor : FnScope ["one", "two"] ["one", "two"] (defScope s_law_divisor) := ⟨rfl, rfl, rfl, by decide +kernel, rfl, by decide +kernel, by decide +kernel⟩
theorem sc_law_units : FnScope ["n", "k"] ["n"] (defScope s_law_units) := ⟨rfl, rfl, rfl, by decide +kernel, rfl, by decide +kernel, by decide +kernel⟩
theorem sc_law_digits : FnScope ["b", "above", "under", "count", "found", "rest", "k"] ["b", "above", "under", "count"] (defScope s_law_digits) := ⟨rfl, rfl, rfl, by decide +kernel, rfl, by decide +kernel, by decide +kernel⟩
theorem sc_law_fit : FnScope ["b", "above", "under", "some", "own", "mine", "its"] ["b", "above", "under", "some"] (defScope s_law_fit) := ⟨rfl, rfl, rfl, by decide +kernel, rfl, by decide +kernel, by decide +kernel⟩
theorem sc_law_all : FnScope ["b", "some", "most_so", "found", "under", "above"] ["b", "some", "most_so"] (defScope s_law_all) := ⟨rfl, rfl, rfl, by decide +kernel, rfl, by decide +kernel, by decide +kernel⟩
theorem sc_law_sure : FnScope ["b", "every", "count", "rows", "columns", "above", "under", "k", "row", "column"] ["b", "every", "count"] (defScope s_law_sure) := ⟨rfl, rfl, rfl, by decide +kernel, rfl, by decide +kernel, by decide +kernel⟩
theorem sc_law_heard : FnScope ["call", "error"] ["call"] (defScope s_law_heard) := ⟨rfl, rfl, rfl, by decide +kernel, rfl, by decide +kernel, by decide +kernel⟩
theorem sc_law_right : FnScope ["m", "b", "under", "above", "k", "kept_so", "every", "due", "again", "told", "turn", "n", "pair", "count", "most_so", "some"] ["m", "b"] (defScope s_law_right) := ⟨rfl, rfl, rfl, by decide +kernel, rfl, by decide +kernel, by decide +kernel⟩
theorem sc_law_hand_right : FnScope ["told"] [] (defScope s_law_hand_right) := ⟨rfl, rfl, rfl, by decide +kernel, rfl, by decide +kernel, by decide +kernel⟩
theorem sc_law : FnScope ["script", "k", "m"] ["script"] (defScope s_law) := ⟨rfl, rfl, rfl, by decide +kernel, rfl, by decide +kernel, by decide +kernel⟩
structure Ad where
  is_integer : Addr
  d_is_integer : FuncData
  is_whole : Addr
  d_is_whole : FuncData
  need_base : Addr
  d_need_base : FuncData
  common_divisor : Addr
  d_common_divisor : FuncData
  is_fraction : Addr
  d_is_fraction : FuncData
  need_fraction : Addr
  d_need_fraction : FuncData
  digits_after : Addr
  d_digits_after : FuncData
  need_most : Addr
  d_need_most : FuncData
  need_seen : Addr
  d_need_seen : FuncData
  does_fit : Addr
  d_does_fit : FuncData
  fits : Addr
  d_fits : FuncData
  fitting_in : Addr
  d_fitting_in : FuncData
  fitting : Addr
  d_fitting : FuncData
  simplest : Addr
  d_simplest : FuncData
  sure_digits : Addr
  d_sure_digits : FuncData
  law_begun : Addr
  d_law_begun : FuncData
  law_draw : Addr
  d_law_draw : FuncData
  law_of : Addr
  d_law_of : FuncData
  law_divisor : Addr
  d_law_divisor : FuncData
  law_units : Addr
  d_law_units : FuncData
  law_digits : Addr
  d_law_digits : FuncData
  law_fit : Addr
  d_law_fit : FuncData
  law_all : Addr
  d_law_all : FuncData
  law_sure : Addr
  d_law_sure : FuncData
  law_heard : Addr
  d_law_heard : FuncData
  law_right : Addr
  d_law_right : FuncData
  law_hand_right : Addr
  d_law_hand_right : FuncData
  law : Addr
  d_law : FuncData
  CN : Addr
  iN : Addr
  CG : Addr
  iG : Addr
structure Txt (P : Program) (K : PySem.W.Frag) (mg : Str → Option Value) (a : Ad) : Prop where
  f_is_integer : Fs K mg "is_integer" s_is_integer a.is_integer a.d_is_integer
  f_is_whole : Fs K mg "is_whole" s_is_whole a.is_whole a.d_is_whole
  f_need_base : Fs K mg "need_base" s_need_base a.need_base a.d_need_base
  f_common_divisor : Fs K mg "common_divisor" s_common_divisor a.common_divisor a.d_common_divisor
  f_is_fraction : Fs K mg "is_fraction" s_is_fraction a.is_fraction a.d_is_fraction
  f_need_fraction : Fs K mg "need_fraction" s_need_fraction a.need_fraction a.d_need_fraction
  f_digits_after : Fs K mg "digits_after" s_digits_after a.digits_after a.d_digits_after
  f_need_most : Fs K mg "need_most" s_need_most a.need_most a.d_need_most
  f_need_seen : Fs K mg "need_seen" s_need_seen a.need_seen a.d_need_seen
  f_does_fit : Fs K mg "does_fit" s_does_fit a.does_fit a.d_does_fit
  f_fits : Fs K mg "fits" s_fits a.fits a.d_fits
  f_fitting_in : Fs K mg "fitting_in" s_fitting_in a.fitting_in a.d_fitting_in
  f_fitting : Fs K mg "fitting" s_fitting a.fitting a.d_fitting
  f_simplest : Fs K mg "simplest" s_simplest a.simplest a.d_simplest
  f_sure_digits : Fs K mg "sure_digits" s_sure_digits a.sure_digits a.d_sure_digits
  f_law_begun : Fs K mg "_law_begun" s_law_begun a.law_begun a.d_law_begun
  f_law_draw : Fs K mg "_law_draw" s_law_draw a.law_draw a.d_law_draw
  f_law_of : Fs K mg "_law_of" s_law_of a.law_of a.d_law_of
  f_law_divisor : Fs K mg "_law_divisor" s_law_divisor a.law_divisor a.d_law_divisor
  f_law_units : Fs K mg "_law_units" s_law_units a.law_units a.d_law_units
  f_law_digits : Fs K mg "_law_digits" s_law_digits a.law_digits a.d_law_digits
  f_law_fit : Fs K mg "_law_fit" s_law_fit a.law_fit a.d_law_fit
  f_law_all : Fs K mg "_law_all" s_law_all a.law_all a.d_law_all
  f_law_sure : Fs K mg "_law_sure" s_law_sure a.law_sure a.d_law_sure
  f_law_heard : Fs K mg "_law_heard" s_law_heard a.law_heard a.d_law_heard
  f_law_right : Fs K mg "_law_right" s_law_right a.law_right a.d_law_right
  f_law_hand_right : Fs K mg "_law_hand_right" s_law_hand_right a.law_hand_right a.d_law_hand_right
  f_law : Fs K mg "law" s_law a.law a.d_law
  n_isinstance : mg "isinstance" = none
  n_int : mg "int" = none
  n_bool : mg "bool" = none
  n_tuple : mg "tuple" = none
  n_len : mg "len" = none
  n_range : mg "range" = none
  n_all : mg "all" = none
  n_list : mg "list" = none
  n_zip : mg "zip" = none
  n_repr : mg "repr" = none
  n_min : mg "min" = none
  c_MOST_BASE : Cst mg "MOST_BASE" 1000
  c_MOST_DENOMINATOR : Cst mg "MOST_DENOMINATOR" 5000
  c_MOST_SEEN : Cst mg "MOST_SEEN" 20
  c_MOST_TRIED : Cst mg "MOST_TRIED" 200
  c_MOST_TOLD : Cst mg "MOST_TOLD" 1000
  c_MOST_SURE : Cst mg "MOST_SURE" 60
  xN : OxT P K mg "Nothing" "value" "LookupError" "LookupError.__new__" "LookupError.__init__" mroL a.CN a.iN
  xG : OxT P K mg "TooGreat" "most" "OverflowError" "OverflowError.__new__" "OverflowError.__init__" mroO a.CG a.iG
  fN : XfC K a.CN
  aN : PySem.W.findIn K (.ref a.CN) "value" = some none
  fG : XfC K a.CG
  aG : PySem.W.findIn K (.ref a.CG) "most" = some none
  eNN : PySem.W.exmOne K (.ref a.CN) (.ref a.CN) = some true
  eGN : PySem.W.exmOne K (.ref a.CG) (.ref a.CN) = some false
  eGG : PySem.W.exmOne K (.ref a.CG) (.ref a.CG) = some true
section
variable {P : Program} {K : PySem.W.Frag} {mg : Str → Option Value} {a : Ad}
theorem b_is_integer (T : Txt P K mg a) : Binds K a.d_is_integer ["value"] [] := T.f_is_integer.F.bindsN fun _ _ _ _ _ _ us hl => match us, hl with | [_], _ => rfl
theorem b_is_whole (T : Txt P K mg a) : Binds K a.d_is_whole ["value", "least", "most"] [] := T.f_is_whole.F.bindsN fun _ _ _ _ _ _ us hl => match us, hl with | [_, _, _], _ => rfl
theorem b_need_base (T : Txt P K mg a) : Binds K a.d_need_base ["value"] [] := T.f_need_base.F.bindsN fun _ _ _ _ _ _ us hl => match us, hl with | [_], _ => rfl
theorem b_common_divisor (T : Txt P K mg a) : Binds K a.d_common_divisor ["one", "other"] [] := T.f_common_divisor.F.bindsN fun _ _ _ _ _ _ us hl => match us, hl with | [_, _], _ => rfl
theorem b_is_fraction (T : Txt P K mg a) : Binds K a.d_is_fraction ["value"] [] := T.f_is_fraction.F.bindsN fun _ _ _ _ _ _ us hl => match us, hl with | [_], _ => rfl
theorem b_need_fraction (T : Txt P K mg a) : Binds K a.d_need_fraction ["value"] [] := T.f_need_fraction.F.bindsN fun _ _ _ _ _ _ us hl => match us, hl with | [_], _ => rfl
theorem b_digits_after (T : Txt P K mg a) : Binds K a.d_digits_after ["base", "rest", "denominator", "count"] [] := T.f_digits_after.F.bindsN fun _ _ _ _ _ _ us hl => match us, hl with | [_, _, _, _], _ => rfl
theorem b_need_most (T : Txt P K mg a) : Binds K a.d_need_most ["value", "least", "most"] [] := T.f_need_most.F.bindsN fun _ _ _ _ _ _ us hl => match us, hl with | [_, _, _], _ => rfl
theorem b_need_seen (T : Txt P K mg a) : Binds K a.d_need_seen ["base", "value"] [] := T.f_need_seen.F.bindsN fun _ _ _ _ _ _ us hl => match us, hl with | [_, _], _ => rfl
theorem b_does_fit (T : Txt P K mg a) : Binds K a.d_does_fit ["base", "numerator", "denominator", "seen"] [] := T.f_does_fit.F.bindsN fun _ _ _ _ _ _ us hl => match us, hl with | [_, _, _, _], _ => rfl
theorem b_fits (T : Txt P K mg a) : Binds K a.d_fits ["base", "fraction", "seen"] [] := T.f_fits.F.bindsN fun _ _ _ _ _ _ us hl => match us, hl with | [_, _, _], _ => rfl
theorem b_fitting_in (T : Txt P K mg a) : Binds K a.d_fitting_in ["base", "seen", "most"] [] := T.f_fitting_in.F.bindsN fun _ _ _ _ _ _ us hl => match us, hl with | [_, _, _], _ => rfl
theorem b_fitting (T : Txt P K mg a) : Binds K a.d_fitting ["base", "seen", "most"] [] := T.f_fitting.F.bindsN fun _ _ _ _ _ _ us hl => match us, hl with | [_, _, _], _ => rfl
theorem b_simplest (T : Txt P K mg a) : Binds K a.d_simplest ["base", "seen", "most"] [] := T.f_simplest.F.bindsN fun _ _ _ _ _ _ us hl => match us, hl with | [_, _, _], _ => rfl
theorem b_sure_digits (T : Txt P K mg a) : Binds K a.d_sure_digits ["base", "seen", "most", "count"] [] := T.f_sure_digits.F.bindsN fun _ _ _ _ _ _ us hl => match us, hl with | [_, _, _, _], _ => rfl
theorem b_law_begun (T : Txt P K mg a) : Binds K a.d_law_begun ["script", "k"] [] := T.f_law_begun.F.bindsN fun _ _ _ _ _ _ us hl => match us, hl with | [_, _], _ => rfl
theorem b_law_draw (T : Txt P K mg a) : Binds K a.d_law_draw ["m", "limit"] [] := T.f_law_draw.F.bindsN fun _ _ _ _ _ _ us hl => match us, hl with | [_, _], _ => rfl
theorem b_law_of (T : Txt P K mg a) : Binds K a.d_law_of ["m", "some"] [] := T.f_law_of.F.bindsN fun _ _ _ _ _ _ us hl => match us, hl with | [_, _], _ => rfl
theorem b_law_divisor (T : Txt P K mg a) : Binds K a.d_law_divisor ["one", "two"] [] := T.f_law_divisor.F.bindsN fun _ _ _ _ _ _ us hl => match us, hl with | [_, _], _ => rfl
theorem b_law_units (T : Txt P K mg a) : Binds K a.d_law_units ["n"] [] := T.f_law_units.F.bindsN fun _ _ _ _ _ _ us hl => match us, hl with | [_], _ => rfl
theorem b_law_digits (T : Txt P K mg a) : Binds K a.d_law_digits ["b", "above", "under", "count"] [] := T.f_law_digits.F.bindsN fun _ _ _ _ _ _ us hl => match us, hl with | [_, _, _, _], _ => rfl
theorem b_law_fit (T : Txt P K mg a) : Binds K a.d_law_fit ["b", "above", "under", "some"] [] := T.f_law_fit.F.bindsN fun _ _ _ _ _ _ us hl => match us, hl with | [_, _, _, _], _ => rfl
theorem b_law_all (T : Txt P K mg a) : Binds K a.d_law_all ["b", "some", "most_so"] [] := T.f_law_all.F.bindsN fun _ _ _ _ _ _ us hl => match us, hl with | [_, _, _], _ => rfl
theorem b_law_sure (T : Txt P K mg a) : Binds K a.d_law_sure ["b", "every", "count"] [] := T.f_law_sure.F.bindsN fun _ _ _ _ _ _ us hl => match us, hl with | [_, _, _], _ => rfl
theorem b_law_heard (T : Txt P K mg a) : Binds K a.d_law_heard ["call"] [] := T.f_law_heard.F.bindsN fun _ _ _ _ _ _ us hl => match us, hl with | [_], _ => rfl
theorem b_law_right (T : Txt P K mg a) : Binds K a.d_law_right ["m", "b"] [] := T.f_law_right.F.bindsN fun _ _ _ _ _ _ us hl => match us, hl with | [_, _], _ => rfl
theorem b_law_hand_right (T : Txt P K mg a) : Binds K a.d_law_hand_right [] [] := T.f_law_hand_right.F.bindsN fun _ _ _ _ _ _ us hl => match us, hl with | [], _ => rfl
theorem b_law (T : Txt P K mg a) : Binds K a.d_law ["script"] [] := T.f_law.F.bindsN fun _ _ _ _ _ _ us hl => match us, hl with | [_], _ => rfl
end
end K44

/-! Values, data and heaps. -/
namespace K44
open PySem PySem.Spec PyProof.Rows L2
/-! ### values and data -/
def nV (n : Nat) : V := .int (n : Int)
def oV : Option Nat → V
  | none => .non
  | some n => .int (n : Int)
def nD (n : Nat) : PyData := .int (n : Int)
def oD : Option Nat → PyData
  | none => .none
  | some n => .int (n : Int)
def pD (p : Nat × Nat) : PyData := .tuple [.int (p.1 : Int), .int (p.2 : Int)]
/-- a fraction or None -/
def qD : List (Nat × Nat) → PyData
  | [] => .none
  | p :: _ => pD p
end K44
namespace L2
open PySem PySem.Spec PyProof.Rows K44
/-! ### heaps -/
def seqO : HO → Bool
  | .lst _ => true
  | .tup _ => true
  | .frz _ _ => true
  | _ => false
/-- lists, tuples and what is locked stay -/
def KeepS (H H' : Hp) : Prop := ∀ b o, H b = some o → seqO o = true → H' b = some o
theorem KeepS.refl (H : Hp) : KeepS H H := fun _ _ h _ => h
theorem KeepS.trans {H H1 H2 : Hp} (a : KeepS H H1) (b : KeepS H1 H2) : KeepS H H2 := fun c o h s => b c o (a c o h s) s
theorem Same.ks {H H' : Hp} (s : Same H H') : KeepS H H' := fun b o h _ => s b o h
theorem same_upd {H : Hp} {p : Addr} {o : HO} (h : H p = none) : Same H (upd H p o) := fun b u e => by
  rw [upd_ne (ne_of_none e h)]
  exact e
theorem Same.up {H H1 : Hp} {p : Addr} {o : HO} (s : Same H H1) (h : H p = none) : Same H (upd H1 p o) := fun b u e => by
  rw [upd_ne (ne_of_none e h)]
  exact s b u e
theorem KeepS.sqL {K : PySem.W.Frag} {H H' : Hp} {a : Addr} {xs : List V} (k : KeepS H H') (h : SqL K H a xs) : SqL K H' a xs := by
  rcases h with (h | ⟨o, h⟩) | h
  · exact .inl (.inl (k _ _ h rfl))
  · exact .inl (.inr ⟨o, k _ _ h rfl⟩)
  · exact .inr h
theorem KeepS.sqT {K : PySem.W.Frag} {H H' : Hp} {a : Addr} {xs : List V} (k : KeepS H H') (h : SqT K H a xs) : SqT K H' a xs := by
  rcases h with (h | ⟨o, h⟩) | h
  · exact .inl (.inl (k _ _ h rfl))
  · exact .inl (.inr ⟨o, k _ _ h rfl⟩)
  · exact .inr h
theorem SqT.of' {K : PySem.W.Frag} {H : Hp} {a : Addr} {xs : List V} (h : H a = some (.tup xs)) : SqT K H a xs := .inl (.inl h)
theorem SqL.of' {K : PySem.W.Frag} {H : Hp} {a : Addr} {xs : List V} (h : H a = some (.lst xs)) : SqL K H a xs := .inl (.inl h)
mutual
theorem Dp.keep {K : PySem.W.Frag} {H H' : Hp} (k : KeepS H H') : ∀ (d : PyData) (v : V), Dp K H v d → Dp K H' v d
  | .none, _, h => by cases h; exact .non
  | .bool b, _, h => by cases h; exact .bl b
  | .int i, _, h => by cases h; exact .int i
  | .str x, _, h => by cases h; exact .str x
  | .list ds, _, h => by
    cases h with
    | lst hs ha => exact .lst (k.sqL hs) (DpAll.keep k ds _ ha)
  | .tuple ds, _, h => by
    cases h with
    | tup hs ha => exact .tup (k.sqT hs) (DpAll.keep k ds _ ha)
  | .dict _, _, h => by cases h
theorem DpAll.keep {K : PySem.W.Frag} {H H' : Hp} (k : KeepS H H') : ∀ (ds : List PyData) (vs : List V), DpAll K H vs ds → DpAll K H' vs ds
  | [], _, h => by cases h; exact .nil
  | d :: ds, _, h => by
    cases h with
    | cons h1 h2 => exact .cons (Dp.keep k d _ h1) (DpAll.keep k ds _ h2)
end
section
variable {K : PySem.W.Frag} {H H' : Hp}
theorem Dp.k {v : V} {d : PyData} (h : Dp K H v d) (k : KeepS H H') : Dp K H' v d := Dp.keep k d v h
theorem DpAll.k {vs : List V} {ds : List PyData} (h : DpAll K H vs ds) (k : KeepS H H') : DpAll K H' vs ds := DpAll.keep k ds vs h
theorem DpAll.length : ∀ {vs : List V} {ds : List PyData}, DpAll K H vs ds → vs.length = ds.length
  | _, [], h => by cases h; rfl
  | _, d :: ds, h => by
    cases h with
    | cons h1 h2 =>
      show _ + 1 = _ + 1
      rw [DpAll.length h2]
theorem DpAll.app : ∀ {vs ws : List V} {ds es : List PyData}, DpAll K H vs ds → DpAll K H ws es → DpAll K H (vs ++ ws) (ds ++ es)
  | _, _, [], _, h, h' => by cases h; exact h'
  | _, _, d :: ds, _, h, h' => by
    cases h with
    | cons h1 h2 => exact .cons h1 (DpAll.app h2 h')
theorem DpAll.get : ∀ {vs : List V} {ds : List PyData} {i : Nat} {d : PyData}, DpAll K H vs ds → ds[i]? = some d → ∃ v, vs[i]? = some v ∧ Dp K H v d
  | _, [], i, d, h, e => by simp at e
  | _, d0 :: ds, 0, d, h, e => by
    cases h with
    | cons h1 h2 =>
      have z : d0 = d := Option.some.inj e
      subst z
      exact ⟨_, rfl, h1⟩
  | _, d0 :: ds, i + 1, d, h, e => by
    cases h with
    | cons h1 h2 => exact DpAll.get (i := i) h2 e
theorem DpAll.getV : ∀ {vs : List V} {ds : List PyData} {i : Nat} {v : V}, DpAll K H vs ds → vs[i]? = some v → ∃ d, ds[i]? = some d ∧ Dp K H v d
  | _, [], i, v, h, e => by cases h; simp at e
  | _, d0 :: ds, 0, v, h, e => by
    cases h with
    | cons h1 h2 =>
      have z := Option.some.inj e
      subst z
      exact ⟨_, rfl, h1⟩
  | _, d0 :: ds, i + 1, v, h, e => by
    cases h with
    | cons h1 h2 => exact DpAll.getV (i := i) h2 e
theorem DpAll.one {v : V} {d : PyData} (h : Dp K H v d) : DpAll K H [v] [d] := .cons h .nil
theorem dp_oV : ∀ o : Option Nat, Dp K H (oV o) (oD o)
  | none => .non
  | some n => .int _
theorem dpAll_oV : ∀ l : List (Option Nat), DpAll K H (l.map oV) (l.map oD)
  | [] => .nil
  | o :: l => .cons (dp_oV o) (dpAll_oV l)
theorem dpAll_nV : ∀ l : List Nat, DpAll K H (l.map nV) (l.map nD)
  | [] => .nil
  | n :: l => .cons (.int _) (dpAll_nV l)
theorem dp_pair {t : Addr} {p : Nat × Nat} (h : SqT K H t [.int (p.1 : Int), .int (p.2 : Int)]) : Dp K H (.ref t) (pD p) := .tup h (.cons (.int _) (.cons (.int _) .nil))
theorem dp_pair_of {v : V} {p : Nat × Nat} (h : Dp K H v (pD p)) : ∃ t, v = .ref t ∧ SqT K H t [.int (p.1 : Int), .int (p.2 : Int)] := by
  cases h with
  | tup hs ha =>
    cases ha with
    | cons h1 h2 =>
      cases h1
      cases h2 with
      | cons h3 h4 =>
        cases h3
        cases h4
        exact ⟨_, rfl, hs⟩
theorem dp_seen {s : Addr} {l : List (Option Nat)} (h : SqT K H s (l.map oV)) : Dp K H (.ref s) (.tuple (l.map oD)) := .tup h (dpAll_oV l)
end
end L2
namespace K44
open PySem PySem.Spec PyProof.Rows L2
theorem ifT {c : Bool} {A B : Prop} (hc : c = true) (h : A) : if c = true then A else B := by
  rw [if_pos hc]
  exact h
theorem ifF {c : Bool} {A B : Prop} (hc : c = false) (h : B) : if c = true then A else B := by
  rw [hc, if_neg Bool.false_ne_true]
  exact h
/-! ### small data are fine -/
theorem okA_map {α : Type} (f : α → PyData) (l : List α) (h : ∀ x ∈ l, okD (f x) = true) : okA (l.map f) = true := by
  induction l with
  | nil => rfl
  | cons x l ih =>
    show (okD (f x) && okA (l.map f)) = true
    rw [h x (List.mem_cons_self), ih fun y hy => h y (List.mem_cons_of_mem _ hy)]
    rfl
theorem szA_map {α : Type} (f : α → PyData) (n : Nat) (l : List α) (h : ∀ x ∈ l, szD (f x) ≤ n) : szA (l.map f) ≤ l.length * (n + 1) := by
  induction l with
  | nil => exact Nat.zero_le _
  | cons x l ih =>
    show szD (f x) + 1 + szA (l.map f) ≤ (l.length + 1) * (n + 1)
    have h1 := h x (List.mem_cons_self)
    have h2 := ih fun y hy => h y (List.mem_cons_of_mem _ hy)
    rw [Nat.add_mul]
    omega
theorem depth_map {α : Type} (f : α → PyData) (n : Nat) (l : List α) (h : ∀ x ∈ l, (f x).depth ≤ n) : PyData.depthAll (l.map f) ≤ n := by
  induction l with
  | nil => simp only [List.map_nil, PyData.depthAll, Nat.zero_le]
  | cons x l ih =>
    have h1 := h x (List.mem_cons_self)
    have h2 := ih fun y hy => h y (List.mem_cons_of_mem _ hy)
    simp only [List.map_cons, PyData.depthAll]
    omega
end K44

/-! The program's defs: tests, digits, what fits. -/
namespace K44
open PySem PySem.Spec PyProof.Rows L2
theorem ty_tup {K : PySem.W.Frag} {H : Hp} {a : Addr} {xs : List V} (h : SqT K H a xs) : TyX K H (.ref a) (.type "tuple") := by
  rcases h with (h | ⟨o, h⟩) | ⟨o, its, n, h, hc, _⟩
  · exact .base (.tup h)
  · exact .fTuple h
  · exact .kTuple h hc
theorem kit_ii {K : PySem.W.Frag} : PySem.W.kitOne K (.type "int") (.type "int") = some true := kit_ty (by decide +kernel)
theorem kit_ib {K : PySem.W.Frag} : PySem.W.kitOne K (.type "int") (.type "bool") = some false := kit_ty (by decide +kernel)
theorem kit_tt {K : PySem.W.Frag} : PySem.W.kitOne K (.type "tuple") (.type "tuple") = some true := kit_ty (by decide +kernel)
/-- the int that a slot holds -/
def slotN (i : Nat) (σ : L2.St) : Nat := match σ[i]? with
  | some (some (V.int k)) => k.toNat
  | _ => 0
def spInt : Sp := fun vs H Q _ => ∃ i : Int, vs = [.int i] ∧ Q (.bl true) H
def spWhole : Sp := fun vs H Q _ => ∃ v lo hi : Int, vs = [.int v, .int lo, .int hi] ∧ lo ≤ v ∧ v ≤ hi ∧ Q (.bl true) H
def spBase : Sp := fun vs H Q _ => ∃ v : Int, vs = [.int v] ∧ 2 ≤ v ∧ v ≤ 1000 ∧ Q (.int v) H
def spMost : Sp := fun vs H Q _ => ∃ v lo hi : Int, vs = [.int v, .int lo, .int hi] ∧ lo ≤ v ∧ v ≤ hi ∧ Q (.int v) H
def spGcd : Sp := fun vs H Q _ => ∃ i j : Nat, vs = [.int (i : Int), .int (j : Int)] ∧ Q (.int ((Nat.gcd i j : Nat) : Int)) H
def spFrac (K : PySem.W.Frag) : Sp := fun vs H Q _ => ∃ (p : Addr) (n d : Nat), vs = [.ref p] ∧ SqT K H p [.int (n : Int), .int (d : Int)] ∧ n < d ∧ d ≤ 5000 ∧ Nat.gcd n d = 1 ∧ Q (.bl true) H
def spNFrac (K : PySem.W.Frag) : Sp := fun vs H Q _ => ∃ (p : Addr) (n d : Nat), vs = [.ref p] ∧ SqT K H p [.int (n : Int), .int (d : Int)] ∧ n < d ∧ d ≤ 5000 ∧ Nat.gcd n d = 1 ∧ Q (.ref p) H
section
variable {P : Program} {w : World} {K : PySem.W.Frag} {mg : Str → Option Value} {base : Heap} {a : Ad}
theorem ok_is_integer (T : Txt P K mg a) : FnOk P w K mg base CX0 1 a.is_integer a.d_is_integer ["value"] spInt := by
  refine T.f_is_integer.F.ok sc_is_integer (fun vs H Q E h => ?_) (fun cdv A outer s H vs Q E hr h => ⟨_, PSs.nox ((pss_one (ps_ret (pe_and (pe_callB call_isi rfl T.n_isinstance (by decide +kernel) (pa_cons (pv 0) (pa_cons (pe_bltn (v := .ty "int") rfl T.n_int (by decide +kernel) rfl) pa_nil))) (pe_one (pe_not (pe_callB call_isi rfl T.n_isinstance (by decide +kernel) (pa_cons (pv 0) (pa_cons (pe_bltn (v := .ty "bool") rfl T.n_bool (by decide +kernel) rfl) pa_nil))))))))), ?_⟩)
  · obtain ⟨_, rfl, _⟩ := h
    rfl
  · obtain ⟨i, rfl, q⟩ := h
    refine ⟨_, rfl, _, _, _, _, true, rfl, .ty _, .base (.int _), kit_ii, true, rfl, iteT ?_⟩
    exact ⟨_, rfl, _, _, _, _, false, rfl, .ty _, .base (.int _), kit_ib, false, rfl, q⟩
theorem ok_is_whole (T : Txt P K mg a) : FnOk P w K mg base CX0 2 a.is_whole a.d_is_whole ["value", "least", "most"] spWhole := by
  refine T.f_is_whole.F.ok sc_is_whole (fun vs H Q E h => ?_) (fun cdv A outer s H vs Q E hr h => ⟨_, PSs.nox ((pss_one (ps_ret (pe_and (pe_call (ok_is_integer T) (hr.mono (by decide)) rfl T.f_is_integer.g T.f_is_integer.F.kp (b_is_integer T) .nil pass0 (pa_cons (pv 0) pa_nil)) (pe_one (pe_chain op_le op_le (pv 1) (pv 0) (pv 2))))))), ?_⟩)
  · obtain ⟨_, _, _, rfl, _⟩ := h
    rfl
  · obtain ⟨v, lo, hi, rfl, h1, h2, q⟩ := h
    refine ⟨_, rfl, v, rfl, true, rfl, iteT ?_⟩
    refine ⟨_, rfl, _, rfl, _, _, rfl, rfl, true, congrArg V.bl (decide_eq_true h1), iteT ⟨_, rfl, _, _, rfl, rfl, ?_⟩⟩
    show Q (.bl (decide (v ≤ hi))) H
    rw [decide_eq_true h2]
    exact q
theorem ok_need_base (T : Txt P K mg a) : FnOk P w K mg base CX0 3 a.need_base a.d_need_base ["value"] spBase := by
  refine T.f_need_base.F.ok sc_need_base (fun vs H Q E h => ?_) (fun cdv A outer s H vs Q E hr h => ⟨_, PSs.nox ((pss_cons (ps_if (pt_not (pt_val (pe_call (ok_is_whole T) (hr.mono (by decide)) rfl T.f_is_whole.g T.f_is_whole.F.kp (b_is_whole T) .nil pass0 (pa_cons (pv 0) (pa_cons pe_int (pa_cons (pe_cst rfl T.c_MOST_BASE) pa_nil)))))) (pss_one ps_never) pss_nil)
      (pss_one (ps_ret (pv 0))))), ?_⟩)
  · obtain ⟨_, rfl, _⟩ := h
    rfl
  · obtain ⟨v, rfl, h1, h2, q⟩ := h
    exact ⟨_, rfl, v, 2, 1000, rfl, h1, h2, true, rfl, iteF ⟨_, rfl, q⟩⟩
theorem ok_need_most (T : Txt P K mg a) : FnOk P w K mg base CX0 3 a.need_most a.d_need_most ["value", "least", "most"] spMost := by
  refine T.f_need_most.F.ok sc_need_most (fun vs H Q E h => ?_) (fun cdv A outer s H vs Q E hr h => ⟨_, PSs.nox ((pss_cons (ps_if (pt_not (pt_val (pe_call (ok_is_whole T) (hr.mono (by decide)) rfl T.f_is_whole.g T.f_is_whole.F.kp (b_is_whole T) .nil pass0 (pa_cons (pv 0) (pa_cons (pv 1) (pa_cons (pv 2) pa_nil)))))) (pss_one ps_never) pss_nil)
      (pss_one (ps_ret (pv 0))))), ?_⟩)
  · obtain ⟨_, _, _, rfl, _⟩ := h
    rfl
  · obtain ⟨v, lo, hi, rfl, h1, h2, q⟩ := h
    exact ⟨_, rfl, _, rfl, _, rfl, v, lo, hi, rfl, h1, h2, true, rfl, iteF ⟨_, rfl, q⟩⟩
theorem ok_common_divisor (T : Txt P K mg a) : FnOk P w K mg base CX0 1 a.common_divisor a.d_common_divisor ["one", "other"] spGcd := by
  refine T.f_common_divisor.F.ok sc_common_divisor (fun vs H Q E h => ?_) (fun cdv A outer s H vs Q E hr h => ⟨_, PSs.nox ((pss_cons (ps_while PassesOwn.never (pt_cmpR op_gt (pv 1) pe_int (nomark _)) (pss_one (ps_par (i := 0) (j := 1) rfl sc_common_divisor.nd rfl rfl (by decide) rfl rfl (pa_cons (pv 1) (pa_cons (pe_op op_mod (pv 0) (pv 1)) pa_nil)) (by rfl))))
      (pss_one (ps_ret (pv 0))))), ?_⟩)
  · obtain ⟨_, _, rfl, _⟩ := h
    rfl
  · obtain ⟨i, j, rfl, q⟩ := h
    refine while_by (fun σ H' => H' = H ∧ ∃ x y : Nat, σ = [some (.int (x : Int)), some (.int (y : Int))] ∧ Nat.gcd x y = Nat.gcd i j) (fun σ _ => slotN 1 σ) ⟨rfl, i, j, rfl, rfl⟩ ?_ ?_
    · rintro σ H' ⟨rfl, x, y, rfl, e⟩
      refine ⟨_, rfl, _, _, rfl, rfl, _, rfl, ?_⟩
      by_cases c : y = 0
      · subst c
        refine ifF (decide_eq_false (by decide)) ?_
        rw [Nat.gcd_zero_right] at e
        rw [← e] at q
        exact ⟨_, rfl, q⟩
      · refine ifT (decide_eq_true (by omega)) ?_
        refine ⟨_, rfl, _, rfl, _, rfl, _, _, rfl, rfl, (by show (0 : Int) < _; omega), _, _, rfl, ⟨rfl, y, x % y, rfl, ?_⟩, ?_⟩
        · rw [gcd_turn c]
          exact e
        · show (((x % y : Nat) : Int)).toNat < ((y : Int)).toNat
          have := Nat.mod_lt x (Nat.pos_of_ne_zero c)
          omega
    · rintro σ H' Q1 Q2 hm ⟨v, e, i1, j1, e3, e4, k1, e5, h⟩
      exact ⟨v, e, i1, j1, e3, e4, k1, e5, hm _ _ h⟩
end
end K44

namespace K44
open PySem PySem.Spec PyProof.Rows L2
theorem c_dig (r b d : Nat) : (r : Int) * (b : Int) / (d : Int) = ((r * b / d : Nat) : Int) := by norm_cast
theorem c_rem (r b d : Nat) : (r : Int) * (b : Int) % (d : Int) = ((r * b % d : Nat) : Int) := by norm_cast
theorem small_mul {x : Nat} (h : x ≤ 100000) : -(2 ^ 64) < (x : Int) ∧ (x : Int) < 2 ^ 64 := by
  have e : (2 : Int) ^ 64 = 18446744073709551616 := by decide
  rw [e]
  omega
theorem small_rng {x : Nat} (h : x ≤ 100000) : -(2 ^ 62) ≤ (x : Int) ∧ (x : Int) < 2 ^ 62 := by
  have e : (2 : Int) ^ 62 = 4611686018427387904 := by decide
  rw [e]
  omega
theorem line_ok {n : Nat} (h : n ≤ 16777215) : n < sizeLine := by
  rw [sizeLine_eq]
  omega
/-- digits and the rest behind them -/
def spDigits (K : PySem.W.Frag) : Sp := fun vs H Q _ => ∃ b r d n : Nat, vs = [.int (b : Int), .int (r : Int), .int (d : Int), .int (n : Int)] ∧ 0 < d ∧ d ≤ 5000 ∧ b ≤ 1000 ∧ r < d ∧ n ≤ 1000 ∧
  ∀ H' p t, Same H H' → H' p = some (.tup [.ref t, .int ((remn b d n r : Nat) : Int)]) → H' t = some (.tup ((digs b d n r).map nV)) → Q (.ref p) H'
def spDoes (K : PySem.W.Frag) : Sp := fun vs H Q _ => ∃ (b n d : Nat) (s : Addr) (l : List (Option Nat)), vs = [.int (b : Int), .int (n : Int), .int (d : Int), .ref s] ∧ SqT K H s (l.map oV) ∧ 0 < d ∧ d ≤ 5000 ∧ b ≤ 1000 ∧ n < d ∧ Q (.bl (fitP b d l n)) H
section
variable {P : Program} {w : World} {K : PySem.W.Frag} {mg : Str → Option Value} {base : Heap} {a : Ad}
theorem ok_is_fraction (T : Txt P K mg a) : FnOk P w K mg base CX0 3 a.is_fraction a.d_is_fraction ["value"] (spFrac K) := by
  refine T.f_is_fraction.F.ok sc_is_fraction (fun vs H Q E h => ?_) (fun cdv A outer s H vs Q E hr h => ⟨_, PSs.nox ((pss_cons (ps_if (PW.pt (pw_or (pt_not (pt_val (pe_callB call_isi rfl T.n_isinstance (by decide +kernel) (pa_cons (pv 0) (pa_cons (pe_bltn (v := .ty "tuple") rfl T.n_tuple (by decide +kernel) rfl) pa_nil))))) (pw_or (pt_cmpR op_ne (pe_callB call_len_seq rfl T.n_len (by decide +kernel) (pa_cons (pv 0) pa_nil)) pe_int (nomark _)) (pw_or1 (pt_not (pt_val (pe_call (ok_is_whole T) (hr.mono (by decide)) rfl T.f_is_whole.g T.f_is_whole.F.kp (b_is_whole T) .nil pass0 (pa_cons (pe_ix ix_tup (pv 0) pe_int (fun _ _ => rfl)) (pa_cons pe_int (pa_cons (pe_cst rfl T.c_MOST_DENOMINATOR) pa_nil)))))))))) (pss_one (ps_ret pe_bl)) pss_nil)
      (pss_one (ps_ret (pe_and (pe_call (ok_is_whole T) (hr.mono (by decide)) rfl T.f_is_whole.g T.f_is_whole.F.kp (b_is_whole T) .nil pass0 (pa_cons (pe_ix ix_tup (pv 0) pe_int (fun _ _ => rfl)) (pa_cons pe_int (pa_cons (pe_op op_sub (pe_ix ix_tup (pv 0) pe_int (fun _ _ => rfl)) pe_int) pa_nil)))) (pe_one (pe_cmpR op_eq (pe_call (ok_common_divisor T) (hr.mono (by decide)) rfl T.f_common_divisor.g T.f_common_divisor.F.kp (b_common_divisor T) .nil pass0 (pa_cons (pe_ix ix_tup (pv 0) pe_int (fun _ _ => rfl)) (pa_cons (pe_ix ix_tup (pv 0) pe_int (fun _ _ => rfl)) pa_nil))) pe_int (nomark _)))))))), ?_⟩)
  · obtain ⟨_, _, _, rfl, _⟩ := h
    rfl
  · obtain ⟨p, n, d, rfl, hp, h1, h2, hg, q⟩ := h
    refine ⟨_, rfl, _, _, _, _, true, rfl, .ty _, ty_tup hp, kit_tt, true, rfl, iteF ?_⟩
    refine ⟨_, rfl, p, _, rfl, .inr hp, rfl, _, rfl, ifF (by show (!decide (V.int 2 = V.int 2)) = false; decide) ?_⟩
    refine ⟨_, rfl, p, _, 1, _, rfl, rfl, hp, rfl, _, _, _, rfl, ?_, ?_, true, rfl, iteF ?_⟩
    · omega
    · omega
    refine ⟨_, rfl, p, _, 0, _, rfl, rfl, hp, rfl, ⟨_, rfl, p, _, 1, _, rfl, rfl, hp, rfl, _, _, rfl, rfl, _, _, _, rfl, ?_, ?_, true, rfl, iteT ?_⟩⟩
    · omega
    · omega
    refine ⟨_, rfl, p, _, 0, _, rfl, rfl, hp, rfl, ⟨_, rfl, p, _, 1, _, rfl, rfl, hp, rfl, n, d, rfl, rfl, ?_⟩⟩
    show Q (.bl (decide (V.int ((Nat.gcd n d : Nat) : Int) = V.int 1))) H
    rw [hg]
    exact q
theorem ok_need_fraction (T : Txt P K mg a) : FnOk P w K mg base CX0 4 a.need_fraction a.d_need_fraction ["value"] (spNFrac K) := by
  refine T.f_need_fraction.F.ok sc_need_fraction (fun vs H Q E h => ?_) (fun cdv A outer s H vs Q E hr h => ⟨_, PSs.nox ((pss_cons (ps_if (pt_not (pt_val (pe_call (ok_is_fraction T) (hr.mono (by decide)) rfl T.f_is_fraction.g T.f_is_fraction.F.kp (b_is_fraction T) .nil pass0 (pa_cons (pv 0) pa_nil)))) (pss_one ps_never) pss_nil)
      (pss_one (ps_ret (pv 0))))), ?_⟩)
  · obtain ⟨_, _, _, rfl, _⟩ := h
    rfl
  · obtain ⟨p, n, d, rfl, hp, h1, h2, hg, q⟩ := h
    exact ⟨_, rfl, p, n, d, rfl, hp, h1, h2, hg, true, rfl, iteF ⟨_, rfl, q⟩⟩
theorem ok_digits_after (T : Txt P K mg a) : FnOk P w K mg base CX0 1 a.digits_after a.d_digits_after ["base", "rest", "denominator", "count"] (spDigits K) := by
  refine T.f_digits_after.F.ok sc_digits_after (fun vs H Q E h => ?_) (fun cdv A outer s H vs Q E hr h => ⟨_, PSs.nox ((pss_cons (ps_set (i := 4) sc_digits_after.nd rfl (Or.inl rfl) (pe_lst pa_nil))
      (pss_cons (ps_for PassesOwn.never rfl (pi_range1 rfl T.n_range (pa_cons (pv 3) pa_nil)) (pg_name (i := 5) sc_digits_after.nd rfl (Or.inl rfl)) (pss_cons (ps_expr (pe_bm PySem.F.plainAttrs_list PySem.F.slot_list_append PySem.F.type_list_append mt_append (pv 4) (pa_cons (pe_op op_fdiv (pe_op op_mul (pv 1) (pv 0)) (pv 2)) pa_nil)))
      (pss_one (ps_set (i := 1) sc_digits_after.nd rfl (Or.inl rfl) (pe_op op_mod (pe_op op_mul (pv 1) (pv 0)) (pv 2))))))
      (pss_one (ps_ret (pe_tup (pa_cons (pe_callTy call_tuple_of rfl T.n_tuple (by decide +kernel) (pa_cons (pv 4) pa_nil)) (pa_cons (pv 1) pa_nil)))))))), ?_⟩)
  · obtain ⟨_, _, _, _, rfl, _⟩ := h
    rfl
  · obtain ⟨b, r, d, n, rfl, d0, d1, b1, r1, n1, q⟩ := h
    refine ⟨Nat.zero_le _, fun l hl => ?_⟩
    have nr := small_rng (x := n) (by omega)
    refine ⟨_, rfl, _, rfl, nr.1, nr.2, for_range (lo := 0) (n := n) (fun i σ H' => ∃ v, σ = [some (.int (b : Int)), some (.int ((remn b d i r : Nat) : Int)), some (.int (d : Int)), some (.int (n : Int)), some (.ref l), v] ∧ H' l = some (.lst ((digs b d i r).map nV)) ∧ Same H H')
      ⟨none, rfl, upd_same, same_upd hl⟩ ?_ ?_⟩
    · rintro i σ H' hi ⟨v, rfl, e, sm⟩
      have rl := remn_lt (b := b) d0 i r r1
      refine ⟨_, rfl, .inl ⟨rfl, _, SqL.of' e⟩, ?_⟩
      refine ⟨_, rfl, _, rfl, _, _, rfl, rfl, .inl (small_mul (by omega)), _, rfl, _, _, rfl, rfl, ⟨by omega, by omega⟩, l, _, _, rfl, rfl, e, ?_, ?_⟩
      · rw [List.length_map, digs_len]
        exact line_ok (by omega)
      refine ⟨_, rfl, _, rfl, _, _, rfl, rfl, .inl (small_mul (by omega)), _, rfl, _, _, rfl, rfl, ?_, ?_⟩
      · show (0 : Int) < _
        omega
      refine ⟨some (.int (0 + (i : Int))), ?_, ?_, ?_⟩
      · show _ = [some (V.int (b : Int)), some (.int ((remn b d (i + 1) r : Nat) : Int)), _, _, _, _]
        rw [remn_more, ← c_rem]
        rfl
      · rw [digs_more, List.map_append, upd_same]
        show some (HO.lst (_ ++ [V.int _])) = some (HO.lst (_ ++ [nV _]))
        rw [c_dig]
        rfl
      · exact fun c o h => by
          rw [upd_ne (ne_of_none h hl)]
          exact sm c o h
    · rintro σ H' ⟨v, rfl, e, sm⟩
      refine ⟨_, rfl, l, _, rfl, .inl ⟨SqL.of' e, fun t ht => ?_⟩⟩
      refine ⟨_, rfl, (by show 2 ≤ sizeLine; decide), fun p hp => ?_⟩
      have tp : t ≠ p := fun z => by
        rw [← z, upd_same] at hp
        cases hp
      exact q _ p t ((sm.up (sm.free ht)).trans (same_upd hp)) upd_same (by rw [upd_ne tp, upd_same])
end
end K44

namespace K44
open PySem PySem.Spec PyProof.Rows L2
theorem take_snoc {α : Type} : ∀ {l : List α} {i : Nat} {x : α}, l[i]? = some x → l.take (i + 1) = l.take i ++ [x]
  | [], i, x, h => by simp at h
  | a :: l, 0, x, h => by
    have e : a = x := Option.some.inj h
    subst e
    rfl
  | a :: l, i + 1, x, h => by
    have ih := take_snoc (l := l) (i := i) (x := x) h
    show a :: l.take (i + 1) = a :: l.take i ++ [x]
    rw [ih]
    rfl
theorem lt_of_get {α : Type} {l : List α} {i : Nat} {x : α} (h : l[i]? = some x) : i < l.length := (List.getElem?_eq_some_iff.mp h).1
theorem get_map {α β : Type} {f : α → β} {l : List α} {i : Nat} {y : β} (h : (l.map f)[i]? = some y) : ∃ x, l[i]? = some x ∧ y = f x := by
  rw [List.getElem?_map] at h
  cases e : l[i]? with
  | none =>
    rw [e] at h
    cases h
  | some x =>
    rw [e] at h
    exact ⟨x, rfl, (Option.some.inj h).symm⟩
theorem fit_step {b d n i : Nat} {l : List (Option Nat)} {o : Option Nat} (h : l[i]? = some o) : fitP b d (l.take (i + 1)) n = (fitP b d (l.take i) n && okAt o (remn b d i n * b / d)) := by
  have hl := lt_of_get h
  rw [take_snoc h, fitP_app, List.length_take, Nat.min_eq_left (Nat.le_of_lt hl)]
  show (fitP b d (l.take i) n && (okAt o (remn b d i n * b / d) && true)) = _
  rw [Bool.and_true]
theorem fit_false {b d n i : Nat} {l : List (Option Nat)} (h : fitP b d (l.take i) n = false) : fitP b d l n = false := by
  have e := fitP_app b d (l.take i) (l.drop i) n
  rw [List.take_append_drop] at e
  rw [e, h, Bool.false_and]
/-- what was seen is in order -/
structure SeenOk (b : Nat) (l : List (Option Nat)) : Prop where
  b2 : 2 ≤ b
  b1000 : b ≤ 1000
  l1 : 1 ≤ l.length
  l20 : l.length ≤ 20
  dg : ∀ v : Nat, some v ∈ l → v < b
def spSeen (K : PySem.W.Frag) : Sp := fun vs H Q _ => ∃ (b : Nat) (s : Addr) (l : List (Option Nat)), vs = [.int (b : Int), .ref s] ∧ SqT K H s (l.map oV) ∧ SeenOk b l ∧ ∀ H', Same H H' → Q (.ref s) H'
def spFits (K : PySem.W.Frag) : Sp := fun vs H Q _ => ∃ (b n d : Nat) (p s : Addr) (l : List (Option Nat)), vs = [.int (b : Int), .ref p, .ref s] ∧ SqT K H s (l.map oV) ∧ SeenOk b l ∧ SqT K H p [.int (n : Int), .int (d : Int)] ∧ n < d ∧ d ≤ 5000 ∧ Nat.gcd n d = 1 ∧
  ∀ H', Same H H' → Q (.bl (fitP b d l n)) H'
section
variable {P : Program} {w : World} {K : PySem.W.Frag} {mg : Str → Option Value} {base : Heap} {a : Ad}
theorem ok_does_fit (T : Txt P K mg a) : FnOk P w K mg base CX0 1 a.does_fit a.d_does_fit ["base", "numerator", "denominator", "seen"] (spDoes K) := by
  refine T.f_does_fit.F.ok sc_does_fit (fun vs H Q E h => ?_) (fun cdv A outer s H vs Q E hr h => ⟨_, PSs.nox ((pss_cons (ps_set (i := 4) sc_does_fit.nd rfl (Or.inl rfl) (pv 1))
      (pss_cons (ps_for PassesOwn.never rfl (pi_tup (pv 3)) (pg_name (i := 5) sc_does_fit.nd rfl (Or.inl rfl)) (pss_cons (ps_if (PW.pt (pw_and (pt_cmp (pc_notN (pv 5))) (pw_and1 (pt_cmpR op_ne (pe_op op_fdiv (pe_op op_mul (pv 4) (pv 0)) (pv 2)) (pv 5) (nomark _))))) (pss_one (ps_ret pe_bl)) pss_nil)
      (pss_one (ps_set (i := 4) sc_does_fit.nd rfl (Or.inl rfl) (pe_op op_mod (pe_op op_mul (pv 4) (pv 0)) (pv 2))))))
      (pss_one (ps_ret pe_bl))))), ?_⟩)
  · obtain ⟨_, _, _, _, _, rfl, _⟩ := h
    rfl
  · obtain ⟨b, n, d, s, l, rfl, hs, d0, d1, b1, n1, q⟩ := h
    refine ⟨_, rfl, _, rfl, s, rfl, ⟨_, hs⟩, for_tup (K := K) (a := s) (xs := l.map oV) (fun i σ H' => ∃ v, σ = [some (.int (b : Int)), some (.int (n : Int)), some (.int (d : Int)), some (.ref s), some (.int ((remn b d i n : Nat) : Int)), v] ∧ H = H' ∧ fitP b d (l.take i) n = true)
      ⟨none, rfl, rfl, rfl⟩ (fun i σ H' _ ⟨_, _, e, _⟩ => by rw [← e]; exact hs) ?_ ?_⟩
    · rintro i x σ H' hi ⟨v, rfl, rfl, hf⟩
      obtain ⟨o, ho, rfl⟩ := get_map hi
      have rl := remn_lt (b := b) d0 i n n1
      have st := fit_step (b := b) (d := d) (n := n) ho
      rw [hf, Bool.true_and] at st
      have more : okAt o (remn b d i n * b / d) = true → fitP b d (l.take (i + 1)) n = true := fun e => st.trans e
      have rest : ∀ {D : Ends}, fitP b d (l.take (i + 1)) n = true → D.nx = (fun σ H' => ∃ v, σ = [some (.int (b : Int)), some (.int (n : Int)), some (.int (d : Int)), some (.ref s), some (.int ((remn b d (i + 1) n : Nat) : Int)), v] ∧ H = H' ∧ fitP b d (l.take (i + 1)) n = true) →
          tAsg (tOp (rI (fun _ j => 0 < j) fun i j => .int (i % j)) (tOp (rI CMul fun i j => .int (i * j)) (tVar 4) (tVar 0)) (tVar 2)) (gName 4) D [some (.int (b : Int)), some (.int (n : Int)), some (.int (d : Int)), some (.ref s), some (.int ((remn b d i n : Nat) : Int)), some (oV o)] H := by
        intro D e eD
        refine ⟨_, rfl, _, rfl, _, _, rfl, rfl, .inl (small_mul (by omega)), _, rfl, _, _, rfl, rfl, (by show (0 : Int) < _; omega), ?_⟩
        rw [eD]
        refine ⟨some (oV o), ?_, rfl, e⟩
        rw [remn_more, ← c_rem]
        rfl
      refine ⟨_, rfl, _, rfl, ?_⟩
      cases o with
      | none => exact ifF (by decide) (iteF (rest (more rfl) rfl))
      | some m =>
        refine ifT (by show (!decide (V.int (m : Int) = V.non)) = true; rfl) ?_
        refine ⟨_, rfl, _, rfl, _, _, rfl, rfl, .inl (small_mul (by omega)), _, rfl, _, _, rfl, rfl, ⟨by omega, by omega⟩, _, rfl, rfl, _, rfl, ?_⟩
        by_cases c : remn b d i n * b / d = m
        · refine ifF ?_ (rest (more ?_) rfl)
          · show (!decide (V.int (((remn b d i n : Nat) : Int) * (b : Int) / (d : Int)) = V.int (m : Int))) = false
            rw [c_dig, c, decide_eq_true rfl]
            rfl
          · show (remn b d i n * b / d == m) = true
            rw [c]
            exact beq_self_eq_true m
        · refine ifT ?_ ?_
          · show (!decide (V.int (((remn b d i n : Nat) : Int) * (b : Int) / (d : Int)) = V.int (m : Int))) = true
            rw [c_dig, decide_eq_false]
            · rfl
            · intro z
              injection z with z
              exact c (by omega)
          · have e : fitP b d l n = false := fit_false (i := i + 1) (st.trans (by show (remn b d i n * b / d == m) = false; simpa using c))
            show Q (.bl false) H
            rw [← e]
            exact q
    · rintro σ H' ⟨v, rfl, rfl, hf⟩
      rw [List.length_map, List.take_length] at hf
      show Q (.bl true) H
      rw [← hf]
      exact q
theorem ok_need_seen (T : Txt P K mg a) : FnOk P w K mg base CX0 4 a.need_seen a.d_need_seen ["base", "value"] (spSeen K) := by
  refine T.f_need_seen.F.ok sc_need_seen (fun vs H Q E h => ?_) (fun cdv A outer s H vs Q E hr h => ⟨_, PSs.nox ((pss_cons (ps_expr (pe_call (ok_need_base T) (hr.mono (by decide)) rfl T.f_need_base.g T.f_need_base.F.kp (b_need_base T) .nil pass0 (pa_cons (pv 0) pa_nil)))
      (pss_cons (ps_if (PW.pt (pw_or (pt_not (pt_val (pe_callB call_isi rfl T.n_isinstance (by decide +kernel) (pa_cons (pv 1) (pa_cons (pe_bltn (v := .ty "tuple") rfl T.n_tuple (by decide +kernel) rfl) pa_nil))))) (pw_or1 (pt_not (pt_chain op_le op_le pe_int (pe_callB call_len_seq rfl T.n_len (by decide +kernel) (pa_cons (pv 1) pa_nil)) (pe_cst rfl T.c_MOST_SEEN)))))) (pss_one ps_never) pss_nil)
      (pss_cons (ps_if (pt_not (pt_val (pe_callB (cr_all rfl) rfl T.n_all (by decide +kernel) (pa_cons (pe_lc (own := [("item", 2)]) rfl sc_need_seen.nd (pi_tup (pv 1)) (blkOk_by (N := ["base", "value", "item"]) (sc := defScope s_need_seen) (by decide +kernel)) (fun _ _ _ _ _ => (pg_name (i := 2) sc_need_seen.nd rfl (Or.inl rfl))) (fun _ _ _ _ _ => pts_nil) (fun _ _ _ _ _ => (pe_or (pe_cmp (pc_isN (pv 2))) (pe_one (pe_call (ok_is_whole T) (hr.mono (by decide)) rfl T.f_is_whole.g T.f_is_whole.F.kp (b_is_whole T) .nil pass0 (pa_cons (pv 2) (pa_cons pe_int (pa_cons (pe_op op_sub (pv 0) pe_int) pa_nil)))))))) pa_nil)))) (pss_one ps_never) pss_nil)
      (pss_one (ps_ret (pv 1))))))), ?_⟩)
  · obtain ⟨_, _, _, rfl, _⟩ := h
    rfl
  · obtain ⟨b, s, l, rfl, hs, ok, q⟩ := h
    have h1 := ok.b2
    have h2 := ok.b1000
    have h3 := ok.l1
    have h4 := ok.l20
    refine ⟨_, rfl, b, rfl, by omega, by omega, ?_⟩
    refine ⟨_, rfl, _, _, _, _, true, rfl, .ty _, ty_tup hs, kit_tt, true, rfl, iteF ?_⟩
    refine ⟨_, rfl, s, _, rfl, .inr hs, _, _, rfl, rfl, true, congrArg V.bl (decide_eq_true ?_), iteT ⟨_, _, rfl, rfl, true, congrArg V.bl (decide_eq_true ?_), iteF ?_⟩⟩
    · rw [List.length_map]
      omega
    · rw [List.length_map]
      omega
    refine ⟨_, rfl, s, rfl, ⟨_, hs⟩, fun D hD => lc_tup (K := K) (a := s) (xs := l.map oV) (fun i H' => H' D = some (.lst (List.replicate i (V.bl true))) ∧ Same H H') ⟨upd_same, same_upd hD⟩ (fun i H' _ h => h.2.ks.sqT hs) ?_ ?_⟩
    · rintro i x H' hi ⟨eD, sm⟩
      obtain ⟨o, ho, rfl⟩ := get_map hi
      have hl := lt_of_get ho
      have fin : ∃ acc, H' D = some (.lst acc) ∧ acc.length < sizeLine ∧ (upd H' D (.lst (acc ++ [V.bl true]))) D = some (.lst (List.replicate (i + 1) (V.bl true))) ∧ Same H (upd H' D (.lst (acc ++ [V.bl true]))) :=
        ⟨_, eD, by rw [List.length_replicate]; exact line_ok (by omega), by rw [upd_same, List.replicate_succ'], sm.up hD⟩
      refine ⟨rfl, ?_⟩
      refine ⟨_, rfl, _, rfl, ?_⟩
      cases o with
      | none => exact ifT (by decide) fin
      | some m =>
        have hm := ok.dg m (List.mem_of_getElem? ho)
        refine ifF (by show decide (V.int (m : Int) = V.non) = false; rfl) ?_
        exact ⟨_, rfl, _, rfl, _, _, rfl, rfl, _, _, _, rfl, by omega, by omega, fin⟩
    · rintro H' ⟨eD, sm⟩
      refine ⟨D, List.replicate (l.map oV).length true, rfl, SqL.of' (by rw [List.map_replicate]; exact eD), _, rfl, ifF ?_ ⟨_, rfl, q _ sm⟩⟩
      show (!((List.replicate (l.map oV).length true).all id)) = false
      rw [List.all_replicate]
      split <;> rfl
theorem ok_fits (T : Txt P K mg a) : FnOk P w K mg base CX0 5 a.fits a.d_fits ["base", "fraction", "seen"] (spFits K) := by
  refine T.f_fits.F.ok sc_fits (fun vs H Q E h => ?_) (fun cdv A outer s H vs Q E hr h => ⟨_, PSs.nox ((pss_cons (ps_expr (pe_call (ok_need_base T) (hr.mono (by decide)) rfl T.f_need_base.g T.f_need_base.F.kp (b_need_base T) .nil pass0 (pa_cons (pv 0) pa_nil)))
      (pss_cons (ps_expr (pe_call (ok_need_fraction T) (hr.mono (by decide)) rfl T.f_need_fraction.g T.f_need_fraction.F.kp (b_need_fraction T) .nil pass0 (pa_cons (pv 1) pa_nil)))
      (pss_cons (ps_expr (pe_call (ok_need_seen T) (hr.mono (by decide)) rfl T.f_need_seen.g T.f_need_seen.F.kp (b_need_seen T) .nil pass0 (pa_cons (pv 0) (pa_cons (pv 2) pa_nil))))
      (pss_one (ps_ret (pe_call (ok_does_fit T) (hr.mono (by decide)) rfl T.f_does_fit.g T.f_does_fit.F.kp (b_does_fit T) .nil pass0 (pa_cons (pv 0) (pa_cons (pe_ix ix_tup (pv 1) pe_int (fun _ _ => rfl)) (pa_cons (pe_ix ix_tup (pv 1) pe_int (fun _ _ => rfl)) (pa_cons (pv 2) pa_nil))))))))))), ?_⟩)
  · obtain ⟨_, _, _, _, _, _, rfl, _⟩ := h
    rfl
  · obtain ⟨b, n, d, p, s, l, rfl, hs, ok, hp, n1, d1, hg, q⟩ := h
    have h1 := ok.b2
    have h2 := ok.b1000
    refine ⟨_, rfl, b, rfl, by omega, by omega, ?_⟩
    refine ⟨_, rfl, p, n, d, rfl, hp, n1, d1, hg, ?_⟩
    refine ⟨_, rfl, _, rfl, b, s, l, rfl, hs, ok, fun H' sm => ?_⟩
    have hp' := sm.ks.sqT hp
    exact ⟨_, rfl, _, rfl, p, _, 0, _, rfl, rfl, hp', rfl, _, rfl, p, _, 1, _, rfl, rfl, hp', rfl, _, rfl, b, n, d, s, l, rfl, sm.ks.sqT hs, by omega, d1, h2, n1, q _ sm⟩
end
end K44

/-! Rows of pairs; walks over a list and a tuple side by side; == of such data. -/
namespace L2
open PySem PySem.Spec PyProof.Rows K44
def tupO : HO → Bool
  | .tup _ => true
  | .frz _ _ => true
  | _ => false
/-- tuples and what is locked stay -/
def KeepT (H H' : Hp) : Prop := ∀ b o, H b = some o → tupO o = true → H' b = some o
theorem KeepT.refl (H : Hp) : KeepT H H := fun _ _ h _ => h
theorem KeepT.trans {H H1 H2 : Hp} (a : KeepT H H1) (b : KeepT H1 H2) : KeepT H H2 := fun c o h s => b c o (a c o h s) s
theorem KeepS.kt {H H' : Hp} (k : KeepS H H') : KeepT H H' := fun b o h s => k b o h (by cases o <;> first | rfl | exact s)
theorem Same.kt {H H' : Hp} (k : Same H H') : KeepT H H' := k.ks.kt
theorem kt_lst {H : Hp} {l : Addr} {xs : List V} {o : HO} (h : H l = some (.lst xs)) : KeepT H (upd H l o) := fun b u e s => by
  by_cases hb : b = l
  · rw [hb, h] at e
    cases e
    cases s
  · rw [upd_ne hb]
    exact e
theorem KeepT.sqT {K : PySem.W.Frag} {H H' : Hp} {a : Addr} {xs : List V} (k : KeepT H H') (h : SqT K H a xs) : SqT K H' a xs := by
  rcases h with (h | ⟨o, h⟩) | h
  · exact .inl (.inl (k _ _ h rfl))
  · exact .inl (.inr ⟨o, k _ _ h rfl⟩)
  · exact .inr h
theorem Same.upn {H H1 : Hp} {p : Addr} {o : HO} (s : Same H H1) (h : H1 p = none) : Same H (upd H1 p o) := s.trans (same_upd h)
theorem atI0 {v : V} {xs : List V} : atI (v :: xs) 0 = some v := atI_nat (xs := v :: xs) (j := 0) rfl
theorem cut_tail {v : V} {xs : List V} : cutV (v :: xs) (some 1) none = xs := by
  have e : HT.sIx (v :: xs).length 0 (some 1) = 1 := by
    have := HT.sIx_nat (v :: xs).length 0 1
    rw [show ((1 : Nat) : Int) = 1 from rfl] at this
    rw [this, List.length_cons]
    omega
  unfold cutV
  rw [e, HT.sIx_none]
  show List.take ((v :: xs).length - 1) xs = xs
  exact List.take_of_length_le (by rw [List.length_cons]; omega)
/-- references to pairs -/
structure PrsAt (K : PySem.W.Frag) (H : Hp) (ps : List V) (L : List (Nat × Nat)) : Prop where
  len : ps.length = L.length
  at_ : ∀ (i : Nat) (p : Nat × Nat), L[i]? = some p → ∃ t, ps[i]? = some (.ref t) ∧ SqT K H t [.int (p.1 : Int), .int (p.2 : Int)]
section
variable {K : PySem.W.Frag} {H H' : Hp} {ps : List V} {L : List (Nat × Nat)}
theorem PrsAt.nil : PrsAt K H [] [] := ⟨rfl, fun i p h => by simp at h⟩
theorem PrsAt.keep (h : PrsAt K H ps L) (k : KeepT H H') : PrsAt K H' ps L := ⟨h.len, fun i p e => by
  obtain ⟨t, h1, h2⟩ := h.at_ i p e
  exact ⟨t, h1, k.sqT h2⟩⟩
theorem PrsAt.snoc {t : Addr} {p : Nat × Nat} (h : PrsAt K H ps L) (ht : SqT K H t [.int (p.1 : Int), .int (p.2 : Int)]) : PrsAt K H (ps ++ [.ref t]) (L ++ [p]) := by
  refine ⟨by rw [List.length_append, List.length_append, h.len]; rfl, fun i q e => ?_⟩
  by_cases hi : i < L.length
  · rw [List.getElem?_append_left hi] at e
    obtain ⟨u, h1, h2⟩ := h.at_ i q e
    exact ⟨u, by rw [List.getElem?_append_left (by rw [h.len]; exact hi)]; exact h1, h2⟩
  · have hl := (List.getElem?_eq_some_iff.mp e).1
    rw [List.length_append] at hl
    have z : i = L.length := by
      have : [p].length = 1 := rfl
      omega
    subst z
    rw [List.getElem?_append_right (Nat.le_refl _), Nat.sub_self] at e
    have e2 : p = q := Option.some.inj e
    subst e2
    exact ⟨t, by rw [← h.len, List.getElem?_append_right (Nat.le_refl _), Nat.sub_self]; rfl, ht⟩
theorem PrsAt.tail {v : V} {p : Nat × Nat} (h : PrsAt K H (v :: ps) (p :: L)) : PrsAt K H ps L := by
  have hl := h.len
  refine ⟨Nat.succ.inj hl, fun i q e => ?_⟩
  obtain ⟨t, h1, h2⟩ := h.at_ (i + 1) q e
  exact ⟨t, h1, h2⟩
theorem PrsAt.head {v : V} {p : Nat × Nat} (h : PrsAt K H (v :: ps) (p :: L)) : ∃ t, v = .ref t ∧ SqT K H t [.int (p.1 : Int), .int (p.2 : Int)] := by
  obtain ⟨t, h1, h2⟩ := h.at_ 0 p rfl
  exact ⟨t, Option.some.inj h1, h2⟩
theorem PrsAt.dp : ∀ {ps : List V} {L : List (Nat × Nat)}, PrsAt K H ps L → DpAll K H ps (L.map pD)
  | [], [], h => .nil
  | [], p :: L, h => by
    have := h.len
    cases this
  | v :: ps, [], h => by
    have := h.len
    cases this
  | v :: ps, p :: L, h => by
    obtain ⟨t, e, ht⟩ := h.head
    subst e
    exact .cons (dp_pair ht) h.tail.dp
theorem PrsAt.getV {i : Nat} {v : V} (h : PrsAt K H ps L) (e : ps[i]? = some v) : ∃ t p, v = .ref t ∧ L[i]? = some p ∧ SqT K H t [.int (p.1 : Int), .int (p.2 : Int)] := by
  have hl : i < L.length := by rw [← h.len]; exact (List.getElem?_eq_some_iff.mp e).1
  obtain ⟨t, h1, h2⟩ := h.at_ i L[i] (by simp [hl])
  exact ⟨t, L[i], Option.some.inj (e.symm.trans h1), by simp [hl], h2⟩
theorem PrsAt.app {qs : List V} {M : List (Nat × Nat)} (h : PrsAt K H ps L) (h2 : PrsAt K H qs M) : PrsAt K H (ps ++ qs) (L ++ M) := by
  refine ⟨by rw [List.length_append, List.length_append, h.len, h2.len], fun i p e => ?_⟩
  by_cases hi : i < L.length
  · rw [List.getElem?_append_left hi] at e
    obtain ⟨u, a, b⟩ := h.at_ i p e
    exact ⟨u, by rw [List.getElem?_append_left (by rw [h.len]; exact hi)]; exact a, b⟩
  · rw [List.getElem?_append_right (by omega)] at e
    obtain ⟨u, a, b⟩ := h2.at_ _ p e
    exact ⟨u, by rw [List.getElem?_append_right (by rw [h.len]; omega), h.len]; exact a, b⟩
end
/-- a comprehension over zip(list, tuple), of one length -/
theorem lc_zipM {K : PySem.W.Frag} {a b : Addr} {xs ys : List V} {g : TG} {tt : TT} {te : TE} {vs : List Nat} {σ : St} {H1 : Hp} {D : Addr} {Qd : Hp → Prop} (hxy : xs.length = ys.length) (Pv : Nat → Hp → Prop) (h0 : Pv 0 (upd H1 D (.lst [])))
    (hl : ∀ i H, i ≤ xs.length → Pv i H → SqL K H a xs ∧ SqT K H b ys)
    (hs : ∀ i x y T H, xs[i]? = some x → ys[i]? = some y → H T = none → Pv i H → g (.ref T) (wipe σ vs) (upd H T (.tup [x, y])) fun σ2 H2 => wipe σ2 vs = wipe σ vs ∧ tt σ2 H2 fun b H3 =>
      if b = true then te σ2 H3 fun y H4 => ∃ acc, H4 D = some (.lst acc) ∧ acc.length < sizeLine ∧ Pv (i + 1) (upd H4 D (.lst (acc ++ [y]))) else Pv (i + 1) H3) (hd : ∀ H, Pv xs.length H → Qd H) :
    ∃ W : Nat → Nat → Hp → Prop, (∃ m, W 0 m (upd H1 D (.lst []))) ∧ ∀ i m H, W i m H →
      ((ItzM K a b).stop i H ∧ Qd H) ∨ ((ItzM K a b).go i H ∧ ∃ Nx : Hp → Prop, (∀ H', Nx H' → ∃ m', m' < m ∧ W (i + 1) m' H') ∧ ∀ x H', (ItzM K a b).yld i H x H' → g x (wipe σ vs) H' fun σ2 H2 => wipe σ2 vs = wipe σ vs ∧ tt σ2 H2 fun b H3 =>
        if b = true then te σ2 H3 fun y H4 => ∃ acc, H4 D = some (.lst acc) ∧ acc.length < sizeLine ∧ Nx (upd H4 D (.lst (acc ++ [y]))) else Nx H3) := by
  refine ⟨fun i m H => m = xs.length - i ∧ i ≤ xs.length ∧ Pv i H, ⟨xs.length, by simp, Nat.zero_le _, h0⟩, ?_⟩
  rintro i m H ⟨rfl, hi, p⟩
  obtain ⟨q1, q2⟩ := hl i H hi p
  by_cases hlt : i < xs.length
  · have hlt2 : i < ys.length := hxy ▸ hlt
    have e1 : xs[i]? = some xs[i] := by simp [hlt]
    have e2 : ys[i]? = some ys[i] := by simp [hlt2]
    refine .inr ⟨⟨xs, ys, xs[i], ys[i], q1, q2, e1, e2⟩, Pv (i + 1), fun H' p' => ⟨xs.length - (i + 1), by omega, rfl, hlt, p'⟩, fun x H' y => ?_⟩
    obtain ⟨T, x1, y1, rfl, hT, rfl, f1, f2⟩ := y
    have z1 : xs[i] = x1 := Option.some.inj (e1.symm.trans (f1 xs q1))
    have z2 : ys[i] = y1 := Option.some.inj (e2.symm.trans (f2 ys q2))
    subst z1 z2
    exact hs i _ _ T H e1 e2 hT p
  · have e : i = xs.length := by omega
    subst e
    exact .inl ⟨⟨xs, ys, q1, q2, Nat.le_refl _, Nat.le_of_eq hxy, .inl rfl⟩, hd H p⟩
end L2
namespace K44
open PySem PySem.Spec PyProof.Rows L2
/-! ### == -/
theorem shaped_of {d : PyData} (ok : okD d = true) (dp : d.depth ≤ 40) : SeqAt.shaped d = true := by
  unfold SeqAt.shaped
  rw [okD_lay d ok, Bool.true_and]
  exact decide_eq_true (Nat.le_trans dp (by decide))
theorem pD_ok {p : Nat × Nat} (h1 : p.1 < 1000000) (h2 : p.2 < 1000000) : okD (pD p) = true := by
  simp only [pD, okD, okA, Bool.and_true, Bool.and_eq_true, decide_eq_true_eq]
  omega
theorem pD_sz (p : Nat × Nat) : szD (pD p) ≤ 42 := by
  simp only [pD, szD, szA]
  omega
theorem pD_dp (p : Nat × Nat) : (pD p).depth ≤ 2 := by
  simp only [pD, PyData.depth, PyData.depthAll]
  decide
theorem oD_ok {o : Option Nat} (h : ∀ v, o = some v → v < 1000000) : okD (oD o) = true := by
  cases o with
  | none => rfl
  | some v =>
    have := h v rfl
    simp only [oD, okD, Bool.and_eq_true, decide_eq_true_eq]
    omega
theorem oD_sz (o : Option Nat) : szD (oD o) ≤ 20 := by
  cases o <;> simp only [oD, szD] <;> omega
theorem oD_dp (o : Option Nat) : (oD o).depth ≤ 1 := by
  cases o <;> simp only [oD, PyData.depth] <;> decide
theorem shaped_prs {L : List (Nat × Nat)} (h : ∀ p ∈ L, p.1 < 1000000 ∧ p.2 < 1000000) : SeqAt.shaped (.list (L.map pD)) = true := by
  refine shaped_of ?_ ?_
  · show okA (L.map pD) = true
    exact okA_map pD L fun p hp => pD_ok (h p hp).1 (h p hp).2
  · have := depth_map pD 2 L fun p _ => pD_dp p
    simp only [PyData.depth]
    omega
theorem eqv_nil (ds : List PyData) : PyData.eqv (.list ds) (.list []) = ds.isEmpty := by
  cases ds <;> simp only [PyData.eqv, PyData.eqvAll, List.isEmpty]
/-- no more than this up to i -/
theorem upTo_two (b : Nat) (seen : List (Option Nat)) : ∀ i, 2 * (upTo b seen i).length ≤ i * (i + 1)
  | 0 => Nat.le_refl 0
  | i + 1 => by
    show 2 * (upTo b seen i ++ row b seen (i + 1) (i + 1)).length ≤ (i + 1) * (i + 2)
    have ih := upTo_two b seen i
    have h2 := row_len b seen (i + 1) (i + 1)
    have e : (i + 1) * (i + 2) = i * (i + 1) + 2 * (i + 1) := by
      rw [Nat.mul_comm (i + 1) (i + 2), Nat.add_mul, Nat.mul_comm 2]
    rw [List.length_append]
    omega
theorem upTo_lt {b : Nat} {seen : List (Option Nat)} {m : Nat} (hm : m ≤ 100000) : ∀ p ∈ upTo b seen m, p.1 < 1000000 ∧ p.2 < 1000000 := fun p hp => by
  obtain ⟨h1, h2, h3⟩ := upTo_mem hp
  omega
end K44

namespace K44
open PySem PySem.Spec PyProof.Rows L2
def spFitIn (K : PySem.W.Frag) : Sp := fun vs H Q _ => ∃ (b m : Nat) (s : Addr) (l : List (Option Nat)), vs = [.int (b : Int), .ref s, .int (m : Int)] ∧ SqT K H s (l.map oV) ∧ SeenOk b l ∧ 1 ≤ m ∧ m ≤ 200 ∧
  ∀ H' f ps, Same H H' → H f = none → H' f = some (.lst ps) → PrsAt K H' ps (upTo b l m) → Q (.ref f) H'
/-- a tuple; or the greatest bound is passed -/
def spFitting (K : PySem.W.Frag) (CG : Addr) : Sp := fun vs H Q E => ∃ (b m : Nat) (s : Addr) (l : List (Option Nat)), vs = [.int (b : Int), .ref s, .int (m : Int)] ∧ SqT K H s (l.map oV) ∧ SeenOk b l ∧ 1 ≤ m ∧ m ≤ 200 ∧
  ((upTo b l m).length ≤ 1000 → ∀ H' f ps, Same H H' → H' f = some (.tup ps) → PrsAt K H' ps (upTo b l m) → Q (.ref f) H') ∧
  (1000 < (upTo b l m).length → ∀ H' d, Same H H' → H' d = some (.xd [("most", .int 1000)]) → E (.ref CG) (some d) H')
def spSimplest (K : PySem.W.Frag) : Sp := fun vs H Q _ => ∃ (b m : Nat) (s : Addr) (l : List (Option Nat)), vs = [.int (b : Int), .ref s, .int (m : Int)] ∧ SqT K H s (l.map oV) ∧ SeenOk b l ∧ 1 ≤ m ∧ m ≤ 200 ∧
  ∀ H' v, Same H H' → Dp K H' v (qD (upTo b l m)) → Q v H'
section
variable {P : Program} {w : World} {K : PySem.W.Frag} {mg : Str → Option Value} {base : Heap} {a : Ad}
theorem ok_fitting_in (T : Txt P K mg a) : FnOk P w K mg base CX0 5 a.fitting_in a.d_fitting_in ["base", "seen", "most"] (spFitIn K) := by
  refine T.f_fitting_in.F.ok sc_fitting_in (fun vs H Q E h => ?_) (fun cdv A outer s H vs Q E hr h => ⟨_, PSs.nox ((pss_cons (ps_expr (pe_call (ok_need_seen T) (hr.mono (by decide)) rfl T.f_need_seen.g T.f_need_seen.F.kp (b_need_seen T) .nil pass0 (pa_cons (pv 0) (pa_cons (pv 1) pa_nil))))
      (pss_cons (ps_set (i := 3) sc_fitting_in.nd rfl (Or.inl rfl) (pe_lst pa_nil))
      (pss_cons (ps_for PassesOwn.never rfl (pi_range2 rfl T.n_range (pa_cons pe_int (pa_cons (pe_op op_add (pe_call (ok_need_most T) (hr.mono (by decide)) rfl T.f_need_most.g T.f_need_most.F.kp (b_need_most T) .nil pass0 (pa_cons (pv 2) (pa_cons pe_int (pa_cons (pe_cst rfl T.c_MOST_TRIED) pa_nil)))) pe_int) pa_nil))) (pg_name (i := 4) sc_fitting_in.nd rfl (Or.inl rfl)) (pss_one (ps_for PassesOwn.never rfl (pi_range1 rfl T.n_range (pa_cons (pv 4) pa_nil)) (pg_name (i := 5) sc_fitting_in.nd rfl (Or.inl rfl)) (pss_one (ps_if (PW.pt (pw_and (pt_cmpR op_eq (pe_call (ok_common_divisor T) (hr.mono (by decide)) rfl T.f_common_divisor.g T.f_common_divisor.F.kp (b_common_divisor T) .nil pass0 (pa_cons (pv 5) (pa_cons (pv 4) pa_nil))) pe_int (nomark _)) (pw_and1 (pt_val (pe_call (ok_does_fit T) (hr.mono (by decide)) rfl T.f_does_fit.g T.f_does_fit.F.kp (b_does_fit T) .nil pass0 (pa_cons (pv 0) (pa_cons (pv 5) (pa_cons (pv 4) (pa_cons (pv 1) pa_nil))))))))) (pss_one (ps_expr (pe_bm PySem.F.plainAttrs_list PySem.F.slot_list_append PySem.F.type_list_append mt_append (pv 3) (pa_cons (pe_tup (pa_cons (pv 5) (pa_cons (pv 4) pa_nil))) pa_nil)))) pss_nil)))))
      (pss_one (ps_ret (pv 3))))))), ?_⟩)
  · obtain ⟨_, _, _, _, rfl, _⟩ := h
    rfl
  · obtain ⟨b, m, s, l, rfl, hs, ok, m1, m2, q⟩ := h
    have h1 := ok.b2
    have h2 := ok.b1000
    refine ⟨_, rfl, _, rfl, b, s, l, rfl, hs, ok, fun H1 sm1 => ?_⟩
    have hs1 := sm1.ks.sqT hs
    refine ⟨Nat.zero_le _, fun f hf => ?_⟩
    have nr := small_rng (x := m + 1) (by omega)
    refine ⟨_, rfl, m, 1, 200, rfl, by omega, by omega, _, _, rfl, rfl, _, _, rfl, ⟨by omega, by omega, nr.1, nr.2⟩, ?_⟩
    have en : (((m : Int) + 1) - 1).toNat = m := by omega
    show ∃ W : Nat → Nat → L2.St → Hp → Prop, _
    rw [show Itr 1 (((m : Int) + 1) - 1).toNat = Itr 1 m by rw [en]]
    refine for_range (lo := 1) (n := m) (fun i σ H' => ∃ v5 v6 ps, σ = [some (.int (b : Int)), some (.ref s), some (.int (m : Int)), some (.ref f), v5, v6] ∧ H' f = some (.lst ps) ∧ PrsAt K H' ps (upTo b l i) ∧ Same H1 H')
      ⟨none, none, [], rfl, upd_same, .nil, same_upd hf⟩ ?_ ?_
    · rintro i σ H' hi ⟨v5, v6, ps, rfl, e, pr, sm⟩
      have nr := small_rng (x := i + 1) (by omega)
      refine ⟨_, rfl, _, rfl, by omega, by omega, ?_⟩
      have en : ((1 : Int) + (i : Int)).toNat = i + 1 := by omega
      show ∃ W : Nat → Nat → L2.St → Hp → Prop, _
      rw [show Itr 0 ((1 : Int) + (i : Int)).toNat = Itr 0 (i + 1) by rw [en]]
      refine for_range (lo := 0) (n := i + 1) (fun j σ H' => ∃ v6 ps, σ = [some (.int (b : Int)), some (.ref s), some (.int (m : Int)), some (.ref f), some (.int (1 + (i : Int))), v6] ∧ H' f = some (.lst ps) ∧ PrsAt K H' ps (upTo b l i ++ row b l (i + 1) j) ∧ Same H1 H')
        ⟨v6, ps, rfl, e, by rw [show upTo b l i ++ row b l (i + 1) 0 = upTo b l i from List.append_nil _]; exact pr, sm⟩ ?_ ?_
      · rintro j σ H' hj ⟨v6, ps, rfl, e, pr, sm⟩
        have hlen : ps.length ≤ 40000 := by
          have z := pr.len
          have z1 := upTo_len b l (m := 200) i (by omega)
          have z2 := row_len b l (i + 1) j
          have z3 : i * 200 ≤ 199 * 200 := Nat.mul_le_mul_right _ (by omega)
          rw [List.length_append] at z
          omega
        have rowS : row b l (i + 1) (j + 1) = row b l (i + 1) j ++ (if good b l (i + 1) j = true then [(j, i + 1)] else []) := rfl
        refine ⟨_, rfl, _, rfl, j, i + 1, by simp [Int.add_comm], rfl, _, rfl, ?_⟩
        by_cases c : Nat.gcd j (i + 1) = 1
        · refine ifT ?_ ?_
          · show decide (V.int ((Nat.gcd j (i + 1) : Nat) : Int) = V.int 1) = true
            rw [c]
            rfl
          refine ⟨_, rfl, _, rfl, _, rfl, _, rfl, b, j, i + 1, s, l, by simp [Int.add_comm], sm.ks.sqT hs1, by omega, by omega, h2, by omega, _, rfl, ?_⟩
          by_cases c2 : fitP b (i + 1) l j = true
          · refine ifT c2 ?_
            refine ⟨_, rfl, .inl ⟨rfl, _, SqL.of' e⟩, ?_⟩
            refine ⟨_, rfl, _, rfl, (by show 2 ≤ sizeLine; decide), fun p hp => ?_⟩
            have nfp : f ≠ p := fun z => by rw [z, hp] at e; cases e
            refine ⟨f, ps, _, rfl, rfl, by rw [upd_ne nfp]; exact e, line_ok (by omega), ?_⟩
            have k1 : KeepT H' (upd (upd H' p (.tup [.int (0 + (j : Int)), .int (1 + (i : Int))])) f (.lst (ps ++ [.ref p]))) :=
              (same_upd hp).kt.trans (kt_lst (xs := ps) (by rw [upd_ne nfp]; exact e))
            refine ⟨some (.int (0 + (j : Int))), _, rfl, upd_same, ?_, fun c o z => ?_⟩
            · rw [rowS, if_pos (by unfold good; rw [c2, c]; rfl), ← List.append_assoc]
              refine (pr.keep k1).snoc (SqT.of' ?_)
              rw [upd_ne (Ne.symm nfp), upd_same]
              show some (HO.tup [.int (0 + (j : Int)), .int (1 + (i : Int))]) = some (HO.tup [.int (j : Int), .int ((i + 1 : Nat) : Int)])
              rw [Int.zero_add, Int.add_comm]
              rfl
            · have ncf : c ≠ f := ne_of_none z hf
              rw [upd_ne ncf, upd_ne (ne_of_none (sm c o z) hp)]
              exact sm c o z
          · have c2 : fitP b (i + 1) l j = false := by simpa using c2
            refine ifF c2 ⟨some (.int (0 + (j : Int))), ps, rfl, e, ?_, sm⟩
            rw [rowS, if_neg (by unfold good; rw [c2, Bool.and_false]; decide), List.append_nil]
            exact pr
        · refine ifF ?_ ?_
          · show decide (V.int ((Nat.gcd j (i + 1) : Nat) : Int) = V.int 1) = false
            refine decide_eq_false fun z => c ?_
            injection z with z
            omega
          refine iteF ⟨some (.int (0 + (j : Int))), ps, rfl, e, ?_, sm⟩
          rw [rowS, if_neg (by unfold good; rw [show (Nat.gcd j (i + 1) == 1) = false by simpa using c, Bool.false_and]; decide), List.append_nil]
          exact pr
      · rintro σ H' ⟨v6, ps, rfl, e, pr, sm⟩
        exact ⟨_, v6, ps, rfl, e, pr, sm⟩
    · rintro σ H' ⟨v5, v6, ps, rfl, e, pr, sm⟩
      exact ⟨_, rfl, q _ f ps (sm1.trans sm) (sm1.free hf) e pr⟩
theorem ok_fitting (T : Txt P K mg a) : FnOk P w K mg base (L2.CX P w) 6 a.fitting a.d_fitting ["base", "seen", "most"] (spFitting K a.CG) := by
  refine T.f_fitting.F.ok sc_fitting (fun vs H Q E h => ?_) (fun cdv A outer s H vs Q E hr h => ⟨_, ((pss_cons (ps_set (i := 3) sc_fitting.nd rfl (Or.inl rfl) (pe_call (ok_fitting_in T) (hr.mono (by decide)) rfl T.f_fitting_in.g T.f_fitting_in.F.kp (b_fitting_in T) .nil pass0 (pa_cons (pv 0) (pa_cons (pv 1) (pa_cons (pv 2) pa_nil)))))
      (pss_cons (ps_if (pt_cmpR op_gt (pe_callB call_len_seq rfl T.n_len (by decide +kernel) (pa_cons (pv 3) pa_nil)) (pe_cst rfl T.c_MOST_TOLD) (nomark _)) (pss_one (ps_raiseX (W := fun cls d _ H => E cls d H) rfl T.xG PySem.F.excBase_OverflowError PySem.W.kxs_OverflowError PySem.F.store_OverflowError hr (takes_of rfl rfl rfl rfl) (pa_cons (pe_cst rfl T.c_MOST_TOLD) pa_nil) rfl)) pss_nil)
      (PSs.nox (pss_one (ps_ret (pe_callTy call_tuple_of rfl T.n_tuple (by decide +kernel) (pa_cons (pv 3) pa_nil)))))))), ?_⟩)
  · obtain ⟨_, _, _, _, rfl, _⟩ := h
    rfl
  · obtain ⟨b, m, s, l, rfl, hs, ok, m1, m2, q1, q2⟩ := h
    refine ⟨_, rfl, _, rfl, _, rfl, b, m, s, l, rfl, hs, ok, m1, m2, fun H1 f ps sm hf e pr => ?_⟩
    refine ⟨_, rfl, f, ps, rfl, .inl (SqL.of' e), _, _, rfl, rfl, _, rfl, ?_⟩
    have hl := pr.len
    by_cases c : 1000 < (upTo b l m).length
    · refine ifT (decide_eq_true (by omega)) ?_
      refine ⟨_, rfl, fun d hd => q2 c _ d (sm.upn hd) upd_same⟩
    · refine ifF (decide_eq_false (by omega)) ?_
      refine ⟨_, rfl, f, ps, rfl, .inl ⟨SqL.of' e, fun p hp => ?_⟩⟩
      exact q1 (by omega) _ p ps (sm.upn hp) upd_same (pr.keep (same_upd hp).kt)
theorem ok_simplest (T : Txt P K mg a) : FnOk P w K mg base CX0 6 a.simplest a.d_simplest ["base", "seen", "most"] (spSimplest K) := by
  refine T.f_simplest.F.ok sc_simplest (fun vs H Q E h => ?_) (fun cdv A outer s H vs Q E hr h => ⟨_, PSs.nox ((pss_cons (ps_set (i := 3) sc_simplest.nd rfl (Or.inl rfl) (pe_call (ok_fitting_in T) (hr.mono (by decide)) rfl T.f_fitting_in.g T.f_fitting_in.F.kp (b_fitting_in T) .nil pass0 (pa_cons (pv 0) (pa_cons (pv 1) (pa_cons (pv 2) pa_nil)))))
      (pss_one (ps_ret (pe_ifExp (pt_cmpR (op_neD hr.units) (pv 3) (pe_lst pa_nil) (nomark _)) (pe_ix ix_list (pv 3) pe_int (fun _ _ => rfl)) pe_non))))), ?_⟩)
  · obtain ⟨_, _, _, _, rfl, _⟩ := h
    rfl
  · obtain ⟨b, m, s, l, rfl, hs, ok, m1, m2, q⟩ := h
    refine ⟨_, rfl, _, rfl, _, rfl, b, m, s, l, rfl, hs, ok, m1, m2, fun H1 f ps sm hf e pr => ?_⟩
    refine ⟨_, rfl, Nat.zero_le _, fun z hz => ?_⟩
    have nfz : f ≠ z := fun y => by rw [y, hz] at e; cases e
    have e2 : upd H1 z (.lst []) f = some (.lst ps) := by rw [upd_ne nfz]; exact e
    have pr2 := pr.keep (same_upd (o := .lst []) hz).kt
    refine ⟨.list ((upTo b l m).map pD), .list [], .lst (SqL.of' e2) pr2.dp, .lst (SqL.of' upd_same) .nil, shaped_prs (upTo_lt (by omega)), shaped_of rfl (by decide), _, rfl, ?_⟩
    rw [eqv_nil]
    cases hL : upTo b l m with
    | nil =>
      refine ifF rfl ?_
      refine q _ _ (sm.upn hz) ?_
      rw [hL]
      exact .non
    | cons p L =>
      rw [hL] at pr2
      cases ps with
      | nil => have := pr2.len; cases this
      | cons v ps =>
        refine ifT rfl ?_
        obtain ⟨t, rfl, ht⟩ := pr2.head
        refine ⟨_, rfl, f, _, 0, _, rfl, rfl, SqL.of' e2, atI0, ?_⟩
        refine q _ _ (sm.upn hz) ?_
        rw [hL]
        exact dp_pair ht
end
end K44

namespace K44
open PySem PySem.Spec PyProof.Rows L2
theorem some_of_nV (l : List Nat) : l.map nV = (l.map some).map oV := by
  rw [List.map_map]
  rfl
theorem scal_o (o : Option Nat) (n : Nat) : scal (oV o) (nV n) = true := by cases o <;> rfl
theorem meet_take {f : List (Option Nat)} {own : List Nat} {i : Nat} {o : Option Nat} {x : Nat} (h1 : f[i]? = some o) (h2 : own[i]? = some x) : (meet f own).take (i + 1) = (meet f own).take i ++ [meet1 o x] := take_snoc (meet_get h1 h2)
theorem sureFrom_more {b c : Nat} {L : List (Nat × Nat)} {i : Nat} {p : Nat × Nat} (X : List (Option Nat)) (h : L[i]? = some p) : sureFrom b c X (L.take (i + 1)) = meet (sureFrom b c X (L.take i)) (dg b c p) := by
  unfold sureFrom
  rw [take_snoc h, List.foldl_append]
  rfl
def spSure (K : PySem.W.Frag) (CN : Addr) : Sp := fun vs H Q E => ∃ (b m n : Nat) (s : Addr) (l : List (Option Nat)), vs = [.int (b : Int), .ref s, .int (m : Int), .int (n : Int)] ∧ SqT K H s (l.map oV) ∧ SeenOk b l ∧ 1 ≤ m ∧ m ≤ 200 ∧ n ≤ 60 ∧
  (upTo b l m ≠ [] → ∀ H' v, Same H H' → Dp K H' v (.tuple ((sure b n (upTo b l m)).map oD)) → Q v H') ∧
  (upTo b l m = [] → ∀ H' d, Same H H' → H' d = some (.xd [("value", .ref s)]) → E (.ref CN) (some d) H')
section
variable {P : Program} {w : World} {K : PySem.W.Frag} {mg : Str → Option Value} {base : Heap} {a : Ad}
theorem ok_sure_digits (T : Txt P K mg a) : FnOk P w K mg base (L2.CX P w) 6 a.sure_digits a.d_sure_digits ["base", "seen", "most", "count"] (spSure K a.CN) := by
  refine T.f_sure_digits.F.ok sc_sure_digits (fun vs H Q E h => ?_) (fun cdv A outer s H vs Q E hr h => ⟨_, ((pss_cons (ps_expr (pe_call (ok_need_seen T) (hr.mono (by decide)) rfl T.f_need_seen.g T.f_need_seen.F.kp (b_need_seen T) .nil pass0 (pa_cons (pv 0) (pa_cons (pv 1) pa_nil))))
      (pss_cons (ps_expr (pe_call (ok_need_most T) (hr.mono (by decide)) rfl T.f_need_most.g T.f_need_most.F.kp (b_need_most T) .nil pass0 (pa_cons (pv 2) (pa_cons pe_int (pa_cons (pe_cst rfl T.c_MOST_TRIED) pa_nil)))))
      (pss_cons (ps_if (pt_not (pt_val (pe_call (ok_is_whole T) (hr.mono (by decide)) rfl T.f_is_whole.g T.f_is_whole.F.kp (b_is_whole T) .nil pass0 (pa_cons (pv 3) (pa_cons pe_int (pa_cons (pe_cst rfl T.c_MOST_SURE) pa_nil)))))) (pss_one ps_never) pss_nil)
      (pss_cons (ps_set (i := 4) sc_sure_digits.nd rfl (Or.inl rfl) (pe_call (ok_fitting_in T) (hr.mono (by decide)) rfl T.f_fitting_in.g T.f_fitting_in.F.kp (b_fitting_in T) .nil pass0 (pa_cons (pv 0) (pa_cons (pv 1) (pa_cons (pv 2) pa_nil)))))
      (pss_cons (ps_if (pt_cmpR (op_eqD hr.units) (pv 4) (pe_lst pa_nil) (nomark _)) (pss_one (ps_raiseX (W := fun cls d _ H => E cls d H) rfl T.xN PySem.F.excBase_LookupError PySem.W.kxs_LookupError PySem.F.store_LookupError hr (takes_of rfl rfl rfl rfl) (pa_cons (pv 1) pa_nil) rfl)) pss_nil)
      (PSs.nox (pss_cons (ps_set (i := 5) sc_sure_digits.nd rfl (Or.inl rfl) (pe_callTy call_list_of rfl T.n_list (by decide +kernel) (pa_cons (pe_ix ix_tup (pe_call (ok_digits_after T) (hr.mono (by decide)) rfl T.f_digits_after.g T.f_digits_after.F.kp (b_digits_after T) .nil pass0 (pa_cons (pv 0) (pa_cons (pe_ix ix_tup (pe_ix ix_list (pv 4) pe_int (fun _ _ => rfl)) pe_int (fun _ _ => rfl)) (pa_cons (pe_ix ix_tup (pe_ix ix_list (pv 4) pe_int (fun _ _ => rfl)) pe_int (fun _ _ => rfl)) (pa_cons (pv 3) pa_nil))))) pe_int (fun _ _ => rfl)) pa_nil)))
      (pss_cons (ps_for PassesOwn.never rfl (pi_list (pe_slice sl_list (pv 4) (po_some pe_int) po_none)) (pg_tup rfl (pgs_cons (pg_name (i := 6) sc_sure_digits.nd rfl (Or.inl rfl)) (pgs_cons (pg_name (i := 7) sc_sure_digits.nd rfl (Or.inl rfl)) pgs_nil))) (pss_cons (ps_set (i := 8) sc_sure_digits.nd rfl (Or.inl rfl) (pe_ix ix_tup (pe_call (ok_digits_after T) (hr.mono (by decide)) rfl T.f_digits_after.g T.f_digits_after.F.kp (b_digits_after T) .nil pass0 (pa_cons (pv 0) (pa_cons (pv 6) (pa_cons (pv 7) (pa_cons (pv 3) pa_nil))))) pe_int (fun _ _ => rfl)))
      (pss_one (ps_setLc (i := 5) (own := [("mine", 9), ("its", 10)]) (g := gTup K 2 (gCons (gName 9) (gCons (gName 10) gNil))) rfl sc_sure_digits.nd rfl rfl (sw_true rfl rfl rfl (by decide +kernel)) (pi_zipM (by rfl) T.n_zip (pa_cons (pv 5) (pa_cons (pv 8) pa_nil))) (blkOk_by (N := ["base", "seen", "most", "count", "some", "found", "numerator", "denominator", "own", "mine", "its"]) (sc := defScope s_sure_digits) (by decide +kernel)) (fun _ _ _ _ _ => (pg_tup rfl (pgs_cons (pg_name (i := 9) sc_sure_digits.nd rfl (Or.inl rfl) (Or.inr rfl)) (pgs_cons (pg_name (i := 10) sc_sure_digits.nd rfl (Or.inl rfl) (Or.inr rfl)) pgs_nil)))) (fun _ _ _ _ _ => pts_nil) (fun _ _ _ _ _ => (pe_ifExp (pt_cmpR op_eq (pv 9) (pv 10) (nomark _)) (pv 9) pe_non))))))
      (pss_one (ps_ret (pe_callTy call_tuple_of rfl T.n_tuple (by decide +kernel) (pa_cons (pv 5) pa_nil))))))))))))), ?_⟩)
  · obtain ⟨_, _, _, _, _, rfl, _⟩ := h
    rfl
  · obtain ⟨b, m, n, s, l, rfl, hs, ok, m1, m2, n1, q1, q2⟩ := h
    have h1 := ok.b2
    have h2 := ok.b1000
    refine ⟨_, rfl, _, rfl, b, s, l, rfl, hs, ok, fun H0 sm0 => ?_⟩
    have hs0 := sm0.ks.sqT hs
    refine ⟨_, rfl, m, 1, 200, rfl, by omega, by omega, ?_⟩
    refine ⟨_, rfl, n, 0, 60, rfl, by omega, by omega, true, rfl, iteF ?_⟩
    refine ⟨_, rfl, _, rfl, _, rfl, b, m, s, l, rfl, hs0, ok, m1, m2, fun H1 f ps sm1 hf e pr => ?_⟩
    have hs1 := sm1.ks.sqT hs0
    refine ⟨_, rfl, Nat.zero_le _, fun z hz => ?_⟩
    have nfz : f ≠ z := fun y => by rw [y, hz] at e; cases e
    have e2 : upd H1 z (.lst []) f = some (.lst ps) := by rw [upd_ne nfz]; exact e
    have pr2 := pr.keep (same_upd (o := .lst []) hz).kt
    have sm2 : Same H (upd H1 z (.lst [])) := (sm0.trans sm1).upn hz
    refine ⟨.list ((upTo b l m).map pD), .list [], .lst (SqL.of' e2) pr2.dp, .lst (SqL.of' upd_same) .nil, shaped_prs (upTo_lt (by omega)), shaped_of rfl (by decide), _, rfl, ?_⟩
    rw [eqv_nil]
    have mem := fun p hp => upTo_mem (b := b) (seen := l) (p := p) (i := m) hp
    cases hL : upTo b l m with
    | nil =>
      refine ifT rfl ?_
      exact ⟨_, rfl, _, rfl, fun d hd => q2 hL _ d (sm2.upn hd) upd_same⟩
    | cons p0 L =>
      rw [hL] at pr2 q1 mem
      replace q1 := q1 (by intro z; cases z)
      cases ps with
      | nil => have := pr2.len; cases this
      | cons v ps =>
        refine ifF rfl ?_
        obtain ⟨t0, rfl, ht0⟩ := pr2.head
        obtain ⟨d0, d1, d2⟩ := mem p0 (List.mem_cons_self)
        have prT := pr2.tail
        generalize hH2 : upd H1 z (.lst []) = H2 at e2 sm2 ht0 prT
        refine ⟨_, rfl, _, rfl, f, _, 0, _, rfl, rfl, SqL.of' e2, atI0, t0, _, 0, _, rfl, rfl, ht0, atI0, _, rfl, f, _, 0, _, rfl, rfl, SqL.of' e2, atI0, t0, _, 1, _, rfl, rfl, ht0, rfl, _, rfl, b, p0.1, p0.2, n, rfl, d0, by omega, h2, d2, by omega, fun H3 pp tt sm3 hp ht => ?_⟩
        refine ⟨pp, _, 0, _, rfl, rfl, SqT.of' hp, atI0, tt, _, rfl, .inr (SqT.of' ht), fun F hF => ?_⟩
        have sm4 : Same H (upd H3 F (.lst ((digs b p0.2 n p0.1).map nV))) := (sm2.trans sm3).upn hF
        have e4 : upd H3 F (.lst ((digs b p0.2 n p0.1).map nV)) f = some (.lst (.ref t0 :: ps)) := by
          have e3 := sm3 _ _ e2
          rw [upd_ne (ne_of_none e3 hF)]
          exact e3
        have prT4 := prT.keep ((sm3.kt).trans (same_upd (o := .lst ((digs b p0.2 n p0.1).map nV)) hF).kt)
        refine ⟨_, rfl, 1, rfl, f, _, rfl, SqL.of' e4, fun g hg => ?_⟩
        rw [cut_tail]
        refine ⟨g, rfl, ⟨_, SqL.of' upd_same⟩, ?_⟩
        have prT5 := prT4.keep (same_upd (o := .lst ps) hg).kt
        have sm5 := sm4.upn (o := .lst ps) hg
        have hFg : F ≠ g := ne_of_none (by rw [upd_same]) hg
        have e5 : upd (upd H3 F (.lst ((digs b p0.2 n p0.1).map nV))) g (.lst ps) F = some (.lst ((sureFrom b n ((dg b n p0).map some) (L.take 0)).map oV)) := by
          rw [upd_ne hFg, upd_same, some_of_nV]
          rfl
        have g5 : upd (upd H3 F (.lst ((digs b p0.2 n p0.1).map nV))) g (.lst ps) g = some (.lst ps) := upd_same
        generalize upd (upd H3 F (.lst ((digs b p0.2 n p0.1).map nV))) g (.lst ps) = H5 at prT5 sm5 e5 g5
        refine for_list (K := K) (a := g) (xs := ps) (fun i σ H' => ∃ X v6 v7 v8, σ = [some (.int (b : Int)), some (.ref s), some (.int (m : Int)), some (.int (n : Int)), some (.ref f), some (.ref X), v6, v7, v8, none, none] ∧ H' X = some (.lst ((sureFrom b n ((dg b n p0).map some) (L.take i)).map oV)) ∧ Same H5 H')
          ⟨F, none, none, none, rfl, e5, Same.refl _⟩ (fun i σ H' _ ⟨_, _, _, _, _, _, sm⟩ => SqL.of' (sm _ _ g5)) ?_ ?_
        · rintro i x σ H' hi ⟨X, v6, v7, v8, rfl, eX, sm⟩
          obtain ⟨t, p, rfl, hp, hpt⟩ := (prT5.keep sm.kt).getV hi
          obtain ⟨c0, c1, c2⟩ := mem p (List.mem_cons_of_mem _ (List.mem_of_getElem? hp))
          refine ⟨t, _, rfl, hpt, rfl, _, _, rfl, _, _, rfl, rfl, ?_⟩
          refine ⟨_, rfl, _, rfl, _, rfl, _, rfl, b, p.1, p.2, n, rfl, c0, by omega, h2, c2, by omega, fun H6 pp2 t2 sm6 hp2 ht2 => ?_⟩
          refine ⟨pp2, _, 0, _, rfl, rfl, SqT.of' hp2, atI0, ?_⟩
          have eX6 := sm6 _ _ eX
          have len1 : (sureFrom b n ((dg b n p0).map some) (L.take i)).length = n := sureFrom_len b n _ _ (by rw [List.length_map, dg_len])
          have len2 : (digs b p.2 n p.1).length = n := digs_len _ _ _ _
          refine ⟨_, rfl, _, rfl, X, t2, _, _, rfl, SqL.of' eX6, SqT.of' ht2, fun D hD => ?_⟩
          refine lc_zipM (K := K) (xs := (sureFrom b n ((dg b n p0).map some) (L.take i)).map oV) (ys := (digs b p.2 n p.1).map nV) (by rw [List.length_map, List.length_map, len1, len2])
            (fun j H' => H' D = some (.lst (((meet (sureFrom b n ((dg b n p0).map some) (L.take i)) (dg b n p)).take j).map oV)) ∧ Same H6 H') ⟨upd_same, same_upd hD⟩ (fun j H' _ ⟨_, sm⟩ => ⟨SqL.of' (sm _ _ eX6), SqT.of' (sm _ _ ht2)⟩) ?_ ?_
          · rintro j x y T0 H' hx hy hT ⟨eD, sm7⟩
            obtain ⟨o, ho, rfl⟩ := get_map hx
            obtain ⟨k, hk, rfl⟩ := get_map hy
            have hj := lt_of_get ho
            replace hk : (dg b n p)[j]? = some k := hk
            refine ⟨T0, _, rfl, SqT.of' upd_same, rfl, _, _, rfl, _, _, rfl, rfl, rfl, ?_⟩
            have nDT : D ≠ T0 := ne_of_none eD hT
            have fin : ∀ v, v = oV (meet1 o k) → ∃ acc, (upd H' T0 (.tup [oV o, nV k])) D = some (.lst acc) ∧ acc.length < sizeLine ∧ (upd (upd H' T0 (.tup [oV o, nV k])) D (.lst (acc ++ [v]))) D = some (.lst (((meet (sureFrom b n ((dg b n p0).map some) (L.take i)) (dg b n p)).take (j + 1)).map oV)) ∧ Same H6 (upd (upd H' T0 (.tup [oV o, nV k])) D (.lst (acc ++ [v]))) := by
              rintro v rfl
              refine ⟨_, by rw [upd_ne nDT]; exact eD, ?_, ?_, ?_⟩
              · rw [List.length_map, List.length_take]
                exact line_ok (by omega)
              · rw [upd_same, meet_take ho hk, List.map_append]
                rfl
              · intro c u z
                rw [upd_ne (ne_of_none z hD), upd_ne (ne_of_none (sm7 _ _ z) hT)]
                exact sm7 _ _ z
            refine ⟨_, rfl, _, rfl, scal_o o k, _, rfl, ?_⟩
            cases o with
            | none => exact ifF rfl (fin _ rfl)
            | some c =>
              by_cases z : c = k
              · subst z
                refine ifT (decide_eq_true rfl) ⟨_, rfl, fin _ ?_⟩
                show _ = oV (if c = c then some c else none)
                rw [if_pos rfl]
              · refine ifF (decide_eq_false fun y => z ?_) (fin _ ?_)
                · have y' : V.int (c : Int) = V.int (k : Int) := y
                  injection y' with y'
                  omega
                · show _ = oV (if c = k then some c else none)
                  rw [if_neg z]
                  rfl
          · rintro H' ⟨eD, sm7⟩
            refine ⟨D, _, _, _, rfl, ?_, sm.trans (sm6.trans sm7)⟩
            rw [eD, sureFrom_more _ hp, List.length_map, List.take_of_length_le]
            rw [meet_len len1 (dg_len b n p), len1]
            exact Nat.le_refl _
        · rintro σ H' ⟨X, v6, v7, v8, rfl, eX, sm⟩
          rw [← prT5.len.symm, List.take_length] at eX
          refine ⟨_, rfl, X, _, rfl, .inl ⟨SqL.of' eX, fun p hp => ?_⟩⟩
          refine q1 _ _ ((sm5.trans sm).upn hp) (dp_seen (SqT.of' ?_))
          rw [upd_same]
          rfl
end
end K44

/-! The law's own: divisor, units, digits, fit. -/
namespace K44
open PySem PySem.Spec PyProof.Rows L2
def spUnits : Sp := fun vs H Q _ => ∃ n : Nat, vs = [.int (n : Int)] ∧ n ≤ 1000 ∧ ∀ H' D, Same H H' → H D = none → H' D = some (.lst ((units n n).map nV)) → Q (.ref D) H'
def spLDig : Sp := fun vs H Q _ => ∃ b r d n : Nat, vs = [.int (b : Int), .int (r : Int), .int (d : Int), .int (n : Int)] ∧ 0 < d ∧ d ≤ 5000 ∧ b ≤ 1001 ∧ r < d ∧ n ≤ 1000 ∧
  ∀ H' D, Same H H' → H D = none → H' D = some (.lst ((digs b d n r).map nV)) → Q (.ref D) H'
def spLFit (K : PySem.W.Frag) : Sp := fun vs H Q _ => ∃ (b r d : Nat) (s : Addr) (l : List (Option Nat)), vs = [.int (b : Int), .int (r : Int), .int (d : Int), .ref s] ∧ SqT K H s (l.map oV) ∧ l.length ≤ 20 ∧ 0 < d ∧ d ≤ 5000 ∧ b ≤ 1001 ∧ r < d ∧
  ∀ H', Same H H' → Q (.bl (fitP b d l r)) H'
theorem eqv_rep (k : Nat) : PyData.eqv (.list (List.replicate k (.int 1))) (.list []) = (List.replicate k ()).isEmpty := by
  rw [eqv_nil]
  cases k <;> rfl
theorem okA_rep : ∀ k : Nat, okA (List.replicate k (PyData.int 1)) = true
  | 0 => rfl
  | k + 1 => by
    show (okD (.int 1) && okA (List.replicate k (PyData.int 1))) = true
    rw [okA_rep k]
    rfl
theorem dp_rep {K : PySem.W.Frag} {H : Hp} : ∀ k : Nat, DpAll K H (List.replicate k (V.int 1)) (List.replicate k (PyData.int 1))
  | 0 => .nil
  | k + 1 => .cons (.int 1) (dp_rep k)
theorem depth_rep : ∀ k : Nat, PyData.depthAll (List.replicate k (PyData.int 1)) ≤ 1
  | 0 => by simp only [List.replicate, PyData.depthAll]; decide
  | k + 1 => by
    have := depth_rep k
    simp only [List.replicate, PyData.depthAll, PyData.depth]
    omega
section
variable {P : Program} {w : World} {K : PySem.W.Frag} {mg : Str → Option Value} {base : Heap} {a : Ad}
theorem ok_law_divisor (T : Txt P K mg a) : FnOk P w K mg base CX0 1 a.law_divisor a.d_law_divisor ["one", "two"] spGcd := by
  refine T.f_law_divisor.F.ok sc_law_divisor (fun vs H Q E h => ?_) (fun cdv A outer s H vs Q E hr h => ⟨_, PSs.nox ((pss_cons (ps_while PassesOwn.never (pt_cmpR op_ne (pv 1) pe_int (nomark _)) (pss_one (ps_par (i := 0) (j := 1) rfl sc_law_divisor.nd rfl rfl (by decide) rfl rfl (pa_cons (pv 1) (pa_cons (pe_op op_mod (pe_callTy call_int1 rfl T.n_int (by decide +kernel) (pa_cons (pv 0) pa_nil)) (pe_callTy call_int1 rfl T.n_int (by decide +kernel) (pa_cons (pv 1) pa_nil))) pa_nil)) (by rfl))))
      (pss_one (ps_ret (pv 0))))), ?_⟩)
  · obtain ⟨_, _, rfl, _⟩ := h
    rfl
  · obtain ⟨i, j, rfl, q⟩ := h
    refine while_by (fun σ H' => H = H' ∧ ∃ x y : Nat, σ = [some (.int (x : Int)), some (.int (y : Int))] ∧ Nat.gcd x y = Nat.gcd i j) (fun σ _ => slotN 1 σ) ⟨rfl, i, j, rfl, rfl⟩ ?_ ?_
    · rintro σ H' ⟨rfl, x, y, rfl, e⟩
      refine ⟨_, rfl, rfl, _, rfl, ?_⟩
      by_cases c : y = 0
      · subst c
        refine ifF rfl ?_
        rw [Nat.gcd_zero_right] at e
        rw [← e] at q
        exact ⟨_, rfl, q⟩
      · refine ifT ?_ ?_
        · show (!decide (V.int (y : Int) = V.int 0)) = true
          rw [decide_eq_false]
          · rfl
          · intro z
            injection z with z
            omega
        refine ⟨_, rfl, _, rfl, .inl ⟨_, rfl, _, rfl, .inl ⟨_, rfl, _, _, rfl, rfl, (by show (0 : Int) < _; omega), _, _, rfl, ⟨rfl, y, x % y, rfl, ?_⟩, ?_⟩⟩⟩
        · rw [gcd_turn c]
          exact e
        · show (((x % y : Nat) : Int)).toNat < ((y : Int)).toNat
          have := Nat.mod_lt x (Nat.pos_of_ne_zero c)
          omega
    · rintro σ H' Q1 Q2 hm ⟨v, e, h1, k1, e5, h⟩
      exact ⟨v, e, h1, k1, e5, hm _ _ h⟩
theorem ok_law_units (T : Txt P K mg a) : FnOk P w K mg base CX0 2 a.law_units a.d_law_units ["n"] spUnits := by
  refine T.f_law_units.F.ok sc_law_units (fun vs H Q E h => ?_) (fun cdv A outer s H vs Q E hr h => ⟨_, PSs.nox ((pss_one (ps_ret (pe_lc (own := [("k", 1)]) rfl sc_law_units.nd (pi_range1 rfl T.n_range (pa_cons (pv 0) pa_nil)) (blkOk_by (N := ["n", "k"]) (sc := defScope s_law_units) (by decide +kernel)) (fun _ _ _ _ _ => (pg_name (i := 1) sc_law_units.nd rfl (Or.inl rfl) (Or.inr rfl))) (fun _ _ _ _ _ => (pts_one (pt_cmpR op_eq (pe_call (ok_law_divisor T) (hr.mono (by decide)) rfl T.f_law_divisor.g T.f_law_divisor.F.kp (b_law_divisor T) .nil pass0 (pa_cons (pv 1) (pa_cons (pv 0) pa_nil))) pe_int (nomark _)))) (fun _ _ _ _ _ => (pv 1)))))), ?_⟩)
  · obtain ⟨_, rfl, _⟩ := h
    rfl
  · obtain ⟨n, rfl, n1, q⟩ := h
    have nr := small_rng (x := n) (by omega)
    refine ⟨_, rfl, _, rfl, nr.1, nr.2, fun D hD => lc_range (lo := 0) (n := n) (fun j H' => H' D = some (.lst ((units n j).map nV)) ∧ Same H H') ⟨upd_same, same_upd hD⟩ ?_ ?_⟩
    · rintro j H' hj ⟨eD, sm⟩
      refine ⟨rfl, _, rfl, _, rfl, j, n, by simp, rfl, _, rfl, ?_⟩
      have st : units n (j + 1) = units n j ++ (if (Nat.gcd j n == 1) = true then [j] else []) := rfl
      by_cases c : Nat.gcd j n = 1
      · refine ifT ?_ ⟨_, rfl, _, eD, ?_, ?_, sm.up hD⟩
        · show decide (V.int ((Nat.gcd j n : Nat) : Int) = V.int 1) = true
          rw [c]
          rfl
        · have := units_len n j
          rw [List.length_map]
          exact line_ok (by omega)
        · rw [upd_same, st, if_pos (by rw [c]; rfl), List.map_append]
          show some (HO.lst (_ ++ [V.int (0 + (j : Int))])) = some (HO.lst (_ ++ [V.int (j : Int)]))
          rw [Int.zero_add]
      · refine ifF ?_ ⟨?_, sm⟩
        · show decide (V.int ((Nat.gcd j n : Nat) : Int) = V.int 1) = false
          refine decide_eq_false fun z => c ?_
          injection z with z
          omega
        · rw [st, if_neg (by simpa using c), List.append_nil]
          exact eD
    · rintro H' ⟨eD, sm⟩
      exact q _ D sm hD eD
theorem ok_law_digits (T : Txt P K mg a) : FnOk P w K mg base CX0 1 a.law_digits a.d_law_digits ["b", "above", "under", "count"] spLDig := by
  refine T.f_law_digits.F.ok sc_law_digits (fun vs H Q E h => ?_) (fun cdv A outer s H vs Q E hr h => ⟨_, PSs.nox ((pss_cons (ps_par (i := 4) (j := 5) rfl sc_law_digits.nd rfl rfl (by decide) rfl rfl (pa_cons (pe_lst pa_nil) (pa_cons (pv 1) pa_nil)) (by rfl))
      (pss_cons (ps_for PassesOwn.never rfl (pi_range1 rfl T.n_range (pa_cons (pv 3) pa_nil)) (pg_name (i := 6) sc_law_digits.nd rfl (Or.inl rfl)) (pss_cons (ps_expr (pe_bm PySem.F.plainAttrs_list PySem.F.slot_list_append PySem.F.type_list_append mt_append (pv 4) (pa_cons (pe_op op_fdiv (pe_op op_mul (pv 5) (pv 0)) (pv 2)) pa_nil)))
      (pss_one (ps_set (i := 5) sc_law_digits.nd rfl (Or.inl rfl) (pe_op op_mod (pe_callTy call_int1 rfl T.n_int (by decide +kernel) (pa_cons (pe_op op_mul (pv 5) (pv 0)) pa_nil)) (pv 2))))))
      (pss_one (ps_ret (pv 4)))))), ?_⟩)
  · obtain ⟨_, _, _, _, rfl, _⟩ := h
    rfl
  · obtain ⟨b, r, d, n, rfl, d0, d1, b1, r1, n1, q⟩ := h
    refine ⟨Nat.zero_le _, fun l hl => ⟨_, rfl, _, _, rfl, ?_⟩⟩
    have nr := small_rng (x := n) (by omega)
    refine ⟨_, rfl, _, rfl, nr.1, nr.2, for_range (lo := 0) (n := n) (fun i σ H' => ∃ v, σ = [some (.int (b : Int)), some (.int (r : Int)), some (.int (d : Int)), some (.int (n : Int)), some (.ref l), some (.int ((remn b d i r : Nat) : Int)), v] ∧ H' l = some (.lst ((digs b d i r).map nV)) ∧ Same H H')
      ⟨none, rfl, upd_same, same_upd hl⟩ ?_ ?_⟩
    · rintro i σ H' hi ⟨v, rfl, e, sm⟩
      have rl := remn_lt (b := b) d0 i r r1
      refine ⟨_, rfl, .inl ⟨rfl, _, SqL.of' e⟩, ?_⟩
      refine ⟨_, rfl, _, rfl, _, _, rfl, rfl, .inl (small_mul (by omega)), _, rfl, _, _, rfl, rfl, ⟨by omega, by omega⟩, l, _, _, rfl, rfl, e, ?_, ?_⟩
      · rw [List.length_map, digs_len]
        exact line_ok (by omega)
      refine ⟨_, rfl, _, rfl, _, _, rfl, rfl, .inl (small_mul (by omega)), .inl ⟨_, rfl, _, rfl, _, _, rfl, rfl, ?_, ?_⟩⟩
      · show (0 : Int) < _
        omega
      refine ⟨some (.int (0 + (i : Int))), ?_, ?_, ?_⟩
      · show _ = [_, _, _, _, _, some (V.int ((remn b d (i + 1) r : Nat) : Int)), _]
        rw [remn_more, ← c_rem]
        rfl
      · rw [digs_more, List.map_append, upd_same]
        show some (HO.lst (_ ++ [V.int _])) = some (HO.lst (_ ++ [nV _]))
        rw [c_dig]
        rfl
      · exact fun c o h => by
          rw [upd_ne (ne_of_none h hl)]
          exact sm c o h
    · rintro σ H' ⟨v, rfl, e, sm⟩
      exact ⟨_, rfl, q _ l sm hl e⟩
theorem ok_law_fit (T : Txt P K mg a) : FnOk P w K mg base CX0 2 a.law_fit a.d_law_fit ["b", "above", "under", "some"] (spLFit K) := by
  refine T.f_law_fit.F.ok sc_law_fit (fun vs H Q E h => ?_) (fun cdv A outer s H vs Q E hr h => ⟨_, PSs.nox ((pss_cons (ps_set (i := 4) sc_law_fit.nd rfl (Or.inl rfl) (pe_call (ok_law_digits T) (hr.mono (by decide)) rfl T.f_law_digits.g T.f_law_digits.F.kp (b_law_digits T) .nil pass0 (pa_cons (pv 0) (pa_cons (pv 1) (pa_cons (pv 2) (pa_cons (pe_callB call_len_seq rfl T.n_len (by decide +kernel) (pa_cons (pv 3) pa_nil)) pa_nil))))))
      (pss_one (ps_ret (pe_cmpR (op_eqD hr.units) (pe_lc (own := [("mine", 5), ("its", 6)]) (g := gTup K 2 (gCons (gName 5) (gCons (gName 6) gNil))) rfl sc_law_fit.nd (pi_zipM (by rfl) T.n_zip (pa_cons (pv 4) (pa_cons (pv 3) pa_nil))) (blkOk_by (N := ["b", "above", "under", "some", "own", "mine", "its"]) (sc := defScope s_law_fit) (by decide +kernel)) (fun _ _ _ _ _ => (pg_tup rfl (pgs_cons (pg_name (i := 5) sc_law_fit.nd rfl (Or.inl rfl) (Or.inr rfl)) (pgs_cons (pg_name (i := 6) sc_law_fit.nd rfl (Or.inl rfl) (Or.inr rfl)) pgs_nil)))) (fun _ _ _ _ _ => (pts_one (PW.pt (pw_and (pt_cmp (pc_notN (pv 6))) (pw_and1 (pt_cmpR op_ne (pv 5) (pv 6) (nomark _))))))) (fun _ _ _ _ _ => pe_int)) (pe_lst pa_nil) (nomark _)))))), ?_⟩)
  · obtain ⟨_, _, _, _, _, rfl, _⟩ := h
    rfl
  · obtain ⟨b, r, d, s, l, rfl, hs, l20, d0, d1, b1, r1, q⟩ := h
    refine ⟨_, rfl, _, rfl, _, rfl, _, rfl, s, _, rfl, .inr hs, b, r, d, l.length, by rw [List.length_map]; rfl, d0, d1, b1, r1, by omega, fun H1 O sm1 hO eO => ?_⟩
    have hs1 := sm1.ks.sqT hs
    have len2 : (digs b d l.length r).length = l.length := digs_len _ _ _ _
    refine ⟨_, rfl, _, rfl, O, s, _, _, rfl, SqL.of' eO, hs1, fun D hD => ?_⟩
    refine lc_zipM (K := K) (xs := (digs b d l.length r).map nV) (ys := l.map oV) (by rw [List.length_map, List.length_map, len2])
      (fun j H' => H' D = some (.lst (List.replicate ((((digs b d l.length r).zip l).take j).filter missB).length (V.int 1))) ∧ Same H1 H') ⟨upd_same, same_upd hD⟩ (fun j H' _ ⟨_, sm⟩ => ⟨SqL.of' (sm _ _ eO), sm.ks.sqT hs1⟩) ?_ ?_
    · rintro j x y T0 H' hx hy hT ⟨eD, sm⟩
      obtain ⟨k, hk, rfl⟩ := get_map hx
      obtain ⟨o, ho, rfl⟩ := get_map hy
      have hj := lt_of_get ho
      have hz : ((digs b d l.length r).zip l)[j]? = some (k, o) := by
        rw [List.getElem?_zip_eq_some]
        exact ⟨hk, ho⟩
      have nDT : D ≠ T0 := ne_of_none eD hT
      have e2 : upd H' T0 (.tup [nV k, oV o]) D = some (.lst (List.replicate ((((digs b d l.length r).zip l).take j).filter missB).length (V.int 1))) := by
        rw [upd_ne nDT]
        exact eD
      have lenF : ((((digs b d l.length r).zip l).take j).filter missB).length ≤ 20 := by
        refine Nat.le_trans (List.length_filter_le _ _) ?_
        rw [List.length_take]
        omega
      have smT : Same H1 (upd H' T0 (.tup [nV k, oV o])) := sm.upn hT
      refine ⟨T0, _, rfl, SqT.of' upd_same, rfl, _, _, rfl, _, _, rfl, rfl, rfl, ?_⟩
      refine ⟨_, rfl, _, rfl, ?_⟩
      have no : missB (k, o) = false → (((((digs b d l.length r).zip l).take (j + 1)).filter missB).length = ((((digs b d l.length r).zip l).take j).filter missB).length) := fun e => by
        rw [take_snoc hz, List.filter_append, List.length_append, List.filter_cons_of_neg (by rw [e]; decide)]
        rfl
      have yes : missB (k, o) = true → (((((digs b d l.length r).zip l).take (j + 1)).filter missB).length = ((((digs b d l.length r).zip l).take j).filter missB).length + 1) := fun e => by
        rw [take_snoc hz, List.filter_append, List.length_append, List.filter_cons_of_pos e]
        rfl
      cases o with
      | none =>
        refine ifF rfl (iteF ⟨?_, smT⟩)
        rw [no rfl]
        exact e2
      | some m =>
        refine ifT rfl ?_
        refine ⟨_, rfl, _, rfl, rfl, _, rfl, ?_⟩
        by_cases c : k = m
        · refine ifF ?_ ⟨?_, smT⟩
          · show (!decide (V.int (k : Int) = V.int (m : Int))) = false
            rw [c, decide_eq_true rfl]
            rfl
          · rw [no (by show (!(k == m)) = false; rw [c, beq_self_eq_true]; rfl)]
            exact e2
        · refine ifT ?_ ⟨_, e2, by rw [List.length_replicate]; exact line_ok (by omega), ?_, ?_⟩
          · show (!decide (V.int (k : Int) = V.int (m : Int))) = true
            rw [decide_eq_false]
            · rfl
            · intro z
              injection z with z
              omega
          · rw [upd_same, yes (by show (!(k == m)) = true; rw [show (k == m) = false by simpa using c]; rfl), List.replicate_succ']
          · exact smT.up hD
    · rintro H' ⟨eD, sm⟩
      have hlen : ((digs b d l.length r).map nV).length = ((digs b d l.length r).zip l).length := by
        rw [List.length_map, List.length_zip, len2, Nat.min_self]
      rw [hlen, List.take_length] at eD
      refine ⟨Nat.zero_le _, fun z hz => ?_⟩
      have nDz : D ≠ z := ne_of_none eD hz
      refine ⟨.list (List.replicate (miss (digs b d l.length r) l).length (.int 1)), .list [], .lst (SqL.of' (by rw [upd_ne nDz]; exact eD)) (dp_rep _), .lst (SqL.of' upd_same) .nil, shaped_of (okA_rep _) ?_, shaped_of rfl (by decide), ?_⟩
      · have := depth_rep (miss (digs b d l.length r) l).length
        simp only [PyData.depth]
        omega
      · rw [eqv_rep]
        have e : (List.replicate (miss (digs b d l.length r) l).length ()).isEmpty = fitP b d l r := by
          rw [← miss_nil b d l r]
          cases miss (digs b d l.length r) l <;> rfl
        rw [e]
        exact q _ ((sm1.trans sm).upn hz)
end
end K44

/-! The law's own: all fractions, the digits that all have in common. -/
namespace K44
open PySem PySem.Spec PyProof.Rows L2
theorem fitU_len (b : Nat) (l : List (Option Nat)) (d : Nat) (us : List Nat) : (fitU b l d us).length ≤ us.length := by
  unfold fitU
  rw [List.length_map]
  exact List.length_filter_le _ _
def spLAll (K : PySem.W.Frag) : Sp := fun vs H Q _ => ∃ (b m : Nat) (s : Addr) (l : List (Option Nat)), vs = [.int (b : Int), .ref s, .int (m : Int)] ∧ SqT K H s (l.map oV) ∧ l.length ≤ 20 ∧ b ≤ 1001 ∧ m ≤ 200 ∧
  ∀ H' f ps, Same H H' → H f = none → H' f = some (.lst ps) → PrsAt K H' ps (upTo b l m) → Q (.ref f) H'
/-- references to lists of numbers, none of them the list at D -/
structure LstsAt (D : Addr) (H : Hp) (vs : List V) (Ls : List (List Nat)) : Prop where
  len : vs.length = Ls.length
  at_ : ∀ (i : Nat) (L : List Nat), Ls[i]? = some L → ∃ t, vs[i]? = some (.ref t) ∧ t ≠ D ∧ H t = some (.lst (L.map nV))
theorem LstsAt.nil {D : Addr} {H : Hp} : LstsAt D H [] [] := ⟨rfl, fun i p h => by simp at h⟩
theorem LstsAt.keep {D : Addr} {H H' : Hp} {vs : List V} {Ls : List (List Nat)} (h : LstsAt D H vs Ls) (k : ∀ b o, b ≠ D → H b = some o → H' b = some o) : LstsAt D H' vs Ls := ⟨h.len, fun i L e => by
  obtain ⟨t, h1, h2, h3⟩ := h.at_ i L e
  exact ⟨t, h1, h2, k _ _ h2 h3⟩⟩
theorem LstsAt.snoc {D t : Addr} {H : Hp} {vs : List V} {Ls : List (List Nat)} {L : List Nat} (h : LstsAt D H vs Ls) (hd : t ≠ D) (ht : H t = some (.lst (L.map nV))) : LstsAt D H (vs ++ [.ref t]) (Ls ++ [L]) := by
  refine ⟨by rw [List.length_append, List.length_append, h.len]; rfl, fun i q e => ?_⟩
  by_cases hi : i < Ls.length
  · rw [List.getElem?_append_left hi] at e
    obtain ⟨u, h1, h2⟩ := h.at_ i q e
    exact ⟨u, by rw [List.getElem?_append_left (by rw [h.len]; exact hi)]; exact h1, h2⟩
  · have hl := (List.getElem?_eq_some_iff.mp e).1
    rw [List.length_append] at hl
    have z : i = Ls.length := by
      have : [L].length = 1 := rfl
      omega
    subst z
    rw [List.getElem?_append_right (Nat.le_refl _), Nat.sub_self] at e
    have e2 : L = q := Option.some.inj e
    subst e2
    exact ⟨t, by rw [← h.len, List.getElem?_append_right (Nat.le_refl _), Nat.sub_self]; rfl, hd, ht⟩
theorem LstsAt.getV {D : Addr} {H : Hp} {vs : List V} {Ls : List (List Nat)} {i : Nat} {v : V} (h : LstsAt D H vs Ls) (e : vs[i]? = some v) : ∃ t L, v = .ref t ∧ Ls[i]? = some L ∧ H t = some (.lst (L.map nV)) := by
  have hl : i < Ls.length := by rw [← h.len]; exact (List.getElem?_eq_some_iff.mp e).1
  obtain ⟨t, h1, _, h2⟩ := h.at_ i Ls[i] (by simp [hl])
  exact ⟨t, Ls[i], Option.some.inj (e.symm.trans h1), by simp [hl], h2⟩
theorem count_cast (x : Nat) : ∀ l : List Nat, (l.map fun n : Nat => (n : Int)).count (x : Int) = l.count x
  | [] => rfl
  | y :: l => by
    rw [List.map_cons, List.count_cons, List.count_cons, count_cast x l]
    congr 1
    by_cases h : y = x
    · rw [h, if_pos (by simp), if_pos (by simp)]
    · rw [if_neg (by simp; omega), if_neg (by simpa using h)]
theorem nV_ints (l : List Nat) : l.map nV = (l.map fun n : Nat => (n : Int)).map V.int := by
  rw [List.map_map]
  rfl
def scRows : Scope := { kind := .function, names := [(Str.ofString ".0", .local), (Str.ofString "k", .cell), (Str.ofString "rows", .cell)], isGenerator := false, isCoroutine := false }
def t_column (K : PySem.W.Frag) : TE := tIf (tTest (tOp rEq (tBM K "list" (rCntI K) (tVar 9) (tCons (tOp (rIxL K) (tVar 9) (tC (.int 0))) tNil)) (tCB (fun xs H Q => ∃ p ys, xs = [V.ref p] ∧ (SqL K H p ys ∨ SqT K H p ys) ∧ Q (.int ys.length) H) (tCons (tVar 9) tNil)))) (tOp (rIxL K) (tVar 9) (tC (.int 0))) (tC .non)
def spLSure (K : PySem.W.Frag) : Sp := fun vs H Q _ => ∃ (b n : Nat) (f : Addr) (ps : List V) (L : List (Nat × Nat)), vs = [.int (b : Int), .ref f, .int (n : Int)] ∧ SqL K H f ps ∧ PrsAt K H ps L ∧ L ≠ [] ∧ L.length ≤ 1000 ∧ (∀ p ∈ L, 0 < p.2 ∧ p.2 ≤ 5000 ∧ p.1 < p.2) ∧ b ≤ 1001 ∧ n ≤ 60 ∧
  ∀ H' v, Same H H' → Dp K H' v (.tuple ((sureL b n L).map oD)) → Q v H'
section
variable {P : Program} {w : World} {K : PySem.W.Frag} {mg : Str → Option Value} {base : Heap} {a : Ad}
theorem ok_law_all (T : Txt P K mg a) : FnOk P w K mg base CX0 3 a.law_all a.d_law_all ["b", "some", "most_so"] (spLAll K) := by
  refine T.f_law_all.F.ok sc_law_all (fun vs H Q E h => ?_) (fun cdv A outer s H vs Q E hr h => ⟨_, PSs.nox ((pss_cons (ps_set (i := 3) sc_law_all.nd rfl (Or.inl rfl) (pe_lst pa_nil))
      (pss_cons (ps_for PassesOwn.never rfl (pi_range2 rfl T.n_range (pa_cons pe_int (pa_cons (pe_op op_add (pv 2) pe_int) pa_nil))) (pg_name (i := 4) sc_law_all.nd rfl (Or.inr rfl)) (pss_one (ps_set (i := 3) sc_law_all.nd rfl (Or.inl rfl) (pe_op op_cat (pv 3) (pe_lc (own := [("above", 5)]) rfl sc_law_all.nd (pi_list (pe_call (ok_law_units T) (hr.mono (by decide)) rfl T.f_law_units.g T.f_law_units.F.kp (b_law_units T) .nil pass0 (pa_cons (pv 4) pa_nil))) (blkOk_by (N := ["b", "some", "most_so", "found", "under", "above"]) (sc := defScope s_law_all) (by decide +kernel)) (fun _ _ _ _ _ => (pg_name (i := 5) sc_law_all.nd rfl (Or.inl rfl) (Or.inr rfl))) (fun _ _ _ _ _ => (pts_one (pt_val (pe_call (ok_law_fit T) (hr.mono (by decide)) rfl T.f_law_fit.g T.f_law_fit.F.kp (b_law_fit T) .nil pass0 (pa_cons (pv 0) (pa_cons (pv 5) (pa_cons (pv 4) (pa_cons (pv 1) pa_nil)))))))) (fun _ _ _ _ _ => (pe_tup (pa_cons (pv 5) (pa_cons (pv 4) pa_nil)))))))))
      (pss_one (ps_ret (pv 3)))))), ?_⟩)
  · obtain ⟨_, _, _, _, rfl, _⟩ := h
    rfl
  · obtain ⟨b, m, s, l, rfl, hs, l20, b1, m1, q⟩ := h
    refine ⟨Nat.zero_le _, fun f hf => ?_⟩
    have nr := small_rng (x := m + 1) (by omega)
    refine ⟨_, rfl, _, _, rfl, rfl, _, _, rfl, ⟨by omega, by omega, nr.1, nr.2⟩, ?_⟩
    have en : (((m : Int) + 1) - 1).toNat = m := by omega
    show ∃ W : Nat → Nat → L2.St → Hp → Prop, _
    rw [show Itr 1 (((m : Int) + 1) - 1).toNat = Itr 1 m by rw [en]]
    refine for_range (lo := 1) (n := m) (fun i σ H' => ∃ F v4 ps, σ = [some (.int (b : Int)), some (.ref s), some (.int (m : Int)), some (.ref F), v4, none] ∧ H' F = some (.lst ps) ∧ PrsAt K H' ps (upTo b l i) ∧ Same H H' ∧ H F = none)
      ⟨f, none, [], rfl, upd_same, .nil, same_upd hf, hf⟩ ?_ ?_
    · rintro i σ H' hi ⟨F, v4, ps, rfl, e, pr, sm, hF⟩
      refine ⟨_, rfl, _, rfl, i + 1, by simp [Int.add_comm], by omega, fun H1 U sm1 hU eU => ?_⟩
      refine ⟨U, rfl, ⟨_, SqL.of' eU⟩, fun D hD => ?_⟩
      refine lc_list (K := K) (a := U) (xs := (units (i + 1) (i + 1)).map nV) (fun j H2 => ∃ qs, H2 D = some (.lst qs) ∧ PrsAt K H2 qs (fitU b l (i + 1) ((units (i + 1) (i + 1)).take j)) ∧ Same H1 H2) ⟨[], upd_same, .nil, same_upd hD⟩ (fun j H2 _ ⟨_, _, _, sm⟩ => SqL.of' (sm _ _ eU)) ?_ ?_
      · rintro j x H2 hx ⟨qs, eD, pq, sm2⟩
        obtain ⟨k, hk, rfl⟩ := get_map hx
        obtain ⟨k1, k2⟩ := units_mem (List.mem_of_getElem? hk)
        have hs2 := ((sm.trans sm1).trans sm2).ks.sqT hs
        refine ⟨rfl, _, rfl, _, rfl, _, rfl, _, rfl, b, k, i + 1, s, l, by simp [Int.add_comm, nV], hs2, l20, by omega, by omega, b1, k1, fun H3 sm3 => ⟨_, rfl, ?_⟩⟩
        have lq : qs.length ≤ 1000 := by
          have z1 := pq.len
          have z2 := fitU_len b l (i + 1) ((units (i + 1) (i + 1)).take j)
          have z3 := units_len (i + 1) (i + 1)
          rw [List.length_take] at z2
          omega
        have st : fitU b l (i + 1) ((units (i + 1) (i + 1)).take (j + 1)) = fitU b l (i + 1) ((units (i + 1) (i + 1)).take j) ++ (if fitP b (i + 1) l k = true then [(k, i + 1)] else []) := by
          rw [take_snoc hk, fitU_app, fitU_one]
        have eD3 := sm3 _ _ eD
        by_cases c : fitP b (i + 1) l k = true
        · refine ifT c ?_
          refine ⟨_, rfl, _, rfl, (by show 2 ≤ sizeLine; decide), fun p hp => ?_⟩
          have nDp : D ≠ p := ne_of_none eD3 hp
          have e4 : upd H3 p (.tup [nV k, .int (1 + (i : Int))]) D = some (.lst qs) := by
            rw [upd_ne nDp]
            exact eD3
          refine ⟨qs, e4, line_ok (by omega), _, upd_same, ?_, ?_⟩
          · rw [st, if_pos c]
            refine (pq.keep ((sm3.kt.trans (same_upd hp).kt).trans (kt_lst e4))).snoc (SqT.of' ?_)
            rw [upd_ne (Ne.symm nDp), upd_same]
            show some (HO.tup [.int (k : Int), .int (1 + (i : Int))]) = some (HO.tup [.int (k : Int), .int ((i + 1 : Nat) : Int)])
            rw [Int.add_comm]
            rfl
          · intro c o z
            rw [upd_ne (ne_of_none z hD)]
            exact (same_upd hp) _ _ (sm3 _ _ (sm2 _ _ z))
        · have c : fitP b (i + 1) l k = false := by simpa using c
          refine ifF c ⟨qs, eD3, ?_, sm2.trans sm3⟩
          rw [st, if_neg (by rw [c]; decide), List.append_nil]
          exact pq.keep sm3.kt
      · rintro H2 ⟨qs, eD, pq, sm2⟩
        rw [List.length_map, List.take_length, row_units] at pq
        have e2 := sm2 _ _ (sm1 _ _ e)
        have pr2 := pr.keep (sm1.trans sm2).kt
        refine ⟨F, D, ps, qs, rfl, rfl, e2, eD, ?_, fun p hp => ?_⟩
        · have z1 := pr2.len
          have z2 := pq.len
          have z3 := upTo_len b l (m := 200) i (by omega)
          have z4 := row_len b l (i + 1) (i + 1)
          have z5 : i * 200 ≤ 199 * 200 := Nat.mul_le_mul_right _ (by omega)
          exact Nat.le_of_lt (line_ok (by omega))
        · have k := (same_upd (o := .lst (ps ++ qs)) hp).kt
          exact ⟨p, _, _, rfl, upd_same, (pr2.keep k).app (pq.keep k), ((sm.trans sm1).trans sm2).upn hp, ((sm.trans sm1).trans sm2).free hp⟩
    · rintro σ H' ⟨F, v4, ps, rfl, e, pr, sm, hF⟩
      exact ⟨_, rfl, q _ F ps sm hF e pr⟩
theorem ok_law_sure (T : Txt P K mg a) : FnOk P w K mg base CX0 2 a.law_sure a.d_law_sure ["b", "every", "count"] (spLSure K) := by
  refine T.f_law_sure.F.ok sc_law_sure (fun vs H Q E h => ?_) (fun cdv A outer s H vs Q E hr h => ⟨_, PSs.nox ((pss_cons (ps_set (i := 3) sc_law_sure.nd rfl (Or.inr rfl) (pe_lc (own := [("above", 5), ("under", 6)]) (g := gTup K 2 (gCons (gName 5) (gCons (gName 6) gNil))) rfl sc_law_sure.nd (pi_list (pv 1)) (blkOk_by (N := ["b", "every", "count", "rows", "columns", "above", "under", "k", "row", "column"]) (sc := defScope s_law_sure) (by decide +kernel)) (fun _ _ _ _ _ => (pg_tup rfl (pgs_cons (pg_name (i := 5) sc_law_sure.nd rfl (Or.inl rfl) (Or.inr rfl)) (pgs_cons (pg_name (i := 6) sc_law_sure.nd rfl (Or.inl rfl) (Or.inr rfl)) pgs_nil)))) (fun _ _ _ _ _ => pts_nil) (fun _ _ _ _ _ => (pe_call (ok_law_digits T) (hr.mono (by decide)) rfl T.f_law_digits.g T.f_law_digits.F.kp (b_law_digits T) .nil pass0 (pa_cons (pv 0) (pa_cons (pv 5) (pa_cons (pv 6) (pa_cons (pv 2) pa_nil))))))))
      (pss_cons (ps_setLc (i := 4) (own := [("k", 7)]) (te := (tLc (iList K (tVar 3)) (gName 8) tYes (tOp (rIxL K) (tVar 8) (tVar 7)) [8])) rfl sc_law_sure.nd rfl rfl (sw_true rfl rfl rfl (by decide +kernel)) (pi_range1 rfl T.n_range (pa_cons (pv 2) pa_nil)) (blkOk_by (N := ["b", "every", "count", "rows", "columns", "above", "under", "k", "row", "column"]) (sc := defScope s_law_sure) (by decide +kernel)) (fun _ _ _ _ _ => (pg_name (i := 7) sc_law_sure.nd rfl (Or.inr rfl) (Or.inl rfl))) (fun _ _ _ _ _ => pts_nil) (fun _ _ _ _ _ => (pe_lc (own := [("row", 8)]) (te := (tOp (rIxL K) (tVar 8) (tVar 7))) rfl sc_law_sure.nd (pi_list (pv 3)) (blkOk_by (N := ["b", "every", "count", "rows", "columns", "above", "under", "k", "row", "column"]) (sc := scRows) (by decide +kernel)) (fun _ _ _ _ _ => (pg_name (i := 8) sc_law_sure.nd rfl (Or.inl rfl) (Or.inr rfl))) (fun _ _ _ _ _ => pts_nil) (fun _ _ _ _ _ => (pe_ix ix_list (pv 8) (pv 7) (fun _ _ => rfl))))))
      (pss_one (ps_ret (pe_callTy call_tuple_of rfl T.n_tuple (by decide +kernel) (pa_cons (pe_lc (own := [("column", 9)]) (te := t_column K) rfl sc_law_sure.nd (pi_list (pv 4)) (blkOk_by (N := ["b", "every", "count", "rows", "columns", "above", "under", "k", "row", "column"]) (sc := defScope s_law_sure) (by decide +kernel)) (fun _ _ _ _ _ => (pg_name (i := 9) sc_law_sure.nd rfl (Or.inl rfl) (Or.inr rfl))) (fun _ _ _ _ _ => pts_nil) (fun _ _ _ _ _ => (pe_ifExp (pt_cmpR op_eq (pe_bm PySem.F.plainAttrs_list PySem.F.slot_list_count PySem.F.type_list_count mt_lcount (pv 9) (pa_cons (pe_ix ix_list (pv 9) pe_int (fun _ _ => rfl)) pa_nil)) (pe_callB call_len_seq rfl T.n_len (by decide +kernel) (pa_cons (pv 9) pa_nil)) (nomark _)) (pe_ix ix_list (pv 9) pe_int (fun _ _ => rfl)) pe_non))) pa_nil))))))), ?_⟩)
  · obtain ⟨_, _, _, _, _, rfl, _⟩ := h
    rfl
  · obtain ⟨b, n, f, ps, L, rfl, hf, pr, hne, hl, hm, b1, n1, q⟩ := h
    have nr := small_rng (x := n) (by omega)
    refine ⟨_, rfl, f, rfl, ⟨_, hf⟩, fun D hD => ?_⟩
    refine lc_list (K := K) (a := f) (xs := ps) (fun j H1 => ∃ rs, H1 D = some (.lst rs) ∧ LstsAt D H1 rs ((L.take j).map (dg b n)) ∧ Same H H1) ⟨[], upd_same, .nil, same_upd hD⟩ (fun j H1 _ ⟨_, _, _, sm⟩ => sm.seq hf) ?_ ?_
    · rintro j x H1 hx ⟨rs, eD, lr, sm⟩
      obtain ⟨t, p, rfl, hp, hpt⟩ := (pr.keep sm.kt).getV hx
      obtain ⟨c0, c1, c2⟩ := hm p (List.mem_of_getElem? hp)
      have hj := lt_of_get hp
      refine ⟨t, _, rfl, hpt, rfl, _, _, rfl, _, _, rfl, rfl, rfl, ?_⟩
      refine ⟨_, rfl, _, rfl, _, rfl, _, rfl, b, p.1, p.2, n, rfl, c0, c1, b1, c2, by omega, fun H2 D2 sm2 hD2 eD2 => ?_⟩
      have eD' := sm2 _ _ eD
      have n2 : D2 ≠ D := fun z => by rw [z, eD] at hD2; cases hD2
      refine ⟨rs, eD', ?_, rs ++ [.ref D2], upd_same, ?_, ?_⟩
      · have := lr.len
        rw [List.length_map, List.length_take] at this
        exact line_ok (by omega)
      · rw [take_snoc hp, List.map_append]
        refine (lr.keep fun c o hc z => by rw [upd_ne hc]; exact sm2 _ _ z).snoc n2 ?_
        rw [upd_ne n2]
        exact eD2
      · intro c o z
        rw [upd_ne (ne_of_none z hD)]
        exact sm2 _ _ (sm _ _ z)
    rintro H1 ⟨rs, eD, lr, sm1⟩
    rw [pr.len, List.take_length] at lr
    refine ⟨_, rfl, _, rfl, nr.1, nr.2, fun E hE => ?_⟩
    refine lc_range (lo := 0) (n := n) (fun k H2 => ∃ cs, H2 E = some (.lst cs) ∧ LstsAt E H2 cs ((List.range k).map (colm b n L)) ∧ Same H1 H2) ⟨[], upd_same, .nil, same_upd hE⟩ ?_ ?_
    · rintro k H2 hk ⟨cs, eE, lc, sm2⟩
      refine ⟨rfl, ?_⟩
      refine ⟨_, rfl, D, rfl, ⟨_, SqL.of' (sm2 _ _ eD)⟩, fun D2 hD2 => ?_⟩
      have nE : E ≠ D2 := ne_of_none eE hD2
      refine lc_list (K := K) (a := D) (xs := rs) (fun j H3 => H3 D2 = some (.lst (((colm b n L k).take j).map nV)) ∧ Same H2 H3) ⟨upd_same, same_upd hD2⟩ (fun j H3 _ ⟨_, sm⟩ => SqL.of' (sm _ _ (sm2 _ _ eD))) ?_ ?_
      · rintro j x H3 hx ⟨eD2, sm3⟩
        obtain ⟨t, L0, rfl, hL0, ht⟩ := lr.getV hx
        obtain ⟨p, hp, rfl⟩ := get_map hL0
        have hj := lt_of_get hp
        have ht3 := sm3 _ _ (sm2 _ _ ht)
        have g0 : (colm b n L k)[j]? = some ((dg b n p).getD k 0) := by
          unfold colm
          rw [List.getElem?_map, hp]
          rfl
        have g1 : ((dg b n p).map nV)[k]? = some (nV ((dg b n p).getD k 0)) := by
          rw [List.getElem?_map, dg_get hk]
          rfl
        refine ⟨rfl, ?_⟩
        refine ⟨_, rfl, _, rfl, t, _, _, nV ((dg b n p).getD k 0), rfl, rfl, SqL.of' ht3, ?_, _, eD2, ?_, ?_, sm3.up hD2⟩
        · rw [Int.zero_add]
          exact atI_nat g1
        · rw [List.length_map, List.length_take]
          unfold colm
          rw [List.length_map]
          exact line_ok (by omega)
        · rw [upd_same, take_snoc g0, List.map_append]
          rfl
      · rintro H3 ⟨eD2, sm3⟩
        have lrs : rs.length = (colm b n L k).length := by
          have := lr.len
          unfold colm
          rw [List.length_map] at this ⊢
          exact this
        rw [lrs, List.take_length] at eD2
        have eE3 := sm3 _ _ eE
        refine ⟨cs, eE3, ?_, cs ++ [.ref D2], upd_same, ?_, ?_⟩
        · have := lc.len
          rw [List.length_map, List.length_range] at this
          exact line_ok (by omega)
        · rw [List.range_succ, List.map_append]
          refine (lc.keep fun c o hc z => by rw [upd_ne hc]; exact sm3 _ _ z).snoc (Ne.symm nE) ?_
          rw [upd_ne (Ne.symm nE)]
          exact eD2
        · intro c o z
          rw [upd_ne (ne_of_none z hE)]
          exact sm3 _ _ (sm2 _ _ z)
    rintro H2 ⟨cs, eE, lc, sm2⟩
    refine ⟨_, rfl, E, rfl, ⟨_, SqL.of' eE⟩, fun D3 hD3 => ?_⟩
    have lcs : cs.length = (sureL b n L).length := by
      have := lc.len
      unfold sureL
      rw [List.length_map] at this ⊢
      exact this
    refine lc_list (K := K) (a := E) (xs := cs) (fun j H4 => H4 D3 = some (.lst (((sureL b n L).take j).map oV)) ∧ Same H2 H4) ⟨upd_same, same_upd hD3⟩ (fun j H4 _ ⟨_, sm⟩ => SqL.of' (sm _ _ eE)) ?_ ?_
    · rintro j x H4 hx ⟨eD3, sm4⟩
      obtain ⟨c, C, rfl, hC, hc⟩ := lc.getV hx
      obtain ⟨k, hk, rfl⟩ := get_map hC
      have hj := lt_of_get hk
      rw [List.length_range] at hj
      have ek : k = j := by
        rw [List.getElem?_range hj] at hk
        exact (Option.some.inj hk).symm
      subst ek
      have hc4 := sm4 _ _ hc
      have gs : (sureL b n L)[k]? = some (colD (colm b n L k)) := by
        unfold sureL
        rw [List.getElem?_map, hk]
        rfl
      have fin : ∀ v, v = oV (colD (colm b n L k)) → ∃ acc, H4 D3 = some (.lst acc) ∧ acc.length < sizeLine ∧ (upd H4 D3 (.lst (acc ++ [v]))) D3 = some (.lst (((sureL b n L).take (k + 1)).map oV)) ∧ Same H2 (upd H4 D3 (.lst (acc ++ [v]))) := by
        rintro v rfl
        refine ⟨_, eD3, ?_, ?_, sm4.up hD3⟩
        · rw [List.length_map, List.length_take]
          exact line_ok (by omega)
        · rw [upd_same, take_snoc gs, List.map_append]
          rfl
      cases hcol : colm b n L k with
      | nil =>
        exfalso
        have : (colm b n L k).length = L.length := List.length_map ..
        rw [hcol] at this
        exact hne (List.length_eq_zero_iff.mp this.symm)
      | cons x r =>
        rw [hcol] at hc4 fin
        have hi : SqL K H4 c ((((x :: r).map fun n : Nat => (n : Int))).map V.int) := by
          rw [← nV_ints]
          exact SqL.of' hc4
        refine ⟨rfl, ?_⟩
        refine ⟨_, rfl, .inl ⟨rfl, _, SqL.of' hc4⟩, _, rfl, c, _, 0, _, rfl, rfl, SqL.of' hc4, atI0, c, _, (x : Int), rfl, rfl, hi, _, rfl, c, _, rfl, .inl (SqL.of' hc4), rfl, _, rfl, ?_⟩
        rw [count_cast, List.length_map]
        by_cases z : (x :: r).count x = (x :: r).length
        · refine ifT ?_ ⟨_, rfl, c, _, 0, _, rfl, rfl, SqL.of' hc4, atI0, fin _ ?_⟩
          · rw [z]
            exact decide_eq_true rfl
          · show nV x = oV (if (x :: r).count x = (x :: r).length then some x else none)
            rw [if_pos z]
            rfl
        · refine ifF ?_ (fin _ ?_)
          · refine decide_eq_false fun y => z ?_
            injection y with y
            omega
          · show _ = oV (if (x :: r).count x = (x :: r).length then some x else none)
            rw [if_neg z]
            rfl
    · rintro H4 ⟨eD3, sm4⟩
      rw [lcs, List.take_length] at eD3
      refine ⟨D3, _, rfl, .inl ⟨SqL.of' eD3, fun p hp => ?_⟩⟩
      exact q _ _ (((sm1.trans sm2).trans sm4).upn hp) (dp_seen (SqT.of' upd_same))
end
end K44

/-! The law's draws. -/
namespace K44
open PySem PySem.Spec PyProof.Rows L2
/-- the dict of the draws -/
def dk (left seed : Int) (c : Addr) (spot : Int) : List (Key × V) := [(Sum.inr "left", .int left), (Sum.inr "seed", .int seed), (Sum.inr "cells", .ref c), (Sum.inr "spot", .int spot)]
/-- what is drawn from: at m, at most n draws so far -/
def Draws (H : Hp) (m c : Addr) (n : Nat) : Prop := ∃ (left seed : Int) (spot : Nat) (xs : List Int), H m = some (.dK (dk left seed c spot)) ∧ 0 ≤ left ∧ 0 ≤ seed ∧ seed < 2147483647 ∧ spot ≤ n ∧ H c = some (.lst (xs.map V.int)) ∧ xs ≠ []
def But (m : Addr) (H H' : Hp) : Prop := ∀ b o, b ≠ m → H b = some o → H' b = some o
theorem But.trans {m : Addr} {H H1 H2 : Hp} (a : But m H H1) (b : But m H1 H2) : But m H H2 := fun c o h e => b c o h (a c o h e)
theorem but_same {m : Addr} {H H' : Hp} (s : Same H H') : But m H H' := fun b o _ e => s b o e
theorem Draws.ks {H H' : Hp} {m cc : Addr} {n : Nat} (d : Draws H m cc n) (b : But m H H') : KeepS H H' := fun c o e s => by
  obtain ⟨_, _, _, _, hm, _⟩ := d
  refine b c o (fun z => ?_) e
  rw [z, hm] at e
  cases e
  cases s
theorem Draws.same {H H' : Hp} {m c : Addr} {n : Nat} (d : Draws H m c n) (s : Same H H') : Draws H' m c n := by
  obtain ⟨left, seed, spot, xs, hm, h1, h2, h3, h4, h5, h6⟩ := d
  exact ⟨left, seed, spot, xs, s _ _ hm, h1, h2, h3, h4, s _ _ h5, h6⟩
theorem Draws.mono {H : Hp} {m c : Addr} {n n' : Nat} (d : Draws H m c n) (h : n ≤ n') : Draws H m c n' := by
  obtain ⟨left, seed, spot, xs, hm, h1, h2, h3, h4, h5, h6⟩ := d
  exact ⟨left, seed, spot, xs, hm, h1, h2, h3, Nat.le_trans h4 h, h5, h6⟩
theorem v_left {l s c sp} : valV (dk l s c sp) (Sum.inr "left") = some (.int l) := by rfl
theorem v_seed {l s c sp} : valV (dk l s c sp) (Sum.inr "seed") = some (.int s) := by rfl
theorem v_cells {l s c sp} : valV (dk l s c sp) (Sum.inr "cells") = some (.ref c) := by rfl
theorem v_spot {l s c sp} : valV (dk l s c sp) (Sum.inr "spot") = some (.int sp) := by rfl
theorem p_left {l s c sp x} : putK (dk l s c sp) (Sum.inr "left") (.int x) = dk x s c sp := by rfl
theorem p_spot {l s c sp x} : putK (dk l s c sp) (Sum.inr "spot") (.int x) = dk l s c x := by rfl
theorem g_left {H : Hp} {m l s c sp} (e : H m = some (.dK (dk l s c sp))) : DGet H m (.str "left") (some (.int l)) := v_left (s := s) (c := c) (sp := sp) ▸ DGet.k (k := Sum.inr "left") e
theorem g_seed {H : Hp} {m l s c sp} (e : H m = some (.dK (dk l s c sp))) : DGet H m (.str "seed") (some (.int s)) := v_seed (l := l) (c := c) (sp := sp) ▸ DGet.k (k := Sum.inr "seed") e
theorem g_cells {H : Hp} {m l s c sp} (e : H m = some (.dK (dk l s c sp))) : DGet H m (.str "cells") (some (.ref c)) := v_cells (l := l) (s := s) (sp := sp) ▸ DGet.k (k := Sum.inr "cells") e
theorem g_spot {H : Hp} {m l s c sp} (e : H m = some (.dK (dk l s c sp))) : DGet H m (.str "spot") (some (.int sp)) := v_spot (l := l) (s := s) (c := c) ▸ DGet.k (k := Sum.inr "spot") e
theorem dk_len {l s c sp} : (dk l s c sp).length < sizeLine := line_ok (by show 4 ≤ _; decide)
theorem d_left {H : Hp} {m l s c sp} {x : Int} (e : H m = some (.dK (dk l s c sp))) : DPut H m (.str "left") (.int x) (upd H m (.dK (dk x s c sp))) := p_left (l := l) ▸ DPut.k (k := Sum.inr "left") e dk_len
theorem d_spot {H : Hp} {m l s c sp} {x : Int} (e : H m = some (.dK (dk l s c sp))) : DPut H m (.str "spot") (.int x) (upd H m (.dK (dk l s c x))) := p_spot (sp := sp) ▸ DPut.k (k := Sum.inr "spot") e dk_len
theorem but_upd {H : Hp} {m : Addr} {o : HO} : But m H (upd H m o) := fun b u h e => by
  rw [upd_ne h]
  exact e
theorem mod_nat {x : Int} {lim : Nat} (h : 0 < lim) : ∃ r : Nat, r < lim ∧ x % (lim : Int) = (r : Int) := by
  have h1 := Int.emod_nonneg x (show (lim : Int) ≠ 0 by omega)
  have h2 := Int.emod_lt_of_pos x (show (0 : Int) < (lim : Int) by omega)
  exact ⟨(x % (lim : Int)).toNat, by omega, by omega⟩
theorem in64 {x : Int} (h1 : -1000000000000000000 < x) (h2 : x < 1000000000000000000) : -(2 ^ 64) < x ∧ x < 2 ^ 64 := by
  have e : (2 : Int) ^ 64 = 18446744073709551616 := by decide
  rw [e]
  omega
def spDraw : Sp := fun vs H Q _ => ∃ (m c : Addr) (lim n : Nat), vs = [.ref m, .int (lim : Int)] ∧ Draws H m c n ∧ n ≤ 10000 ∧ 0 < lim ∧ lim < 1073741824 ∧ ∀ (r : Nat) H', r < lim → But m H H' → Draws H' m c (n + 1) → Q (.int (r : Int)) H'
def spOf (K : PySem.W.Frag) : Sp := fun vs H Q _ => ∃ (m c l : Addr) (n : Nat) (xs : List V), vs = [.ref m, .ref l] ∧ Draws H m c n ∧ n ≤ 10000 ∧ SqL K H l xs ∧ xs ≠ [] ∧ xs.length < 1073741824 ∧ ∀ (i : Nat) (v : V) H', xs[i]? = some v → But m H H' → Draws H' m c (n + 1) → Q v H'
section
variable {P : Program} {w : World} {K : PySem.W.Frag} {mg : Str → Option Value} {base : Heap} {a : Ad}
theorem ok_law_draw (T : Txt P K mg a) : FnOk P w K mg base CX0 1 a.law_draw a.d_law_draw ["m", "limit"] spDraw := by
  refine T.f_law_draw.F.ok sc_law_draw (fun vs H Q E h => ?_) (fun cdv A outer s H vs Q E hr h => ⟨_, PSs.nox ((pss_cons (ps_if (pt_cmpR op_gt (pe_dget (hu_of hr) (pv 0) pe_str (fun _ _ => rfl)) pe_int (nomark _)) (pss_cons (ps_set (i := 2) sc_law_draw.nd rfl (Or.inl rfl) (pe_op op_mod (pe_callTy call_int1 rfl T.n_int (by decide +kernel) (pa_cons (pe_dget (hu_of hr) (pv 0) pe_str (fun _ _ => rfl)) pa_nil)) (pv 1)))
      (pss_cons (ps_dput (hu_of hr) (pv 0) pe_str (pe_op op_fdiv (pe_dget (hu_of hr) (pv 0) pe_str (fun _ _ => rfl)) (pv 1)) rfl)
      (pss_one (ps_ret (pv 2))))) pss_nil)
      (pss_cons (ps_set (i := 3) sc_law_draw.nd rfl (Or.inl rfl) (pe_dget (hu_of hr) (pv 0) pe_str (fun _ _ => rfl)))
      (pss_cons (ps_dput (hu_of hr) (pv 0) pe_str (pe_op op_add (pv 3) pe_int) rfl)
      (pss_cons (ps_par (i := 4) (j := 5) rfl sc_law_draw.nd rfl rfl (by decide) rfl rfl (pa_cons (pe_dget (hu_of hr) (pv 0) pe_str (fun _ _ => rfl)) (pa_cons (pe_op op_add (pe_dget (hu_of hr) (pv 0) pe_str (fun _ _ => rfl)) (pe_op op_mul (pe_op op_mul pe_int (pv 3)) (pv 3))) pa_nil)) (by rfl))
      (pss_cons (ps_set (i := 6) sc_law_draw.nd rfl (Or.inl rfl) (pe_ix ix_list (pv 4) (pe_op op_mod (pe_callTy call_int1 rfl T.n_int (by decide +kernel) (pa_cons (pv 3) pa_nil)) (pe_callB call_len_seq rfl T.n_len (by decide +kernel) (pa_cons (pv 4) pa_nil))) (fun _ _ => rfl)))
      (pss_cons (ps_set (i := 7) sc_law_draw.nd rfl (Or.inl rfl) (pe_op op_mod (pe_callTy call_int1 rfl T.n_int (by decide +kernel) (pa_cons (pe_op op_add (pe_op op_mul (pv 6) (pe_op op_add (pe_op op_mul pe_int (pv 3)) pe_int)) (pv 5)) pa_nil)) pe_int))
      (pss_cons (ps_set (i := 7) sc_law_draw.nd rfl (Or.inl rfl) (pe_op op_mod (pe_callTy call_int1 rfl T.n_int (by decide +kernel) (pa_cons (pe_op op_add (pe_op op_add (pe_op op_mul (pv 7) (pv 7)) (pe_op op_mul pe_int (pv 3))) (pe_dget (hu_of hr) (pv 0) pe_str (fun _ _ => rfl))) pa_nil)) pe_int))
      (pss_one (ps_ret (pe_op op_mod (pe_op op_fdiv (pe_op op_mod (pe_callTy call_int1 rfl T.n_int (by decide +kernel) (pa_cons (pe_op op_add (pe_op op_mul (pv 7) pe_int) (pv 3)) pa_nil)) pe_int) pe_int) (pv 1)))))))))))), ?_⟩)
  · obtain ⟨_, _, _, _, rfl, _⟩ := h
    rfl
  · obtain ⟨m, c, lim, n, rfl, ⟨left, seed, spot, xs, hm, l0, s0, s1, sp, hc, hx⟩, n1, lim0, lim1, q⟩ := h
    have ncm : c ≠ m := fun z => by rw [z, hm] at hc; cases hc
    refine ⟨_, rfl, m, _, rfl, g_left hm, _, _, rfl, rfl, _, rfl, ?_⟩
    by_cases c0 : 0 < left
    · refine ifT (decide_eq_true c0) ?_
      obtain ⟨r, hr1, hr2⟩ := mod_nat (x := left) lim0
      refine ⟨_, rfl, m, _, rfl, g_left hm, .inl ⟨_, rfl, _, rfl, _, _, rfl, rfl, (by show (0 : Int) < _; omega), ?_⟩⟩
      refine ⟨_, rfl, m, _, rfl, g_left hm, _, rfl, _, _, rfl, rfl, ⟨by omega, by omega⟩, _, rfl, m, _, rfl, d_left hm, ?_⟩
      refine ⟨_, rfl, ?_⟩
      show Q (.int (left % (lim : Int))) _
      rw [hr2]
      refine q r _ hr1 but_upd ⟨_, seed, spot, xs, upd_same, ?_, s0, s1, by omega, by rw [upd_ne ncm]; exact hc, hx⟩
      exact Int.ediv_nonneg l0 (by omega)
    · refine ifF (decide_eq_false c0) ?_
      refine ⟨_, rfl, m, _, rfl, g_spot hm, ?_⟩
      refine ⟨_, rfl, _, _, rfl, rfl, _, rfl, m, _, rfl, d_spot hm, ?_⟩
      have hm2 : upd H m (.dK (dk left seed c ((spot : Int) + 1))) m = some (.dK (dk left seed c ((spot : Int) + 1))) := upd_same
      have hc2 : upd H m (.dK (dk left seed c ((spot : Int) + 1))) c = some (.lst (xs.map V.int)) := by rw [upd_ne ncm]; exact hc
      have bu : But m H (upd H m (.dK (dk left seed c ((spot : Int) + 1)))) := but_upd
      generalize upd H m (.dK (dk left seed c ((spot : Int) + 1))) = H2 at hm2 hc2 bu
      have sb := in64 (x := (spot : Int)) (by omega) (by omega)
      refine ⟨_, rfl, m, _, rfl, g_cells hm2, _, rfl, m, _, rfl, g_seed hm2, _, rfl, _, _, rfl, rfl, .inr sb, _, rfl, _, _, rfl, rfl, .inr sb, _, _, rfl, rfl, _, _, rfl, ?_⟩
      have hlen : 0 < xs.length := List.length_pos_iff.mpr hx
      obtain ⟨i, hi1, hi2⟩ := mod_nat (x := (spot : Int)) hlen
      have hg : (xs.map V.int)[i]? = some (V.int xs[i]) := by
        rw [List.getElem?_map, List.getElem?_eq_getElem hi1]
        rfl
      refine ⟨_, rfl, _, rfl, .inl ⟨_, rfl, _, rfl, c, _, rfl, .inl (SqL.of' hc2), _, _, rfl, rfl, ?_, c, _, _, V.int xs[i], rfl, rfl, SqL.of' hc2, ?_, ?_⟩⟩
      · show (0 : Int) < ((xs.map V.int).length : Int)
        rw [List.length_map]
        omega
      · show atI (xs.map V.int) ((spot : Int) % ((xs.map V.int).length : Int)) = _
        rw [List.length_map, hi2]
        exact atI_nat hg
      have k1 := in64 (x := 2 * (spot : Int) + 3) (by omega) (by omega)
      refine ⟨_, rfl, _, rfl, _, _, rfl, rfl, .inr sb, _, _, rfl, rfl, _, _, rfl, rfl, .inr k1, _, rfl, _, _, rfl, rfl, .inl ⟨_, rfl, _, _, rfl, rfl, (by show (0 : Int) < 2147483647; decide), ?_⟩⟩
      generalize hb : (xs[i] * (2 * (spot : Int) + 3) + (seed + 40503 * (spot : Int) * (spot : Int))) % 2147483647 = bl
      have hb0 : 0 ≤ bl := by rw [← hb]; exact Int.emod_nonneg _ (by decide)
      have hb1 : bl < 2147483647 := by rw [← hb]; exact Int.emod_lt_of_pos _ (by decide)
      have k2 := in64 (x := bl) (by omega) (by omega)
      have k3 : -(2 ^ 64) < (69621 : Int) ∧ (69621 : Int) < 2 ^ 64 := in64 (by decide) (by decide)
      refine ⟨.int bl, congrArg (fun z => some (some (V.int z))) hb, .int bl, congrArg (fun z => some (some (V.int z))) hb, _, _, rfl, rfl, .inl k2, _, rfl, _, _, rfl, rfl, .inl k3, _, _, rfl, rfl, _, rfl, m, _, rfl, g_seed hm2, _, _, rfl, rfl, .inl ⟨_, rfl, _, _, rfl, rfl, (by show (0 : Int) < 2147483629; decide), ?_⟩⟩
      have k4 : -(2 ^ 64) < (48271 : Int) ∧ (48271 : Int) < 2 ^ 64 := in64 (by decide) (by decide)
      refine ⟨_, rfl, _, _, rfl, rfl, .inr k4, _, rfl, _, _, rfl, rfl, .inl ⟨_, rfl, _, _, rfl, rfl, (by show (0 : Int) < 2147483647; decide), _, _, rfl, rfl, ⟨by decide, by decide⟩, _, rfl, _, _, rfl, rfl, (by show (0 : Int) < _; omega), ?_⟩⟩
      obtain ⟨r, hr1, hr2⟩ := mod_nat (x := ((bl * bl + 69621 * (spot : Int) + seed) % 2147483629 * 48271 + (spot : Int)) % 2147483647 / 11) lim0
      show Q (.int (((bl * bl + 69621 * (spot : Int) + seed) % 2147483629 * 48271 + (spot : Int)) % 2147483647 / 11 % (lim : Int))) H2
      rw [hr2]
      exact q r H2 hr1 bu ⟨left, seed, spot + 1, xs, hm2, l0, s0, s1, by omega, hc2, hx⟩
theorem ok_law_of (T : Txt P K mg a) : FnOk P w K mg base CX0 2 a.law_of a.d_law_of ["m", "some"] (spOf K) := by
  refine T.f_law_of.F.ok sc_law_of (fun vs H Q E h => ?_) (fun cdv A outer s H vs Q E hr h => ⟨_, PSs.nox ((pss_one (ps_ret (pe_ix ix_list (pv 1) (pe_call (ok_law_draw T) (hr.mono (by decide)) rfl T.f_law_draw.g T.f_law_draw.F.kp (b_law_draw T) .nil pass0 (pa_cons (pv 0) (pa_cons (pe_callB call_len_seq rfl T.n_len (by decide +kernel) (pa_cons (pv 1) pa_nil)) pa_nil))) (fun _ _ => rfl))))), ?_⟩)
  · obtain ⟨_, _, _, _, _, rfl, _⟩ := h
    rfl
  · obtain ⟨m, c, l, n, xs, rfl, hd, n1, hl, hx, hb, q⟩ := h
    have hlen : 0 < xs.length := List.length_pos_iff.mpr hx
    refine ⟨_, rfl, _, rfl, _, rfl, l, xs, rfl, .inl hl, m, c, xs.length, n, rfl, hd, n1, hlen, hb, fun r H' h1 b d' => ?_⟩
    have hg : xs[r]? = some xs[r] := List.getElem?_eq_getElem h1
    exact ⟨l, xs, _, _, rfl, rfl, (hd.ks b).sqL hl, atI_nat hg, q r _ _ hg b d'⟩
/-! ### the dict begun -/
theorem cut_ints (ns : List Int) (lo hi : Option Int) : ∃ ms : List Int, cutV (ns.map V.int) lo hi = ms.map V.int ∧ ms.length ≤ ns.length := by
  refine ⟨(ns.drop (HT.sIx ns.length 0 lo)).take (HT.sIx ns.length ns.length hi - HT.sIx ns.length 0 lo), ?_, ?_⟩
  · unfold cutV
    rw [List.length_map, List.map_take, List.map_drop]
  · rw [List.length_take, List.length_drop]
    omega
theorem ints_lay : ∀ ns : List Int, PyData.canLayAll0 (ns.map PyData.int) = true
  | [] => by simp only [List.map_nil, PyData.canLayAll0]
  | n :: ns => by
    simp only [List.map_cons, PyData.canLayAll0, PyData.canLay0, Bool.true_and]
    exact ints_lay ns
theorem ints_shaped (ns : List Int) : SeqAt.shaped (.list (ns.map PyData.int)) = true := by
  unfold SeqAt.shaped
  have h1 : (PyData.list (ns.map PyData.int)).canLay0 = true := by
    simp only [PyData.canLay0]
    exact ints_lay ns
  have h2 : PyData.depthAll (ns.map PyData.int) ≤ 1 := depth_map PyData.int 1 ns fun x _ => by simp only [PyData.depth]; decide
  rw [h1, Bool.true_and]
  refine decide_eq_true ?_
  simp only [PyData.depth]
  omega
theorem dp_ints {K : PySem.W.Frag} {H : Hp} : ∀ ns : List Int, DpAll K H (ns.map V.int) (ns.map PyData.int)
  | [] => .nil
  | n :: ns => .cons (.int n) (dp_ints ns)
def spBegun (K : PySem.W.Frag) : Sp := fun vs H Q _ => ∃ (s : Addr) (ns : List Int) (k : Nat), vs = [.ref s, .int (k : Int)] ∧ SqL K H s (ns.map V.int) ∧ ns.length ≤ 1000 ∧ k ≤ 1000 ∧ ∀ H' m c, Same H H' → H m = none → Draws H' m c 0 → Q (.ref m) H'
theorem ok_law_begun (T : Txt P K mg a) : FnOk P w K mg base CX0 1 a.law_begun a.d_law_begun ["script", "k"] (spBegun K) := by
  refine T.f_law_begun.F.ok sc_law_begun (fun vs H Q E h => ?_) (fun cdv A outer s H vs Q E hr h => ⟨_, PSs.nox ((pss_cons (ps_set (i := 2) sc_law_begun.nd rfl (Or.inl rfl) (pe_op op_cat (pe_slice sl_list (pv 0) (po_some (pv 1)) po_none) (pe_slice sl_list (pv 0) po_none (po_some (pv 1)))))
      (pss_cons (ps_setLc (i := 4) (own := [("cell", 3)]) rfl sc_law_begun.nd rfl rfl (sw_true rfl rfl rfl (by decide +kernel)) (pi_list (pv 2)) (blkOk_by (N := ["script", "k", "cells", "cell", "great", "seed"]) (sc := defScope s_law_begun) (by decide +kernel)) (fun _ _ _ _ _ => (pg_name (i := 3) sc_law_begun.nd rfl (Or.inl rfl) (Or.inr rfl))) (fun _ _ _ _ _ => (pts_one (pt_cmpR op_ge (pv 3) (pe_op op_pow pe_int pe_int) (nomark _)))) (fun _ _ _ _ _ => (pv 3)))
      (pss_cons (ps_set (i := 5) sc_law_begun.nd rfl (Or.inl rfl) (pe_op op_add pe_int (pv 1)))
      (pss_cons (ps_for PassesOwn.never rfl (pi_list (pv 2)) (pg_name (i := 3) sc_law_begun.nd rfl (Or.inl rfl)) (pss_one (ps_set (i := 5) sc_law_begun.nd rfl (Or.inl rfl) (pe_op op_mod (pe_callTy call_int1 rfl T.n_int (by decide +kernel) (pa_cons (pe_op op_add (pe_op op_mul (pv 5) pe_int) (pv 3)) pa_nil)) pe_int))))
      (pss_one (ps_ret (pe_disp (pps_cons pe_str (pe_ifExp (pt_cmpR (op_neD hr.units) (pv 4) (pe_lst pa_nil) (nomark _)) (pe_ix ix_list (pv 4) pe_int (fun _ _ => rfl)) pe_int) (pps_cons pe_str (pv 5) (pps_cons pe_str (pe_op op_cat (pv 2) (pe_lst (pa_cons (pe_op op_add (pe_op op_mul pe_int (pv 1)) pe_int) pa_nil))) (pps_cons pe_str pe_int pps_nil)))) rfl rfl (by intro z; cases z) (by decide))))))))), ?_⟩)
  · obtain ⟨_, _, _, rfl, _⟩ := h
    rfl
  · obtain ⟨s, ns, k, rfl, hs, hl, k1, q⟩ := h
    obtain ⟨ms1, e1, z1⟩ := cut_ints ns (some (k : Int)) none
    obtain ⟨ms2, e2, z2⟩ := cut_ints ns none (some (k : Int))
    refine ⟨_, rfl, _, rfl, _, rfl, s, _, rfl, hs, fun p1 hp1 => ?_⟩
    rw [e1]
    have sm1 : Same H (upd H p1 (.lst (ms1.map V.int))) := same_upd hp1
    refine ⟨_, rfl, _, rfl, _, rfl, s, _, rfl, sm1.seq hs, fun p2 hp2 => ?_⟩
    rw [e2]
    have n12 : p1 ≠ p2 := ne_of_none upd_same hp2
    have sm2 := sm1.upn (o := .lst (ms2.map V.int)) hp2
    refine ⟨p1, p2, _, _, rfl, rfl, by rw [upd_ne n12, upd_same], upd_same, ?_, fun C hC => ?_⟩
    · rw [List.length_map, List.length_map]
      exact Nat.le_of_lt (line_ok (by omega))
    rw [← List.map_append]
    have sm3 := sm2.upn (o := .lst ((ms1 ++ ms2).map V.int)) hC
    have eC : upd (upd (upd H p1 (.lst (ms1.map V.int))) p2 (.lst (ms2.map V.int))) C (.lst ((ms1 ++ ms2).map V.int)) C = some (.lst ((ms1 ++ ms2).map V.int)) := upd_same
    have lC : (ms1 ++ ms2).length ≤ 2000 := by
      rw [List.length_append]
      omega
    generalize ms1 ++ ms2 = cs at eC sm3 lC
    generalize upd (upd (upd H p1 (.lst (ms1.map V.int))) p2 (.lst (ms2.map V.int))) C (.lst (cs.map V.int)) = H3 at eC sm3
    -- great
    refine ⟨_, rfl, C, rfl, ⟨_, SqL.of' eC⟩, fun G hG => ?_⟩
    refine lc_list (K := K) (a := C) (xs := cs.map V.int) (fun j H' => ∃ gs : List Int, H' G = some (.lst (gs.map V.int)) ∧ (∀ g ∈ gs, 0 ≤ g) ∧ gs.length ≤ j ∧ Same H3 H') ⟨[], upd_same, (fun g h => by cases h), Nat.le_refl _, same_upd hG⟩ (fun j H' _ ⟨_, _, _, _, sm⟩ => SqL.of' (sm _ _ eC)) ?_ ?_
    · rintro j x H' hx ⟨gs, eG, g0, gl, sm⟩
      obtain ⟨z, hz, rfl⟩ := get_map hx
      have hj := lt_of_get hz
      refine ⟨rfl, ?_⟩
      refine ⟨_, rfl, _, _, rfl, rfl, ⟨by decide, by decide, by decide⟩, _, _, rfl, rfl, _, rfl, ?_⟩
      by_cases c : (10 : Int) ^ (18 : Int).toNat ≤ z
      · refine ifT (decide_eq_true c) ⟨_, rfl, _, eG, ?_, gs ++ [z], ?_, ?_, ?_, sm.up hG⟩
        · rw [List.length_map]
          exact line_ok (by omega)
        · rw [upd_same, List.map_append]
          rfl
        · intro g hg
          rcases List.mem_append.mp hg with h | h
          · exact g0 g h
          · have e : g = z := by simpa using h
            have : (10 : Int) ^ (18 : Int).toNat = 1000000000000000000 := by decide
            omega
        · rw [List.length_append]
          show gs.length + 1 ≤ j + 1
          omega
      · exact ifF (decide_eq_false c) ⟨gs, eG, g0, by omega, sm⟩
    rintro H4 ⟨gs, eG, g0, gl, sm4⟩
    refine ⟨_, rfl, _, _, rfl, rfl, ?_⟩
    have eC4 := sm4 _ _ eC
    refine ⟨_, rfl, C, rfl, ⟨_, SqL.of' eC4⟩, for_list (K := K) (a := C) (xs := cs.map V.int) (fun i σ H' => ∃ v3 sd, σ = [some (.ref s), some (.int (k : Int)), some (.ref C), v3, some (.ref G), some (.int sd)] ∧ 0 ≤ sd ∧ sd < 2147483647 ∧ H4 = H')
      ⟨none, _, rfl, by omega, by omega, rfl⟩ (fun i σ H' _ ⟨_, _, _, _, _, e⟩ => by rw [← e]; exact SqL.of' eC4) ?_ ?_⟩
    · rintro i x σ H' hx ⟨v3, sd, rfl, s0, s1, rfl⟩
      obtain ⟨z, hz, rfl⟩ := get_map hx
      have kk : -(2 ^ 64) < (48271 : Int) ∧ (48271 : Int) < 2 ^ 64 := in64 (by decide) (by decide)
      exact ⟨_, rfl, _, _, rfl, rfl, .inr kk, _, rfl, _, _, rfl, rfl, .inl ⟨_, rfl, _, _, rfl, rfl, (by show (0 : Int) < 2147483647; decide), _, _, rfl, Int.emod_nonneg _ (by decide), Int.emod_lt_of_pos _ (by decide), rfl⟩⟩
    · rintro σ H' ⟨v3, sd, rfl, s0, s1, rfl⟩
      refine fun m hm => ?_
      have k43 : -(2 ^ 64) < (43 : Int) ∧ (43 : Int) < 2 ^ 64 := in64 (by decide) (by decide)
      have smA : Same H4 (upd H4 m (.dK [])) := same_upd hm
      have eGA := smA _ _ eG
      have eCA := smA _ _ eC4
      have emA : upd H4 m (.dK []) m = some (.dK []) := upd_same
      generalize upd H4 m (.dK []) = H5 at smA eGA eCA emA ⊢
      refine ⟨_, rfl, Nat.zero_le _, fun z hz => ?_⟩
      have smB : Same H5 (upd H5 z (.lst [])) := same_upd hz
      have eGB := smB _ _ eGA
      have eCB := smB _ _ eCA
      have emB := smB _ _ emA
      refine ⟨.list (gs.map .int), .list [], .lst (SqL.of' eGB) (dp_ints gs), .lst (SqL.of' upd_same) .nil, ints_shaped gs, shaped_of rfl (by decide), _, rfl, ?_⟩
      rw [eqv_nil]
      generalize upd H5 z (.lst []) = H6 at smB eGB eCB emB ⊢
      have smH : Same H H6 := ((sm3.trans sm4).trans smA).trans smB
      have nm : H m = none := (sm3.trans sm4).free hm
      have fin : ∀ left : Int, 0 ≤ left → ∃ v, [some (V.ref s), some (.int (k : Int)), some (.ref C), v3, some (.ref G), some (.int sd)][5]? = some (some v) ∧ tPairs [(tC (.str "cells"), tOp rCat (tVar 2) (tLst (tCons (tOp (rI0 fun i j => .int (i + j)) (tOp (rI CMul fun i j => .int (i * j)) (tC (.int 43)) (tVar 1)) (tC (.int 7))) tNil))), (tC (.str "spot"), tC (.int 0))] [some (V.ref s), some (.int (k : Int)), some (.ref C), v3, some (.ref G), some (.int sd)] H6
          (fun ps H2 => H2 m = some (.dK []) ∧ ∃ kvs : List (Key × V), ((V.str "left", V.int left) :: (V.str "seed", v) :: ps) = kvs.map (fun kv => (kV kv.1, kv.2)) ∧ kvs.length ≤ 15 ∧ Q (.ref m) (upd H2 m (.dK (mergeK [] kvs)))) := by
        intro left hl0
        refine ⟨_, rfl, ?_⟩
        refine ⟨_, rfl, _, rfl, _, _, rfl, rfl, .inl k43, _, _, rfl, rfl, (by show 1 ≤ sizeLine; rw [sizeLine_eq]; decide), fun y hy => ?_⟩
        have nCy : C ≠ y := ne_of_none eCB hy
        have smC : Same H6 (upd H6 y (.lst [.int (43 * (k : Int) + 7)])) := same_upd hy
        refine ⟨C, y, _, _, rfl, rfl, smC _ _ eCB, upd_same, ?_, fun c hc => ?_⟩
        · rw [List.length_map]
          exact Nat.le_of_lt (line_ok (by show cs.length + 1 ≤ _; omega))
        have smD : Same H6 (upd (upd H6 y (.lst [.int (43 * (k : Int) + 7)])) c (.lst (cs.map V.int ++ [.int (43 * (k : Int) + 7)]))) := smC.upn hc
        have ec : upd (upd H6 y (.lst [.int (43 * (k : Int) + 7)])) c (.lst (cs.map V.int ++ [.int (43 * (k : Int) + 7)])) c = some (.lst ((cs ++ [43 * (k : Int) + 7]).map V.int)) := by
          rw [upd_same, List.map_append]
          rfl
        have emD := smD _ _ emB
        have ncm : c ≠ m := fun z => by rw [← z, ec] at emD; cases emD
        refine ⟨emD, dk left sd c 0, rfl, (by show 4 ≤ 15; decide), ?_⟩
        refine q _ m c (fun b o e => ?_) nm ⟨left, sd, 0, cs ++ [43 * (k : Int) + 7], upd_same, hl0, s0, s1, Nat.le_refl _, by rw [upd_ne ncm]; exact ec, by simp⟩
        rw [upd_ne (ne_of_none e nm)]
        exact smD _ _ (smH _ _ e)
      cases gs with
      | nil => exact ifF rfl (fin 0 (Int.le_refl 0))
      | cons g gs => exact ifT rfl ⟨_, rfl, G, _, 0, _, rfl, rfl, SqL.of' eGB, atI0, fin g (g0 g (List.mem_cons_self))⟩
end
end K44

/-! What the law hears; heaps whose tables grow. -/
namespace K44
open PySem PySem.Spec PyProof.Rows L2
open LamX (CodeO TabS Tabs ExtN TabB tLam)
theorem ext_same {H H' : Hp} (s : Same H H') : ExtN H H' := ExtN.of s
theorem ext_ks {H H' : Hp} (e : ExtN H H') : KeepS H H' := fun b o h s => e b o h fun ps z => by
  rw [z] at s
  cases s
theorem draws_ext {H H' : Hp} {m c : Addr} {n : Nat} (d : Draws H m c n) (e : ExtN H H') : Draws H' m c n := by
  obtain ⟨left, seed, spot, xs, hm, h1, h2, h3, h4, h5, h6⟩ := d
  exact ⟨left, seed, spot, xs, e _ _ hm (fun ps z => nomatch z), h1, h2, h3, h4, e _ _ h5 (fun ps z => nomatch z), h6⟩
/-- all but m and the tables stays -/
def XtN (m : Addr) (H H' : Hp) : Prop := ∀ b o, b ≠ m → H b = some o → (∀ ps, o ≠ .tbl ps) → H' b = some o
theorem XtN.trans {m : Addr} {H H1 H2 : Hp} (a : XtN m H H1) (b : XtN m H1 H2) : XtN m H H2 := fun c o h e n => b c o h (a c o h e n) n
theorem xt_but {m : Addr} {H H' : Hp} (b : But m H H') : XtN m H H' := fun c o h e _ => b c o h e
theorem xt_ext {m : Addr} {H H' : Hp} (b : ExtN H H') : XtN m H H' := fun c o _ e n => b c o e n
theorem tabs_but {T : List (Addr × Str)} {H H' : Hp} {m cc : Addr} {n : Nat} (t : Tabs T H) (d : Draws H m cc n) (b : But m H H') : Tabs T H' := fun p hp => by
  obtain ⟨_, _, _, _, hm, _⟩ := d
  obtain ⟨ps, h1, h2, h3⟩ := t p hp
  refine ⟨ps, b _ _ (fun z => ?_) h1, h2, fun pos cv hc => ?_⟩
  · rw [z, hm] at h1
    cases h1
  · obtain ⟨c, e1, e2⟩ := h3 pos cv hc
    refine ⟨c, e1, b _ _ (fun z => ?_) e2⟩
    rw [z, hm] at e2
    cases e2
theorem tabs_same {T : List (Addr × Str)} {H H' : Hp} (t : Tabs T H) (s : Same H H') : Tabs T H' := t.ext s
/-- what is caught, and what is told of it -/
def EH (CN CG : Addr) (Q : VK) : XK := fun cls d H' =>
  (cls = .ref CN ∧ ∃ dd v, d = some dd ∧ H' dd = some (.xd [("value", v)]) ∧ ∀ p, H' p = none → Q (.ref p) (upd H' p (.lst [.str "nothing", v]))) ∨
  (cls = .ref CG ∧ ∃ dd v, d = some dd ∧ H' dd = some (.xd [("most", v)]) ∧ ∀ p, H' p = none → Q (.ref p) (upd H' p (.lst [.str "great", v])))
def TTh (CN CG : Addr) : (XK → Hp → VK → Prop) → Hp → VK → Prop := fun tl H Q => ∀ E : XK, (∀ cls d H', EH CN CG Q cls d H' → E cls d H') → tl E H Q
def tsNoth (CN : Addr) (z f : Str) : Addr → Value → Option Addr → TS := fun a cls d => tRet (tLst (tCons (tC (.str z)) (tCons (tXf a cls d CN f (tVar 1)) tNil)))
section
variable {X : Cx} {a : Ad} {cdg : Value}
theorem heard_gives (T : Txt X.prog X.K X.mg a) : GivesX X ["call", "error"] "_law_heard" (defScope s_law_heard) a.law_heard cdg (defBody s_law_heard) "call" (TTh a.CN a.CG) := by
  intro f Kp s H Q tl act hKp htt
  refine ⟨_, pss_one (ps_try_manyAs (X := (cxOf C8.CX0 X.prog X.w X.K X.mg X.base ["call", "error"] "_law_heard" (defScope s_law_heard) a.law_heard cdg X.A X.stack s H C8.E0).nox)
      (l := [(.ref a.CN, 1, tsNoth a.CN "nothing" "value"), (.ref a.CG, 1, tsNoth a.CG "great" "most")])
      (tb := fun W D σ H => σ[0]? = some (some (.ref f)) ∧ Kp H ∧ tl (WE W σ) H D.rt) rfl rfl sc_law_heard.nd (fun W pn xe tk _ => ?_) ?_), ?_⟩
  · exact pss_one (ps_ret (act W pn xe _ _ tk))
  · refine HdsAs.cons ⟨rfl, by decide, .inl T.xN.gC⟩ rfl rfl (fun a0 oe cls d pn hz hf => pss_one (ps_ret (pe_lst (pa_cons pe_str (pa_cons (pe_xf T.fN T.aN hz hf (pv 1)) pa_nil)))))
      (HdsAs.cons ⟨rfl, by decide, .inl T.xG.gC⟩ rfl rfl (fun a0 oe cls d pn hz hf => pss_one (ps_ret (pe_lst (pa_cons pe_str (pa_cons (pe_xf T.fG T.aG hz hf (pv 1)) pa_nil))))) HdsAs.nil)
  · refine ⟨rfl, hKp, htt _ fun cls d H' he => ?_⟩
    rcases he with ⟨rfl, dd, v, rfl, hd, q⟩ | ⟨rfl, dd, v, rfl, hd, q⟩
    · refine ⟨true, T.eNN, fun _ a0 ha0 => ?_, fun z => nomatch z⟩
      exact ⟨_, rfl, rfl, rfl, dd, _, v, rfl, hd, by simp [List.lookup], (by show 2 ≤ sizeLine; decide), q⟩
    · refine ⟨false, T.eGN, (fun z => nomatch z), fun _ => ⟨true, T.eGG, fun _ a0 ha0 => ?_, fun z => nomatch z⟩⟩
      exact ⟨_, rfl, rfl, rfl, dd, _, v, rfl, hd, by simp [List.lookup], (by show 2 ≤ sizeLine; decide), q⟩
end
end K44

/-! What is compared by repr is small. -/
namespace K44
open PySem PySem.Spec PyProof.Rows L2
/-! ### what is told -/
def tD (b n : Nat) (L : List (Nat × Nat)) (l : List (Option Nat)) : PyData := match L with
  | [] => .list [.str "nothing", .tuple (l.map oD)]
  | p :: L => .tuple ((sure b n (p :: L)).map oD)
def dueD (b n : Nat) (L : List (Nat × Nat)) (l : List (Option Nat)) : PyData := .list [.tuple (L.map pD), qD L, tD b n L l]
theorem meet_mem : ∀ {f : List (Option Nat)} {own : List Nat} {v : Nat}, some v ∈ meet f own → some v ∈ f
  | [], _, v, h => by cases h
  | o :: f, [], v, h => by cases h
  | o :: f, x :: own, v, h => by
    rcases List.mem_cons.mp (show some v ∈ meet1 o x :: meet f own from h) with h | h
    · cases o with
      | none => cases h
      | some c =>
        have h' : some v = (if c = x then some c else none) := h
        by_cases z : c = x
        · rw [if_pos z] at h'
          rw [h']
          exact List.mem_cons_self
        · rw [if_neg z] at h'
          cases h'
    · exact List.mem_cons_of_mem _ (meet_mem h)
theorem sureFrom_mem {b n v : Nat} : ∀ {L : List (Nat × Nat)} {f : List (Option Nat)}, some v ∈ sureFrom b n f L → some v ∈ f
  | [], f, h => h
  | p :: L, f, h => meet_mem (sureFrom_mem (L := L) (f := meet f (dg b n p)) h)
theorem sure_lt {b n v : Nat} (hb : 0 < b) {L : List (Nat × Nat)} (hL : ∀ p ∈ L, 0 < p.2 ∧ p.1 < p.2) (h : some v ∈ sure b n L) : v < b := by
  cases L with
  | nil => cases h
  | cons p L =>
    have h2 := sureFrom_mem (L := L) (f := (dg b n p).map some) h
    obtain ⟨x, hx, e⟩ := List.mem_map.mp h2
    have e' : x = v := Option.some.inj e
    subst e'
    obtain ⟨h3, h4⟩ := hL p List.mem_cons_self
    exact digs_lt h3 hb n p.1 h4 x hx
theorem ok_oDs {l : List (Option Nat)} (h : ∀ v, some v ∈ l → v < 1000000) : okA (l.map oD) = true :=
  okA_map oD l fun o ho => oD_ok fun v e => h v (by rw [← e]; exact ho)
theorem fine_seen {b : Nat} {l : List (Option Nat)} (ok : SeenOk b l) : Fine (.tuple (l.map oD)) := by
  have h1 := ok.b1000
  have h2 := ok.l20
  refine ⟨?_, ?_, ?_⟩
  · exact ok_oDs fun v hv => by
      have := ok.dg v hv
      omega
  · have := szA_map oD 20 l fun o _ => oD_sz o
    simp only [szD]
    omega
  · have := depth_map oD 1 l fun o _ => oD_dp o
    simp only [PyData.depth]
    omega
theorem qD_ok {L : List (Nat × Nat)} (h : ∀ p ∈ L, p.1 < 1000000 ∧ p.2 < 1000000) : okD (qD L) = true := by
  cases L with
  | nil => rfl
  | cons p L => exact pD_ok (h p List.mem_cons_self).1 (h p List.mem_cons_self).2
theorem qD_sz (L : List (Nat × Nat)) : szD (qD L) ≤ 42 := by
  cases L with
  | nil => simp only [qD, szD]; decide
  | cons p L => exact pD_sz p
theorem qD_dp (L : List (Nat × Nat)) : (qD L).depth ≤ 2 := by
  cases L with
  | nil => simp only [qD, PyData.depth]; decide
  | cons p L => exact pD_dp p
theorem tD_ok {b n : Nat} {L : List (Nat × Nat)} {l : List (Option Nat)} (ok : SeenOk b l) (hL : ∀ p ∈ L, 0 < p.2 ∧ p.1 < p.2) : okD (tD b n L l) = true := by
  have h1 := ok.b1000
  have h2 := ok.b2
  cases L with
  | nil =>
    show (okD (.str "nothing") && (okD (.tuple (l.map oD)) && true)) = true
    rw [(fine_seen ok).ok]
    decide +kernel
  | cons p L =>
    refine ok_oDs fun v hv => ?_
    have := sure_lt (by omega) hL hv
    omega
theorem tD_sz {b n : Nat} {L : List (Nat × Nat)} {l : List (Option Nat)} (ok : SeenOk b l) (hn : n ≤ 1000) : szD (tD b n L l) ≤ 50000 := by
  have h2 := ok.l20
  cases L with
  | nil =>
    have := szA_map oD 20 l fun o _ => oD_sz o
    have e : (PySem.Str.ofString "nothing").cps.size = 7 := by decide +kernel
    show szD (.str "nothing") + 1 + (szD (.tuple (l.map oD)) + 1 + 0) ≤ 50000
    simp only [szD]
    omega
  | cons p L =>
    have := szA_map oD 20 (sure b n (p :: L)) fun o _ => oD_sz o
    rw [sure_len b n (by intro z; cases z)] at this
    simp only [tD, szD]
    omega
theorem tD_dp {b n : Nat} {L : List (Nat × Nat)} {l : List (Option Nat)} : (tD b n L l).depth ≤ 4 := by
  cases L with
  | nil =>
    have := depth_map oD 1 l fun o _ => oD_dp o
    simp only [tD, PyData.depth, PyData.depthAll]
    omega
  | cons p L =>
    have := depth_map oD 1 (sure b n (p :: L)) fun o _ => oD_dp o
    simp only [tD, PyData.depth]
    omega
theorem fine_due {b n : Nat} {L : List (Nat × Nat)} {l : List (Option Nat)} (ok : SeenOk b l) (hn : n ≤ 1000) (hl : L.length ≤ 1000) (hL : ∀ p ∈ L, 0 < p.2 ∧ p.2 ≤ 5000 ∧ p.1 < p.2) : Fine (dueD b n L l) := by
  have hm : ∀ p ∈ L, p.1 < 1000000 ∧ p.2 < 1000000 := fun p hp => by
    have := hL p hp
    omega
  refine ⟨?_, ?_, ?_⟩
  · show (okD (.tuple (L.map pD)) && (okD (qD L) && (okD (tD b n L l) && true))) = true
    rw [qD_ok hm, tD_ok ok fun p hp => ⟨(hL p hp).1, (hL p hp).2.2⟩]
    show (okA (L.map pD) && _) = true
    rw [okA_map pD L fun p hp => pD_ok (hm p hp).1 (hm p hp).2]
    rfl
  · have h1 := szA_map pD 42 L fun p _ => pD_sz p
    have h2 := qD_sz L
    have h3 := tD_sz (L := L) ok hn
    show szD (.tuple (L.map pD)) + 1 + (szD (qD L) + 1 + (szD (tD b n L l) + 1 + 0)) ≤ 1000000
    simp only [szD]
    omega
  · have h1 := depth_map pD 2 L fun p _ => pD_dp p
    have h2 := qD_dp L
    have h3 := tD_dp (b := b) (n := n) (L := L) (l := l)
    simp only [dueD, PyData.depth, PyData.depthAll]
    omega
theorem tD_ne {b n : Nat} {L : List (Nat × Nat)} {l : List (Option Nat)} (h : L ≠ []) : tD b n L l = .tuple ((sure b n L).map oD) := by
  cases L with
  | nil => exact absurd rfl h
  | cons p L => rfl
theorem tD_nil {b n : Nat} {L : List (Nat × Nat)} {l : List (Option Nat)} (h : L = []) : tD b n L l = .list [.str "nothing", .tuple (l.map oD)] := by
  subst h
  rfl
mutual
def noL : PyData → Bool
  | .list _ => false
  | .tuple ds => noLs ds
  | .dict _ => false
  | _ => true
def noLs : List PyData → Bool
  | [] => true
  | d :: ds => noL d && noLs ds
end
theorem noLs_map {α : Type} (f : α → PyData) (l : List α) (h : ∀ x ∈ l, noL (f x) = true) : noLs (l.map f) = true := by
  induction l with
  | nil => rfl
  | cons x l ih =>
    show (noL (f x) && noLs (l.map f)) = true
    rw [h x List.mem_cons_self, ih fun y hy => h y (List.mem_cons_of_mem _ hy)]
    rfl
mutual
theorem dp_keepT {K : PySem.W.Frag} {H H' : Hp} (k : KeepT H H') : ∀ (d : PyData) (v : V), noL d = true → Dp K H v d → Dp K H' v d
  | .none, _, _, h => by cases h; exact .non
  | .bool b, _, _, h => by cases h; exact .bl b
  | .int i, _, _, h => by cases h; exact .int i
  | .str x, _, _, h => by cases h; exact .str x
  | .list ds, _, z, h => by
    simp only [noL] at z
    cases z
  | .tuple ds, _, z, h => by
    simp only [noL] at z
    cases h with
    | tup hs ha => exact .tup (k.sqT hs) (dpAll_keepT k ds _ z ha)
  | .dict _, _, _, h => by cases h
theorem dpAll_keepT {K : PySem.W.Frag} {H H' : Hp} (k : KeepT H H') : ∀ (ds : List PyData) (vs : List V), noLs ds = true → DpAll K H vs ds → DpAll K H' vs ds
  | [], _, _, h => by cases h; exact .nil
  | d :: ds, _, z, h => by
    simp only [noLs, Bool.and_eq_true] at z
    cases h with
    | cons h1 h2 => exact .cons (dp_keepT k d _ z.1 h1) (dpAll_keepT k ds _ z.2 h2)
end
theorem noL_pD (p : Nat × Nat) : noL (pD p) = true := by
  simp only [pD, noL, noLs, Bool.and_self]
theorem noL_oD (o : Option Nat) : noL (oD o) = true := by
  cases o <;> simp only [oD, noL]
theorem noL_pDs (L : List (Nat × Nat)) : noL (.tuple (L.map pD)) = true := by
  simp only [noL]
  exact noLs_map pD L fun p _ => noL_pD p
theorem noL_oDs (l : List (Option Nat)) : noL (.tuple (l.map oD)) = true := by
  simp only [noL]
  exact noLs_map oD l fun p _ => noL_oD p
theorem noL_qD (L : List (Nat × Nat)) : noL (qD L) = true := by
  cases L with
  | nil => simp only [qD, noL]
  | cons p L => exact noL_pD p
theorem but_free {m D : Addr} {H H' : Hp} {o : HO} (b : But m H H') (hm : H' m = some o) (h : H' D = none) : H D = none := by
  cases e : H D with
  | none => rfl
  | some u =>
    have n : D ≠ m := fun z => by rw [z, hm] at h; cases h
    rw [b _ _ n e] at h
    cases h
theorem ixN_of {n i : Nat} (h : i < n) : ixN n (i : Int) = some i := by
  unfold ixN
  rw [if_pos (by omega), if_pos (by omega)]
  rfl
theorem set_ok {b : Nat} {l : List (Option Nat)} {i : Nat} {o : Option Nat} (hl : ∀ v, some v ∈ l → v < b) (ho : ∀ v, o = some v → v < b) : ∀ v, some v ∈ l.set i o → v < b := fun v hv => by
  rcases List.mem_or_eq_of_mem_set hv with h | h
  · exact hl v h
  · exact ho v h.symm
end K44

/-! One turn of the law. -/
namespace K44
open PySem PySem.Spec PyProof.Rows L2
open LamX (CodeO TabS Tabs ExtN TabB tLam lamEnv lamCx)
def qR : Str := ("_law_right" : Str) ++ ".<locals>." ++ "<lambda>"
def qH : Str := ("_law_hand_right" : Str) ++ ".<locals>." ++ "<lambda>"
def TQ (pR pH : Addr) : List (Addr × Str) := [(pR, qR), (pH, qH)]
theorem TQ_memR {pR pH : Addr} : (pR, qR) ∈ TQ pR pH := List.mem_cons_self
theorem TQ_memH {pR pH : Addr} : (pH, qH) ∈ TQ pR pH := List.mem_cons_of_mem _ List.mem_cons_self
theorem TQ_oneR {pR pH : Addr} (ne : pR ≠ pH) : ∀ p ∈ TQ pR pH, p.1 = pR → p.2 = qR := fun p hp e => by
  rcases List.mem_cons.mp hp with rfl | hp
  · rfl
  · obtain rfl := List.mem_singleton.mp hp
    exact absurd e.symm ne
theorem TQ_oneH {pR pH : Addr} (ne : pR ≠ pH) : ∀ p ∈ TQ pR pH, p.1 = pH → p.2 = qH := fun p hp e => by
  rcases List.mem_cons.mp hp with rfl | hp
  · exact absurd e ne
  · obtain rfl := List.mem_singleton.mp hp
    rfl
/-- the two makers' code objects and tables -/
structure Tx (mg : Str → Option Value) (base : Heap) (a : Ad) (cR pR cH pH : Addr) : Prop where
  codeR : a.d_law_right.code = .ref cR
  codeH : a.d_law_hand_right.code = .ref cH
  tbR : TabB base mg cR pR
  tbH : TabB base mg cH pH
  ne : pR ≠ pH
section
variable {X : Cx} {a : Ad} {k : Nat} {T0 : List (Addr × Str)} {c Pt : Addr} {params : Arguments} {body : Expr} {scope : Scope} {t : XK → TE} {p lpos pos : Pos} {q : Str}
theorem pe_heard0 (T : Txt X.prog X.K X.mg a) (hg : Gl X "_law_heard") (TB : TabB X.base X.mg c Pt) (hcode : X.env.code = .ref c) (hmT : (Pt, X.env.qual ++ "<lambda>") ∈ T0) (hu : ∀ p ∈ T0, p.1 = Pt → p.2 = X.env.qual ++ "<lambda>") (hr : Room (k + 2) X.A) (L : LamN X.N X.env.scope scope) (hdef : defaultsOf params X.env = ([], []))
    (hbind : ∀ (q : Str) (cl : List (Str × Addr)) (doc pm cv ctv : Value), bindArgs (PySem.W.kdv_fn "<lambda>" q params (.expr body) scope cl .none doc pm cv ctv) ⟨[], []⟩ = pure [])
    (hbody : ∀ (A : Around) (outer : List Env) (s : Shared) (H : Hp) (E : XK) (f c' : Addr), Room k (A.deeper (lamEnv X scope s.heap.objs.size f c')) → PE (lamCx X A outer s H E scope f c') body (t E)) :
    PE X (.Call (.Name "_law_heard" p) [.Lambda params body scope lpos] [] pos) (tLam T0 (TTh a.CN a.CG) t) := by
  obtain ⟨oc, od, dV, kV, doc, pm, an, cdh, ct, osl, efd, lk, hcg, _, _⟩ := T.f_law_heard.F.ex
  have hb := b_law_heard T
  rw [efd] at lk hb
  exact pe_lam0 hg T.f_law_heard.g T.f_law_heard.F.kp lk hcg hb sc_law_heard rfl (.inl rfl) (heard_gives T) TB hcode hmT hu hr L hdef hbind hbody
theorem pe_heard1 {b : Str} {e0 : Expr} {v0 : V} (T : Txt X.prog X.K X.mg a) (hg : Gl X "_law_heard") (TB : TabB X.base X.mg c Pt) (hcode : X.env.code = .ref c) (hmT : (Pt, X.env.qual ++ "<lambda>") ∈ T0) (hu : ∀ p ∈ T0, p.1 = Pt → p.2 = X.env.qual ++ "<lambda>") (hr : Room (k + 2) X.A) (L : LamN X.N X.env.scope scope)
    (hpd : params.defaults = [e0]) (hpk : params.kw_defaults = []) (he0 : PE X e0 (tC v0)) (hlb : scope.names.lookup b = some .local)
    (hbind : ∀ (s : Shared) (D : Addr) (o : Obj) (u : Value) (n : Nat) (q : Str) (cl : List (Str × Addr)) (doc pm cv ctv : Value), s.heap.get? D = some o → o.data = .seq #[u] n → BindsTo s (PySem.W.kdv_fn "<lambda>" q params (.expr body) scope cl (.ref D) doc pm cv ctv) ⟨[], []⟩ [(b, u)])
    (hbody : ∀ (A : Around) (outer : List Env) (s : Shared) (H : Hp) (E : XK) (f c' : Addr), Room k (A.deeper (lamEnv X scope s.heap.objs.size f c')) → PE (lamCx X A outer s H E scope f c') body (t E)) :
    PE X (.Call (.Name "_law_heard" p) [.Lambda params body scope lpos] [] pos) (tLam T0 (TTh a.CN a.CG) t) := by
  obtain ⟨oc, od, dV, kV, doc, pm, an, cdh, ct, osl, efd, lk, hcg, _, _⟩ := T.f_law_heard.F.ex
  have hb := b_law_heard T
  rw [efd] at lk hb
  exact pe_lam1 (b := b) (e0 := e0) (v0 := v0) hg T.f_law_heard.g T.f_law_heard.F.kp lk hcg hb sc_law_heard rfl (.inl rfl) (heard_gives T) TB hcode hmT hu hr L hpd hpk he0 hlb hbind hbody
end
theorem tabs_lst {T : List (Addr × Str)} {H : Hp} {l : Addr} {xs : List V} {o : HO} (t : Tabs T H) (h : H l = some (.lst xs)) : Tabs T (upd H l o) := fun p hp => by
  obtain ⟨ps, h1, h2, h3⟩ := t p hp
  refine ⟨ps, by rw [upd_ne (fun z => by rw [z, h] at h1; cases h1)]; exact h1, h2, fun pos cv hc => ?_⟩
  obtain ⟨c, e1, e2⟩ := h3 pos cv hc
  exact ⟨c, e1, by rw [upd_ne (fun z => by rw [z, h] at e2; cases e2)]; exact e2⟩
def spRight (pR pH : Addr) : Sp := fun vs H Q _ => ∃ (m c : Addr) (b n : Nat), vs = [.ref m, .int (b : Int)] ∧ 2 ≤ b ∧ b ≤ 1000 ∧ Draws H m c n ∧ n ≤ 5000 ∧ Tabs (TQ pR pH) H ∧ ∀ H', XtN m H H' → Tabs (TQ pR pH) H' → Q (.bl true) H'
section
variable {P : Program} {w : World} {K : PySem.W.Frag} {mg : Str → Option Value} {base : Heap} {a : Ad} {cR pR cH pH : Addr}
theorem ok_law_right (T : Txt P K mg a) (x : Tx mg base a cR pR cH pH) : FnG P w K mg base CX0 9 a.law_right a.d_law_right ["m", "b"] (spRight pR pH) := by
  refine FnG.ok T.f_law_right.F sc_law_right (fun vs H Q E h => ?_) (fun cdv A outer s H vs Q E hgu hci hex hr h => ?_)
  · obtain ⟨_, _, _, _, rfl, _⟩ := h
    rfl
  have hcd : cdv = .ref cR := by
    obtain ⟨_, _, _, _, e⟩ := hex
    exact e.symm.trans x.codeR
  refine ⟨_, PSs.nox ((pss_cons (ps_set (i := 2) sc_law_right.nd rfl (Or.inl rfl) (pe_op op_add pe_int (pe_call (ok_law_draw T) (hr.mono (by decide)) rfl T.f_law_draw.g T.f_law_draw.F.kp (b_law_draw T) .nil pass0 (pa_cons (pv 0) (pa_cons pe_int pa_nil)))))
      (pss_cons (ps_asg (pe_tup (pa_cons (pe_call (ok_law_of T) (hr.mono (by decide)) rfl T.f_law_of.g T.f_law_of.F.kp (b_law_of T) .nil pass0 (pa_cons (pv 0) (pa_cons (pe_call (ok_law_units T) (hr.mono (by decide)) rfl T.f_law_units.g T.f_law_units.F.kp (b_law_units T) .nil pass0 (pa_cons (pv 2) pa_nil)) pa_nil))) (pa_cons (pe_op op_add pe_int (pe_call (ok_law_draw T) (hr.mono (by decide)) rfl T.f_law_draw.g T.f_law_draw.F.kp (b_law_draw T) .nil pass0 (pa_cons (pv 0) (pa_cons pe_int pa_nil)))) pa_nil))) (pg_tup rfl (pgs_cons (pg_name (i := 3) sc_law_right.nd rfl (Or.inl rfl)) (pgs_cons (pg_name (i := 14) sc_law_right.nd rfl (Or.inr rfl)) pgs_nil))))
      (pss_cons (ps_set (i := 15) sc_law_right.nd rfl (Or.inr rfl) (pe_call (ok_law_digits T) (hr.mono (by decide)) rfl T.f_law_digits.g T.f_law_digits.F.kp (b_law_digits T) .nil pass0 (pa_cons (pv 1) (pa_cons (pv 3) (pa_cons (pv 2) (pa_cons (pe_op op_add pe_int (pe_call (ok_law_draw T) (hr.mono (by decide)) rfl T.f_law_draw.g T.f_law_draw.F.kp (b_law_draw T) .nil pass0 (pa_cons (pv 0) (pa_cons pe_int pa_nil)))) pa_nil))))))
      (pss_cons (ps_for PassesOwn.never rfl (pi_range1 rfl T.n_range (pa_cons (pe_callB call_len_seq rfl T.n_len (by decide +kernel) (pa_cons (pv 15) pa_nil)) pa_nil)) (pg_name (i := 4) sc_law_right.nd rfl (Or.inl rfl)) (pss_one (ps_asg (pe_ifExp (pt_cmpR op_eq (pe_call (ok_law_draw T) (hr.mono (by decide)) rfl T.f_law_draw.g T.f_law_draw.F.kp (b_law_draw T) .nil pass0 (pa_cons (pv 0) (pa_cons pe_int pa_nil))) pe_int (nomark _)) pe_non (pe_ix ix_list (pv 15) (pv 4) (fun _ _ => rfl))) (pg_sub (pv 15) (pv 4) set_list))))
      (C8.pss_cut (ps_if (pt_cmpR op_eq (pe_call (ok_law_draw T) (hr.mono (by decide)) rfl T.f_law_draw.g T.f_law_draw.F.kp (b_law_draw T) .nil pass0 (pa_cons (pv 0) (pa_cons pe_int pa_nil))) pe_int (nomark _)) (pss_one (ps_asg (pe_call (ok_law_draw T) (hr.mono (by decide)) rfl T.f_law_draw.g T.f_law_draw.F.kp (b_law_draw T) .nil pass0 (pa_cons (pv 0) (pa_cons (pv 1) pa_nil))) (pg_sub (pv 15) (pe_call (ok_law_draw T) (hr.mono (by decide)) rfl T.f_law_draw.g T.f_law_draw.F.kp (b_law_draw T) .nil pass0 (pa_cons (pv 0) (pa_cons (pe_callB call_len_seq rfl T.n_len (by decide +kernel) (pa_cons (pv 15) pa_nil)) pa_nil))) set_list))) pss_nil)
      (pss_cons (ps_asg (pe_tup (pa_cons (pe_callTy call_tuple_of rfl T.n_tuple (by decide +kernel) (pa_cons (pv 15) pa_nil)) (pa_cons (pe_call (ok_law_draw T) (hr.mono (by decide)) rfl T.f_law_draw.g T.f_law_draw.F.kp (b_law_draw T) .nil pass0 (pa_cons (pv 0) (pa_cons pe_int pa_nil))) pa_nil))) (pg_tup rfl (pgs_cons (pg_name (i := 15) sc_law_right.nd rfl (Or.inr rfl)) (pgs_cons (pg_name (i := 13) sc_law_right.nd rfl (Or.inr rfl)) pgs_nil))))
      (pss_cons (ps_par (i := 5) (j := 6) rfl sc_law_right.nd rfl rfl (by decide) rfl rfl (pa_cons (pe_callB (call_reprD hgu hr.units) rfl T.n_repr (by decide +kernel) (pa_cons (pv 15) pa_nil)) (pa_cons (pe_call (ok_law_all T) (hr.mono (by decide)) rfl T.f_law_all.g T.f_law_all.F.kp (b_law_all T) .nil pass0 (pa_cons (pv 1) (pa_cons (pv 15) (pa_cons (pv 14) pa_nil)))) pa_nil)) (by rfl))
      (C8.pss_cut (ps_set (i := 7) sc_law_right.nd rfl (Or.inl rfl) (pe_lst (pa_cons (pe_callTy call_tuple_of rfl T.n_tuple (by decide +kernel) (pa_cons (pv 6) pa_nil)) (pa_cons (pe_ifExp (pt_cmpR (op_neD hr.units) (pv 6) (pe_lst pa_nil) (nomark _)) (pe_ix ix_list (pv 6) pe_int (fun _ _ => rfl)) pe_non) pa_nil))))
      (C8.pss_cut (ps_expr (pe_bm PySem.F.plainAttrs_list PySem.F.slot_list_append PySem.F.type_list_append mt_append (pv 7) (pa_cons (pe_ifExp (pt_cmpR (op_neD hr.units) (pv 6) (pe_lst pa_nil) (nomark _)) (pe_call (ok_law_sure T) (hr.mono (by decide)) rfl T.f_law_sure.g T.f_law_sure.F.kp (b_law_sure T) .nil pass0 (pa_cons (pv 1) (pa_cons (pv 6) (pa_cons (pv 13) pa_nil)))) (pe_lst (pa_cons pe_str (pa_cons (pv 15) pa_nil)))) pa_nil)))
      (pss_cons (ps_for PassesOwn.never rfl (pi_range1 rfl T.n_range (pa_cons pe_int pa_nil)) (pg_name (i := 8) sc_law_right.nd rfl (Or.inl rfl)) (pss_cons (ps_set (i := 9) sc_law_right.nd rfl (Or.inl rfl) (pe_lst (pa_cons (pe_call (E := L2.E0) (ok_fitting T) (hr.mono (by decide)) rfl T.f_fitting.g T.f_fitting.F.kp (b_fitting T) .nil (passes_call LamX.takes0 (fun _ _ _ _ h => h)) (pa_cons (pv 1) (pa_cons (pv 15) (pa_cons (pv 14) pa_nil)))) (pa_cons (pe_call (ok_simplest T) (hr.mono (by decide)) rfl T.f_simplest.g T.f_simplest.F.kp (b_simplest T) .nil pass0 (pa_cons (pv 1) (pa_cons (pv 15) (pa_cons (pv 14) pa_nil)))) pa_nil))))
      (pss_cons (ps_expr (pe_bm PySem.F.plainAttrs_list PySem.F.slot_list_append PySem.F.type_list_append mt_append (pv 9) (pa_cons (pe_heard0 (T0 := TQ pR pH) (t := fun E => tCall (spSure K a.CN) [] E (tCons (tVar 1) (tCons (tVar 15) (tCons (tVar 14) (tCons (tVar 13) tNil))))) T rfl x.tbR hcd (TQ_memR) (TQ_oneR x.ne) (hr.mono (by decide)) (lamN_by (N := ["m", "b", "under", "above", "k", "kept_so", "every", "due", "again", "told", "turn", "n", "pair", "count", "most_so", "some"]) (sc := defScope s_law_right) (by decide +kernel)) rfl (fun _ _ _ _ _ _ => rfl) (fun A outer s H E f c' hr => pe_call (ok_sure_digits T) hr rfl T.f_sure_digits.g T.f_sure_digits.F.kp (b_sure_digits T) .nil (passes_call (takes_of rfl rfl rfl rfl) (fun _ _ _ _ h => h)) (pa_cons (pv 1) (pa_cons (pv 15) (pa_cons (pv 14) (pa_cons (pv 13) pa_nil)))))) pa_nil)))
      (pss_one (ps_if (pt_cmpR op_ne (pe_callB (call_reprD hgu hr.units) rfl T.n_repr (by decide +kernel) (pa_cons (pv 9) pa_nil)) (pe_callB (call_reprD hgu hr.units) rfl T.n_repr (by decide +kernel) (pa_cons (pv 7) pa_nil)) (nomark _)) (pss_one (ps_ret pe_bl)) pss_nil)))))
      (pss_cons (ps_for PassesOwn.never rfl (pi_range1 rfl T.n_range (pa_cons pe_int pa_nil)) (pg_name (i := 10) sc_law_right.nd rfl (Or.inl rfl)) (pss_cons (ps_set (i := 11) sc_law_right.nd rfl (Or.inl rfl) (pe_op op_add pe_int (pe_call (ok_law_draw T) (hr.mono (by decide)) rfl T.f_law_draw.g T.f_law_draw.F.kp (b_law_draw T) .nil pass0 (pa_cons (pv 0) (pa_cons pe_int pa_nil)))))
      (pss_cons (ps_set (i := 12) sc_law_right.nd rfl (Or.inl rfl) (pe_tup (pa_cons (pe_call (ok_law_of T) (hr.mono (by decide)) rfl T.f_law_of.g T.f_law_of.F.kp (b_law_of T) .nil pass0 (pa_cons (pv 0) (pa_cons (pe_call (ok_law_units T) (hr.mono (by decide)) rfl T.f_law_units.g T.f_law_units.F.kp (b_law_units T) .nil pass0 (pa_cons (pv 11) pa_nil)) pa_nil))) (pa_cons (pv 11) pa_nil))))
      (pss_one (ps_if (pt_cmpR op_ne (pe_callB (call_reprD hgu hr.units) rfl T.n_repr (by decide +kernel) (pa_cons (pe_call (ok_fits T) (hr.mono (by decide)) rfl T.f_fits.g T.f_fits.F.kp (b_fits T) .nil pass0 (pa_cons (pv 1) (pa_cons (pv 12) (pa_cons (pv 15) pa_nil)))) pa_nil)) (pe_callB (call_reprD hgu hr.units) rfl T.n_repr (by decide +kernel) (pa_cons (pe_call (ok_law_fit T) (hr.mono (by decide)) rfl T.f_law_fit.g T.f_law_fit.F.kp (b_law_fit T) .nil pass0 (pa_cons (pv 1) (pa_cons (pe_ix ix_tup (pv 12) pe_int (fun _ _ => rfl)) (pa_cons (pv 11) (pa_cons (pv 15) pa_nil))))) pa_nil)) (nomark _)) (pss_one (ps_ret pe_bl)) pss_nil)))))
      (pss_one (ps_ret (pe_and (pe_cmpR op_eq (pe_callB (call_reprD hgu hr.units) rfl T.n_repr (by decide +kernel) (pa_cons (pe_call (ok_need_seen T) (hr.mono (by decide)) rfl T.f_need_seen.g T.f_need_seen.F.kp (b_need_seen T) .nil pass0 (pa_cons (pv 1) (pa_cons (pv 15) pa_nil))) pa_nil)) (pv 5) (nomark _)) (pe_one (pe_cmpR op_eq (pe_callB (call_reprD hgu hr.units) rfl T.n_repr (by decide +kernel) (pa_cons (pv 15) pa_nil)) (pv 5) (nomark _)))))))))))))))))), ?_⟩
  obtain ⟨m, c, b, n, rfl, b2, b1000, hd, n1, hT, q⟩ := h
  refine ⟨_, rfl, m, c, 30, n, rfl, hd, by omega, by decide, by decide, fun r1 H1 hr1 bt1 d1 => ⟨_, _, rfl, rfl, ?_⟩⟩
  refine ⟨_, rfl, _, rfl, r1 + 1, by simp [Int.add_comm], by omega, fun H2 U sm2 hU eU => ?_⟩
  have d2 := d1.same sm2
  have ne0 := units_ne (n := r1 + 1) (by omega)
  have nl0 := units_len (r1 + 1) (r1 + 1)
  refine ⟨m, c, U, n + 1, _, rfl, d2, by omega, SqL.of' eU, ?_, ?_, fun i v H3 hg bt3 d3 => ?_⟩
  · intro z
    exact ne0 (List.map_eq_nil_iff.mp z)
  · rw [List.length_map]
    omega
  obtain ⟨ab, hab, rfl⟩ := get_map hg
  obtain ⟨ab1, ab2⟩ := units_mem (List.mem_of_getElem? hab)
  refine ⟨_, rfl, m, c, 34, n + 1 + 1, rfl, d3, by omega, by decide, by decide, fun r2 H4 hr2 bt4 d4 => ⟨_, _, rfl, rfl, (by show 2 ≤ sizeLine; decide), fun p hp => ?_⟩⟩
  refine ⟨p, _, rfl, SqT.of' upd_same, rfl, _, _, rfl, _, _, rfl, rfl, ?_⟩
  have sm5 : Same H4 (upd H4 p (.tup [nV ab, .int (1 + (r2 : Int))])) := same_upd hp
  have bt5 : But m H (upd H4 p (.tup [nV ab, .int (1 + (r2 : Int))])) := (((bt1.trans (but_same sm2)).trans bt3).trans bt4).trans (but_same sm5)
  have d5 := d4.same sm5
  generalize upd H4 p (.tup [nV ab, .int (1 + (r2 : Int))]) = H5 at bt5 d5
  refine ⟨_, rfl, _, rfl, _, rfl, _, rfl, m, c, 8, n + 3, rfl, d5, by omega, by decide, by decide, fun r3 H6 hr3 bt6 d6 => ⟨_, _, rfl, rfl, b, ab, r1 + 1, r3 + 1, by simp [Int.add_comm, nV], by omega, by omega, by omega, ab1, by omega, fun H7 D sm7 hD6 eD => ?_⟩⟩
  have bt7 : But m H H7 := (bt5.trans bt6).trans (but_same sm7)
  have d7 := d6.same sm7
  have hD : H D = none := by
    obtain ⟨_, _, _, _, hm6, _⟩ := d6
    exact but_free (bt5.trans bt6) hm6 hD6
  have hlen : ((digs b (r1 + 1) (r3 + 1) ab).map nV).length = r3 + 1 := by rw [List.length_map, digs_len]
  have nr := small_rng (x := r3 + 1) (by omega)
  refine ⟨_, rfl, D, _, rfl, .inl (SqL.of' eD), _, rfl, by rw [hlen]; exact nr.1, by rw [hlen]; exact nr.2, ?_⟩
  show ∃ W : Nat → Nat → L2.St → Hp → Prop, _
  rw [show Itr 0 ((((digs b (r1 + 1) (r3 + 1) ab).map nV).length : Nat) : Int).toNat = Itr 0 (r3 + 1) by rw [hlen]; rfl]
  have butD : ∀ {H' : Hp} {o : HO}, But m H H' → But m H (upd H' D o) := fun {H' o} bt y u hy e => by
    rw [upd_ne (ne_of_none e hD)]
    exact bt y u hy e
  have ncD : c ≠ D := by
    obtain ⟨_, _, _, _, _, _, _, _, _, hc, _⟩ := hd
    exact ne_of_none hc hD
  refine for_range (lo := 0) (n := r3 + 1) (fun i σ H' => ∃ v4 l, σ = [some (.ref m), some (.int (b : Int)), some (.int (1 + (r1 : Int))), some (nV ab), v4, none, none, none, none, none, none, none, none, none, some (.int (1 + (r2 : Int))), some (.ref D)] ∧ H' D = some (.lst (l.map oV)) ∧ l.length = r3 + 1 ∧ (∀ v, some v ∈ l → v < b) ∧ But m H H' ∧ Draws H' m c (n + 4 + i))
    ⟨none, (digs b (r1 + 1) (r3 + 1) ab).map some, rfl, by rw [← some_of_nV]; exact eD, by rw [List.length_map, digs_len], ?_, bt7, d7.mono (by omega)⟩ ?_ ?_
  · intro v hv
    obtain ⟨y, hy, e⟩ := List.mem_map.mp hv
    have e' : y = v := Option.some.inj e
    subst e'
    exact digs_lt (by omega) (by omega) _ _ ab1 y hy
  · rintro i σ H' hi ⟨v4, l, rfl, e, hl, hv, bt, d⟩
    refine ⟨_, rfl, m, c, 3, n + 4 + i, rfl, d, by omega, by decide, by decide, fun r H8 hr8 bt8 d8 => ⟨rfl, _, rfl, ?_⟩⟩
    have nDm : D ≠ m := by
      obtain ⟨_, _, _, _, hm, _⟩ := d
      intro z
      rw [z, hm] at e
      cases e
    have e8 := bt8 _ _ nDm e
    have fin : ∀ o : Option Nat, (∀ v, o = some v → v < b) → ∃ (v4' : Option V) (l' : List (Option Nat)), [some (V.ref m), some (.int (b : Int)), some (.int (1 + (r1 : Int))), some (nV ab), some (.int (0 + (i : Int))), none, none, none, none, none, none, none, none, none, some (.int (1 + (r2 : Int))), some (.ref D)] = [some (.ref m), some (.int (b : Int)), some (.int (1 + (r1 : Int))), some (nV ab), v4', none, none, none, none, none, none, none, none, none, some (.int (1 + (r2 : Int))), some (.ref D)] ∧
        upd H8 D (.lst ((l.map oV).set i (oV o))) D = some (.lst (l'.map oV)) ∧ l'.length = r3 + 1 ∧ (∀ v, some v ∈ l' → v < b) ∧ But m H (upd H8 D (.lst ((l.map oV).set i (oV o)))) ∧ Draws (upd H8 D (.lst ((l.map oV).set i (oV o)))) m c (n + 4 + (i + 1)) := by
      intro o ho
      refine ⟨_, l.set i o, rfl, by rw [upd_same, List.map_set], by rw [List.length_set]; exact hl, set_ok hv ho, butD (bt.trans bt8), ?_⟩
      obtain ⟨left, seed, spot, xs, hm, h1, h2, h3, h4, h5, h6⟩ := d8
      exact ⟨left, seed, spot, xs, by rw [upd_ne (Ne.symm nDm)]; exact hm, h1, h2, h3, by omega, by rw [upd_ne ncD]; exact h5, h6⟩
    by_cases z : r = 0
    · subst z
      exact ifT rfl ⟨_, rfl, _, rfl, D, _, _, i, rfl, rfl, e8, by rw [Int.zero_add, List.length_map]; exact ixN_of (by omega), fin none (fun v h => by cases h)⟩
    · refine ifF (decide_eq_false fun y => z ?_) ?_
      · injection y with y
        omega
      have hg2 : l[i]? = some l[i] := List.getElem?_eq_getElem (by omega)
      refine ⟨_, rfl, _, rfl, D, _, _, oV l[i], rfl, rfl, SqL.of' e8, ?_, _, rfl, _, rfl, D, _, _, i, rfl, rfl, e8, by rw [Int.zero_add, List.length_map]; exact ixN_of (by omega), fin l[i] (fun v h => hv v (by rw [← h]; exact List.getElem_mem _))⟩
      rw [Int.zero_add]
      exact atI_nat (by rw [List.getElem?_map, hg2]; rfl)
  rintro σ H8 ⟨v4, l, rfl, e, hl, hv, bt, d⟩
  -- a digit otherwise
  refine ⟨fun σ H' => ∃ l : List (Option Nat), σ = [some (.ref m), some (.int (b : Int)), some (.int (1 + (r1 : Int))), some (nV ab), v4, none, none, none, none, none, none, none, none, none, some (.int (1 + (r2 : Int))), some (.ref D)] ∧ H' D = some (.lst (l.map oV)) ∧ l.length = r3 + 1 ∧ (∀ v, some v ∈ l → v < b) ∧ But m H H' ∧ Draws H' m c (n + 20), ?_, ?_⟩
  · have nDm : D ≠ m := by
      obtain ⟨_, _, _, _, hm, _⟩ := d
      intro z
      rw [z, hm] at e
      cases e
    refine ⟨_, rfl, m, c, 4, n + 4 + (r3 + 1), rfl, d, by omega, by decide, by decide, fun r H9 hr9 bt9 d9 => ⟨rfl, _, rfl, ?_⟩⟩
    have e9 := bt9 _ _ nDm e
    by_cases z : r = 0
    · subst z
      refine ifT rfl ⟨_, rfl, _, rfl, m, c, b, _, rfl, d9, by omega, by omega, by omega, fun r' H10 hr10 bt10 d10 => ?_⟩
      have e10 := bt10 _ _ nDm e9
      refine ⟨_, rfl, _, rfl, _, rfl, D, _, rfl, .inl (SqL.of' e10), m, c, (l.map oV).length, _, rfl, d10, by omega, by rw [List.length_map]; omega, by rw [List.length_map]; omega, fun r'' H11 hr11 bt11 d11 => ?_⟩
      have e11 := bt11 _ _ nDm e10
      refine ⟨D, _, _, r'', rfl, rfl, e11, ixN_of hr11, l.set r'' (some r'), rfl, ?_, by rw [List.length_set]; exact hl, set_ok hv (fun v h => by injection h with h; omega), butD (((bt.trans bt9).trans bt10).trans bt11), ?_⟩
      · rw [upd_same, List.map_set]
        rfl
      · obtain ⟨left, seed, spot, xs, hm, h1, h2, h3, h4, h5, h6⟩ := d11
        exact ⟨left, seed, spot, xs, by rw [upd_ne (Ne.symm nDm)]; exact hm, h1, h2, h3, by omega, by rw [upd_ne ncD]; exact h5, h6⟩
    · refine ifF (decide_eq_false fun y => z ?_) ⟨l, rfl, e9, hl, hv, bt.trans bt9, d9.mono (by omega)⟩
      injection y with y
      omega
  rintro σ H9 ⟨l, rfl, e, hl, hv, bt, d⟩
  -- some, count
  refine ⟨_, rfl, D, _, rfl, .inl ⟨SqL.of' e, fun Tt hTt => ?_⟩⟩
  have smT : Same H9 (upd H9 Tt (.tup (l.map oV))) := same_upd hTt
  have eT : upd H9 Tt (.tup (l.map oV)) Tt = some (.tup (l.map oV)) := upd_same
  have nTm : Tt ≠ m := by
    obtain ⟨_, _, _, _, hm, _⟩ := d
    intro z
    rw [z, hm] at hTt
    cases hTt
  refine ⟨_, rfl, m, c, 14, _, rfl, d.same smT, by omega, by decide, by decide, fun cnt H10 hcnt bt10 d10 => ⟨(by show 2 ≤ sizeLine; decide), fun p hp => ?_⟩⟩
  refine ⟨p, _, rfl, SqT.of' upd_same, rfl, _, _, rfl, _, _, rfl, rfl, ?_⟩
  have smP : Same H10 (upd H10 p (.tup [.ref Tt, .int (cnt : Int)])) := same_upd hp
  have eT2 := smP _ _ (bt10 _ _ nTm eT)
  have btP : But m H (upd H10 p (.tup [.ref Tt, .int (cnt : Int)])) := ((bt.trans (but_same smT)).trans bt10).trans (but_same smP)
  have dP := d10.same smP
  generalize upd H10 p (.tup [.ref Tt, .int (cnt : Int)]) = H11 at eT2 btP dP
  have ok : SeenOk b l := ⟨b2, b1000, by omega, by omega, hv⟩
  clear smT smP bt10 d10 bt d e eT bt7 bt5
  have hs11 : SqT K H11 Tt (l.map oV) := SqT.of' eT2
  have mem : ∀ p ∈ upTo b l (r2 + 1), 0 < p.2 ∧ p.2 ≤ 5000 ∧ p.1 < p.2 := fun p hp => by
    obtain ⟨z1, z2, z3⟩ := upTo_mem hp
    omega
  have lenL : (upTo b l (r2 + 1)).length ≤ 1000 := by
    have z1 := upTo_two b l (r2 + 1)
    have z2 : (r2 + 1) * (r2 + 1 + 1) ≤ 34 * 35 := Nat.mul_le_mul (by omega) (by omega)
    omega
  have memB : ∀ p ∈ upTo b l (r2 + 1), p.1 < 1000000 ∧ p.2 < 1000000 := fun p hp => by
    have := mem p hp
    omega
  refine ⟨_, rfl, _, .tuple (l.map oD), rfl, dp_seen hs11, fine_seen ok, _, rfl, _, rfl, _, rfl, b, r2 + 1, Tt, l, by simp [Int.add_comm], hs11, by omega, by omega, by omega, fun H12 F ps sm12 hF eF pr => ⟨_, _, rfl, ?_⟩⟩
  have bt12 : But m H H12 := btP.trans (but_same sm12)
  have d12 := dP.same sm12
  have eT12 := sm12 _ _ eT2
  generalize hL : upTo b l (r2 + 1) = L at mem memB lenL pr
  -- due
  refine ⟨fun σ H' => ∃ (Du : Addr) (x1 x2 : V), σ = [some (.ref m), some (.int (b : Int)), some (.int (1 + (r1 : Int))), some (nV ab), v4, some (.str (PyData.tuple (l.map oD)).shown), some (.ref F), some (.ref Du), none, none, none, none, none, some (.int (cnt : Int)), some (.int (1 + (r2 : Int))), some (.ref Tt)] ∧
    H' Du = some (.lst [x1, x2]) ∧ Dp K H' x1 (.tuple (L.map pD)) ∧ Dp K H' x2 (qD L) ∧ H12 Du = none ∧ Same H12 H', ?_, ?_⟩
  · refine ⟨_, rfl, F, ps, rfl, .inl ⟨SqL.of' eF, fun t1 ht1 => ?_⟩⟩
    refine ⟨_, rfl, Nat.zero_le _, fun z hz => ?_⟩
    have smA : Same H12 (upd H12 t1 (.tup ps)) := same_upd ht1
    have smZ : Same (upd H12 t1 (.tup ps)) (upd (upd H12 t1 (.tup ps)) z (.lst [])) := same_upd hz
    have smB : Same H12 (upd (upd H12 t1 (.tup ps)) z (.lst [])) := smA.trans smZ
    have e1 : upd (upd H12 t1 (.tup ps)) z (.lst []) t1 = some (.tup ps) := smZ _ _ upd_same
    have ez : upd (upd H12 t1 (.tup ps)) z (.lst []) z = some (.lst []) := upd_same
    generalize upd (upd H12 t1 (.tup ps)) z (.lst []) = H13 at smB e1 ez
    have pr13 := pr.keep smB.kt
    have dt1 : Dp K H13 (.ref t1) (.tuple (L.map pD)) := .tup (SqT.of' e1) pr13.dp
    refine ⟨.list (L.map pD), .list [], .lst (SqL.of' (smB _ _ eF)) pr13.dp, .lst (SqL.of' ez) .nil, shaped_prs memB, shaped_of rfl (by decide), _, rfl, ?_⟩
    rw [eqv_nil]
    cases L with
    | nil =>
      exact ifF rfl ⟨(by show 2 ≤ sizeLine; decide), fun Du hDu => ⟨Du, _, _, rfl, upd_same, dt1.k (same_upd hDu).ks, .non, smB.free hDu, smB.upn hDu⟩⟩
    | cons p L =>
      cases ps with
      | nil => have := pr13.len; cases this
      | cons v ps =>
        obtain ⟨t, rfl, ht⟩ := pr13.head
        exact ifT rfl ⟨_, rfl, F, _, 0, _, rfl, rfl, SqL.of' (smB _ _ eF), atI0, (by show 2 ≤ sizeLine; decide), fun Du hDu => ⟨Du, _, _, rfl, upd_same, dt1.k (same_upd hDu).ks, (dp_pair ht).k (same_upd hDu).ks, smB.free hDu, smB.upn hDu⟩⟩
  rintro σ H13 ⟨Du, x1, x2, rfl, eDu, dx1, dx2, hDu, sm13⟩
  refine ⟨fun σ H' => σ = [some (.ref m), some (.int (b : Int)), some (.int (1 + (r1 : Int))), some (nV ab), v4, some (.str (PyData.tuple (l.map oD)).shown), some (.ref F), some (.ref Du), none, none, none, none, none, some (.int (cnt : Int)), some (.int (1 + (r2 : Int))), some (.ref Tt)] ∧
    Dp K H' (.ref Du) (dueD b cnt L l) ∧ Same H12 H', ?_, ?_⟩
  · refine ⟨_, rfl, .inl ⟨rfl, _, SqL.of' eDu⟩, ?_⟩
    refine ⟨_, rfl, Nat.zero_le _, fun z hz => ?_⟩
    have smZ : Same H13 (upd H13 z (.lst [])) := same_upd hz
    have ez : upd H13 z (.lst []) z = some (.lst []) := upd_same
    generalize upd H13 z (.lst []) = H14 at smZ ez
    have pr14 := pr.keep (sm13.kt.trans smZ.kt)
    have fin : ∀ (v : V) (H15 : Hp), Same H13 H15 → (∀ o, Dp K (upd H15 Du o) v (tD b cnt L l)) → ∃ (l1 : Addr) (xs : List V) (y : V), V.ref Du = .ref l1 ∧ [v] = [y] ∧ H15 l1 = some (.lst xs) ∧ xs.length < sizeLine ∧ ([some (V.ref m), some (.int (b : Int)), some (.int (1 + (r1 : Int))), some (nV ab), v4, some (.str (PyData.tuple (l.map oD)).shown), some (.ref F), some (.ref Du), none, none, none, none, none, some (.int (cnt : Int)), some (.int (1 + (r2 : Int))), some (.ref Tt)] =
        [some (V.ref m), some (.int (b : Int)), some (.int (1 + (r1 : Int))), some (nV ab), v4, some (.str (PyData.tuple (l.map oD)).shown), some (.ref F), some (.ref Du), none, none, none, none, none, some (.int (cnt : Int)), some (.int (1 + (r2 : Int))), some (.ref Tt)] ∧ Dp K (upd H15 l1 (.lst (xs ++ [y]))) (.ref Du) (dueD b cnt L l) ∧ Same H12 (upd H15 l1 (.lst (xs ++ [y])))) := by
      intro v H15 sm15 dv
      have e15 := sm15 _ _ eDu
      have k15 : KeepT H13 (upd H15 Du (.lst ([x1, x2] ++ [v]))) := sm15.kt.trans (kt_lst e15)
      refine ⟨Du, _, v, rfl, rfl, e15, line_ok (by show 2 ≤ _; decide), rfl, ?_, (sm13.trans sm15).up hDu⟩
      exact .lst (SqL.of' upd_same) (.cons (dp_keepT k15 _ _ (noL_pDs L) dx1) (.cons (dp_keepT k15 _ _ (noL_qD L) dx2) (.cons (dv _) .nil)))
    refine ⟨.list (L.map pD), .list [], .lst (SqL.of' (smZ _ _ (sm13 _ _ eF))) pr14.dp, .lst (SqL.of' ez) .nil, shaped_prs memB, shaped_of rfl (by decide), _, rfl, ?_⟩
    rw [eqv_nil]
    by_cases hne : L = []
    · subst hne
      refine ifF rfl ?_
      refine ⟨_, rfl, (by show 2 ≤ sizeLine; decide), fun y hy => fin (.ref y) _ (smZ.upn hy) fun o => ?_⟩
      have nyD : y ≠ Du := fun z => by
        rw [z, smZ _ _ eDu] at hy
        cases hy
      refine Dp.lst (xs := [V.str "nothing", V.ref Tt]) (SqL.of' ?_) (.cons (.str _) (.cons (.tup (SqT.of' ?_) (dpAll_oV l)) .nil))
      · rw [upd_ne nyD, upd_same]
      · have eT14 := smZ _ _ (sm13 _ _ eT12)
        have nTy : Tt ≠ y := ne_of_none eT14 hy
        have nTD : Tt ≠ Du := ne_of_none eT12 hDu
        rw [upd_ne nTD, upd_ne nTy]
        exact eT14
    · refine ifT ?_ ?_
      · cases L with
        | nil => exact absurd rfl hne
        | cons p L => rfl
      refine ⟨_, rfl, _, rfl, _, rfl, b, cnt, F, ps, L, rfl, SqL.of' (smZ _ _ (sm13 _ _ eF)), pr14, hne, lenL, mem, by omega, by omega, fun H15 v sm15 dv => fin v H15 (smZ.trans sm15) fun o => ?_⟩
      rw [tD_ne hne, ← sure_law b cnt hne]
      exact dp_keepT (kt_lst (sm15 _ _ (smZ _ _ eDu))) _ _ (noL_oDs _) dv
  rintro σ H15 ⟨rfl, dDue, sm15⟩
  have bt15 : But m H H15 := bt12.trans (but_same sm15)
  have d15 : Draws H15 m c (n + 21) := (d12.same sm15).mono (by omega)
  have eT15 := sm15 _ _ eT12
  have t15 : Tabs (TQ pR pH) H15 := tabs_but hT hd bt15
  have fdue : Fine (dueD b cnt L l) := fine_due ok (by omega) lenL mem
  refine ⟨2, rfl, by decide, by decide, for_range (lo := 0) (n := 2) (fun i σ H' => ∃ v8 v9, σ = [some (.ref m), some (.int (b : Int)), some (.int (1 + (r1 : Int))), some (nV ab), v4, some (.str (PyData.tuple (l.map oD)).shown), some (.ref F), some (.ref Du), v8, v9, none, none, none, some (.int (cnt : Int)), some (.int (1 + (r2 : Int))), some (.ref Tt)] ∧ ExtN H15 H' ∧ Tabs (TQ pR pH) H')
    ⟨none, none, rfl, ExtN.refl _, t15⟩ ?_ ?_⟩
  · rintro i σ H16 hi ⟨v8, v9, rfl, e16, t16⟩
    have hs16 : SqT K H16 Tt (l.map oV) := SqT.of' (e16 _ _ eT15 (fun ps z => nomatch z))
    refine ⟨_, rfl, _, rfl, _, rfl, b, r2 + 1, Tt, l, by simp [Int.add_comm], hs16, ok, by omega, by omega, ?_, fun h => by rw [hL] at h; omega⟩
    rw [hL]
    refine fun _ H17 f1 qs sm17 ef1 pq => ?_
    refine ⟨_, rfl, _, rfl, _, rfl, b, r2 + 1, Tt, l, by simp [Int.add_comm], sm17.ks.sqT hs16, ok, by omega, by omega, ?_⟩
    rw [hL]
    refine fun H18 v2 sm18 dv2 => ⟨(by show 2 ≤ sizeLine; decide), fun To hTo => ?_⟩
    have sm19 : Same H18 (upd H18 To (.lst [.ref f1, v2])) := same_upd hTo
    have eTo : upd H18 To (.lst [.ref f1, v2]) To = some (.lst [.ref f1, v2]) := upd_same
    have e19 : ExtN H15 (upd H18 To (.lst [.ref f1, v2])) := e16.trans (ext_same ((sm17.trans sm18).trans sm19))
    have t19 : Tabs (TQ pR pH) (upd H18 To (.lst [.ref f1, v2])) := tabs_same t16 ((sm17.trans sm18).trans sm19)
    have df1 : Dp K (upd H18 To (.lst [.ref f1, v2])) (.ref f1) (.tuple (L.map pD)) := .tup (sm19.ks.sqT (sm18.ks.sqT (SqT.of' ef1))) (pq.keep (sm18.kt.trans sm19.kt)).dp
    have dv2' : Dp K (upd H18 To (.lst [.ref f1, v2])) v2 (qD L) := dv2.k sm19.ks
    generalize upd H18 To (.lst [.ref f1, v2]) = H19 at eTo e19 t19 df1 dv2'
    refine ⟨_, rfl, .inl ⟨rfl, _, SqL.of' eTo⟩, t19, fun H20 e20 t20 E1 hE => ?_⟩
    have hs20 : SqT K H20 Tt (l.map oV) := SqT.of' (e20 _ _ (e19 _ _ eT15 (fun ps z => nomatch z)) (fun ps z => nomatch z))
    have rest : ∀ (v : V) (H21 : Hp), ExtN H19 H21 → Tabs (TQ pR pH) H21 → (∀ o, Dp K (upd H21 To o) v (tD b cnt L l)) → H21 To = some (.lst [.ref f1, v2]) ∧ Dp K (upd H21 To (.lst ([.ref f1, v2] ++ [v]))) (.ref To) (dueD b cnt L l) ∧
        Dp K (upd H21 To (.lst ([.ref f1, v2] ++ [v]))) (.ref Du) (dueD b cnt L l) ∧ ExtN H15 (upd H21 To (.lst ([.ref f1, v2] ++ [v]))) ∧ Tabs (TQ pR pH) (upd H21 To (.lst ([.ref f1, v2] ++ [v]))) := by
      intro v H21 e21 t21 dv
      have eTo1 := e21 _ _ eTo (fun ps z => nomatch z)
      have kk : KeepT H19 (upd H21 To (.lst ([.ref f1, v2] ++ [v]))) := (ext_ks e21).kt.trans (kt_lst eTo1)
      have ex : ExtN H15 (upd H21 To (.lst ([.ref f1, v2] ++ [v]))) := fun y u h nt => by
        have nyT : y ≠ To := fun z => by
          have h18 := sm18 _ _ (sm17 _ _ (e16 _ _ h nt))
          rw [z, hTo] at h18
          cases h18
        rw [upd_ne nyT]
        exact e21 _ _ (e19 _ _ h nt) nt
      refine ⟨eTo1, .lst (SqL.of' upd_same) (.cons (dp_keepT kk _ _ (noL_pDs L) df1) (.cons (dp_keepT kk _ _ (noL_qD L) dv2') (.cons (dv _) .nil))), dDue.k (ext_ks ex), ex, tabs_lst t21 eTo1⟩
    have same_s : (!decide (V.str (dueD b cnt L l).shown = V.str (dueD b cnt L l).shown)) = false := by
      rw [decide_eq_true rfl]
      rfl
    refine ⟨_, rfl, _, rfl, _, rfl, _, rfl, b, r2 + 1, cnt, Tt, l, by simp [Int.add_comm], hs20, ok, by omega, by omega, by omega, ?_, ?_⟩
    · rw [hL]
      intro hne H21 v sm21 dv
      obtain ⟨z1, z2, z3, z4, z5⟩ := rest v H21 (e20.trans (ext_same sm21)) (tabs_same t20 sm21) fun o => by
        rw [tD_ne hne]
        exact dp_keepT (kt_lst (sm21 _ _ (e20 _ _ eTo (fun ps z => nomatch z)))) _ _ (noL_oDs _) dv
      refine ⟨To, _, v, rfl, rfl, z1, line_ok (by show 2 ≤ _; decide), ?_⟩
      exact ⟨_, rfl, _, dueD b cnt L l, rfl, z2, fdue, _, rfl, _, dueD b cnt L l, rfl, z3, fdue, rfl, _, rfl, ifF same_s ⟨_, _, rfl, z4, z5⟩⟩
    · rw [hL]
      intro hnil H21 d sm21 hd21
      refine hE _ _ _ (.inl ⟨rfl, d, _, rfl, hd21, fun p hp => ?_⟩)
      have smp : Same H21 (upd H21 p (.lst [.str "nothing", .ref Tt])) := same_upd hp
      obtain ⟨z1, z2, z3, z4, z5⟩ := rest (.ref p) (upd H21 p (.lst [.str "nothing", .ref Tt])) ((e20.trans (ext_same sm21)).trans (ext_same smp)) (tabs_same (tabs_same t20 sm21) smp) fun o => by
        have eTo2 := sm21 _ _ (e20 _ _ eTo (fun ps z => nomatch z))
        have npT : p ≠ To := fun z => by
          rw [z, eTo2] at hp
          cases hp
        rw [tD_nil hnil]
        refine Dp.lst (xs := [V.str "nothing", V.ref Tt]) (SqL.of' ?_) (.cons (.str _) (.cons (.tup (((kt_lst (smp _ _ eTo2)).sqT (smp.ks.sqT (sm21.ks.sqT hs20)))) (dpAll_oV l)) .nil))
        rw [upd_ne npT, upd_same]
      refine ⟨To, _, .ref p, rfl, rfl, z1, line_ok (by show 2 ≤ _; decide), ?_⟩
      exact ⟨_, rfl, _, dueD b cnt L l, rfl, z2, fdue, _, rfl, _, dueD b cnt L l, rfl, z3, fdue, rfl, _, rfl, ifF same_s ⟨_, _, rfl, z4, z5⟩⟩
  · rintro σ H22 ⟨v8, v9, rfl, e22, t22⟩
    have d22 := draws_ext d15 e22
    have hs22 : SqT K H22 Tt (l.map oV) := SqT.of' (e22 _ _ eT15 (fun ps z => nomatch z))
    have x22 : XtN m H H22 := (xt_but bt15).trans (xt_ext e22)
    refine ⟨4, rfl, by decide, by decide, for_range (lo := 0) (n := 4) (fun i σ H' => ∃ v10 v11 v12, σ = [some (.ref m), some (.int (b : Int)), some (.int (1 + (r1 : Int))), some (nV ab), v4, some (.str (PyData.tuple (l.map oD)).shown), some (.ref F), some (.ref Du), v8, v9, v10, v11, v12, some (.int (cnt : Int)), some (.int (1 + (r2 : Int))), some (.ref Tt)] ∧ But m H22 H' ∧ Draws H' m c (n + 21 + 2 * i))
      ⟨none, none, none, rfl, but_same (Same.refl _), d22⟩ ?_ ?_⟩
    · rintro i σ H23 hi ⟨v10, v11, v12, rfl, bt23, d23⟩
      refine ⟨_, rfl, m, c, 60, _, rfl, d23, by omega, by decide, by decide, fun r H24 hr24 bt24 d24 => ⟨_, _, rfl, rfl, ?_⟩⟩
      refine ⟨_, rfl, _, rfl, r + 1, by simp [Int.add_comm], by omega, fun H25 U2 sm25 hU2 eU2 => ?_⟩
      have ne2 := units_ne (n := r + 1) (by omega)
      have nl2 := units_len (r + 1) (r + 1)
      refine ⟨m, c, U2, _, _, rfl, d24.same sm25, by omega, SqL.of' eU2, fun z => ne2 (List.map_eq_nil_iff.mp z), by rw [List.length_map]; omega, fun i2 v H26 hg2 bt26 d26 => ?_⟩
      obtain ⟨ab', hab', rfl⟩ := get_map hg2
      obtain ⟨u1, u2⟩ := units_mem (List.mem_of_getElem? hab')
      refine ⟨_, rfl, (by show 2 ≤ sizeLine; decide), fun p hp => ?_⟩
      have smp : Same H26 (upd H26 p (.tup [nV ab', .int (1 + (r : Int))])) := same_upd hp
      have bt27 : But m H22 (upd H26 p (.tup [nV ab', .int (1 + (r : Int))])) := (((bt23.trans bt24).trans (but_same sm25)).trans bt26).trans (but_same smp)
      have d27 := d26.same smp
      have ep : SqT K (upd H26 p (.tup [nV ab', .int (1 + (r : Int))])) p [.int (ab' : Int), .int ((r + 1 : Nat) : Int)] := SqT.of' (by
        rw [upd_same]
        show some (HO.tup [.int (ab' : Int), .int (1 + (r : Int))]) = some (HO.tup [.int (ab' : Int), .int ((r + 1 : Nat) : Int)])
        rw [Int.add_comm]
        rfl)
      generalize upd H26 p (.tup [nV ab', .int (1 + (r : Int))]) = H27 at bt27 d27 ep
      have hs27 : SqT K H27 Tt (l.map oV) := (d22.ks bt27).sqT hs22
      refine ⟨_, rfl, _, rfl, _, rfl, b, ab', r + 1, p, Tt, l, rfl, hs27, ok, ep, u1, by omega, u2, fun H28 sm28 => ?_⟩
      refine ⟨_, .bool _, rfl, .bl _, fine_bool _, ?_⟩
      refine ⟨_, rfl, _, rfl, p, _, 0, _, rfl, rfl, sm28.ks.sqT ep, atI0, _, rfl, _, rfl, b, ab', r + 1, Tt, l, by simp [Int.add_comm], sm28.ks.sqT hs27, by omega, by omega, by omega, by omega, u1, fun H29 sm29 => ?_⟩
      refine ⟨_, .bool _, rfl, .bl _, fine_bool _, rfl, _, rfl, ifF ?_ ⟨_, _, _, rfl, (bt27.trans (but_same sm28)).trans (but_same sm29), ((d27.same sm28).same sm29).mono (by omega)⟩⟩
      rw [decide_eq_true rfl]
      rfl
    · rintro σ H30 ⟨v10, v11, v12, rfl, bt30, d30⟩
      have hs30 : SqT K H30 Tt (l.map oV) := (d22.ks bt30).sqT hs22
      have t30 : Tabs (TQ pR pH) H30 := tabs_but t22 d22 bt30
      refine ⟨_, rfl, _, rfl, b, Tt, l, rfl, hs30, ok, fun H31 sm31 => ?_⟩
      have hs31 := sm31.ks.sqT hs30
      refine ⟨_, .tuple (l.map oD), rfl, dp_seen hs31, fine_seen ok, _, rfl, rfl, _, rfl, ifT (decide_eq_true rfl) ?_⟩
      refine ⟨_, rfl, _, .tuple (l.map oD), rfl, dp_seen hs31, fine_seen ok, _, rfl, rfl, ?_⟩
      show Q (.bl (decide (V.str (PyData.tuple (l.map oD)).shown = V.str (PyData.tuple (l.map oD)).shown))) H31
      rw [decide_eq_true rfl]
      exact q H31 ((x22.trans (xt_but bt30)).trans (xt_but (but_same sm31))) (tabs_same t30 sm31)
end
end K44

/-! Expressions whose value is known data. -/
namespace K44
open PySem PySem.Spec PyProof.Rows L2
/-- the value is these data; what was tracked stays -/
def tDat (K : PySem.W.Frag) (d : PyData) : TE := fun _ H Q => ∀ v H', Same H H' → Dp K H' v d → Q v H'
def tDats (K : PySem.W.Frag) (ds : List PyData) : TA := fun _ H Q => ∀ vs H', Same H H' → DpAll K H' vs ds → Q vs H'
def tSay (b : Bool) : TT := fun _ H Q => ∀ H', Same H H' → Q b H'
theorem PEimp {X : Cx} {e : Expr} {t t' : TE} (h : PE X e t) (i : ∀ (σ : L2.St) (H : Hp) (Q : VK), t' σ H Q → t σ H Q) : PE X e t' := ⟨fun pins s σ H Q I q => h.run pins s σ H Q I (i σ H Q q)⟩
theorem PTimp {X : Cx} {e : Expr} {t t' : TT} (h : PT X e t) (i : ∀ (σ : L2.St) (H : Hp) (Q : Bool → Hp → Prop), t' σ H Q → t σ H Q) : PT X e t' := ⟨fun pins s σ H Q I q => h.run pins s σ H Q I (i σ H Q q)⟩
theorem PAimp {X : Cx} {es : List Expr} {t t' : TA} (h : PA X es t) (i : ∀ (σ : L2.St) (H : Hp) (Q : List V → Hp → Prop), t' σ H Q → t σ H Q) : PA X es t' := ⟨fun pos pins s σ H Q I q => h.run pos pins s σ H Q I (i σ H Q q)⟩
section
variable {X : Cx} {K : PySem.W.Frag}
theorem pd_int {i : Int} {k : Nat} {pos : Pos} : PE X (.Constant (.int i) k pos) (tDat K (.int i)) := PEimp pe_int fun σ H Q h => h _ H (Same.refl H) (.int i)
theorem pd_non {k : Nat} {pos : Pos} : PE X (.Constant .none k pos) (tDat K .none) := PEimp pe_non fun σ H Q h => h _ H (Same.refl H) .non
theorem pd_bl {b : Bool} {k : Nat} {pos : Pos} : PE X (.Constant (.bool b) k pos) (tDat K (.bool b)) := PEimp pe_bl fun σ H Q h => h _ H (Same.refl H) (.bl b)
theorem pd_str {z : Str} {k : Nat} {pos : Pos} : PE X (.Constant (.str z) k pos) (tDat K (.str z)) := PEimp pe_str fun σ H Q h => h _ H (Same.refl H) (.str z)
theorem pds_nil : PA X [] (tDats K []) := PAimp pa_nil fun σ H Q h => h [] H (Same.refl H) .nil
theorem pds_of {es : List Expr} {e : Expr} {d : PyData} {ds : List PyData} (h : PA X (e :: es) (tCons (tDat K d) (tDats K ds))) : PA X (e :: es) (tDats K (d :: ds)) := PAimp h fun σ H Q q v H1 s1 dv vs H2 s2 dvs => q (v :: vs) H2 (s1.trans s2) (.cons (dv.k s2.ks) dvs)
theorem pd_tup {es : List Expr} {ds : List PyData} {x1 : Nat} {pos : Pos} (h : PA X es (tDats K ds)) (hl : ds.length ≤ 1000) : PE X (.Tuple es x1 pos) (tDat K (.tuple ds)) := PEimp (pe_tup h) fun σ H Q q vs H1 s1 dvs =>
  ⟨by rw [dvs.length]; exact Nat.le_of_lt (line_ok (by omega)), fun p hp => q _ _ (s1.upn hp) (.tup (SqT.of' upd_same) (dvs.k (same_upd hp).ks))⟩
theorem pd_lst {es : List Expr} {ds : List PyData} {pos : Pos} (h : PA X es (tDats K ds)) (hl : ds.length ≤ 1000) : PE X (.List es pos) (tDat K (.list ds)) := PEimp (pe_lst h) fun σ H Q q vs H1 s1 dvs =>
  ⟨by rw [dvs.length]; exact Nat.le_of_lt (line_ok (by omega)), fun p hp => q _ _ (s1.upn hp) (.lst (SqL.of' upd_same) (dvs.k (same_upd hp).ks))⟩
theorem dpAll_rep {H : Hp} {vs : List V} {ds : List PyData} (h : DpAll K H vs ds) : ∀ k : Nat, DpAll K H (List.replicate k vs).flatten (List.replicate k ds).flatten
  | 0 => .nil
  | k + 1 => by
    rw [List.replicate_succ, List.replicate_succ, List.flatten_cons, List.flatten_cons]
    exact h.app (dpAll_rep h k)
theorem pd_rep {e : Expr} {ds : List PyData} {k : Nat} {j : Nat} {p pos : Pos} (h : PE X e (tDat X.K (.tuple ds))) (hd : ds ≠ []) (h2 : 2 ≤ k) (hk : k ≤ 1000) (hl : ds.length ≤ 1000) : PE X (.BinOp e .Mult (.Constant (.int (k : Int)) j p) pos) (tDat X.K (.tuple (List.replicate k ds).flatten)) := PEimp (pe_op op_repT h pe_int) fun σ H Q q v H1 s1 dv => by
  cases dv with
  | tup hs ha =>
    rename_i a xs
    have hne : xs ≠ [] := fun z => by
      rw [z] at ha
      cases ha
      exact hd rfl
    refine ⟨a, (k : Int), xs, rfl, rfl, hs, hne, by omega, by omega, by rw [ha.length]; exact hl, fun p hp => q _ _ (s1.upn hp) (.tup (SqT.of' upd_same) ?_)⟩
    rw [Int.toNat_natCast]
    exact (dpAll_rep ha k).k (same_upd hp).ks
/-- e != e2, both these data -/
theorem pt_same {e e2 : Expr} {d : PyData} {pos : Pos} (hu : X.A.units + 64 < cLine) (h1 : PE X e (tDat X.K d)) (h2 : PE X e2 (tDat X.K d)) (hs : SeqAt.shaped d = true) (he : PyData.eqv d d = true) : PT X (.Compare e [.NotEq] [e2] pos) (tSay false) :=
  PTimp (pt_cmpR (op_neD hu) h1 h2 (nomark _)) fun σ H Q q v H1 s1 d1 u H2 s2 d2 => ⟨d, d, d1.k s2.ks, d2, hs, hs, false, by rw [he]; rfl, q H2 (s1.trans s2)⟩
theorem seen_of {H : Hp} : ∀ {l : List (Option Nat)} {xs : List V}, DpAll K H xs (l.map oD) → xs = l.map oV
  | [], _, h => by cases h; rfl
  | o :: l, _, h => by
    cases h with
    | cons h1 h2 =>
      rw [seen_of h2]
      cases o with
      | none => cases h1; rfl
      | some v => cases h1; rfl
theorem seen_at {H : Hp} {v : V} {l : List (Option Nat)} (h : Dp K H v (.tuple (l.map oD))) : ∃ s, v = .ref s ∧ SqT K H s (l.map oV) := by
  cases h with
  | tup hs ha =>
    rw [seen_of ha] at hs
    exact ⟨_, rfl, hs⟩
end
section
variable {K : PySem.W.Frag} {b m n : Nat} {l : List (Option Nat)} {σ : L2.St} {H : Hp} {Q : VK} {CG CN : Addr} {E : XK}
theorem imp_simplest {d : PyData} (ok : SeenOk b l) (m1 : 1 ≤ m) (m2 : m ≤ 200) (e : qD (upTo b l m) = d) (h : tDat K d σ H Q) : tCall (spSimplest K) [] E (tCons (tC (.int (b : Int))) (tCons (tDat K (.tuple (l.map oD))) (tCons (tC (.int (m : Int))) tNil))) σ H Q := by
  intro v H1 s1 dv
  obtain ⟨s, rfl, hs⟩ := seen_at dv
  exact ⟨b, m, s, l, rfl, hs, ok, m1, m2, fun H' v s2 d2 => h v H' (s1.trans s2) (e ▸ d2)⟩
theorem imp_fitting {L : List (Nat × Nat)} (ok : SeenOk b l) (m1 : 1 ≤ m) (m2 : m ≤ 200) (e : upTo b l m = L) (hL : L.length ≤ 1000) (h : tDat K (.tuple (L.map pD)) σ H Q) : tCall (spFitting K CG) [] E (tCons (tC (.int (b : Int))) (tCons (tDat K (.tuple (l.map oD))) (tCons (tC (.int (m : Int))) tNil))) σ H Q := by
  subst e
  intro v H1 s1 dv
  obtain ⟨s, rfl, hs⟩ := seen_at dv
  exact ⟨b, m, s, l, rfl, hs, ok, m1, m2, fun _ H' f ps s2 ef pr => h (.ref f) H' (s1.trans s2) (.tup (SqT.of' ef) pr.dp), fun z => by omega⟩
theorem imp_sure {ds : List PyData} (ok : SeenOk b l) (m1 : 1 ≤ m) (m2 : m ≤ 200) (n1 : n ≤ 60) (hne : (upTo b l m).isEmpty = false) (e : (sure b n (upTo b l m)).map oD = ds) (h : tDat K (.tuple ds) σ H Q) : tCall (spSure K CN) [] E (tCons (tC (.int (b : Int))) (tCons (tDat K (.tuple (l.map oD))) (tCons (tC (.int (m : Int))) (tCons (tC (.int (n : Int))) tNil)))) σ H Q := by
  subst e
  intro v H1 s1 dv
  obtain ⟨s, rfl, hs⟩ := seen_at dv
  refine ⟨b, m, n, s, l, rfl, hs, ok, m1, m2, n1, fun _ H' v s2 d2 => h v H' (s1.trans s2) d2, fun z => ?_⟩
  rw [z] at hne
  cases hne
theorem imp_fits {p : Nat × Nat} {r : Bool} (ok : SeenOk b l) (h1 : p.1 < p.2) (h2 : p.2 ≤ 5000) (hg : Nat.gcd p.1 p.2 = 1) (e : fitP b p.2 l p.1 = r) (h : tDat K (.bool r) σ H Q) : tCall (spFits K) [] E (tCons (tC (.int (b : Int))) (tCons (tDat K (pD p)) (tCons (tDat K (.tuple (l.map oD))) tNil))) σ H Q := by
  subst e
  intro v H1 s1 dv u H2 s2 du
  obtain ⟨t, rfl, ht⟩ := dp_pair_of dv
  obtain ⟨s, rfl, hs⟩ := seen_at du
  exact ⟨b, p.1, p.2, t, s, l, rfl, hs, ok, s2.ks.sqT ht, h1, h2, hg, fun H' s3 => h _ H' ((s1.trans s2).trans s3) (.bl _)⟩
def seenB (b : Nat) (l : List (Option Nat)) : Bool := decide (2 ≤ b) && decide (b ≤ 1000) && decide (1 ≤ l.length) && decide (l.length ≤ 20) && l.all fun o => match o with
  | none => true
  | some v => decide (v < b)
theorem seen_by (h : seenB b l = true) : SeenOk b l := by
  unfold seenB at h
  simp only [Bool.and_eq_true, decide_eq_true_eq, List.all_eq_true] at h
  obtain ⟨⟨⟨⟨h1, h2⟩, h3⟩, h4⟩, h5⟩ := h
  exact ⟨h1, h2, h3, h4, fun v hv => by simpa using h5 _ hv⟩
end
end K44

/-! The examples' values. -/
namespace K44
open PySem PySem.Spec PyProof.Rows L2
theorem qD_head {L : List (Nat × Nat)} {p : Nat × Nat} (h : L.head? = some p) : qD L = pD p := by
  cases L with
  | nil => cases h
  | cons q L =>
    have e : q = p := Option.some.inj h
    subst e
    rfl
theorem ne_head {L : List (Nat × Nat)} {p : Nat × Nat} (h : L.head? = some p) : L.isEmpty = false := by
  cases L with
  | nil => cases h
  | cons q L => rfl
theorem qD_nil {L : List (Nat × Nat)} (h : L = []) : qD L = .none := by
  subst h
  rfl
theorem f_1 : upTo 10 [some 1, some 4] 10 = [(1, 7)] := by decide +kernel
theorem f_2 : (upTo 10 [some 1, some 4, some 3] 200).head? = some (19, 132) := by decide +kernel
theorem f_3 : (upTo 10 [some 3] 20).head? = some (1, 3) := by decide +kernel
theorem f_4 : (upTo 10 [none, some 4, none, some 8] 20).head? = some (1, 7) := by decide +kernel
theorem f_5 : upTo 10 [some 9, some 9, some 9] 60 = [] := by decide +kernel
theorem f_6 : (upTo 10 [none] 1).head? = some (0, 1) := by decide +kernel
theorem f_7 : upTo 10 [none, none] 3 = [(0, 1), (1, 2), (1, 3), (2, 3)] := by decide +kernel
theorem f_8 : upTo 10 [some 1, some 4, some 2] 20 = [(1, 7)] := by decide +kernel
theorem f_9 : upTo 10 [none] 2 = [(0, 1), (1, 2)] := by decide +kernel
theorem f_10 : upTo 10 (List.replicate 20 (some 0)) 200 = [(0, 1)] := by decide +kernel
theorem f_11 : upTo 10 [some 5] 2 = [(1, 2)] := by decide +kernel
theorem f_12 : (upTo 10 [none] 57).length = 1000 := by decide +kernel
theorem f_13 : 1000 < (upTo 10 [none] 58).length := by decide +kernel
theorem f_14 : sure 10 2 (upTo 10 [none] 60) = [none, none] := by decide +kernel
theorem f_14e : (upTo 10 [none] 60).head? = some (0, 1) := by decide +kernel
theorem f_15 : sure 10 2 (upTo 10 [some 0] 40) = [some 0, none] := by decide +kernel
theorem f_15e : (upTo 10 [some 0] 40).head? = some (0, 1) := by decide +kernel
theorem g_8 : sure 10 8 (upTo 10 [some 1, some 4, some 2] 20) = [some 1, some 4, some 2, some 8, some 5, some 7, some 1, some 4] := by rw [f_8]; decide +kernel
theorem g_9 : sure 10 3 (upTo 10 [none] 2) = [none, some 0, some 0] := by rw [f_9]; decide +kernel
theorem g_10 : sure 10 60 (upTo 10 (List.replicate 20 (some 0)) 200) = List.replicate 60 (some 0) := by rw [f_10]; decide +kernel
theorem g_11 : sure 10 0 (upTo 10 [some 5] 2) = [] := by rw [f_11]; decide +kernel
theorem h_1 : fitP 1000 4999 [some 0, some 200, some 40, none, some 1] 1 = true := by decide +kernel
theorem h_2 : fitP 2 3 (List.replicate 10 [some 0, some 1]).flatten 1 = true := by decide +kernel
theorem h_3 : fitP 2 3 [some 1, some 0] 1 = false := by decide +kernel
theorem e_8 : (upTo 10 [some 1, some 4, some 2] 20).isEmpty = false := by rw [f_8]; rfl
theorem e_9 : (upTo 10 [none] 2).isEmpty = false := by rw [f_9]; rfl
theorem e_10 : (upTo 10 (List.replicate 20 (some 0)) 200).isEmpty = false := by rw [f_10]; rfl
theorem e_11 : (upTo 10 [some 5] 2).isEmpty = false := by rw [f_11]; rfl
end K44

/-! The law's examples by hand. -/
namespace K44
open PySem PySem.Spec PyProof.Rows L2
open LamX (CodeO TabS Tabs ExtN TabB tLam lamEnv lamCx)
/-- not there, or a table -/
def New (H : Hp) (p : Addr) : Prop := ∀ o, H p = some o → ∃ ps, o = .tbl ps
theorem new_of {H H1 : Hp} {p : Addr} (e : ExtN H H1) (h : H1 p = none) : New H p := fun o ho => by
  cases o with
  | tbl ps => exact ⟨ps, rfl⟩
  | _ =>
    have := e _ _ ho (fun ps z => nomatch z)
    rw [h] at this
    cases this
theorem ext_new {H H1 : Hp} {p : Addr} {o : HO} (e : ExtN H H1) (n : New H p) : ExtN H (upd H1 p o) := fun b u h nt => by
  have hb : b ≠ p := fun z => by
    obtain ⟨ps, hps⟩ := n u (by rw [← z]; exact h)
    exact nt ps hps
  rw [upd_ne hb]
  exact e _ _ h nt
theorem ext_lay {H H1 : Hp} {p : Addr} {o : HO} (e : ExtN H H1) (h : H1 p = none) : ExtN H (upd H1 p o) := ext_new e (new_of e h)
theorem few {n : Nat} (h : n ≤ 1000) : n ≤ sizeLine := Nat.le_of_lt (line_ok (by omega))
def d3 : PyData := .list [.tuple [.int 1, .int 3], .tuple [.int 1, .int 7], .none, .tuple [.int 0, .int 1]]
def dG : PyData := .list [.list [.str "great", .int 1000], .list [.str "nothing", .tuple [.int 9, .int 9, .int 9]]]
def dB : PyData := .list [.bool true, .bool true, .bool false]
theorem fine_dB : Fine dB := ⟨by decide +kernel, by decide +kernel, by decide +kernel⟩
def spHand (pR pH : Addr) : Sp := fun vs H Q _ => vs = [] ∧ Tabs (TQ pR pH) H ∧ ∀ H', ExtN H H' → Tabs (TQ pR pH) H' → Q (.bl true) H'
section
variable {P : Program} {w : World} {K : PySem.W.Frag} {mg : Str → Option Value} {base : Heap} {a : Ad} {cR pR cH pH : Addr}
theorem ok_law_hand_right (T : Txt P K mg a) (x : Tx mg base a cR pR cH pH) : FnG P w K mg base CX0 9 a.law_hand_right a.d_law_hand_right [] (spHand pR pH) := by
  refine FnG.ok T.f_law_hand_right.F sc_law_hand_right (fun vs H Q E h => ?_) (fun cdv A outer s H vs Q E hgu hci hex hr h => ?_)
  · obtain ⟨rfl, _⟩ := h
    rfl
  have hcd : cdv = .ref cH := by
    obtain ⟨_, _, _, _, e⟩ := hex
    exact e.symm.trans x.codeH
  refine ⟨_, PSs.nox ((pss_cons (ps_if (PW.pt (pw_or (pt_same (d := (.tuple [(.tuple [(.int 1), (.int 7)])])) hr.units (PEimp (pe_call (E := L2.E0) (ok_fitting T) (hr.mono (by decide)) rfl T.f_fitting.g T.f_fitting.F.kp (b_fitting T) .nil (passes_call LamX.takes0 (fun _ _ _ _ h => h)) (pa_cons pe_int (pa_cons (pd_tup (K := K) (pds_of (pa_cons pd_int (pds_of (pa_cons pd_int pds_nil)))) (by decide)) (pa_cons pe_int pa_nil)))) (fun σ H Q h => imp_fitting (b := 10) (m := 10) (l := [some 1, some 4]) (seen_by (by decide)) (by decide) (by decide) f_1 (by decide) h)) (pd_tup (K := K) (pds_of (pa_cons (pd_tup (K := K) (pds_of (pa_cons pd_int (pds_of (pa_cons pd_int pds_nil)))) (by decide)) pds_nil)) (by decide)) (by decide +kernel) (by decide +kernel)) (pw_or1 (pt_same (d := (.tuple [(.int 19), (.int 132)])) hr.units (PEimp (pe_call (E := L2.E0) (ok_simplest T) (hr.mono (by decide)) rfl T.f_simplest.g T.f_simplest.F.kp (b_simplest T) .nil pass0 (pa_cons pe_int (pa_cons (pd_tup (K := K) (pds_of (pa_cons pd_int (pds_of (pa_cons pd_int (pds_of (pa_cons pd_int pds_nil)))))) (by decide)) (pa_cons pe_int pa_nil)))) (fun σ H Q h => imp_simplest (b := 10) (m := 200) (l := [some 1, some 4, some 3]) (seen_by (by decide)) (by decide) (by decide) (qD_head f_2) h)) (pd_tup (K := K) (pds_of (pa_cons pd_int (pds_of (pa_cons pd_int pds_nil)))) (by decide)) (by decide +kernel) (by decide +kernel))))) (pss_one (ps_ret pe_bl)) pss_nil)
      (pss_cons (ps_set (i := 0) sc_law_hand_right.nd rfl (Or.inl rfl) (pe_lst (pds_of (pa_cons (PEimp (pe_call (E := L2.E0) (ok_simplest T) (hr.mono (by decide)) rfl T.f_simplest.g T.f_simplest.F.kp (b_simplest T) .nil pass0 (pa_cons pe_int (pa_cons (pd_tup (K := K) (pds_of (pa_cons pd_int (pds_nil (K := K)))) (by decide)) (pa_cons pe_int pa_nil)))) (fun σ H Q h => imp_simplest (b := 10) (m := 20) (l := [some 3]) (seen_by (by decide)) (by decide) (by decide) (qD_head f_3) h)) (pds_of (pa_cons (PEimp (pe_call (E := L2.E0) (ok_simplest T) (hr.mono (by decide)) rfl T.f_simplest.g T.f_simplest.F.kp (b_simplest T) .nil pass0 (pa_cons pe_int (pa_cons (pd_tup (K := K) (pds_of (pa_cons pd_non (pds_of (pa_cons pd_int (pds_of (pa_cons pd_non (pds_of (pa_cons pd_int (pds_nil (K := K)))))))))) (by decide)) (pa_cons pe_int pa_nil)))) (fun σ H Q h => imp_simplest (b := 10) (m := 20) (l := [none, some 4, none, some 8]) (seen_by (by decide)) (by decide) (by decide) (qD_head f_4) h)) (pds_of (pa_cons (PEimp (pe_call (E := L2.E0) (ok_simplest T) (hr.mono (by decide)) rfl T.f_simplest.g T.f_simplest.F.kp (b_simplest T) .nil pass0 (pa_cons pe_int (pa_cons (pd_tup (K := K) (pds_of (pa_cons pd_int (pds_of (pa_cons pd_int (pds_of (pa_cons pd_int (pds_nil (K := K)))))))) (by decide)) (pa_cons pe_int pa_nil)))) (fun σ H Q h => imp_simplest (b := 10) (m := 60) (l := [some 9, some 9, some 9]) (seen_by (by decide)) (by decide) (by decide) (qD_nil f_5) h)) (pds_nil (K := K))))))))))
      (pss_cons (ps_expr (pe_bm PySem.F.plainAttrs_list PySem.F.slot_list_append PySem.F.type_list_append mt_append (pv 0) (pa_cons (PEimp (pe_call (E := L2.E0) (ok_simplest T) (hr.mono (by decide)) rfl T.f_simplest.g T.f_simplest.F.kp (b_simplest T) .nil pass0 (pa_cons pe_int (pa_cons (pd_tup (K := K) (pds_of (pa_cons pd_non pds_nil)) (by decide)) (pa_cons pe_int pa_nil)))) (fun σ H Q h => imp_simplest (b := 10) (m := 1) (l := [none]) (seen_by (by decide)) (by decide) (by decide) (qD_head f_6) h)) pa_nil)))
      (pss_cons (ps_if (PW.pt (pw_or (pt_cmpR (op_neD hr.units) (pv 0) (pd_lst (K := K) (pds_of (pa_cons (pd_tup (K := K) (pds_of (pa_cons pd_int (pds_of (pa_cons pd_int pds_nil)))) (by decide)) (pds_of (pa_cons (pd_tup (K := K) (pds_of (pa_cons pd_int (pds_of (pa_cons pd_int pds_nil)))) (by decide)) (pds_of (pa_cons pd_non (pds_of (pa_cons (pd_tup (K := K) (pds_of (pa_cons pd_int (pds_of (pa_cons pd_int pds_nil)))) (by decide)) pds_nil)))))))) (by decide)) (nomark _)) (pw_or1 (pt_same (d := (.tuple [(.tuple [(.int 0), (.int 1)]), (.tuple [(.int 1), (.int 2)]), (.tuple [(.int 1), (.int 3)]), (.tuple [(.int 2), (.int 3)])])) hr.units (PEimp (pe_call (E := L2.E0) (ok_fitting T) (hr.mono (by decide)) rfl T.f_fitting.g T.f_fitting.F.kp (b_fitting T) .nil (passes_call LamX.takes0 (fun _ _ _ _ h => h)) (pa_cons pe_int (pa_cons (pd_tup (K := K) (pds_of (pa_cons pd_non (pds_of (pa_cons pd_non pds_nil)))) (by decide)) (pa_cons pe_int pa_nil)))) (fun σ H Q h => imp_fitting (b := 10) (m := 3) (l := [none, none]) (seen_by (by decide)) (by decide) (by decide) f_7 (by decide) h)) (pd_tup (K := K) (pds_of (pa_cons (pd_tup (K := K) (pds_of (pa_cons pd_int (pds_of (pa_cons pd_int pds_nil)))) (by decide)) (pds_of (pa_cons (pd_tup (K := K) (pds_of (pa_cons pd_int (pds_of (pa_cons pd_int pds_nil)))) (by decide)) (pds_of (pa_cons (pd_tup (K := K) (pds_of (pa_cons pd_int (pds_of (pa_cons pd_int pds_nil)))) (by decide)) (pds_of (pa_cons (pd_tup (K := K) (pds_of (pa_cons pd_int (pds_of (pa_cons pd_int pds_nil)))) (by decide)) pds_nil)))))))) (by decide)) (by decide +kernel) (by decide +kernel))))) (pss_one (ps_ret pe_bl)) pss_nil)
      (pss_cons (ps_set (i := 0) sc_law_hand_right.nd rfl (Or.inl rfl) (pe_lst (pds_of (pa_cons (PEimp (pe_call (E := L2.E0) (ok_sure_digits T) (hr.mono (by decide)) rfl T.f_sure_digits.g T.f_sure_digits.F.kp (b_sure_digits T) .nil (passes_call LamX.takes0 (fun _ _ _ _ h => h)) (pa_cons pe_int (pa_cons (pd_tup (K := K) (pds_of (pa_cons pd_int (pds_of (pa_cons pd_int (pds_of (pa_cons pd_int (pds_nil (K := K)))))))) (by decide)) (pa_cons pe_int (pa_cons pe_int pa_nil))))) (fun σ H Q h => imp_sure (b := 10) (m := 20) (n := 8) (l := [some 1, some 4, some 2]) (seen_by (by decide)) (by decide) (by decide) (by decide) e_8 (congrArg (List.map oD) g_8) h)) (pds_of (pa_cons (PEimp (pe_call (E := L2.E0) (ok_sure_digits T) (hr.mono (by decide)) rfl T.f_sure_digits.g T.f_sure_digits.F.kp (b_sure_digits T) .nil (passes_call LamX.takes0 (fun _ _ _ _ h => h)) (pa_cons pe_int (pa_cons (pd_tup (K := K) (pds_of (pa_cons pd_non (pds_nil (K := K)))) (by decide)) (pa_cons pe_int (pa_cons pe_int pa_nil))))) (fun σ H Q h => imp_sure (b := 10) (m := 2) (n := 3) (l := [none]) (seen_by (by decide)) (by decide) (by decide) (by decide) e_9 (congrArg (List.map oD) g_9) h)) (pds_of (pa_cons (PEimp (pe_call (E := L2.E0) (ok_sure_digits T) (hr.mono (by decide)) rfl T.f_sure_digits.g T.f_sure_digits.F.kp (b_sure_digits T) .nil (passes_call LamX.takes0 (fun _ _ _ _ h => h)) (pa_cons pe_int (pa_cons (pd_rep (k := 20) (pd_tup (K := K) (pds_of (pa_cons pd_int (pds_nil (K := K)))) (by decide)) (by intro z; cases z) (by decide) (by decide) (by decide)) (pa_cons pe_int (pa_cons pe_int pa_nil))))) (fun σ H Q h => imp_sure (b := 10) (m := 200) (n := 60) (l := (List.replicate 20 (some 0))) (seen_by (by decide)) (by decide) (by decide) (by decide) e_10 (congrArg (List.map oD) g_10) h)) (pds_nil (K := K))))))))))
      (pss_cons (ps_if (PW.pt (pw_or (pt_cmpR (op_neD hr.units) (pv 0) (pd_lst (K := K) (pds_of (pa_cons (pd_tup (K := K) (pds_of (pa_cons pd_int (pds_of (pa_cons pd_int (pds_of (pa_cons pd_int (pds_of (pa_cons pd_int (pds_of (pa_cons pd_int (pds_of (pa_cons pd_int (pds_of (pa_cons pd_int (pds_of (pa_cons pd_int pds_nil)))))))))))))))) (by decide)) (pds_of (pa_cons (pd_tup (K := K) (pds_of (pa_cons pd_non (pds_of (pa_cons pd_int (pds_of (pa_cons pd_int pds_nil)))))) (by decide)) (pds_of (pa_cons (pd_rep (k := 60) (pd_tup (K := K) (pds_of (pa_cons pd_int pds_nil)) (by decide)) (by intro z; cases z) (by decide) (by decide) (by decide)) pds_nil)))))) (by decide)) (nomark _)) (pw_or1 (pt_same (d := (.tuple [])) hr.units (PEimp (pe_call (E := L2.E0) (ok_sure_digits T) (hr.mono (by decide)) rfl T.f_sure_digits.g T.f_sure_digits.F.kp (b_sure_digits T) .nil (passes_call LamX.takes0 (fun _ _ _ _ h => h)) (pa_cons pe_int (pa_cons (pd_tup (K := K) (pds_of (pa_cons pd_int pds_nil)) (by decide)) (pa_cons pe_int (pa_cons pe_int pa_nil))))) (fun σ H Q h => imp_sure (b := 10) (m := 2) (n := 0) (l := [some 5]) (seen_by (by decide)) (by decide) (by decide) (by decide) e_11 (congrArg (List.map oD) g_11) h)) (pd_tup (K := K) pds_nil (by decide)) (by decide +kernel) (by decide +kernel))))) (pss_one (ps_ret pe_bl)) pss_nil)
      (pss_cons (ps_set (i := 0) sc_law_hand_right.nd rfl (Or.inl rfl) (pe_lst (pa_cons (pe_heard0 (T0 := TQ pR pH) (t := fun E => tCall (spFitting K a.CG) [] E (tCons (tC (.int 10)) (tCons (tTup (tCons (tC .non) tNil)) (tCons (tC (.int 57)) tNil)))) T rfl x.tbH hcd (TQ_memH) (TQ_oneH x.ne) (hr.mono (by decide)) (lamN_by (N := ["told"]) (sc := defScope s_law_hand_right) (by decide +kernel)) rfl (fun _ _ _ _ _ _ => rfl) (fun A outer s H E f c' hr => pe_call (ok_fitting T) hr rfl T.f_fitting.g T.f_fitting.F.kp (b_fitting T) .nil (passes_call (takes_of rfl rfl rfl rfl) (fun _ _ _ _ h => h)) (pa_cons pe_int (pa_cons (pe_tup (pa_cons pe_non pa_nil)) (pa_cons pe_int pa_nil))))) (pa_cons (pe_heard1 (T0 := TQ pR pH) (t := fun E => tCall (spFitting K a.CG) [] E (tCons (tC (.int 10)) (tCons (tTup (tCons (tC .non) tNil)) (tCons (tC (.int 58)) tNil)))) T rfl x.tbH hcd (TQ_memH) (TQ_oneH x.ne) (hr.mono (by decide)) (lamN_by (N := ["told"]) (sc := defScope s_law_hand_right) (by decide +kernel)) rfl rfl pe_int (b := "a") rfl (fun _ _ _ _ _ _ _ _ _ _ _ ho hd => BindsTo.of_defaults rfl ho hd rfl rfl) (fun A outer s H E f c' hr => pe_call (ok_fitting T) hr rfl T.f_fitting.g T.f_fitting.F.kp (b_fitting T) .nil (passes_call (takes_of rfl rfl rfl rfl) (fun _ _ _ _ h => h)) (pa_cons pe_int (pa_cons (pe_tup (pa_cons pe_non pa_nil)) (pa_cons pe_int pa_nil))))) pa_nil))))
      (pss_cons (ps_expr (pe_bm PySem.F.plainAttrs_list PySem.F.slot_list_append PySem.F.type_list_append mt_append (pv 0) (pa_cons (pe_heard0 (T0 := TQ pR pH) (t := fun E => tCall (spSure K a.CN) [] E (tCons (tC (.int 10)) (tCons (tTup (tCons (tC (.int 9)) (tCons (tC (.int 9)) (tCons (tC (.int 9)) tNil)))) (tCons (tC (.int 60)) (tCons (tC (.int 5)) tNil))))) T rfl x.tbH hcd (TQ_memH) (TQ_oneH x.ne) (hr.mono (by decide)) (lamN_by (N := ["told"]) (sc := defScope s_law_hand_right) (by decide +kernel)) rfl (fun _ _ _ _ _ _ => rfl) (fun A outer s H E f c' hr => pe_call (ok_sure_digits T) hr rfl T.f_sure_digits.g T.f_sure_digits.F.kp (b_sure_digits T) .nil (passes_call (takes_of rfl rfl rfl rfl) (fun _ _ _ _ h => h)) (pa_cons pe_int (pa_cons (pe_tup (pa_cons pe_int (pa_cons pe_int (pa_cons pe_int pa_nil)))) (pa_cons pe_int (pa_cons pe_int pa_nil)))))) pa_nil)))
      (pss_cons (ps_if (PW.pt (pw_or (pt_cmpR (op_neD hr.units) (pe_slice sl_list (pv 0) (po_some pe_int) po_none) (pd_lst (K := K) (pds_of (pa_cons (pd_lst (K := K) (pds_of (pa_cons pd_str (pds_of (pa_cons pd_int pds_nil)))) (by decide)) (pds_of (pa_cons (pd_lst (K := K) (pds_of (pa_cons pd_str (pds_of (pa_cons (pd_tup (K := K) (pds_of (pa_cons pd_int (pds_of (pa_cons pd_int (pds_of (pa_cons pd_int pds_nil)))))) (by decide)) pds_nil)))) (by decide)) pds_nil)))) (by decide)) (nomark _)) (pw_or1 (pt_cmpR op_ne (pe_callB call_len_seq rfl T.n_len (by decide +kernel) (pa_cons (pe_ix ix_list (pv 0) pe_int (fun _ _ => rfl)) pa_nil)) pe_int (nomark _))))) (pss_one (ps_ret pe_bl)) pss_nil)
      (pss_cons (ps_if (PW.pt (pw_or (pt_same (d := (.tuple [.none, .none])) hr.units (PEimp (pe_call (E := L2.E0) (ok_sure_digits T) (hr.mono (by decide)) rfl T.f_sure_digits.g T.f_sure_digits.F.kp (b_sure_digits T) .nil (passes_call LamX.takes0 (fun _ _ _ _ h => h)) (pa_cons pe_int (pa_cons (pd_tup (K := K) (pds_of (pa_cons pd_non pds_nil)) (by decide)) (pa_cons pe_int (pa_cons pe_int pa_nil))))) (fun σ H Q h => imp_sure (b := 10) (m := 60) (n := 2) (l := [none]) (seen_by (by decide)) (by decide) (by decide) (by decide) (ne_head f_14e) (congrArg (List.map oD) f_14) h)) (pd_tup (K := K) (pds_of (pa_cons pd_non (pds_of (pa_cons pd_non pds_nil)))) (by decide)) (by decide +kernel) (by decide +kernel)) (pw_or1 (pt_same (d := (.tuple [(.int 0), .none])) hr.units (PEimp (pe_call (E := L2.E0) (ok_sure_digits T) (hr.mono (by decide)) rfl T.f_sure_digits.g T.f_sure_digits.F.kp (b_sure_digits T) .nil (passes_call LamX.takes0 (fun _ _ _ _ h => h)) (pa_cons pe_int (pa_cons (pd_tup (K := K) (pds_of (pa_cons pd_int pds_nil)) (by decide)) (pa_cons pe_int (pa_cons pe_int pa_nil))))) (fun σ H Q h => imp_sure (b := 10) (m := 40) (n := 2) (l := [some 0]) (seen_by (by decide)) (by decide) (by decide) (by decide) (ne_head f_15e) (congrArg (List.map oD) f_15) h)) (pd_tup (K := K) (pds_of (pa_cons pd_int (pds_of (pa_cons pd_non pds_nil)))) (by decide)) (by decide +kernel) (by decide +kernel))))) (pss_one (ps_ret pe_bl)) pss_nil)
      (pss_cons (ps_set (i := 0) sc_law_hand_right.nd rfl (Or.inl rfl) (pe_lst (pds_of (pa_cons (PEimp (pe_call (E := L2.E0) (ok_fits T) (hr.mono (by decide)) rfl T.f_fits.g T.f_fits.F.kp (b_fits T) .nil pass0 (pa_cons pe_int (pa_cons (pd_tup (K := K) (pds_of (pa_cons pd_int (pds_of (pa_cons pd_int (pds_nil (K := K)))))) (by decide)) (pa_cons (pd_tup (K := K) (pds_of (pa_cons pd_int (pds_of (pa_cons pd_int (pds_of (pa_cons pd_int (pds_of (pa_cons pd_non (pds_of (pa_cons pd_int (pds_nil (K := K)))))))))))) (by decide)) pa_nil)))) (fun σ H Q h => imp_fits (b := 1000) (p := (1, 4999)) (l := [some 0, some 200, some 40, none, some 1]) (seen_by (by decide)) (by decide) (by decide) (by decide) h_1 h)) (pds_of (pa_cons (PEimp (pe_call (E := L2.E0) (ok_fits T) (hr.mono (by decide)) rfl T.f_fits.g T.f_fits.F.kp (b_fits T) .nil pass0 (pa_cons pe_int (pa_cons (pd_tup (K := K) (pds_of (pa_cons pd_int (pds_of (pa_cons pd_int (pds_nil (K := K)))))) (by decide)) (pa_cons (pd_rep (k := 10) (pd_tup (K := K) (pds_of (pa_cons pd_int (pds_of (pa_cons pd_int (pds_nil (K := K)))))) (by decide)) (by intro z; cases z) (by decide) (by decide) (by decide)) pa_nil)))) (fun σ H Q h => imp_fits (b := 2) (p := (1, 3)) (l := (List.replicate 10 [some 0, some 1]).flatten) (seen_by (by decide)) (by decide) (by decide) (by decide) h_2 h)) (pds_of (pa_cons (PEimp (pe_call (E := L2.E0) (ok_fits T) (hr.mono (by decide)) rfl T.f_fits.g T.f_fits.F.kp (b_fits T) .nil pass0 (pa_cons pe_int (pa_cons (pd_tup (K := K) (pds_of (pa_cons pd_int (pds_of (pa_cons pd_int (pds_nil (K := K)))))) (by decide)) (pa_cons (pd_tup (K := K) (pds_of (pa_cons pd_int (pds_of (pa_cons pd_int (pds_nil (K := K)))))) (by decide)) pa_nil)))) (fun σ H Q h => imp_fits (b := 2) (p := (1, 3)) (l := [some 1, some 0]) (seen_by (by decide)) (by decide) (by decide) (by decide) h_3 h)) (pds_nil (K := K))))))))))
      (pss_one (ps_ret (pe_cmpR op_eq (pe_callB (call_reprD hgu hr.units) rfl T.n_repr (by decide +kernel) (pa_cons (pv 0) pa_nil)) (pe_callB (call_reprD hgu hr.units) rfl T.n_repr (by decide +kernel) (pa_cons (pe_lst (pds_of (pa_cons pd_bl (pds_of (pa_cons pd_bl (pds_of (pa_cons pd_bl (pds_nil (K := K))))))))) pa_nil)) (nomark _)))))))))))))))), ?_⟩
  obtain ⟨rfl, hT, q⟩ := h
  refine fun H1 s1 => iteF (fun H2 s2 => iteF ?_)
  have e2 : ExtN H H2 := ext_same (s1.trans s2)
  have t2 := tabs_same hT (s1.trans s2)
  clear s1 s2
  -- simplest, four times
  refine fun vs H3 s3 dvs => ⟨by rw [dvs.length]; exact few (by decide), fun To hTo => ?_⟩
  have e3 := e2.trans (ext_same s3)
  have t3 := tabs_same t2 s3
  have nTo := new_of e3 hTo
  refine ⟨_, rfl, .inl ⟨rfl, _, SqL.of' upd_same⟩, fun v H4 s4 dv => ?_⟩
  have eTo := s4 _ _ (upd_same (H := H3) (a := To) (o := .lst vs))
  refine ⟨To, vs, v, rfl, rfl, eTo, by rw [dvs.length]; exact line_ok (by decide), ?_⟩
  refine ⟨_, rfl, fun u H5 s5 du => ?_⟩
  have k5 : KeepT H4 H5 := (kt_lst (o := .lst (vs ++ [v])) eTo).trans s5.kt
  have k3 : KeepT H3 H5 := ((same_upd hTo).kt.trans s4.kt).trans k5
  refine ⟨d3, d3, .lst (SqL.of' (s5 _ _ upd_same)) ((dpAll_keepT k3 [pD (1, 3), pD (1, 7), .none] _ (by decide +kernel) dvs).app (.one (dp_keepT k5 (pD (0, 1)) _ (noL_pD _) dv))), du, by decide +kernel, by decide +kernel, false, congrArg V.bl (by decide +kernel), iteF (fun H6 s6 => iteF ?_)⟩
  have e6 : ExtN H H6 := ((ext_new ((ext_lay e3 hTo).trans (ext_same s4)) nTo).trans (ext_same s5)).trans (ext_same s6)
  have t6 : Tabs (TQ pR pH) H6 := tabs_same (tabs_same (tabs_lst (tabs_same (tabs_same t3 (same_upd hTo)) s4) eTo) s5) s6
  clear k5 k3 eTo nTo e3 t3 e2 t2
  -- sure digits, three times
  refine fun vs7 H7 s7 dvs7 => ⟨by rw [dvs7.length]; exact few (by decide), fun To2 hTo2 => ?_⟩
  have e7 : ExtN H (upd H7 To2 (.lst vs7)) := ext_lay (e6.trans (ext_same s7)) hTo2
  have t7 := tabs_same (tabs_same t6 s7) (same_upd (o := .lst vs7) hTo2)
  refine ⟨_, rfl, fun u8 H8 s8 du8 => ?_⟩
  refine ⟨_, _, .lst (SqL.of' (s8 _ _ upd_same)) ((dvs7.k (same_upd hTo2).ks).k s8.ks), du8, by decide +kernel, by decide +kernel, false, congrArg V.bl (by decide +kernel), iteF (fun H9 s9 => iteF ?_)⟩
  have e9 : ExtN H H9 := (e7.trans (ext_same s8)).trans (ext_same s9)
  have t9 : Tabs (TQ pR pH) H9 := tabs_same (tabs_same t7 s8) s9
  clear e7 t7 e6 t6
  -- heard, three times
  refine ⟨t9, fun H10 e10 t10 E1 hE1 => ⟨few (by show 1 ≤ 1000; decide), fun p1 hp1 => ?_⟩⟩
  have f10 := e9.trans e10
  refine ⟨10, 57, p1, [none], rfl, SqT.of' upd_same, seen_by (by decide), by decide, by decide, fun _ H11 f ps s11 ef pr => ?_, fun z => by rw [f_12] at z; exact absurd z (by decide)⟩
  have f11 := (ext_lay (o := .tup [.non]) f10 hp1).trans (ext_same s11)
  have t11 := tabs_same (tabs_same t10 (same_upd (o := .tup [.non]) hp1)) s11
  refine ⟨t11, fun H12 e12 t12 E2 hE2 => ⟨few (by show 1 ≤ 1000; decide), fun p2 hp2 => ?_⟩⟩
  have f12 := f11.trans e12
  have ef12 := e12 _ _ ef (fun ps z => nomatch z)
  refine ⟨10, 58, p2, [none], rfl, SqT.of' upd_same, seen_by (by decide), by decide, by decide, fun z => absurd f_13 (by omega), fun _ H13 d s13 hd13 => hE2 _ _ _ (.inr ⟨rfl, d, _, rfl, hd13, fun g hg => ⟨few (by show 2 ≤ 1000; decide), fun To3 hTo3 => ?_⟩⟩)⟩
  have f13 := (ext_lay (o := .tup [.non]) f12 hp2).trans (ext_same s13)
  have t13 := tabs_same (tabs_same t12 (same_upd (o := .tup [.non]) hp2)) s13
  have ef13 := s13 _ _ (same_upd (o := .tup [.non]) hp2 _ _ ef12)
  have smg : Same H13 (upd H13 g (.lst [.str "great", .int 1000])) := same_upd hg
  have eg : upd H13 g (.lst [.str "great", .int 1000]) g = some (.lst [.str "great", .int 1000]) := upd_same
  have f14 := f13.trans (ext_same smg)
  have t14 := tabs_same t13 smg
  have ef14 := smg _ _ ef13
  generalize upd H13 g (.lst [.str "great", .int 1000]) = H14 at smg eg f14 t14 ef14 hTo3
  have nTo3 := new_of f14 hTo3
  have smT : Same H14 (upd H14 To3 (.lst [.ref f, .ref g])) := same_upd hTo3
  have eT : upd H14 To3 (.lst [.ref f, .ref g]) To3 = some (.lst [.ref f, .ref g]) := upd_same
  have ngT : g ≠ To3 := ne_of_none eg hTo3
  have nfT : f ≠ To3 := ne_of_none ef14 hTo3
  have f15 := f14.trans (ext_same smT)
  have t15 := tabs_same t14 smT
  have eg15 := smT _ _ eg
  have ef15 := smT _ _ ef14
  generalize upd H14 To3 (.lst [.ref f, .ref g]) = H15 at eT f15 t15 eg15 ef15
  refine ⟨_, rfl, .inl ⟨rfl, _, SqL.of' eT⟩, t15, fun H16 e16 t16 E3 hE3 => ⟨few (by show 3 ≤ 1000; decide), fun p3 hp3 => ?_⟩⟩
  have f16 := f15.trans e16
  refine ⟨10, 60, 5, p3, [some 9, some 9, some 9], rfl, SqT.of' upd_same, seen_by (by decide), by decide, by decide, by decide, fun z => absurd f_5 z, fun _ H17 d2 s17 hd17 => hE3 _ _ _ (.inl ⟨rfl, d2, _, rfl, hd17, fun g2 hg2 => ?_⟩)⟩
  have smp : Same H16 (upd H16 p3 (.tup [.int 9, .int 9, .int 9])) := same_upd hp3
  have ep3 : upd H16 p3 (.tup [.int 9, .int 9, .int 9]) p3 = some (.tup [.int 9, .int 9, .int 9]) := upd_same
  have f17 := (f16.trans (ext_same smp)).trans (ext_same s17)
  have t17 := tabs_same (tabs_same t16 smp) s17
  have smg2 : Same H17 (upd H17 g2 (.lst [.str "nothing", .ref p3])) := same_upd hg2
  have eg2 : upd H17 g2 (.lst [.str "nothing", .ref p3]) g2 = some (.lst [.str "nothing", .ref p3]) := upd_same
  have sall : Same H16 (upd H17 g2 (.lst [.str "nothing", .ref p3])) := (smp.trans s17).trans smg2
  have eT18 := sall _ _ (e16 _ _ eT (fun ps z => nomatch z))
  have eg18 := sall _ _ (e16 _ _ eg15 (fun ps z => nomatch z))
  have ef18 := sall _ _ (e16 _ _ ef15 (fun ps z => nomatch z))
  have ep18 := smg2 _ _ (s17 _ _ ep3)
  have f18 := f17.trans (ext_same smg2)
  have t18 := tabs_same t17 smg2
  have ng2T : g2 ≠ To3 := fun z => by
    have h := s17 _ _ (smp _ _ (e16 _ _ eT (fun ps z => nomatch z)))
    rw [← z, hg2] at h
    cases h
  generalize upd H17 g2 (.lst [.str "nothing", .ref p3]) = H18 at eg2 eT18 eg18 ef18 ep18 f18 t18
  refine ⟨To3, _, .ref g2, rfl, rfl, eT18, line_ok (by show 2 ≤ _; decide), ?_⟩
  have f19 := ext_new (o := .lst ([.ref f, .ref g] ++ [.ref g2])) f18 nTo3
  have t19 := tabs_lst (o := .lst ([.ref f, .ref g] ++ [.ref g2])) t18 eT18
  have eT19 : upd H18 To3 (.lst ([.ref f, .ref g] ++ [.ref g2])) To3 = some (.lst [.ref f, .ref g, .ref g2]) := upd_same
  have eg19 : upd H18 To3 (.lst ([.ref f, .ref g] ++ [.ref g2])) g = some (.lst [.str "great", .int 1000]) := by rw [upd_ne ngT]; exact eg18
  have ef19 : upd H18 To3 (.lst ([.ref f, .ref g] ++ [.ref g2])) f = some (.tup ps) := by rw [upd_ne nfT]; exact ef18
  have eg219 : upd H18 To3 (.lst ([.ref f, .ref g] ++ [.ref g2])) g2 = some (.lst [.str "nothing", .ref p3]) := by rw [upd_ne ng2T]; exact eg2
  have ep19 : upd H18 To3 (.lst ([.ref f, .ref g] ++ [.ref g2])) p3 = some (.tup [.int 9, .int 9, .int 9]) := by
    rw [upd_ne (fun z => by rw [z, eT18] at ep18; cases ep18)]
    exact ep18
  generalize upd H18 To3 (.lst ([.ref f, .ref g] ++ [.ref g2])) = H19 at f19 t19 eT19 eg19 ef19 eg219 ep19
  refine ⟨_, rfl, 1, rfl, To3, _, rfl, SqL.of' eT19, fun c hc => ?_⟩
  rw [cut_tail]
  have smc : Same H19 (upd H19 c (.lst [.ref g, .ref g2])) := same_upd hc
  have ec : upd H19 c (.lst [.ref g, .ref g2]) c = some (.lst [.ref g, .ref g2]) := upd_same
  refine fun u20 H20 s20 du20 => ?_
  have sc := smc.trans s20
  refine ⟨dG, dG, .lst (SqL.of' (s20 _ _ ec)) (.cons (.lst (SqL.of' (sc _ _ eg19)) (.cons (.str _) (.cons (.int _) .nil))) (.cons (.lst (SqL.of' (sc _ _ eg219)) (.cons (.str _) (.cons (.tup (SqT.of' (sc _ _ ep19)) (.cons (.int 9) (.cons (.int 9) (.cons (.int 9) .nil)))) .nil))) .nil)), du20, by decide +kernel, by decide +kernel, false, congrArg V.bl (by decide +kernel), iteF ?_⟩
  refine ⟨_, rfl, To3, _, 0, _, rfl, rfl, SqL.of' (sc _ _ eT19), atI0, f, ps, rfl, .inr (SqT.of' (sc _ _ ef19)), rfl, _, rfl, ifF ?_ ?_⟩
  · have hl := pr.len
    rw [f_12] at hl
    rw [hl]
    decide
  have f20 := f19.trans (ext_same sc)
  have t20 := tabs_same t19 sc
  refine fun H21 s21 => iteF (fun H22 s22 => iteF ?_)
  -- fits, three times
  refine fun vs H23 s23 dvs => ⟨by rw [dvs.length]; exact few (by decide), fun To4 hTo4 => ?_⟩
  have s24 : Same H23 (upd H23 To4 (.lst vs)) := same_upd hTo4
  refine ⟨_, rfl, _, dB, rfl, .lst (SqL.of' upd_same) (dvs.k s24.ks), fine_dB, ?_⟩
  refine fun vs2 H25 s25 dvs2 => ⟨by rw [dvs2.length]; exact few (by decide), fun p4 hp4 => ?_⟩
  have s26 : Same H25 (upd H25 p4 (.lst vs2)) := same_upd hp4
  refine ⟨_, dB, rfl, .lst (SqL.of' upd_same) (dvs2.k s26.ks), fine_dB, rfl, ?_⟩
  have sz := ((((s21.trans s22).trans s23).trans s24).trans s25).trans s26
  show Q (.bl (decide (V.str dB.shown = V.str dB.shown))) _
  rw [decide_eq_true rfl]
  exact q _ (f20.trans (ext_same sz)) (tabs_same t20 sz)
end
end K44

/-! The law. -/
namespace K44
open PySem PySem.Spec PyProof.Rows L2
open LamX (CodeO TabS Tabs ExtN TabB tLam lamEnv lamCx)
theorem sqL_xt {K : PySem.W.Frag} {H H' : Hp} {m s : Addr} {xs : List V} (h : SqL K H s xs) (x : XtN m H H') (hm : H m = none) : SqL K H' s xs := by
  rcases h with (h | ⟨o, h⟩) | h
  · exact .inl (.inl (x _ _ (ne_of_none h hm) h (fun ps z => nomatch z)))
  · exact .inl (.inr ⟨o, x _ _ (ne_of_none h hm) h (fun ps z => nomatch z)⟩)
  · exact .inr h
def spLaw (K : PySem.W.Frag) (pR pH : Addr) : Sp := fun vs H Q _ => ∃ (s : Addr) (ns : List Int), vs = [.ref s] ∧ SqL K H s (ns.map V.int) ∧ ns.length ≤ 1000 ∧ Tabs (TQ pR pH) H ∧ ∀ H', Q (.bl true) H'
section
variable {P : Program} {w : World} {K : PySem.W.Frag} {mg : Str → Option Value} {base : Heap} {a : Ad} {cR pR cH pH : Addr}
theorem ok_law (T : Txt P K mg a) (x : Tx mg base a cR pR cH pH) : FnG P w K mg base CX0 10 a.law a.d_law ["script"] (spLaw K pR pH) := by
  refine FnG.ok T.f_law.F sc_law (fun vs H Q E h => ?_) (fun cdv A outer s H vs Q E hgu hci hex hr h => ?_)
  · obtain ⟨_, _, rfl, _⟩ := h
    rfl
  refine ⟨_, PSs.nox ((pss_cons (ps_for PassesOwn.never rfl (pi_range1 rfl T.n_range (pa_cons (pe_op op_add pe_int (pe_callB (call_min2 rfl) rfl T.n_min (by decide +kernel) (pa_cons (pe_callB call_len_seq rfl T.n_len (by decide +kernel) (pa_cons (pv 0) pa_nil)) (pa_cons pe_int pa_nil)))) pa_nil)) (pg_name (i := 1) sc_law.nd rfl (Or.inl rfl)) (pss_cons (ps_set (i := 2) sc_law.nd rfl (Or.inl rfl) (pe_call (ok_law_begun T) (hr.mono (by decide)) rfl T.f_law_begun.g T.f_law_begun.F.kp (b_law_begun T) .nil pass0 (pa_cons (pv 0) (pa_cons (pv 1) pa_nil))))
      (pss_one (ps_if (pt_not (pt_val (pe_callG (ok_law_right T x) hgu (hr.mono (by decide)) rfl T.f_law_right.g T.f_law_right.F.kp (b_law_right T) pass0 (pa_cons (pv 2) (pa_cons (pe_call (ok_law_of T) (hr.mono (by decide)) rfl T.f_law_of.g T.f_law_of.F.kp (b_law_of T) .nil pass0 (pa_cons (pv 2) (pa_cons (pe_lst (pa_cons pe_int (pa_cons pe_int (pa_cons pe_int (pa_cons pe_int (pa_cons pe_int (pa_cons (pe_op op_add pe_int (pe_call (ok_law_draw T) (hr.mono (by decide)) rfl T.f_law_draw.g T.f_law_draw.F.kp (b_law_draw T) .nil pass0 (pa_cons (pv 2) (pa_cons pe_int pa_nil)))) pa_nil))))))) pa_nil))) pa_nil))))) (pss_one (ps_ret pe_bl)) pss_nil))))
      (pss_one (ps_ret (pe_callG0 (ok_law_hand_right T x) hgu (hr.mono (by decide)) rfl T.f_law_hand_right.g T.f_law_hand_right.F.kp (b_law_hand_right T) pass0))))), ?_⟩
  obtain ⟨s, ns, rfl, hs, hl, hT, q⟩ := h
  refine ⟨_, rfl, s, _, rfl, .inl hs, _, _, rfl, _, _, rfl, rfl, _, rfl, ?_, ?_, ?_⟩
  · rw [List.length_map]
    have e : (2 : Int) ^ 62 = 4611686018427387904 := by decide
    rw [e]
    split <;> omega
  · rw [List.length_map]
    have e : (2 : Int) ^ 62 = 4611686018427387904 := by decide
    rw [e]
    split <;> omega
  have hn : (2 + (if (5 : Int) < ((ns.map V.int).length : Nat) then 5 else (((ns.map V.int).length : Nat) : Int))).toNat ≤ 7 := by
    split <;> omega
  show ∃ W : Nat → Nat → L2.St → Hp → Prop, _
  generalize (2 + (if (5 : Int) < ((ns.map V.int).length : Nat) then 5 else (((ns.map V.int).length : Nat) : Int))).toNat = n at hn
  refine for_range (lo := 0) (n := n) (fun i σ H' => ∃ v1 v2, σ = [some (.ref s), v1, v2] ∧ SqL K H' s (ns.map V.int) ∧ Tabs (TQ pR pH) H')
    ⟨none, none, rfl, hs, hT⟩ ?_ ?_
  · rintro i σ H1 hi ⟨v1, v2, rfl, hs1, t1⟩
    refine ⟨_, rfl, _, rfl, s, ns, i, by simp, hs1, hl, by omega, fun H2 m c s2 hm d2 => ?_⟩
    have x2 : XtN m H1 H2 := xt_but (but_same s2)
    have t2 := tabs_same t1 s2
    refine ⟨_, rfl, _, rfl, _, rfl, m, c, 999, 0, rfl, d2, by omega, by decide, by decide, fun r H3 hr3 b3 d3 => ⟨_, _, rfl, rfl, few (by show 6 ≤ 1000; decide), fun p hp => ?_⟩⟩
    have s4 : Same H3 (upd H3 p (.lst [.int 2, .int 2, .int 3, .int 10, .int 10, .int (2 + (r : Int))])) := same_upd hp
    refine ⟨m, c, p, 1, _, rfl, d3.same s4, by omega, SqL.of' upd_same, (by intro z; cases z), (by show 6 < 1073741824; decide), fun j v H5 hg b5 d5 => ?_⟩
    have t5 : Tabs (TQ pR pH) H5 := tabs_but t2 d2 ((b3.trans (but_same s4)).trans b5)
    have x5 : XtN m H1 H5 := x2.trans (xt_but ((b3.trans (but_same s4)).trans b5))
    obtain ⟨b, rfl, hb1, hb2⟩ : ∃ b : Nat, v = .int (b : Int) ∧ 2 ≤ b ∧ b ≤ 1000 := by
      match j, hg with
      | 0, hg => exact ⟨2, (Option.some.inj hg).symm, by decide, by decide⟩
      | 1, hg => exact ⟨2, (Option.some.inj hg).symm, by decide, by decide⟩
      | 2, hg => exact ⟨3, (Option.some.inj hg).symm, by decide, by decide⟩
      | 3, hg => exact ⟨10, (Option.some.inj hg).symm, by decide, by decide⟩
      | 4, hg => exact ⟨10, (Option.some.inj hg).symm, by decide, by decide⟩
      | 5, hg => exact ⟨2 + r, (Option.some.inj hg).symm, by omega, by omega⟩
      | j + 6, hg => simp at hg
    refine ⟨m, c, b, 2, rfl, hb1, hb2, d5, by omega, t5, fun H6 x6 t6 => ⟨true, rfl, iteF ⟨_, _, rfl, ?_, t6⟩⟩⟩
    exact sqL_xt hs1 (x5.trans x6) hm
  · rintro σ H1 ⟨v1, v2, rfl, hs1, t1⟩
    exact ⟨rfl, t1, fun H' _ _ => q H'⟩
end
end K44

/-! The end of the law's row: the law's def is called where no repr is under way. -/
namespace K44
open PySem PySem.Spec PyProof.Rows L2
theorem law_callG {P : Program} {w : World} {K : PySem.W.Frag} {mg mb : Str → Option Value} {CX : CXT} {k : Nat} {fa a : Addr} {cs : List (Addr × Addr)} {fd : FuncData} {x : Str} {sp : Sp} {s₁ : Shared} {vs : List Value} {ns : List Int}
    (KX : K.In s₁.heap) (hns : s₁.heap.Ns mainGlobals mg) (hb : s₁.heap.Ns builtinsNs mb) (hbb : ∀ x : Str, x ≠ "__name__" → mb x = bootBuiltins x) (hlim : s₁.heap.NoLimit) (hg : s₁.gens = #[])
    (hT : ∀ p ∈ cs, s₁.heap.get? p.2 = some { cls := .none, data := .fields #[] }) (nT : ∀ p ∈ cs, K.lookup p.2 = none) (C : ∀ p ∈ cs, PySem.W.CodeHd s₁.heap p.1 p.2)
    (hbm : ∃ (bm : Addr) (ob : Obj), mg "__builtins__" = some (.ref bm) ∧ bm ≠ builtinsNs ∧ s₁.heap.get? bm = some ob ∧ ob.cls = .type "module" ∧ ob.dict = some builtinsNs ∧ ob.data = .plain)
    (ha : s₁.heap.get? a = some { cls := .type "list", data := .seq vs.toArray }) (hi : IntsAre vs ns) (hl : ns.length ≤ sizeLine) (hr : Room k callerA)
    (F : ∀ base : Heap, K.In base → base.Ns mainGlobals mg → (∀ p ∈ cs, LamX.TabB base mg p.1 p.2) → FnG P w K mg base CX k fa fd [x] sp) (hbind : ∀ (s : Shared) (u : Value), BindsTo s fd ⟨[u], []⟩ [(x, u)])
    (hsp : ∀ H : Hp, (∀ p ∈ cs, H p.2 = some (.tbl #[])) → SqL K H a (ns.map V.int) → sp [.ref a] H (fun v _ => v = .bl true) fun _ _ _ => False)
    (hCX : ∀ H e s', CX [] H s₁ (fun _ _ _ => False) e s' → False) :
    codeAny (model P w) callerA (.call (.ref fa) ⟨[.ref a], []⟩) (fun r s' => r = .ok (.ret (.bool true)) ∧ OldK s₁.heap s'.heap ∧ s'.os = s₁.os ∧ AllBare s'.gens) s₁ := by
  have rv := vals_ints hi
  have lenV := hi.length
  have isT : ∀ b : Addr, b ∈ cs.map (·.2) → s₁.heap.get? b = some { cls := .none, data := .fields #[] } := fun b hb => by
    obtain ⟨p, hp, e⟩ := List.mem_map.mp hb
    rw [← e]
    exact hT p hp
  have aT : a ∉ cs.map (·.2) := fun z => by
    have q := isT a z
    rw [ha] at q
    have z' : Data.seq vs.toArray _ = Data.fields #[] := congrArg Obj.data (Option.some.inj q)
    cases z'
  have memT : ∀ p ∈ cs, p.2 ∈ cs.map (·.2) := fun p hp => List.mem_map.mpr ⟨p, hp, rfl⟩
  -- from an abstract heap in which nothing but the script and the tables may be tracked
  have core : ∀ H : Hp, (∀ p ∈ cs, H p.2 = some (.tbl #[])) → (∀ b, H b = none ∨ b ∈ cs.map (·.2) ∨ ∃ o xs, H b = some (.frz o (.lst xs))) → SqL K H a (ns.map V.int) → HOk P w H s₁.heap → (∀ b, H b ≠ none → b = a ∨ b ∈ cs.map (·.2)) → (H a ≠ none → K.lookup a = none) →
      codeAny (model P w) callerA (.call (.ref fa) ⟨[.ref a], []⟩) (fun r s' => r = .ok (.ret (.bool true)) ∧ OldK s₁.heap s'.heap ∧ s'.os = s₁.os ∧ AllBare s'.gens) s₁ := by
    intro H hH hO hS hok hA hK
    have base_of : ∀ {b : Addr} {o : Obj}, s₁.heap.get? b = some o → H b = none → (hidT s₁.heap H).get? b = some o := fun e n => hidT_get e n
    have noD : ∀ {b : Addr} {o : Obj}, s₁.heap.get? b = some o → (∀ vs n, o.data ≠ .seq vs n) → o.data ≠ .fields #[] → H b = none := fun {b o} e h1 h2 => by
      cases q : H b with
      | none => rfl
      | some u =>
        rcases hA b (by rw [q]; simp) with e' | e'
        · rw [e', ha] at e
          cases e
          exact (h1 _ _ rfl).elim
        · rw [isT b e'] at e
          cases e
          exact (h2 rfl).elim
    have noA : ∀ {b : Addr} {o : Obj} {es : Array DictEntry} {ep : Nat}, s₁.heap.get? b = some o → o.data = .dict es ep → H b = none := fun {b o es ep} e d => by
      refine noD e (fun vs n z => ?_) fun z => ?_
      · rw [d] at z
        cases z
      · rw [d] at z
        cases z
    have nsK : ∀ {b : Addr} {m : Str → Option Value}, s₁.heap.Ns b m → (hidT s₁.heap H).Ns b m := fun {b m} ⟨o, es, ep, e, d, r⟩ => ⟨o, es, ep, base_of e (noA e d), d, r⟩
    have hKb : K.In (hidT s₁.heap H) := fun b o e => base_of (KX b o e) (by
      cases q : H b with
      | none => rfl
      | some u =>
        rcases hA b (by rw [q]; simp) with e' | e'
        · rw [e'] at e q
          rw [hK (by rw [q]; simp)] at e
          cases e
        · obtain ⟨p, hp, ep⟩ := List.mem_map.mp e'
          rw [← ep, nT p hp] at e
          cases e)
    have hM : L2.Mod K mg (hidT s₁.heap H) := ⟨hKb, nsK hns, ⟨mb, nsK hb, hbb⟩, let ⟨mc, h1, h2⟩ := hlim; ⟨mc, nsK h1, h2⟩⟩
    have TB : ∀ p ∈ cs, LamX.TabB (hidT s₁.heap H) mg p.1 p.2 := fun p hp => by
      have hTp := hT p hp
      refine ⟨?_, ?_, fun z => ?_⟩
      · obtain ⟨o, us, file, tf, flags, tg, inF, text, tt, e1, r1, r2, r3, r4, r5, r6, r7, r8, hne⟩ := C p hp
        refine ⟨o, us, file, tf, flags, tg, inF, text, tt, base_of e1 (noD e1 (fun vs n z => ?_) fun z => ?_), r1, r2, r3, r4, r5, r6, r7, r8, hne⟩
        · rw [r2] at z
          cases z
        · rw [r2] at z
          cases z
          simp at r3
      · obtain ⟨bm, ob, b1, b2, b3, b4, b5, b6⟩ := hbm
        have nG : bm ≠ mainGlobals := fun q => by
          obtain ⟨o, es, ep, e, hd, _⟩ := hns
          rw [q, e] at b3
          cases b3
          rw [hd] at b6
          cases b6
        have nP : bm ≠ p.2 := fun q => by
          rw [q, hTp] at b3
          cases b3
          cases b6
        refine ⟨bm, ob, b1, b2, nG, nP, base_of b3 (noD b3 (fun vs n z => ?_) fun z => ?_), b4, b5, b6⟩
        · rw [b6] at z
          cases z
        · rw [b6] at z
          cases z
      · obtain ⟨o, es, ep, e, hd, _⟩ := hns
        rw [z, hTp] at e
        cases e
        cases hd
    have e0 : Env0 P w K mg (hidT s₁.heap H) callerA [] s₁ H := ⟨rfl, hM, fun b o e => of_hidT e, Nat.le_of_eq (hidT_size _ _), trivial, fun b hb => absurd (show b ∈ ([] : List Addr) from hb) (by simp), hok, .of_eq hg⟩
    refine codeAny_mono ((F _ hKb (nsK hns) TB).run callerA [] s₁ H ⟨[.ref a], []⟩ [.ref a] [.ref a] _ _ rfl hr e0 (hbind s₁ (.ref a)) (.cons rfl .nil) (hsp H hH hS)) fun r s' h => ?_
    cases r with
    | error e => exact (hCX H e s' h).elim
    | ok fl =>
      cases fl with
      | next => exact False.elim h
      | brk => exact False.elim h
      | cont => exact False.elim h
      | ret u =>
        obtain ⟨v, H', os, bare, un, hok', r', q⟩ := h
        have q' : v = .bl true := q
        subst q'
        obtain rfl : u = Value.bool true := r'
        have key : ∀ b o, b ∉ cs.map (·.2) → s₁.heap.get? b = some o → s'.heap.get? b = some o := fun b o nb e => by
          cases q : H b with
          | none => exact un.keep b o e q (by intro z; exact absurd (show b ∈ ([] : List Addr) from z) (by simp)) (by simp)
          | some u =>
            rcases hO b with z | z | ⟨ob, xs, z⟩
            · rw [q] at z; cases z
            · exact absurd z nb
            · have z2 := un.frzs b ob _ z
              obtain ⟨e1, _⟩ := hok b _ z
              obtain ⟨e2, _⟩ := hok' b _ z2
              rw [e] at e1; cases e1
              exact e2
        have grown : ∀ p ∈ cs, ∃ more : Array Value, s'.heap.get? p.2 = some { cls := .none, data := .fields more } := fun p hp => by
          obtain ⟨more, z⟩ := un.tbls p.2 #[] (hH p hp)
          exact ⟨_, hok' p.2 _ z⟩
        refine ⟨rfl, ⟨fun b o e => ?_, fun b o e => ?_⟩, os, bare⟩
        · by_cases hb : b ∈ cs.map (·.2)
          · obtain ⟨p, hp, ep⟩ := List.mem_map.mp hb
            obtain ⟨more, hm⟩ := grown p hp
            rw [← ep] at e ⊢
            rw [hT p hp] at e
            cases e
            exact .inr (.inl ⟨((C p hp).tab (hT p hp)).isCodeTable, rfl, #[], more, rfl, by rw [Array.empty_append]; exact hm⟩)
          · exact .inl (key b o hb e)
        · by_cases hb : b ∈ cs.map (·.2)
          · obtain ⟨p, hp, ep⟩ := List.mem_map.mp hb
            obtain ⟨more, hm⟩ := grown p hp
            rw [← ep]
            exact ⟨_, hm⟩
          · exact ⟨o, key b o hb e⟩
  cases hk : K.lookup a with
  | some o =>
    have e := KX a o hk
    rw [ha] at e
    cases e
    refine core (fun b => if b ∈ cs.map (·.2) then some (.tbl #[]) else none) (fun p hp => if_pos (memT p hp)) (fun b => ?_) (.inr ⟨_, vs.toArray, _, hk, rfl, rfl, rfl, by rw [List.size_toArray, lenV]; exact hl, by simpa using rv⟩) (fun b u z => ?_) (fun b z => ?_) fun z => absurd (show (if a ∈ cs.map (·.2) then some (HO.tbl #[]) else none) = none from if_neg aT) z
    · by_cases hb : b ∈ cs.map (·.2)
      · exact .inr (.inl hb)
      · exact .inl (if_neg hb)
    · by_cases hb : b ∈ cs.map (·.2)
      · have z' := (if_pos hb).symm.trans z
        cases z'
        exact isT b hb
      · have z' := (if_neg hb).symm.trans z
        cases z'
    · by_cases hb : b ∈ cs.map (·.2)
      · exact .inr hb
      · exact absurd (if_neg hb) z
  | none =>
    refine core (fun b => if b = a then some (.frz { cls := .type "list", data := .seq vs.toArray } (.lst (ns.map V.int))) else if b ∈ cs.map (·.2) then some (.tbl #[]) else none) (fun p hp => (if_neg (show ¬ p.2 = a from fun z => aT (by rw [← z]; exact memT p hp))).trans (if_pos (memT p hp))) (fun b => ?_)
      (.inl (.inr ⟨{ cls := .type "list", data := .seq vs.toArray }, if_pos rfl⟩)) (fun b u z => ?_) (fun b z => ?_) fun _ => hk
    · by_cases hb : b = a
      · exact .inr (.inr ⟨_, _, if_pos hb⟩)
      · by_cases hb2 : b ∈ cs.map (·.2)
        · exact .inr (.inl hb2)
        · exact .inl ((if_neg hb).trans (if_neg hb2))
    · by_cases hb : b = a
      · have z' := (if_pos hb).symm.trans z
        cases z'
        rw [hb]
        exact ⟨ha, by rw [List.length_map]; exact hl, vs, _, rv, ha⟩
      · have z1 := (if_neg hb).symm.trans z
        by_cases hb2 : b ∈ cs.map (·.2)
        · have z' := (if_pos hb2).symm.trans z1
          cases z'
          exact isT b hb2
        · have z' := (if_neg hb2).symm.trans z1
          cases z'
    · by_cases hb : b = a
      · exact .inl hb
      · by_cases hb2 : b ∈ cs.map (·.2)
        · exact .inr hb2
        · exact absurd ((if_neg hb).trans (if_neg hb2)) z
/-- what is known of the law's def behind the top -/
def LawG (l : PySem.W.OpenLaw) (w : World) (K : PySem.W.Frag) (CX : CXT) (k n : Nat) (x : Str) (mg : Str → Option Value) (fa : Addr) (h : Heap) : Prop :=
  ∃ (fd : FuncData) (cs : List (Addr × Addr)) (sp : Sp), (∀ p ∈ cs, h.get? p.2 = some { cls := .none, data := .fields #[] }) ∧ (∀ p ∈ cs, K.lookup p.2 = none) ∧ (∀ p ∈ cs, PySem.W.CodeHd h p.1 p.2) ∧ (∀ (s : Shared) (u : Value), BindsTo s fd ⟨[u], []⟩ [(x, u)]) ∧
    (∀ (H : Hp) (a : Addr) (ns : List Int), ns.length ≤ n → (∀ p ∈ cs, H p.2 = some (.tbl #[])) → SqL K H a (ns.map V.int) → sp [.ref a] H (fun v _ => v = .bl true) fun _ _ _ => False) ∧
    ∀ base : Heap, K.In base → base.Ns mainGlobals mg → (∀ p ∈ cs, LamX.TabB base mg p.1 p.2) → FnG l.prog w K mg base CX k fa fd [x] sp
theorem walkG {l : PySem.W.OpenLaw} {n k : Nat} {q : Program} {loose : List Str} {XP : (Str → Option Value) → Heap → Prop} {YP : World → Heap → Prop} {d : DefRec} {x : Str}
    (hn : l.most = some n) (hn2 : n ≤ sizeLine) (hdf : d.params.defaults = []) (hr : Room k callerA)
    (F : ∀ (w : World) (mg : Str → Option Value) (fa : Addr) (h : Heap), YP w h → h.Ns mainGlobals mg → mg d.name = some (.ref fa) → ∃ K : PySem.W.Frag, K.In h ∧ LawG l w K CX0 k n x mg fa h) :
    PySem.W.WalkO q loose XP YP l.row.toRowW d [] (fun f vs => PySem.call f vs) := by
  refine Att.attach_callB hn hdf fun w s₀ s₁ mg mb fa o pm cd doc a vs ns G Y ho hd hcd hmg hobj hints hlen hbits hg => ?_
  obtain ⟨K, KX, fd, cs, sp, hT, nT, C, hb, hsp, hF⟩ := F w mg fa _ Y G.T.g hmg
  exact law_callG KX G.T.g G.T.b G.T.builtins G.T.nolimit hg hT nT C G.T.bmain hobj hints (Nat.le_trans hlen hn2) hr hF hb (fun H hH hS => hsp H a ns hlen hH hS) fun H e s' z => z
end K44

/-! What the top has left, by facts. -/
namespace K44
open PySem PySem.Spec PyProof.Rows L2
open PySem.W (Frag)
abbrev PP : Program := PySem.Challenge.pw_wheelnines_k44_whole_seen
def dDef (x : Str) (st : Stmt) : He.DefD := ⟨(x, none), x, x, defArgs st, defBody st, defScope st, [], []⟩
def fn : List He.DefD := [dDef "is_integer" s_is_integer, dDef "is_whole" s_is_whole, dDef "need_base" s_need_base, dDef "common_divisor" s_common_divisor, dDef "is_fraction" s_is_fraction, dDef "need_fraction" s_need_fraction, dDef "digits_after" s_digits_after, dDef "need_most" s_need_most, dDef "need_seen" s_need_seen, dDef "does_fit" s_does_fit, dDef "fits" s_fits, dDef "fitting_in" s_fitting_in, dDef "fitting" s_fitting, dDef "simplest" s_simplest, dDef "sure_digits" s_sure_digits, dDef "_law_begun" s_law_begun, dDef "_law_draw" s_law_draw, dDef "_law_of" s_law_of, dDef "_law_divisor" s_law_divisor, dDef "_law_units" s_law_units, dDef "_law_digits" s_law_digits, dDef "_law_fit" s_law_fit, dDef "_law_all" s_law_all, dDef "_law_sure" s_law_sure, dDef "_law_heard" s_law_heard, dDef "_law_right" s_law_right, dDef "_law_hand_right" s_law_hand_right, dDef "law" s_law]
def fa : List He.Fa := [.glo "is_integer", .glo "is_whole", .glo "need_base", .glo "common_divisor", .glo "is_fraction", .glo "need_fraction", .glo "digits_after", .glo "need_most", .glo "need_seen", .glo "does_fit", .glo "fits", .glo "fitting_in", .glo "fitting", .glo "simplest", .glo "sure_digits", .glo "_law_begun", .glo "_law_draw", .glo "_law_of", .glo "_law_divisor", .glo "_law_units", .glo "_law_digits", .glo "_law_fit", .glo "_law_all", .glo "_law_sure", .glo "_law_heard", .glo "_law_right", .glo "_law_hand_right", .glo "law", .glo "Nothing", .glo "TooGreat", .free "isinstance", .free "int", .free "bool", .free "tuple", .free "len", .free "range", .free "all", .free "list", .free "zip", .free "repr", .free "min", .free "super", .int "MOST_BASE" 1000, .int "MOST_DENOMINATOR" 5000, .int "MOST_SEEN" 20, .int "MOST_TRIED" 200, .int "MOST_TOLD" 1000, .int "MOST_SURE" 60]
def tf : List He.Defn := [("_law_right", none), ("_law_hand_right", none)]
/-! ### the two exception classes -/
def fileB (K : Frag) (file : Str) (cd : Value) : Bool := match cd with
  | .ref c => (match K.lookup c with
    | some ⟨_, _, .fields vs, _⟩ => (match vs[2]? with
      | some (Value.str f _) => file == f
      | _ => false)
    | _ => false)
  | _ => false
def cellB (K : Frag) (C : Addr) (clo : List (Str × Addr)) : Bool := match clo with
  | [(_, cc)] => (match K.lookup cc with
    | some ⟨_, _, .cell (some (.ref D)), _⟩ => decide (D = C)
    | _ => false)
  | _ => false
def noneB : Value → Bool
  | .none => true
  | _ => false
def iniB (K : Frag) (x q : Str) : Bool := match K.lookup (He.ma K (He.ga K x) "__init__") with
  | some ⟨_, _, .func fd, _⟩ => noneB fd.defaults && (noneB fd.kwdefaults && (PySem.W.codeIn K fd.code q && (fileB K PP.main.file fd.code && cellB K (He.ga K x) fd.closure)))
  | _ => false
abbrev FnI : Type := Option (Str × Str × Arguments × FuncBody × Scope × Addr × List Str × Addr)
def iniW (K : Frag) (x : Str) : FnI := match K.lookup (He.ma K (He.ga K x) "__init__") with
  | some ⟨_, _, .func fd, _⟩ => some (fd.name, fd.qualname, fd.params, fd.body, fd.scope, fd.globals, fd.closure.map (·.1), fd.builtins)
  | _ => none
def valI (st : Stmt) (q : Str) : FnI := some ("__init__", q, defArgs st, .stmts (defBody st), defScope st, mainGlobals, ["__class__"], builtinsNs)
def excB (K : Frag) (x fld q : Str) (B newId initId : String) (bmB : List Value) : Bool :=
  PySem.W.excInitIn K (He.ga K x) bmB newId && (PySem.W.excOver K (He.ga K x) bmB && (PySem.W.hasDictIn K (He.ga K x) && (decide (PySem.W.takerIn K (He.ga K x) fld = some none) &&
  (He.eqO (PySem.W.findIn K (.ref (He.ga K x)) "__setattr__") (some (some (.builtin "object.__setattr__"))) && (He.eqO (PySem.W.findIn K (.ref (He.ga K x)) "__init__") (some (some (.ref (He.ma K (He.ga K x) "__init__")))) &&
  (decide (PySem.W.typeIn K (.ref (He.ma K (He.ga K x) "__init__")) = some (.type "function")) && (PySem.W.keepIn K (.ref (He.ga K x)) && (decide (PySem.W.subIn K (.ref (He.ga K x)) (.type "BaseException") = some true) &&
  (decide (PySem.W.subIn K (.ref (He.ga K x)) (.type B) = some true) && (decide (PySem.W.mroIn K (He.ga K x) (.ref (He.ga K x)) = some true) && (decide (PySem.W.typeIn K (.ref (He.ga K x)) = some (.type "type")) &&
  (He.eqO (PySem.W.ks_superIn K (He.ga K x) (He.ga K x) "__init__") (some (some (.builtin initId))) && (He.eqO (PySem.W.nsIn K cStatics "thirdparty.any") (some none) && (xfB K (He.ga K x) && (He.eqO (PySem.W.findIn K (.ref (He.ga K x)) fld) (some none) && iniB K x q)))))))))))))))
def ex (K : Frag) : Bool := excB K "Nothing" "value" "Nothing.__init__" "LookupError" "LookupError.__new__" "LookupError.__init__" mroL && (excB K "TooGreat" "most" "TooGreat.__init__" "OverflowError" "OverflowError.__new__" "OverflowError.__init__" mroO &&
  (decide (PySem.W.exmOne K (.ref (He.ga K "Nothing")) (.ref (He.ga K "Nothing")) = some true) && (decide (PySem.W.exmOne K (.ref (He.ga K "TooGreat")) (.ref (He.ga K "Nothing")) = some false) && (decide (PySem.W.exmOne K (.ref (He.ga K "TooGreat")) (.ref (He.ga K "TooGreat")) = some true) &&
  decide ((He.cT K ("_law_right", none)).2 ≠ (He.cT K ("_law_hand_right", none)).2)))))
/-! ### the hook -/
def Kf (g : Addr → Option Obj) : Frag := He.frT g (cStatics :: He.asD g 4)
abbrev AlY : Type := He.AlD × Bool × List FnI
def obsY (g : Addr → Option Obj) : AlY := (He.obsD fa fn (Kf g), ex (Kf g) && He.tabsB g tf (Kf g), [iniW (Kf g) "Nothing", iniW (Kf g) "TooGreat"])
def stN : Stmt := inClass (top 7) 0
def stG : Stmt := inClass (top 6) 0
def valY : AlY := (He.valD fn, true, [valI stN "Nothing.__init__", valI stG "TooGreat.__init__"])
structure SaysY (h : Heap) (K : Frag) : Prop where
  d : He.SaysD fa fn K
  ex : ex K = true
  hd : ∀ p ∈ tf, PySem.W.codeHdIn K (He.cT K p).1 (He.cT K p).2 = true
  out : ∀ p ∈ tf, K.lookup (He.cT K p).2 = none
  empty : ∀ p ∈ tf, h.get? (He.cT K p).2 = some { cls := .none, data := .fields #[] }
  iN : iniW K "Nothing" = valI stN "Nothing.__init__"
  iG : iniW K "TooGreat" = valI stG "TooGreat.__init__"
theorem saysY_of {h : Heap} (e : obsY h.get? = valY) : SaysY h (Kf h.get?) := by
  have e1 : He.obsD fa fn (Kf h.get?) = He.valD fn := congrArg (fun z : AlY => z.1) e
  have e2 : (K44.ex (Kf h.get?) && He.tabsB h.get? tf (Kf h.get?)) = true := congrArg (fun z : AlY => z.2.1) e
  have e3 : [iniW (Kf h.get?) "Nothing", iniW (Kf h.get?) "TooGreat"] = [valI stN "Nothing.__init__", valI stG "TooGreat.__init__"] := congrArg (fun z : AlY => z.2.2) e
  obtain ⟨h1, h2⟩ := He.ba e2
  injection e3 with e4 e5
  injection e5 with e6 e7
  have key : ∀ p ∈ tf, PySem.W.codeHdIn (Kf h.get?) (He.cT (Kf h.get?) p).1 (He.cT (Kf h.get?) p).2 = true ∧ ∃ o, h.get? (He.cT (Kf h.get?) p).2 = some o ∧ He.emptyTab o = true := fun p hp => by
    obtain ⟨h3, h4⟩ := He.ba (List.all_eq_true.mp h2 p hp)
    refine ⟨h3, ?_⟩
    cases q : h.get? (He.cT (Kf h.get?) p).2 with
    | none =>
      rw [q] at h4
      cases h4
    | some o =>
      rw [q] at h4
      exact ⟨o, rfl, h4⟩
  refine ⟨e1, h1, fun p hp => (key p hp).1, fun p hp => ?_, fun p hp => ?_, e4, e6⟩
  · obtain ⟨_, o, q, z⟩ := key p hp
    exact He.frT_none q z
  · obtain ⟨_, o, q, z⟩ := key p hp
    rw [q, He.emptyTab_eq z]
def hookY : PySem.W.Hook where
  α := AlY
  obs := fun s => obsY s.heap.get?
  val := fun _ => valY
  says := fun _ h => ∃ K : Frag, K.In h ∧ SaysY h K
  of := fun _ _ e => ⟨_, He.frT_in, saysY_of e⟩
  keeps := fun _ _ _ ⟨K, hK, c⟩ k => ⟨K, PySem.W.Frag.In.keeps hK k, ⟨c.d, c.ex, c.hd, c.out, fun p hp => k _ _ (c.empty p hp), c.iN, c.iG⟩⟩
def obY (s : PySem.W.SharedT) : AlY := obsY (HandSHeadRun.getT s)
theorem obY_eq (s : PySem.W.SharedT) : obY s = hookY.obs s.abs := by
  have e : HandSHeadRun.getT s = s.abs.heap.get? := funext (HandSHeadRun.getT_eq s)
  show obsY (HandSHeadRun.getT s) = obsY s.abs.heap.get?
  rw [e]
end K44

namespace K44
open PySem PySem.Spec PyProof.Rows L2
abbrev RR : PySem.W.OpenRow := PySem.W.OpenLaw.row PySem.Challenge.rw_wheelnines_k44_whole_seen
def names1 : List Str := ["WheelError", "BadBase", "BadFraction", "BadNumber", "BadSeen", "TooGreat", "Nothing", "MOST_BASE", "MOST_DENOMINATOR", "is_integer", "is_whole", "need_base", "common_divisor", "is_fraction", "need_fraction", "digits_after", "need_most", "MOST_SEEN", "MOST_TRIED", "MOST_TOLD", "MOST_SURE"]
def names2 : List Str := ["need_seen", "does_fit", "fits", "fitting_in", "fitting", "simplest", "sure_digits", "_law_begun", "_law_draw", "_law_of", "_law_divisor", "_law_units", "_law_digits", "_law_fit", "_law_all", "_law_sure", "_law_heard", "_law_right", "_law_hand_right"]
def names : List Str := names1 ++ names2
theorem run (w : World) : HandSHeadRun.RunEq RR (PySem.W.view RR.prog [46]) hookY obY 20000 names w := by
  intro os
  kernel_rfl
end K44

/-! The facts of the text from what the hook tells. -/
namespace K44
open PySem PySem.Spec PyProof.Rows L2
open PySem.W (Frag)
theorem noneB_ok {v : Value} (h : noneB v = true) : v = .none := by
  cases v <;> first | rfl | cases h
theorem fileB_ok {K : Frag} {file : Str} {cd : Value} (h : fileB K file cd = true) : ∃ c ccl cdd vs ccs f tf, cd = .ref c ∧ K.lookup c = some ⟨ccl, cdd, .fields vs, ccs⟩ ∧ vs[2]? = some (.str f tf) ∧ (file == f) = true := by
  cases cd with
  | ref c =>
    have h1 : (match K.lookup c with
      | some ⟨_, _, .fields vs, _⟩ => (match vs[2]? with
        | some (Value.str f _) => file == f
        | _ => false)
      | _ => false) = true := h
    cases q : K.lookup c with
    | none =>
      rw [q] at h1
      cases h1
    | some o =>
      obtain ⟨oc, od, dt, sl⟩ := o
      rw [q] at h1
      cases dt with
      | fields vs =>
        have h2 : (match vs[2]? with
          | some (Value.str f _) => file == f
          | _ => false) = true := h1
        cases q2 : vs[2]? with
        | none =>
          rw [q2] at h2
          cases h2
        | some u =>
          rw [q2] at h2
          cases u with
          | str f t => exact ⟨c, oc, od, vs, sl, f, t, rfl, q, q2, h2⟩
          | _ => cases h2
      | _ => cases h1
  | _ => cases h
theorem cellB_ok {K : Frag} {C : Addr} {clo : List (Str × Addr)} (h : cellB K C clo = true) : ∃ n cc, clo = [(n, cc)] ∧ ∃ cl cld csl, K.lookup cc = some ⟨cl, cld, .cell (some (.ref C)), csl⟩ := by
  cases clo with
  | nil => cases h
  | cons p r =>
    obtain ⟨n, cc⟩ := p
    cases r with
    | cons _ _ => cases h
    | nil =>
      have h1 : (match K.lookup cc with
        | some ⟨_, _, .cell (some (.ref D)), _⟩ => decide (D = C)
        | _ => false) = true := h
      cases q : K.lookup cc with
      | none =>
        rw [q] at h1
        cases h1
      | some o =>
        obtain ⟨oc, od, dt, sl⟩ := o
        rw [q] at h1
        cases dt with
        | cell v =>
          cases v with
          | none => cases h1
          | some u =>
            cases u with
            | ref D =>
              have e : D = C := of_decide_eq_true h1
              subst e
              exact ⟨n, cc, rfl, oc, od, sl, q⟩
            | _ => cases h1
        | _ => cases h1
theorem ini_ok {K : Frag} {x q : Str} {st : Stmt} (e : iniW K x = valI st q) (b : iniB K x q = true) :
    ∃ (oc : Value) (od : Option Addr) (doc pm : Value) (an : Option Addr) (cda : Addr) (ct : Value) (osl : Array (Option Value)) (cc : Addr),
      K.lookup (He.ma K (He.ga K x) "__init__") = some ⟨oc, od, .func (PySem.W.ksFn "__init__" q (defArgs st) (defBody st) (defScope st) .none .none doc pm an (.ref cda) ct cc), osl⟩ ∧ PySem.W.codeIn K (.ref cda) q = true ∧
      (∃ cl cld csl, K.lookup cc = some ⟨cl, cld, .cell (some (.ref (He.ga K x))), csl⟩) ∧ ∃ ccl cdd vs ccs file tf, K.lookup cda = some ⟨ccl, cdd, .fields vs, ccs⟩ ∧ vs[2]? = some (.str file tf) ∧ ((PP.main.file : Str) == file) = true := by
  unfold iniW at e
  unfold iniB at b
  cases q0 : K.lookup (He.ma K (He.ga K x) "__init__") with
  | none =>
    rw [q0] at b
    cases b
  | some o =>
    obtain ⟨oc, od, dt, osl⟩ := o
    rw [q0] at b e
    cases dt with
    | func fd =>
      obtain ⟨n1, n2, n3, n4, n5, n6, n7, n8, n9, n10, n11, n12, n13, n14, n15⟩ := fd
      have e2 : (some (n1, n2, n3, n4, n5, n6, n7.map (·.1), n15) : FnI) = some (("__init__" : Str), q, defArgs st, FuncBody.stmts (defBody st), defScope st, mainGlobals, [("__class__" : Str)], builtinsNs) := e
      simp only [Option.some.injEq, Prod.mk.injEq] at e2
      obtain ⟨h1, h2, h3, h4, h5, h6, h7, h8⟩ := e2
      have b2 : (noneB n8 && (noneB n9 && (PySem.W.codeIn K n13 q && (fileB K PP.main.file n13 && cellB K (He.ga K x) n7)))) = true := b
      obtain ⟨b3, b4⟩ := He.ba b2
      obtain ⟨b5, b6⟩ := He.ba b4
      obtain ⟨b7, b8⟩ := He.ba b6
      obtain ⟨b9, b10⟩ := He.ba b8
      obtain rfl := noneB_ok b3
      obtain rfl := noneB_ok b5
      obtain ⟨c, ccl, cdd, vs, ccs, f, tf, rfl, lc, hv, hf⟩ := fileB_ok b9
      obtain ⟨nm, cc, rfl, hcell⟩ := cellB_ok b10
      have hn : nm = "__class__" := by
        injection h7
      subst h1 h2 h3 h4 h5 h6 h8 hn
      exact ⟨oc, od, n10, n11, n12, c, n14, osl, cc, rfl, b7, hcell, ccl, cdd, vs, ccs, f, tf, lc, hv, hf⟩
    | _ => cases b
structure ExcF (K : Frag) (x fld q : Str) (B newId initId : String) (bmB : List Value) : Prop where
  qi : PySem.W.excInitIn K (He.ga K x) bmB newId = true
  ov : PySem.W.excOver K (He.ga K x) bmB = true
  hd : PySem.W.hasDictIn K (He.ga K x) = true
  tk : PySem.W.takerIn K (He.ga K x) fld = some none
  sa : PySem.W.findIn K (.ref (He.ga K x)) "__setattr__" = some (some (.builtin "object.__setattr__"))
  iC : PySem.W.findIn K (.ref (He.ga K x)) "__init__" = some (some (.ref (He.ma K (He.ga K x) "__init__")))
  tC : PySem.W.typeIn K (.ref (He.ma K (He.ga K x) "__init__")) = some (.type "function")
  kC : PySem.W.keepIn K (.ref (He.ga K x)) = true
  exC : PySem.W.subIn K (.ref (He.ga K x)) (.type "BaseException") = some true
  exB : PySem.W.subIn K (.ref (He.ga K x)) (.type B) = some true
  mC : PySem.W.mroIn K (He.ga K x) (.ref (He.ga K x)) = some true
  tyC : PySem.W.typeIn K (.ref (He.ga K x)) = some (.type "type")
  sup : PySem.W.ks_superIn K (He.ga K x) (He.ga K x) "__init__" = some (some (.builtin initId))
  opq : PySem.W.nsIn K cStatics "thirdparty.any" = some none
  xf : XfC K (He.ga K x)
  nof : PySem.W.findIn K (.ref (He.ga K x)) fld = some none
  ini : iniB K x q = true
theorem excF_of {K : Frag} {x fld q : Str} {B newId initId : String} {bmB : List Value} (h : excB K x fld q B newId initId bmB = true) : ExcF K x fld q B newId initId bmB := by
  unfold excB at h
  obtain ⟨h1, h⟩ := He.ba h
  obtain ⟨h2, h⟩ := He.ba h
  obtain ⟨h3, h⟩ := He.ba h
  obtain ⟨h4, h⟩ := He.ba h
  obtain ⟨h5, h⟩ := He.ba h
  obtain ⟨h6, h⟩ := He.ba h
  obtain ⟨h7, h⟩ := He.ba h
  obtain ⟨h8, h⟩ := He.ba h
  obtain ⟨h9, h⟩ := He.ba h
  obtain ⟨h10, h⟩ := He.ba h
  obtain ⟨h11, h⟩ := He.ba h
  obtain ⟨h12, h⟩ := He.ba h
  obtain ⟨h13, h⟩ := He.ba h
  obtain ⟨h14, h⟩ := He.ba h
  obtain ⟨h15, h⟩ := He.ba h
  obtain ⟨h16, h17⟩ := He.ba h
  exact ⟨h1, h2, h3, of_decide_eq_true h4, He.eqO_ok h5, He.eqO_ok h6, of_decide_eq_true h7, h8, of_decide_eq_true h9, of_decide_eq_true h10, of_decide_eq_true h11, of_decide_eq_true h12, He.eqO_ok h13, He.eqO_ok h14, xfB_ok h15, He.eqO_ok h16, h17⟩
theorem all_of {K : Frag} {h : Heap} {mg : Str → Option Value} (X : K.In h) (G : h.Ns mainGlobals mg) (c : SaysY h K) :
    ∃ a : Ad, a.law = He.ga K "law" ∧ (FnP K "_law_right" s_law_right (He.ga K "_law_right") a.d_law_right ∧ FnP K "_law_hand_right" s_law_hand_right (He.ga K "_law_hand_right") a.d_law_hand_right) ∧ Txt PP K mg a := by
  have hex := c.ex
  unfold ex at hex
  obtain ⟨x1, hex⟩ := He.ba hex
  obtain ⟨x2, hex⟩ := He.ba hex
  obtain ⟨x3, hex⟩ := He.ba hex
  obtain ⟨x4, hex⟩ := He.ba hex
  obtain ⟨x5, x6⟩ := He.ba hex
  have eNN := of_decide_eq_true x3
  have eGN := of_decide_eq_true x4
  have eGG := of_decide_eq_true x5
  have eN := excF_of x1
  have eG := excF_of x2
  have noS : mg "super" = none := He.free_ok X G (c.d.fact 41 (f := .free "super") rfl)
  have hN : OxT PP K mg "Nothing" "value" "LookupError" "LookupError.__new__" "LookupError.__init__" mroL (He.ga K "Nothing") (He.ma K (He.ga K "Nothing") "__init__") :=
    { gC := He.glo_ok X G (c.d.fact 28 (f := .glo "Nothing") rfl), noS := noS, q := eN.qi, ov := eN.ov, hd := eN.hd, tk := eN.tk, sa := eN.sa, iC := eN.iC, tC := eN.tC, kC := eN.kC, exC := eN.exC, exB := eN.exB, mC := eN.mC, tyC := eN.tyC, sup := eN.sup, opq := eN.opq,
      htop := by decide +kernel, nf := by decide, nd := by decide, ns := by decide, nc := by decide,
      fn := by
        obtain ⟨oc, od, doc, pm, an, cda, ct, osl, cc, l, cd, hc, hf⟩ := ini_ok c.iN eN.ini
        exact ⟨oc, od, doc, pm, an, cda, ct, osl, "Nothing.__init__", "there is no result", cc, _, _, _, _, _, _, _, _, _, _, _, _, l, cd, rfl, fun s x v => .of_eq rfl, hc, hf⟩ }
  have hG : OxT PP K mg "TooGreat" "most" "OverflowError" "OverflowError.__new__" "OverflowError.__init__" mroO (He.ga K "TooGreat") (He.ma K (He.ga K "TooGreat") "__init__") :=
    { gC := He.glo_ok X G (c.d.fact 29 (f := .glo "TooGreat") rfl), noS := noS, q := eG.qi, ov := eG.ov, hd := eG.hd, tk := eG.tk, sa := eG.sa, iC := eG.iC, tC := eG.tC, kC := eG.kC, exC := eG.exC, exB := eG.exB, mC := eG.mC, tyC := eG.tyC, sup := eG.sup, opq := eG.opq,
      htop := by decide +kernel, nf := by decide, nd := by decide, ns := by decide, nc := by decide,
      fn := by
        obtain ⟨oc, od, doc, pm, an, cda, ct, osl, cc, l, cd, hc, hf⟩ := ini_ok c.iG eG.ini
        exact ⟨oc, od, doc, pm, an, cda, ct, osl, "TooGreat.__init__", "greater than the bound", cc, _, _, _, _, _, _, _, _, _, _, _, _, l, cd, rfl, fun s x v => .of_eq rfl, hc, hf⟩ }
  have fN := eN.xf
  have aN := eN.nof
  have fG := eG.xf
  have aG := eG.nof
  obtain ⟨d0, F0⟩ := c.d.def_ 0 (d := dDef "is_integer" s_is_integer) rfl
  obtain ⟨d1, F1⟩ := c.d.def_ 1 (d := dDef "is_whole" s_is_whole) rfl
  obtain ⟨d2, F2⟩ := c.d.def_ 2 (d := dDef "need_base" s_need_base) rfl
  obtain ⟨d3, F3⟩ := c.d.def_ 3 (d := dDef "common_divisor" s_common_divisor) rfl
  obtain ⟨d4, F4⟩ := c.d.def_ 4 (d := dDef "is_fraction" s_is_fraction) rfl
  obtain ⟨d5, F5⟩ := c.d.def_ 5 (d := dDef "need_fraction" s_need_fraction) rfl
  obtain ⟨d6, F6⟩ := c.d.def_ 6 (d := dDef "digits_after" s_digits_after) rfl
  obtain ⟨d7, F7⟩ := c.d.def_ 7 (d := dDef "need_most" s_need_most) rfl
  obtain ⟨d8, F8⟩ := c.d.def_ 8 (d := dDef "need_seen" s_need_seen) rfl
  obtain ⟨d9, F9⟩ := c.d.def_ 9 (d := dDef "does_fit" s_does_fit) rfl
  obtain ⟨d10, F10⟩ := c.d.def_ 10 (d := dDef "fits" s_fits) rfl
  obtain ⟨d11, F11⟩ := c.d.def_ 11 (d := dDef "fitting_in" s_fitting_in) rfl
  obtain ⟨d12, F12⟩ := c.d.def_ 12 (d := dDef "fitting" s_fitting) rfl
  obtain ⟨d13, F13⟩ := c.d.def_ 13 (d := dDef "simplest" s_simplest) rfl
  obtain ⟨d14, F14⟩ := c.d.def_ 14 (d := dDef "sure_digits" s_sure_digits) rfl
  obtain ⟨d15, F15⟩ := c.d.def_ 15 (d := dDef "_law_begun" s_law_begun) rfl
  obtain ⟨d16, F16⟩ := c.d.def_ 16 (d := dDef "_law_draw" s_law_draw) rfl
  obtain ⟨d17, F17⟩ := c.d.def_ 17 (d := dDef "_law_of" s_law_of) rfl
  obtain ⟨d18, F18⟩ := c.d.def_ 18 (d := dDef "_law_divisor" s_law_divisor) rfl
  obtain ⟨d19, F19⟩ := c.d.def_ 19 (d := dDef "_law_units" s_law_units) rfl
  obtain ⟨d20, F20⟩ := c.d.def_ 20 (d := dDef "_law_digits" s_law_digits) rfl
  obtain ⟨d21, F21⟩ := c.d.def_ 21 (d := dDef "_law_fit" s_law_fit) rfl
  obtain ⟨d22, F22⟩ := c.d.def_ 22 (d := dDef "_law_all" s_law_all) rfl
  obtain ⟨d23, F23⟩ := c.d.def_ 23 (d := dDef "_law_sure" s_law_sure) rfl
  obtain ⟨d24, F24⟩ := c.d.def_ 24 (d := dDef "_law_heard" s_law_heard) rfl
  obtain ⟨d25, F25⟩ := c.d.def_ 25 (d := dDef "_law_right" s_law_right) rfl
  obtain ⟨d26, F26⟩ := c.d.def_ 26 (d := dDef "_law_hand_right" s_law_hand_right) rfl
  obtain ⟨d27, F27⟩ := c.d.def_ 27 (d := dDef "law" s_law) rfl
  refine ⟨{ is_integer := He.ga K "is_integer", d_is_integer := d0, is_whole := He.ga K "is_whole", d_is_whole := d1, need_base := He.ga K "need_base", d_need_base := d2, common_divisor := He.ga K "common_divisor", d_common_divisor := d3, is_fraction := He.ga K "is_fraction", d_is_fraction := d4, need_fraction := He.ga K "need_fraction", d_need_fraction := d5, digits_after := He.ga K "digits_after", d_digits_after := d6, need_most := He.ga K "need_most", d_need_most := d7, need_seen := He.ga K "need_seen", d_need_seen := d8, does_fit := He.ga K "does_fit", d_does_fit := d9, fits := He.ga K "fits", d_fits := d10, fitting_in := He.ga K "fitting_in", d_fitting_in := d11, fitting := He.ga K "fitting", d_fitting := d12, simplest := He.ga K "simplest", d_simplest := d13, sure_digits := He.ga K "sure_digits", d_sure_digits := d14, law_begun := He.ga K "_law_begun", d_law_begun := d15, law_draw := He.ga K "_law_draw", d_law_draw := d16, law_of := He.ga K "_law_of", d_law_of := d17, law_divisor := He.ga K "_law_divisor", d_law_divisor := d18, law_units := He.ga K "_law_units", d_law_units := d19, law_digits := He.ga K "_law_digits", d_law_digits := d20, law_fit := He.ga K "_law_fit", d_law_fit := d21, law_all := He.ga K "_law_all", d_law_all := d22, law_sure := He.ga K "_law_sure", d_law_sure := d23, law_heard := He.ga K "_law_heard", d_law_heard := d24, law_right := He.ga K "_law_right", d_law_right := d25, law_hand_right := He.ga K "_law_hand_right", d_law_hand_right := d26, law := He.ga K "law", d_law := d27, CN := He.ga K "Nothing", iN := He.ma K (He.ga K "Nothing") "__init__", CG := He.ga K "TooGreat", iG := He.ma K (He.ga K "TooGreat") "__init__" }, rfl, ⟨F25, F26⟩, ?_⟩
  exact { f_is_integer := ⟨F0, He.glo_ok X G (c.d.fact 0 (f := .glo "is_integer") rfl)⟩, f_is_whole := ⟨F1, He.glo_ok X G (c.d.fact 1 (f := .glo "is_whole") rfl)⟩, f_need_base := ⟨F2, He.glo_ok X G (c.d.fact 2 (f := .glo "need_base") rfl)⟩, f_common_divisor := ⟨F3, He.glo_ok X G (c.d.fact 3 (f := .glo "common_divisor") rfl)⟩, f_is_fraction := ⟨F4, He.glo_ok X G (c.d.fact 4 (f := .glo "is_fraction") rfl)⟩, f_need_fraction := ⟨F5, He.glo_ok X G (c.d.fact 5 (f := .glo "need_fraction") rfl)⟩, f_digits_after := ⟨F6, He.glo_ok X G (c.d.fact 6 (f := .glo "digits_after") rfl)⟩, f_need_most := ⟨F7, He.glo_ok X G (c.d.fact 7 (f := .glo "need_most") rfl)⟩, f_need_seen := ⟨F8, He.glo_ok X G (c.d.fact 8 (f := .glo "need_seen") rfl)⟩, f_does_fit := ⟨F9, He.glo_ok X G (c.d.fact 9 (f := .glo "does_fit") rfl)⟩, f_fits := ⟨F10, He.glo_ok X G (c.d.fact 10 (f := .glo "fits") rfl)⟩, f_fitting_in := ⟨F11, He.glo_ok X G (c.d.fact 11 (f := .glo "fitting_in") rfl)⟩, f_fitting := ⟨F12, He.glo_ok X G (c.d.fact 12 (f := .glo "fitting") rfl)⟩, f_simplest := ⟨F13, He.glo_ok X G (c.d.fact 13 (f := .glo "simplest") rfl)⟩, f_sure_digits := ⟨F14, He.glo_ok X G (c.d.fact 14 (f := .glo "sure_digits") rfl)⟩, f_law_begun := ⟨F15, He.glo_ok X G (c.d.fact 15 (f := .glo "_law_begun") rfl)⟩, f_law_draw := ⟨F16, He.glo_ok X G (c.d.fact 16 (f := .glo "_law_draw") rfl)⟩, f_law_of := ⟨F17, He.glo_ok X G (c.d.fact 17 (f := .glo "_law_of") rfl)⟩, f_law_divisor := ⟨F18, He.glo_ok X G (c.d.fact 18 (f := .glo "_law_divisor") rfl)⟩, f_law_units := ⟨F19, He.glo_ok X G (c.d.fact 19 (f := .glo "_law_units") rfl)⟩, f_law_digits := ⟨F20, He.glo_ok X G (c.d.fact 20 (f := .glo "_law_digits") rfl)⟩, f_law_fit := ⟨F21, He.glo_ok X G (c.d.fact 21 (f := .glo "_law_fit") rfl)⟩, f_law_all := ⟨F22, He.glo_ok X G (c.d.fact 22 (f := .glo "_law_all") rfl)⟩, f_law_sure := ⟨F23, He.glo_ok X G (c.d.fact 23 (f := .glo "_law_sure") rfl)⟩, f_law_heard := ⟨F24, He.glo_ok X G (c.d.fact 24 (f := .glo "_law_heard") rfl)⟩, f_law_right := ⟨F25, He.glo_ok X G (c.d.fact 25 (f := .glo "_law_right") rfl)⟩, f_law_hand_right := ⟨F26, He.glo_ok X G (c.d.fact 26 (f := .glo "_law_hand_right") rfl)⟩, f_law := ⟨F27, He.glo_ok X G (c.d.fact 27 (f := .glo "law") rfl)⟩, n_isinstance := He.free_ok X G (c.d.fact 30 (f := .free "isinstance") rfl), n_int := He.free_ok X G (c.d.fact 31 (f := .free "int") rfl), n_bool := He.free_ok X G (c.d.fact 32 (f := .free "bool") rfl), n_tuple := He.free_ok X G (c.d.fact 33 (f := .free "tuple") rfl), n_len := He.free_ok X G (c.d.fact 34 (f := .free "len") rfl), n_range := He.free_ok X G (c.d.fact 35 (f := .free "range") rfl), n_all := He.free_ok X G (c.d.fact 36 (f := .free "all") rfl), n_list := He.free_ok X G (c.d.fact 37 (f := .free "list") rfl), n_zip := He.free_ok X G (c.d.fact 38 (f := .free "zip") rfl), n_repr := He.free_ok X G (c.d.fact 39 (f := .free "repr") rfl), n_min := He.free_ok X G (c.d.fact 40 (f := .free "min") rfl), c_MOST_BASE := He.int_ok X G (c.d.fact 42 (f := .int "MOST_BASE" 1000) rfl), c_MOST_DENOMINATOR := He.int_ok X G (c.d.fact 43 (f := .int "MOST_DENOMINATOR" 5000) rfl), c_MOST_SEEN := He.int_ok X G (c.d.fact 44 (f := .int "MOST_SEEN" 20) rfl), c_MOST_TRIED := He.int_ok X G (c.d.fact 45 (f := .int "MOST_TRIED" 200) rfl), c_MOST_TOLD := He.int_ok X G (c.d.fact 46 (f := .int "MOST_TOLD" 1000) rfl), c_MOST_SURE := He.int_ok X G (c.d.fact 47 (f := .int "MOST_SURE" 60) rfl), xN := hN, xG := hG, fN := fN, aN := aN, fG := fG, aG := aG, eNN := eNN, eGN := eGN, eGG := eGG }
end K44

namespace K44
open PySem PySem.Spec PyProof.Rows L2
open PySem.W (Frag)
theorem code_at {K : Frag} {x : Str} {st : Stmt} {fd : FuncData} (F : FnP K x st (He.ga K x) fd) : fd.code = .ref (He.cT K (x, none)).1 := by
  obtain ⟨oc, od, dV, kV, doc, pm, an, cdv, ct, osl, rfl, lk, hcd, _, _⟩ := F.ex
  obtain ⟨c, rfl⟩ := He.codeIn_ref hcd
  have e : He.codeOf K (x, none) = c := He.codeOf_eq (p := (x, none)) lk rfl
  show Value.ref c = .ref (He.codeOf K (x, none))
  rw [e]
theorem law_at {w : World} {mg : Str → Option Value} {fa : Addr} {h : Heap} (Y : hookY.says w h) (G : h.Ns mainGlobals mg) (hmg : mg ("law" : Str) = some (.ref fa)) : ∃ K : Frag, K.In h ∧ LawG PySem.Challenge.rw_wheelnines_k44_whole_seen w K CX0 10 63 "script" mg fa h := by
  obtain ⟨K, KX, c⟩ := Y
  obtain ⟨a, ha, ⟨FR, FH⟩, T⟩ := all_of KX G c
  have e := hmg.symm.trans T.f_law.g
  cases e
  have hne : (He.cT K ("_law_right", none)).2 ≠ (He.cT K ("_law_hand_right", none)).2 := by
    have hex := c.ex
    unfold ex at hex
    obtain ⟨x1, hex⟩ := He.ba hex
    obtain ⟨x2, hex⟩ := He.ba hex
    obtain ⟨x3, hex⟩ := He.ba hex
    obtain ⟨x4, hex⟩ := He.ba hex
    obtain ⟨x5, x6⟩ := He.ba hex
    exact of_decide_eq_true x6
  have mem : ∀ p ∈ [He.cT K ("_law_right", none), He.cT K ("_law_hand_right", none)], ∃ t ∈ tf, p = He.cT K t := fun p hp => by
    rcases List.mem_cons.mp hp with rfl | hp
    · exact ⟨_, List.mem_cons_self, rfl⟩
    · obtain rfl := List.mem_singleton.mp hp
      exact ⟨_, List.mem_cons_of_mem _ List.mem_cons_self, rfl⟩
  refine ⟨K, KX, a.d_law, [He.cT K ("_law_right", none), He.cT K ("_law_hand_right", none)], spLaw K (He.cT K ("_law_right", none)).2 (He.cT K ("_law_hand_right", none)).2, fun p hp => ?_, fun p hp => ?_, fun p hp => ?_, fun s u => ?_, fun H s ns hl hT hS => ?_, fun base KB GB hB => ?_⟩
  · obtain ⟨t, ht, rfl⟩ := mem p hp
    exact c.empty t ht
  · obtain ⟨t, ht, rfl⟩ := mem p hp
    exact c.out t ht
  · obtain ⟨t, ht, rfl⟩ := mem p hp
    exact PySem.W.codeHd_of_K KX (c.hd t ht)
  · exact T.f_law.F.bindsA (ps := ["script"]) (fun _ _ _ _ _ _ us hl => match us, hl with | [_], _ => rfl) s [u] rfl
  · refine ⟨s, ns, rfl, hS, by omega, fun p hp => ?_, fun H' => rfl⟩
    rcases List.mem_cons.mp hp with rfl | hp
    · exact LamX.TabS.nil (hT _ List.mem_cons_self)
    · obtain rfl := List.mem_singleton.mp hp
      exact LamX.TabS.nil (hT _ (List.mem_cons_of_mem _ List.mem_cons_self))
  · exact ok_law T ⟨code_at FR, code_at FH, hB _ List.mem_cons_self, hB _ (List.mem_cons_of_mem _ List.mem_cons_self), hne⟩
end K44
open PySem PySem.W PySem.Calls PyProof.Rows
theorem PySem.Challenge.cw_wheelnines_k44_whole_seen_holds : PySem.Challenge.rw_wheelnines_k44_whole_seen.Holds := by
  w_on; o_law
  refine HandSHeadRun.head_any (r := K44.RR) (q := view K44.RR.prog [46]) (H := K44.hookY) (ob := K44.obY) (M := 20000) (loose := K44.names) (d := HandSHeadRun.topDef K44.RR.prog 46) (kwd := []) K44.obY_eq
    (by kernel_rfl) (fun s => by kernel_rfl) K44.run (by kernel_rfl) (by kernel_rfl) (by kernel_rfl) (by rfl) (by first | assumption | decide +kernel) (by decide +kernel) ⟨rfl, rfl, rfl, rfl, rfl, by decide +kernel⟩ ?hw ?hc
  case hw => w_witness2
  case hc =>
    refine K44.walkG (l := PySem.Challenge.rw_wheelnines_k44_whole_seen) (n := 63) (k := 10) (x := "script") rfl (by decide) (by kernel_rfl) ⟨rfl, by decide, by decide⟩ ?F
    intro w mg fa h Y G hmg0
    have hmg : mg ("law" : PySem.Str) = some (.ref fa) := by
      have e : (HandSHeadRun.topDef K44.RR.prog 46).name = ("law" : PySem.Str) := by kernel_rfl
      rw [← e]
      exact hmg0
    exact K44.law_at Y G hmg
#print axioms PySem.Challenge.cw_wheelnines_k44_whole_seen_holds

