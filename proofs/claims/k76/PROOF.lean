import PyProof.Rows.All
import Wide.All
import OpenK.AllK
import Wide.FinOn
import HandS.ForMost
import HandS.Codes
import HandS.TupAny
import HandS.Walk
import HandS.Zip
import HandS.Flow
import HandS.Style
import HandS.Evl
import HandS.IsInst
import HandS.Defaults
import HandS.DictComp
import KE.GoesMore
import KE.GoesEnum
import PyProof.Rows.CallKwBuiltin
import HandS.SetFor
import HandS.Exc
import KE.SortData
import KE.KeyNested
import HandS.TupSets
import KE.KStateDown
import HandS.Ends
import HandS.More
import HandS.Words
import HandS.WordsExc
import HandS.Head0
import HandS.Head1
import HandS.Head2
import HandS.HeadEnd
import HandS.HeadHook1
import HandS.HeadHook2
import PySem.Challenge.RW_grudgecote_k76_whole_each_number_a_stand
set_option Elab.async false
set_option linter.all false
set_option autoImplicit false
set_option maxRecDepth 100000
/-! plain mathematics 1: binomials, multinomials, shuffles by number -/
namespace Gr

/-- binomials -/
def ch : Nat → Nat → Nat
  | _, 0 => 1
  | 0, _ + 1 => 0
  | n + 1, k + 1 => ch n k + ch n (k + 1)
theorem ch_zero (n : Nat) : ch n 0 = 1 := by cases n <;> rfl
theorem ch_succ (n k : Nat) : ch (n + 1) (k + 1) = ch n k + ch n (k + 1) := rfl
theorem ch_gt : ∀ (n k : Nat), n < k → ch n k = 0
  | 0, 0, h => absurd h (Nat.lt_irrefl _)
  | 0, _ + 1, _ => rfl
  | n + 1, 0, h => absurd h (Nat.not_lt_zero _)
  | n + 1, k + 1, h => by rw [ch_succ, ch_gt n k (by omega), ch_gt n (k + 1) (by omega)]
theorem ch_absorb : ∀ (n k : Nat), (k + 1) * ch (n + 1) (k + 1) = (n + 1) * ch n k
  | 0, 0 => by decide
  | 0, k + 1 => by rw [ch_gt 1 (k + 2) (by omega), ch_gt 0 (k + 1) (by omega)]; simp
  | n + 1, 0 => by
    have h := ch_absorb n 0
    rw [ch_succ (n + 1) 0, ch_zero]
    rw [ch_zero] at h
    rw [Nat.mul_add, h]
    omega
  | n + 1, k + 1 => by
    have h1 := ch_absorb n k
    have h2 := ch_absorb n (k + 1)
    have e : ch (n + 1) (k + 1) = ch n k + ch n (k + 1) := ch_succ n k
    rw [ch_succ (n + 1) (k + 1), Nat.mul_add, h2]
    have : (k + 1 + 1) * ch (n + 1) (k + 1) = (k + 1) * ch (n + 1) (k + 1) + ch (n + 1) (k + 1) := by
      rw [Nat.add_mul, Nat.one_mul]
    rw [this, h1, e, Nat.mul_add, Nat.add_mul (n + 1) 1, Nat.add_mul (n + 1) 1]
    omega

def fact : Nat → Nat
  | 0 => 1
  | n + 1 => (n + 1) * fact n
theorem fact_pos : ∀ n, 0 < fact n
  | 0 => Nat.one_pos
  | n + 1 => Nat.mul_pos (Nat.succ_pos n) (fact_pos n)
theorem ch_fact : ∀ (t s : Nat), ch (t + s) s * fact s * fact t = fact (t + s)
  | t, 0 => by rw [ch_zero]; simp [fact]
  | t, s + 1 => by
    have h := ch_fact t s
    have a := ch_absorb (t + s) s
    show ch (t + s + 1) (s + 1) * ((s + 1) * fact s) * fact t = (t + s + 1) * fact (t + s)
    rw [← h, ← Nat.mul_assoc (ch (t + s + 1) (s + 1)) (s + 1), Nat.mul_comm (ch (t + s + 1) (s + 1)) (s + 1), a]
    simp only [Nat.mul_assoc]
/-- the loop's one step -/
theorem ch_step (t k : Nat) : ch (t + k) k * (t + k + 1) / (k + 1) = ch (t + (k + 1)) (k + 1) := by
  have a := ch_absorb (t + k) k
  rw [Nat.mul_comm (ch (t + k) k), ← a, Nat.mul_comm (k + 1), Nat.mul_div_cancel _ (Nat.succ_pos k)]
  rfl

/-- in how many ways rows of these sizes are shuffled, so many ahead -/
def multiA : Nat → List Nat → Nat
  | _, [] => 1
  | t, s :: r => ch (t + s) s * multiA (t + s) r
def multi (l : List Nat) : Nat := multiA 0 l
theorem multiA_snoc : ∀ (t : Nat) (l : List Nat) (s : Nat), multiA t (l ++ [s]) = multiA t l * ch (t + l.sum + s) s
  | t, [], s => by simp [multiA]
  | t, a :: l, s => by
    show ch (t + a) a * multiA (t + a) (l ++ [s]) = ch (t + a) a * multiA (t + a) l * ch (t + (a :: l).sum + s) s
    rw [multiA_snoc (t + a) l s, List.sum_cons, ← Nat.add_assoc t a, Nat.mul_assoc]
theorem multi_snoc (l : List Nat) (s : Nat) : multi (l ++ [s]) = multi l * ch (l.sum + s) s := by
  have h := multiA_snoc 0 l s
  rw [Nat.zero_add] at h
  exact h

/-- product of factorials -/
def pf : List Nat → Nat
  | [] => 1
  | s :: r => fact s * pf r
theorem pf_pos : ∀ l, 0 < pf l
  | [] => Nat.one_pos
  | s :: r => Nat.mul_pos (fact_pos s) (pf_pos r)
theorem multiA_fact : ∀ (t : Nat) (l : List Nat), multiA t l * pf l * fact t = fact (t + l.sum)
  | t, [] => by simp [multiA, pf]
  | t, s :: r => by
    have h := multiA_fact (t + s) r
    have c := ch_fact t s
    rw [List.sum_cons, ← Nat.add_assoc, ← h, ← c]
    simp only [multiA, pf]
    simp only [Nat.mul_comm, Nat.mul_left_comm, Nat.mul_assoc]
theorem multi_fact (l : List Nat) : multi l * pf l = fact l.sum := by
  have h := multiA_fact 0 l
  rw [Nat.zero_add] at h
  show multiA 0 l * pf l = fact l.sum
  rw [← h]
  exact (Nat.mul_one _).symm
theorem multi_pos (l : List Nat) : 0 < multi l := by
  have h := multi_fact l
  rcases Nat.eq_zero_or_pos (multi l) with e | e
  · rw [e, Nat.zero_mul] at h
    exact absurd h.symm (Nat.ne_of_gt (fact_pos _))
  · exact e
theorem multi_le_fact (l : List Nat) : multi l ≤ fact l.sum := by
  rw [← multi_fact l]
  exact Nat.le_mul_of_pos_right _ (pf_pos l)
theorem multi_zero {l : List Nat} (h : l.sum = 0) : multi l = 1 := by
  have a := multi_fact l
  rw [h] at a
  have p := multi_pos l
  have q := pf_pos l
  have : multi l * pf l = 1 := a
  exact Nat.eq_one_of_mul_eq_one_right this

/-! one less at i -/
def dec (l : List Nat) (i : Nat) : List Nat := l.set i (l.getD i 0 - 1)
theorem dec_len (l : List Nat) (i : Nat) : (dec l i).length = l.length := List.length_set ..
theorem dec_zero (s : Nat) (r : List Nat) : dec (s :: r) 0 = (s - 1) :: r := rfl
theorem dec_succ (s : Nat) (r : List Nat) (i : Nat) : dec (s :: r) (i + 1) = s :: dec r i := by simp [dec]
theorem dec_getD (l : List Nat) (i j : Nat) : (dec l i).getD j 0 = if i = j then l.getD i 0 - 1 else l.getD j 0 := by
  unfold dec
  rw [List.getD_eq_getElem?_getD, List.getElem?_set]
  by_cases h : i = j
  · subst h
    rw [if_pos rfl, if_pos rfl]
    by_cases hl : i < l.length
    · rw [if_pos hl]; rfl
    · rw [if_neg hl]
      simp [List.getD_eq_getElem?_getD, List.getElem?_eq_none (Nat.le_of_not_lt hl)]
  · rw [if_neg h, if_neg h, List.getD_eq_getElem?_getD]
theorem dec_sum : ∀ (l : List Nat) (i : Nat), 0 < l.getD i 0 → (dec l i).sum + 1 = l.sum
  | [], i, h => by simp at h
  | s :: r, 0, h => by
    have : 0 < s := h
    rw [dec_zero, List.sum_cons, List.sum_cons]
    omega
  | s :: r, i + 1, h => by
    have ih := dec_sum r i (by simpa using h)
    rw [dec_succ, List.sum_cons, List.sum_cons]
    omega
theorem pf_dec : ∀ (l : List Nat) (i : Nat), 0 < l.getD i 0 → pf l = l.getD i 0 * pf (dec l i)
  | [], i, h => by simp at h
  | s :: r, 0, h => by
    have h' : 0 < s := h
    obtain ⟨k, rfl⟩ : ∃ k, s = k + 1 := ⟨s - 1, by omega⟩
    show (k + 1) * fact k * pf r = (k + 1) * (fact (k + 1 - 1) * pf r)
    rw [Nat.add_sub_cancel, Nat.mul_assoc]
  | s :: r, i + 1, h => by
    have ih := pf_dec r i (by simpa using h)
    rw [dec_succ]
    show fact s * pf r = r.getD i 0 * (fact s * pf (dec r i))
    rw [ih]
    simp only [Nat.mul_left_comm]
/-- the ways whose first is i -/
def wy (l : List Nat) (i : Nat) : Nat := if l.getD i 0 > 0 then multi (dec l i) else 0
def wys (l : List Nat) : List Nat := (List.range l.length).map (wy l)
theorem wys_len (l : List Nat) : (wys l).length = l.length := by simp [wys]
theorem wy_pf (l : List Nat) (i : Nat) (h : 0 < l.sum) : wy l i * pf l = l.getD i 0 * fact (l.sum - 1) := by
  unfold wy
  by_cases hp : l.getD i 0 > 0
  · rw [if_pos hp, pf_dec l i hp]
    have h2 := dec_sum l i hp
    have h3 := multi_fact (dec l i)
    have e : l.sum - 1 = (dec l i).sum := by omega
    rw [e, ← h3]
    simp only [Nat.mul_left_comm]
  · rw [if_neg hp]
    have : l.getD i 0 = 0 := by omega
    rw [this]; simp
theorem sum_mul (f : Nat → Nat) (c : Nat) : ∀ l : List Nat, (l.map f).sum * c = (l.map fun i => f i * c).sum
  | [] => by simp
  | a :: l => by simp only [List.map_cons, List.sum_cons, Nat.add_mul, sum_mul f c l]
theorem sum_getD : ∀ l : List Nat, ((List.range l.length).map fun i => l.getD i 0).sum = l.sum
  | [] => rfl
  | s :: r => by
    rw [List.length_cons, List.range_succ_eq_map, List.map_cons, List.map_map, List.sum_cons, List.sum_cons]
    have := sum_getD r
    have e : ((fun i => (s :: r).getD i 0) ∘ Nat.succ) = fun i => r.getD i 0 := by funext i; simp
    rw [e, this]; rfl
theorem wys_sum (l : List Nat) (h : 0 < l.sum) : (wys l).sum = multi l := by
  have p := pf_pos l
  apply Nat.eq_of_mul_eq_mul_right p
  unfold wys
  rw [sum_mul]
  have e : (List.range l.length).map (fun i => wy l i * pf l) = (List.range l.length).map (fun i => l.getD i 0 * fact (l.sum - 1)) :=
    List.map_congr_left fun i _ => wy_pf l i h
  rw [e, ← sum_mul (fun i => l.getD i 0), sum_getD, multi_fact]
  obtain ⟨k, hk⟩ : ∃ k, l.sum = k + 1 := ⟨l.sum - 1, by omega⟩
  rw [hk]; rfl

/-! the search for the first -/
def pI : List Nat → Nat → Nat
  | [], _ => 0
  | w :: r, n => if n < w then 0 else pI r (n - w) + 1
def pR : List Nat → Nat → Nat
  | [], n => n
  | w :: r, n => if n < w then n else pR r (n - w)
theorem pick_spec : ∀ (ws : List Nat) (n : Nat), n < ws.sum → pI ws n < ws.length ∧ pR ws n < ws.getD (pI ws n) 0 ∧ n = (ws.take (pI ws n)).sum + pR ws n
  | [], n, h => by simp at h
  | w :: r, n, h => by
    unfold pI pR
    by_cases hw : n < w
    · rw [if_pos hw, if_pos hw]
      exact ⟨Nat.succ_pos _, hw, by simp⟩
    · rw [if_neg hw, if_neg hw]
      rw [List.sum_cons] at h
      obtain ⟨a, b, c⟩ := pick_spec r (n - w) (by omega)
      refine ⟨by simpa using a, by simpa using b, ?_⟩
      rw [List.take_succ_cons, List.sum_cons]
      omega
theorem pick_mono : ∀ (ws : List Nat) (n m : Nat), n ≤ m → m < ws.sum → pI ws n < pI ws m ∨ (pI ws n = pI ws m ∧ pR ws n + (m - n) = pR ws m)
  | [], n, m, _, h => by simp at h
  | w :: r, n, m, hn, h => by
    unfold pI pR
    by_cases h1 : n < w
    · by_cases h2 : m < w
      · rw [if_pos h1, if_pos h1, if_pos h2, if_pos h2]
        exact .inr ⟨rfl, by omega⟩
      · rw [if_pos h1, if_neg h2]
        exact .inl (Nat.succ_pos _)
    · have h2 : ¬ m < w := by omega
      rw [if_neg h1, if_neg h1, if_neg h2, if_neg h2]
      rw [List.sum_cons] at h
      rcases pick_mono r (n - w) (m - w) (by omega) (by omega) with q | ⟨q1, q2⟩
      · exact .inl (by omega)
      · exact .inr ⟨by omega, by omega⟩

/-! shuffles by number -/
def nthS : Nat → List Nat → Nat → List Nat
  | 0, _, _ => []
  | t + 1, l, n => pI (wys l) n :: nthS t (dec l (pI (wys l) n)) (pR (wys l) n)
def numS : List Nat → List Nat → Nat
  | _, [] => 0
  | l, a :: r => ((wys l).take a).sum + numS (dec l a) r
theorem wys_getD (l : List Nat) (i : Nat) (h : i < l.length) : (wys l).getD i 0 = wy l i := by
  unfold wys
  rw [List.getD_eq_getElem?_getD, List.getElem?_map, List.getElem?_range h]; rfl
theorem pick_ok (l : List Nat) (n : Nat) (h0 : 0 < l.sum) (h : n < multi l) :
    pI (wys l) n < l.length ∧ 0 < l.getD (pI (wys l) n) 0 ∧ pR (wys l) n < multi (dec l (pI (wys l) n)) ∧ n = ((wys l).take (pI (wys l) n)).sum + pR (wys l) n := by
  have hs : n < (wys l).sum := by rw [wys_sum l h0]; exact h
  obtain ⟨a, b, c⟩ := pick_spec (wys l) n hs
  rw [wys_len] at a
  rw [wys_getD l _ a] at b
  unfold wy at b
  by_cases hp : l.getD (pI (wys l) n) 0 > 0
  · rw [if_pos hp] at b
    exact ⟨a, hp, b, c⟩
  · rw [if_neg hp] at b
    exact absurd b (Nat.not_lt_zero _)
theorem num_nthS : ∀ (t : Nat) (l : List Nat) (n : Nat), l.sum = t → n < multi l → numS l (nthS t l n) = n
  | 0, l, n, ht, h => by
    rw [multi_zero ht] at h
    show 0 = n
    omega
  | t + 1, l, n, ht, h => by
    obtain ⟨a, b, c, d⟩ := pick_ok l n (by omega) h
    have e := dec_sum l _ b
    show ((wys l).take (pI (wys l) n)).sum + numS (dec l (pI (wys l) n)) (nthS t (dec l (pI (wys l) n)) (pR (wys l) n)) = n
    rw [num_nthS t _ _ (by omega) c]
    exact d.symm
theorem nthS_len : ∀ (t : Nat) (l : List Nat) (n : Nat), (nthS t l n).length = t
  | 0, _, _ => rfl
  | t + 1, l, n => congrArg (· + 1) (nthS_len t _ _)
theorem le_sum_mem : ∀ {l : List Nat} {x : Nat}, x ∈ l → x ≤ l.sum
  | [], _, h => by cases h
  | a :: r, x, h => by
    rw [List.sum_cons]
    rcases List.mem_cons.mp h with q | q
    · omega
    · have := le_sum_mem q
      omega
theorem nthS_count : ∀ (t : Nat) (l : List Nat) (n : Nat), l.sum = t → n < multi l → ∀ i, (nthS t l n).count i = l.getD i 0
  | 0, l, n, ht, h, i => by
    show 0 = l.getD i 0
    have : l.getD i 0 ≤ l.sum := by
      rcases Nat.lt_or_ge i l.length with q | q
      · rw [List.getD_eq_getElem?_getD, List.getElem?_eq_getElem q]
        exact le_sum_mem (List.getElem_mem q)
      · simp [List.getD_eq_getElem?_getD, List.getElem?_eq_none q]
    omega
  | t + 1, l, n, ht, h, i => by
    obtain ⟨a, b, c, d⟩ := pick_ok l n (by omega) h
    have e := dec_sum l _ b
    show (pI (wys l) n :: nthS t (dec l (pI (wys l) n)) (pR (wys l) n)).count i = l.getD i 0
    rw [List.count_cons, nthS_count t _ _ (by omega) c i, dec_getD]
    by_cases hi : pI (wys l) n = i
    · subst hi
      simp only [if_true, beq_self_eq_true]
      omega
    · rw [if_neg hi, if_neg (by simpa using hi)]; rfl
theorem nthS_lt : ∀ (t : Nat) (l : List Nat) (n : Nat), l.sum = t → n < multi l → ∀ i ∈ nthS t l n, i < l.length
  | 0, l, n, ht, h, i, hi => by cases hi
  | t + 1, l, n, ht, h, i, hi => by
    obtain ⟨a, b, c, d⟩ := pick_ok l n (by omega) h
    have e := dec_sum l _ b
    rcases List.mem_cons.mp hi with q | q
    · rw [q]; exact a
    · have := nthS_lt t _ _ (by omega) c i q
      rw [dec_len] at this
      exact this

/-! lists that rise, of one length -/
def Lx : List Nat → List Nat → Prop
  | [], _ => False
  | _ :: _, [] => False
  | a :: r, b :: t => a < b ∨ (a = b ∧ Lx r t)
theorem Lx.irrefl : ∀ (l : List Nat), ¬ Lx l l
  | [], h => h
  | a :: r, h => by
    rcases h with h | ⟨_, h⟩
    · exact absurd h (Nat.lt_irrefl _)
    · exact Lx.irrefl r h
theorem Lx.trans : ∀ {a b c : List Nat}, Lx a b → Lx b c → Lx a c
  | [], _, _, h, _ => h.elim
  | _ :: _, [], _, h, _ => h.elim
  | _ :: _, _ :: _, [], _, h => h.elim
  | a :: r, b :: s, c :: t, h1, h2 => by
    rcases h1 with h1 | ⟨e1, h1⟩
    · rcases h2 with h2 | ⟨e2, h2⟩
      · exact .inl (Nat.lt_trans h1 h2)
      · exact .inl (e2 ▸ h1)
    · rcases h2 with h2 | ⟨e2, h2⟩
      · exact .inl (e1 ▸ h2)
      · exact .inr ⟨e1.trans e2, Lx.trans h1 h2⟩
theorem nthS_mono : ∀ (t : Nat) (l : List Nat) (n m : Nat), l.sum = t → n < m → m < multi l → Lx (nthS t l n) (nthS t l m)
  | 0, l, n, m, ht, h, hm => by
    rw [multi_zero ht] at hm
    omega
  | t + 1, l, n, m, ht, h, hm => by
    have hs : m < (wys l).sum := by rw [wys_sum l (by omega)]; exact hm
    obtain ⟨a, b, c, d⟩ := pick_ok l n (by omega) (by omega)
    obtain ⟨a', b', c', d'⟩ := pick_ok l m (by omega) hm
    rcases pick_mono (wys l) n m (by omega) hs with q | ⟨q1, q2⟩
    · exact .inl q
    · refine .inr ⟨q1, ?_⟩
      have e := dec_sum l _ b
      rw [← q1] at c' ⊢
      exact nthS_mono t _ _ _ (by omega) (by omega) c'

/-! all heaps together -/
def waysN : List (List Nat) → Nat
  | [] => 1
  | m :: r => multi m * waysN r
theorem waysN_pos : ∀ l, 0 < waysN l
  | [] => Nat.one_pos
  | m :: r => Nat.mul_pos (multi_pos m) (waysN_pos r)
def rowsN : List (List Nat) → Nat → List (List Nat)
  | [], _ => []
  | m :: r, n => nthS m.sum m (n / waysN r) :: rowsN r (n % waysN r)
def numR : Nat → List (List Nat) → List (List Nat) → Nat
  | acc, m :: ms, r :: rs => numR (acc * multi m + numS m r) ms rs
  | acc, _, _ => acc
theorem rowsN_len : ∀ (l : List (List Nat)) (n : Nat), (rowsN l n).length = l.length
  | [], _ => rfl
  | m :: r, n => congrArg (· + 1) (rowsN_len r _)
theorem div_lt (m : List Nat) (r : List (List Nat)) {n : Nat} (h : n < waysN (m :: r)) : n / waysN r < multi m := Nat.div_lt_of_lt_mul (by
  rw [Nat.mul_comm]; exact h)
theorem numR_rows : ∀ (l : List (List Nat)) (acc n : Nat), n < waysN l → numR acc l (rowsN l n) = acc * waysN l + n
  | [], acc, n, h => by
    have : n < 1 := h
    show acc = acc * 1 + n
    omega
  | m :: r, acc, n, h => by
    show numR (acc * multi m + numS m (nthS m.sum m (n / waysN r))) r (rowsN r (n % waysN r)) = acc * (multi m * waysN r) + n
    rw [numR_rows r _ _ (Nat.mod_lt _ (waysN_pos r)), num_nthS _ _ _ rfl (div_lt m r h), Nat.add_mul, Nat.mul_assoc, Nat.add_assoc, Nat.div_add_mod']
def LxR : List (List Nat) → List (List Nat) → Prop
  | [], _ => False
  | _ :: _, [] => False
  | a :: r, b :: t => Lx a b ∨ (a = b ∧ LxR r t)
theorem rowsN_mono : ∀ (l : List (List Nat)) (n m : Nat), n < m → m < waysN l → LxR (rowsN l n) (rowsN l m)
  | [], n, m, h, hm => by
    have : m < 1 := hm
    omega
  | a :: r, n, m, h, hm => by
    have hd : n / waysN r ≤ m / waysN r := Nat.div_le_div_right (Nat.le_of_lt h)
    rcases Nat.lt_or_ge (n / waysN r) (m / waysN r) with q | q
    · exact .inl (nthS_mono _ _ _ _ rfl q (div_lt a r hm))
    · have e : n / waysN r = m / waysN r := Nat.le_antisymm hd q
      refine .inr ⟨by rw [e], ?_⟩
      refine rowsN_mono r _ _ ?_ (Nat.mod_lt _ (waysN_pos r))
      have h1 := Nat.div_add_mod n (waysN r)
      have h2 := Nat.div_add_mod m (waysN r)
      rw [e] at h1
      omega

/-! all cuts -/
def cutsStep (found : List (List Nat)) (len : Nat) : List (List Nat) := found.flatMap fun c => (List.range (len + 1)).map fun p => c ++ [p]
def allCuts (lens : List Nat) : List (List Nat) := lens.foldl cutsStep [[]]
theorem allCuts_snoc (l : List Nat) (x : Nat) : allCuts (l ++ [x]) = cutsStep (allCuts l) x := by
  unfold allCuts
  rw [List.foldl_append]; rfl
/-- each cut below its line's length -/
def Fits : List Nat → List Nat → Prop
  | [], [] => True
  | c :: cs, l :: ls => c ≤ l ∧ Fits cs ls
  | _, _ => False
theorem fits_len : ∀ {c l : List Nat}, Fits c l → c.length = l.length
  | [], [], _ => rfl
  | [], _ :: _, h => h.elim
  | _ :: _, [], h => h.elim
  | c :: cs, l :: ls, h => congrArg (· + 1) (fits_len h.2)
theorem fits_snoc : ∀ {c l : List Nat} {p x : Nat}, Fits c l → p ≤ x → Fits (c ++ [p]) (l ++ [x])
  | [], [], _, _, _, hp => ⟨hp, trivial⟩
  | [], _ :: _, _, _, h, _ => h.elim
  | _ :: _, [], _, _, h, _ => h.elim
  | c :: cs, l :: ls, _, _, h, hp => ⟨h.1, fits_snoc h.2 hp⟩
theorem fits_unsnoc : ∀ {c l : List Nat} {x : Nat}, Fits c (l ++ [x]) → ∃ c' p, c = c' ++ [p] ∧ Fits c' l ∧ p ≤ x
  | [], [], _, h => h.elim
  | [], _ :: _, _, h => h.elim
  | [p], [], x, h => ⟨[], p, rfl, trivial, h.1⟩
  | _ :: _ :: _, [], _, h => h.2.elim
  | c :: cs, l :: ls, x, h => by
    obtain ⟨c', p, e, f, q⟩ := fits_unsnoc (c := cs) (l := ls) (x := x) h.2
    exact ⟨c :: c', p, by rw [e]; rfl, ⟨h.1, f⟩, q⟩
/-- induction from the end -/
theorem snoc_ind {α : Type} {P : List α → Prop} (h0 : P []) (h1 : ∀ l x, P l → P (l ++ [x])) (l : List α) : P l := by
  have : ∀ r : List α, P r.reverse := by
    intro r
    induction r with
    | nil => exact h0
    | cons x r ih => rw [List.reverse_cons]; exact h1 _ _ ih
  have h := this l.reverse
  rwa [List.reverse_reverse] at h
theorem mem_allCuts (l : List Nat) : ∀ c, c ∈ allCuts l ↔ Fits c l := by
  refine snoc_ind (P := fun l => ∀ c, c ∈ allCuts l ↔ Fits c l) ?_ ?_ l
  · intro c
    cases c with
    | nil => simp [allCuts, Fits]
    | cons a r => simp [allCuts, Fits]
  · intro l x ih c
    rw [allCuts_snoc]
    unfold cutsStep
    rw [List.mem_flatMap]
    constructor
    · rintro ⟨d, hd, hc⟩
      obtain ⟨p, hp, rfl⟩ := List.mem_map.mp hc
      exact fits_snoc ((ih d).mp hd) (by have := List.mem_range.mp hp; omega)
    · intro h
      obtain ⟨c', p, rfl, f, q⟩ := fits_unsnoc h
      exact ⟨c', (ih c').mpr f, List.mem_map.mpr ⟨p, List.mem_range.mpr (by omega), rfl⟩⟩
theorem Lx.snoc : ∀ {a b : List Nat} (x y : Nat), a.length = b.length → Lx a b → Lx (a ++ [x]) (b ++ [y])
  | [], _, _, _, _, h => h.elim
  | _ :: _, [], _, _, _, h => h.elim
  | a :: r, b :: t, x, y, e, h => by
    rcases h with h | ⟨e1, h⟩
    · exact .inl h
    · exact .inr ⟨e1, Lx.snoc x y (by simpa using e) h⟩
theorem Lx.last : ∀ (a : List Nat) {x y : Nat}, x < y → Lx (a ++ [x]) (a ++ [y])
  | [], _, _, h => .inl h
  | a :: r, _, _, h => .inr ⟨rfl, Lx.last r h⟩
theorem allCuts_rise (l : List Nat) : (allCuts l).Pairwise Lx := by
  refine snoc_ind (P := fun l => (allCuts l).Pairwise Lx) (by simp [allCuts]) ?_ l
  intro l x ih
  rw [allCuts_snoc]
  unfold cutsStep
  rw [List.pairwise_flatMap]
  refine ⟨fun c _ => ?_, ?_⟩
  · rw [List.pairwise_map]
    exact List.pairwise_lt_range.imp fun h => Lx.last c h
  · refine List.Pairwise.imp_of_mem ?_ ih
    intro c d hc hd h u hu v hv
    obtain ⟨p, _, rfl⟩ := List.mem_map.mp hu
    obtain ⟨q, _, rfl⟩ := List.mem_map.mp hv
    exact Lx.snoc p q ((fits_len ((mem_allCuts l c).mp hc)).trans (fits_len ((mem_allCuts l d).mp hd)).symm) h
theorem allCuts_ne (l : List Nat) : allCuts l ≠ [] := by
  intro h
  have : ∃ c, Fits c l := by
    induction l with
    | nil => exact ⟨[], trivial⟩
    | cons x r ih =>
      refine ⟨List.replicate (x :: r).length 0, ?_⟩
      have : ∀ l : List Nat, Fits (List.replicate l.length 0) l := by
        intro l
        induction l with
        | nil => trivial
        | cons x r ih => exact ⟨Nat.zero_le _, ih⟩
      exact this _
  obtain ⟨c, hc⟩ := this
  have := (mem_allCuts l c).mpr hc
  rw [h] at this
  cases this

/-! by number, over a list of cuts with their ways -/
section
variable (W : List Nat → Nat)
def total (cs : List (List Nat)) : Nat := (cs.map W).sum
def nthC : List (List Nat) → Nat → Option (List Nat × Nat)
  | [], _ => none
  | c :: r, n => if n < W c then some (c, n) else nthC r (n - W c)
def numC (due : List Nat) : List (List Nat) → Nat
  | [] => 0
  | c :: r => if c = due then 0 else W c + numC due r
theorem nthC_some : ∀ (cs : List (List Nat)) (n : Nat), n < total W cs → ∃ c m, nthC W cs n = some (c, m) ∧ c ∈ cs ∧ m < W c
  | [], n, h => by simp [total] at h
  | c :: r, n, h => by
    unfold nthC
    by_cases hw : n < W c
    · rw [if_pos hw]
      exact ⟨c, n, rfl, List.mem_cons_self, hw⟩
    · rw [if_neg hw]
      have h' : n < W c + total W r := h
      obtain ⟨c', m, e, hm, hl⟩ := nthC_some r (n - W c) (by omega)
      exact ⟨c', m, e, List.mem_cons_of_mem _ hm, hl⟩
theorem numC_nthC : ∀ (cs : List (List Nat)) (n : Nat) (c : List Nat) (m : Nat), cs.Nodup → nthC W cs n = some (c, m) → numC W c cs + m = n
  | [], n, c, m, _, h => by cases h
  | d :: r, n, c, m, hn, h => by
    unfold nthC at h
    by_cases hw : n < W d
    · rw [if_pos hw] at h
      cases h
      unfold numC
      rw [if_pos rfl, Nat.zero_add]
    · rw [if_neg hw] at h
      have ih := numC_nthC r (n - W d) c m (List.nodup_cons.mp hn).2 h
      have hc : c ∈ r := by
        have : ∀ (cs : List (List Nat)) (n : Nat), nthC W cs n = some (c, m) → c ∈ cs := by
          intro cs
          induction cs with
          | nil => intro n h; cases h
          | cons e t ih =>
            intro n h
            unfold nthC at h
            by_cases hw : n < W e
            · rw [if_pos hw] at h; cases h; exact List.mem_cons_self
            · rw [if_neg hw] at h; exact List.mem_cons_of_mem _ (ih _ h)
        exact this r _ h
      have hne : d ≠ c := fun e => (List.nodup_cons.mp hn).1 (e ▸ hc)
      unfold numC
      rw [if_neg hne]
      omega
theorem nthC_mono : ∀ (cs : List (List Nat)) (n k : Nat) (c : List Nat) (m : Nat) (d : List Nat) (l : Nat), cs.Pairwise Lx → n < k → nthC W cs n = some (c, m) → nthC W cs k = some (d, l) → Lx c d ∨ (c = d ∧ m < l)
  | [], _, _, _, _, _, _, _, _, h, _ => by cases h
  | e :: r, n, k, c, m, d, l, hp, hnk, h1, h2 => by
    have memr : ∀ (cs : List (List Nat)) (n : Nat) (c : List Nat) (m : Nat), nthC W cs n = some (c, m) → c ∈ cs := by
      intro cs
      induction cs with
      | nil => intro n c m h; cases h
      | cons e t ih =>
        intro n c m h
        unfold nthC at h
        by_cases hw : n < W e
        · rw [if_pos hw] at h; cases h; exact List.mem_cons_self
        · rw [if_neg hw] at h; exact List.mem_cons_of_mem _ (ih _ _ _ h)
    unfold nthC at h1 h2
    obtain ⟨p1, p2⟩ := List.pairwise_cons.mp hp
    by_cases hn : n < W e
    · rw [if_pos hn] at h1
      cases h1
      by_cases hk : k < W e
      · rw [if_pos hk] at h2
        cases h2
        exact .inr ⟨rfl, hnk⟩
      · rw [if_neg hk] at h2
        exact .inl (p1 d (memr r _ _ _ h2))
    · have hk : ¬ k < W e := by omega
      rw [if_neg hn] at h1
      rw [if_neg hk] at h2
      exact nthC_mono r _ _ c m d l p2 (by omega) h1 h2
theorem nodup_of_rise {cs : List (List Nat)} (h : cs.Pairwise Lx) : cs.Nodup := h.imp fun {a b} q e => by
  subst e
  exact Lx.irrefl a q
end
end Gr
/-! plain mathematics 2: standings, lines, pecks -/
namespace Gr
section
variable {α : Type}
abbrev Heap1 (α : Type) := List (Nat × α)
abbrev Stg (α : Type) := List (List (Nat × α))
def hp (st : Stg α) (d : Nat) : List (Nat × α) := st.getD d []
def hw (h : List (Nat × α)) (b : Nat) : List α := (h.filter fun g => g.1 == b).map (·.2)
def held (st : Stg α) (a b : Nat) : List α := hw (hp st a) b
def line (st : Stg α) (a b : Nat) : List α := held st a b ++ (held st b a).reverse
def cut (st : Stg α) (a b : Nat) : Nat := (held st a b).length
def abouts (h : List (Nat × α)) : List Nat := h.map (·.1)
def grudges (st : Stg α) : Nat := (st.map List.length).sum
def pairs (n : Nat) : List (Nat × Nat) := (List.range n).flatMap fun a => (List.range (n - (a + 1))).map fun j => (a, a + 1 + j)
/-- heaps of n doves: about doves that are there, not about its own -/
def Okn (n : Nat) (st : Stg α) : Prop := st.length = n ∧ ∀ d, ∀ g ∈ hp st d, g.1 < n ∧ g.1 ≠ d
theorem hw_nil (b : Nat) : hw ([] : List (Nat × α)) b = [] := rfl
theorem hw_append (h k : List (Nat × α)) (b : Nat) : hw (h ++ k) b = hw h b ++ hw k b := by
  unfold hw
  rw [List.filter_append, List.map_append]
theorem hw_cons (g : Nat × α) (h : List (Nat × α)) (b : Nat) : hw (g :: h) b = (if g.1 = b then [g.2] else []) ++ hw h b := by
  unfold hw
  rw [List.filter_cons]
  by_cases e : g.1 = b
  · simp [e]
  · simp [e]
theorem hw_one (a b : Nat) (w : α) : hw [(a, w)] b = if a = b then [w] else [] := by
  rw [hw_cons, hw_nil, List.append_nil]
theorem hp_set (st : Stg α) (d e : Nat) (h : List (Nat × α)) (hd : d < st.length) : hp (st.set d h) e = if d = e then h else hp st e := by
  unfold hp
  rw [List.getD_eq_getElem?_getD, List.getElem?_set]
  by_cases q : d = e
  · subst q
    simp [hd]
  · simp [q]
theorem hp_out (st : Stg α) (d : Nat) (h : st.length ≤ d) : hp st d = [] := by
  unfold hp
  rw [List.getD_eq_getElem?_getD, List.getElem?_eq_none h]; rfl
theorem stg_ext {s t : Stg α} (hl : s.length = t.length) (h : ∀ d, d < s.length → hp s d = hp t d) : s = t := by
  apply List.ext_getElem? 
  intro i
  by_cases hi : i < s.length
  · have := h i hi
    unfold hp at this
    rw [List.getD_eq_getElem?_getD, List.getD_eq_getElem?_getD, List.getElem?_eq_getElem hi, List.getElem?_eq_getElem (by omega)] at this
    rw [List.getElem?_eq_getElem hi, List.getElem?_eq_getElem (by omega)]
    exact congrArg some this
  · rw [List.getElem?_eq_none (by omega), List.getElem?_eq_none (by omega)]
/-! pecks -/
def peckM (st : Stg α) (d : Nat) : Stg α := match (hp st d).getLast? with
  | none => st
  | some g => (st.set d (hp st d).dropLast).set g.1 (hp st g.1 ++ [(d, g.2)])
/-- behind a row; none where one isn't let -/
def run (st : Stg α) : List Nat → Option (Stg α)
  | [] => some st
  | d :: r => if d < st.length ∧ hp st d ≠ [] then run (peckM st d) r else none
theorem run_append (st : Stg α) : ∀ (r t : List Nat), run st (r ++ t) = (run st r).bind fun s => run s t
  | [], t => rfl
  | d :: r, t => by
    show (if d < st.length ∧ hp st d ≠ [] then run (peckM st d) (r ++ t) else none) = (if d < st.length ∧ hp st d ≠ [] then run (peckM st d) r else none).bind fun s => run s t
    by_cases h : d < st.length ∧ hp st d ≠ []
    · rw [if_pos h, if_pos h]
      exact run_append (peckM st d) r t
    · rw [if_neg h, if_neg h]; rfl
/-! shares: of lines of these lengths so many lie with whom -/
def putM (m : List (List Nat)) (a b v : Nat) : List (List Nat) := m.set a ((m.getD a []).set b v)
def zeros (n : Nat) : List (List Nat) := (List.range n).map fun _ => List.replicate n 0
def szStep (m : List (List Nat)) (x : (Nat × Nat) × Nat × Nat) : List (List Nat) := putM (putM m x.1.1 x.1.2 x.2.2) x.1.2 x.1.1 (x.2.1 - x.2.2)
def szM (n : Nat) (lens cuts : List Nat) : List (List Nat) := ((pairs n).zip (lens.zip cuts)).foldl szStep (zeros n)
def lensM (n : Nat) (ln : Nat → Nat → List α) : List Nat := (pairs n).map fun p => (ln p.1 p.2).length
/-- heaps dealt out: whom the grudges are about, the words from a row for each -/
def deal (ws : Nat → List α) : List Nat → List (Nat × α)
  | [] => []
  | a :: r => match ws a with
    | [] => deal ws r
    | w :: t => (a, w) :: deal (fun b => if b = a then t else ws b) r
def heapsM (ln : Nat → Nat → List α) (rows : List (List Nat)) : Stg α := rows.zipIdx.map fun p => deal (ln p.2) p.1
def WM (n : Nat) (lens : List Nat) (c : List Nat) : Nat := waysN (szM n lens c)
def hmM (n : Nat) (ln : Nat → Nat → List α) : Nat := total (WM n (lensM n ln)) (allCuts (lensM n ln))
def nthM (n : Nat) (ln : Nat → Nat → List α) (k : Nat) : Stg α := match nthC (WM n (lensM n ln)) (allCuts (lensM n ln)) k with
  | some (c, m) => heapsM ln (rowsN (szM n (lensM n ln) c) m)
  | none => []
def dueM (n : Nat) (other : Stg α) : List Nat := (pairs n).map fun p => cut other p.1 p.2
def nofM (n : Nat) (ln : Nat → Nat → List α) (other : Stg α) : Nat :=
  numC (WM n (lensM n ln)) (dueM n other) (allCuts (lensM n ln)) + numR 0 (szM n (lensM n ln) (dueM n other)) (other.map abouts)
/-! how between leads on -/
def prt (ov : Nat → Int) : List Nat → List Nat × List Nat
  | [] => ([], [])
  | a :: r => if ov a > 0 then (let p := prt (fun b => if b = a then ov a - 1 else ov b) r; (p.1, a :: p.2)) else (let p := prt ov r; (a :: p.1, p.2))
def ovM (here other : Stg α) (d : Nat) (b : Nat) : Int := (cut here d b : Int) - (cut other d b : Int)
def partM (here other : Stg α) (d : Nat) : List Nat × List Nat := ((prt (ovM here other d) (abouts (hp here d)).reverse).1.reverse, (prt (ovM here other d) (abouts (hp here d)).reverse).2.reverse)
def rowTake (here : Stg α) (d low : Nat) : List Nat := List.replicate ((hp here d).length - low) d
def row1 (here other : Stg α) (d : Nat) : List Nat :=
  if (partM here other d).2.length > 0 then rowTake here d 0 ++ ((partM here other d).1 ++ (partM here other d).2) ++ List.replicate (partM here other d).2.length d else []
def row2 (here other : Stg α) (d : Nat) : List Nat := if abouts (hp here d) ≠ abouts (hp other d) then rowTake here d 0 ++ abouts (hp other d) else []
def leadGo (f : Stg α → Nat → List Nat) : List Nat → Stg α → Stg α × List Nat
  | [], s => (s, [])
  | d :: ds, s => ((leadGo f ds ((run s (f s d)).getD s)).1, f s d ++ (leadGo f ds ((run s (f s d)).getD s)).2)
def leadA (s t : Stg α) : Stg α := (leadGo (fun h d => row1 h t d) (List.range s.length) s).1
def leadM (s t : Stg α) : List Nat := (leadGo (fun h d => row1 h t d) (List.range s.length) s).2 ++ (leadGo (fun h d => row2 h t d) (List.range s.length) (leadA s t)).2
end
end Gr
/-! plain mathematics 3: pecks keep lines; a dove's heap laid anew -/
namespace Gr
section
variable {α : Type}
theorem hp_peck {st : Stg α} {d : Nat} {g : Nat × α} (hd : d < st.length) (hg : (hp st d).getLast? = some g) (h1 : g.1 < st.length) (h2 : g.1 ≠ d) (e : Nat) :
    hp (peckM st d) e = if e = g.1 then hp st g.1 ++ [(d, g.2)] else if e = d then (hp st d).dropLast else hp st e := by
  unfold peckM
  rw [hg]
  show hp ((st.set d (hp st d).dropLast).set g.1 (hp st g.1 ++ [(d, g.2)])) e = _
  rw [hp_set _ _ _ _ (by rw [List.length_set]; exact h1)]
  by_cases q : e = g.1
  · subst q
    rw [if_pos rfl, if_pos rfl]
  · rw [if_neg (Ne.symm q), if_neg q, hp_set _ _ _ _ hd]
    by_cases q2 : e = d
    · subst q2
      simp
    · rw [if_neg (Ne.symm q2), if_neg q2]
theorem len_peck (st : Stg α) (d : Nat) : (peckM st d).length = st.length := by
  unfold peckM
  cases (hp st d).getLast? with
  | none => rfl
  | some g => simp
theorem okn_peck {n : Nat} {st : Stg α} {d : Nat} {g : Nat × α} (ok : Okn n st) (hd : d < n) (hg : (hp st d).getLast? = some g) : Okn n (peckM st d) := by
  obtain ⟨k1, k2⟩ := ok
  have hm : g ∈ hp st d := List.mem_of_getLast? hg
  obtain ⟨q1, q2⟩ := k2 d g hm
  refine ⟨(len_peck st d).trans k1, fun e x hx => ?_⟩
  rw [hp_peck (by omega) hg (by omega) q2] at hx
  split at hx
  · rename_i e1
    rcases List.mem_append.mp hx with hx | hx
    · rw [e1]
      exact k2 g.1 x hx
    · rw [List.mem_singleton.mp hx]
      exact ⟨hd, by rw [e1]; exact Ne.symm q2⟩
  · split at hx
    · rename_i e2
      rw [e2]
      exact k2 d x (List.dropLast_subset _ hx)
    · exact k2 e x hx
theorem snoc_of {h : List α} {g : α} (hg : h.getLast? = some g) : h = h.dropLast ++ [g] := by
  obtain ⟨ys, rfl⟩ := List.getLast?_eq_some_iff.mp hg
  simp
theorem line_peck {n : Nat} {st : Stg α} {d : Nat} {g : Nat × α} (ok : Okn n st) (hd : d < n) (hg : (hp st d).getLast? = some g) (a b : Nat) : line (peckM st d) a b = line st a b := by
  obtain ⟨k1, k2⟩ := ok
  have hm : g ∈ hp st d := List.mem_of_getLast? hg
  obtain ⟨q1, q2⟩ := k2 d g hm
  have hH := hp_peck (by omega) hg (by omega) q2
  have hs := snoc_of hg
  -- what each holds now
  have held1 : ∀ b, held (peckM st d) d b ++ (if g.1 = b then [g.2] else []) = held st d b := fun b => by
    unfold held
    rw [hH d, if_neg (Ne.symm q2), if_pos rfl]
    conv => rhs; rw [hs]
    rw [hw_append, hw_cons, hw_nil, List.append_nil]
  have held2 : ∀ b, held (peckM st d) g.1 b = held st g.1 b ++ (if d = b then [g.2] else []) := fun b => by
    unfold held
    rw [hH g.1, if_pos rfl, hw_append, hw_one]
  have held3 : ∀ e, e ≠ d → e ≠ g.1 → ∀ b, held (peckM st d) e b = held st e b := fun e h1 h2 b => by
    unfold held
    rw [hH e, if_neg h2, if_neg h1]
  unfold line
  by_cases ad : a = d
  · subst ad
    by_cases bg : b = g.1
    · subst bg
      rw [held2, if_pos rfl, ← held1 g.1, if_pos rfl]
      simp
    · have e1 := held1 b
      rw [if_neg (Ne.symm bg), List.append_nil] at e1
      rw [e1]
      by_cases bd : b = a
      · subst bd
        have e2 := held1 b
        rw [if_neg (Ne.symm bg), List.append_nil] at e2
        rw [e2]
      · rw [held3 b bd bg]
  · by_cases ag : a = g.1
    · subst ag
      by_cases bd : b = d
      · subst bd
        rw [held2, if_pos rfl, ← held1 g.1, if_pos rfl]
        simp
      · rw [held2, if_neg (Ne.symm bd), List.append_nil]
        by_cases bg : b = g.1
        · rw [bg, held2, if_neg (Ne.symm ad), List.append_nil]
        · rw [held3 b bd bg]
    · rw [held3 a ad ag]
      by_cases bd : b = d
      · subst bd
        have e1 := held1 a
        rw [if_neg (Ne.symm ag), List.append_nil] at e1
        rw [e1]
      · by_cases bg : b = g.1
        · rw [bg, held2, if_neg (Ne.symm ad), List.append_nil]
        · rw [held3 b bd bg]
theorem sum_set : ∀ (l : List Nat) (i x : Nat), i < l.length → (l.set i x).sum + l.getD i 0 = l.sum + x
  | y :: l, 0, x, _ => by simp; omega
  | y :: l, i + 1, x, h => by
    have := sum_set l i x (by simpa using h)
    simp at this ⊢
    omega
theorem grudges_set {st : Stg α} {d : Nat} {h : List (Nat × α)} (hd : d < st.length) : grudges (st.set d h) + (hp st d).length = grudges st + h.length := by
  unfold grudges
  rw [List.map_set]
  have := sum_set (st.map List.length) d h.length (by simpa using hd)
  rw [← this]
  congr 1
  unfold hp
  rw [List.getD_eq_getElem?_getD, List.getD_eq_getElem?_getD, List.getElem?_map]
  cases st[d]? <;> simp
theorem grudges_peck {n : Nat} {st : Stg α} {d : Nat} {g : Nat × α} (ok : Okn n st) (hd : d < n) (hg : (hp st d).getLast? = some g) : grudges (peckM st d) = grudges st := by
  obtain ⟨k1, k2⟩ := ok
  have hm : g ∈ hp st d := List.mem_of_getLast? hg
  obtain ⟨q1, q2⟩ := k2 d g hm
  have e1 := grudges_set (st := st) (h := (hp st d).dropLast) (d := d) (by omega)
  have e2 := grudges_set (st := st.set d (hp st d).dropLast) (h := hp st g.1 ++ [(d, g.2)]) (d := g.1) (by rw [List.length_set]; omega)
  rw [hp_set _ _ _ _ (by omega), if_neg (Ne.symm q2), List.length_append] at e2
  have hl : (hp st d).length = (hp st d).dropLast.length + 1 := by
    conv => lhs; rw [snoc_of hg]
    simp
  unfold peckM
  rw [hg]
  show grudges ((st.set d (hp st d).dropLast).set g.1 (hp st g.1 ++ [(d, g.2)])) = grudges st
  simp at e2
  omega
/-! one dove's heap laid anew -/
/-- S: st, but d holds H, and the others besides the words ws, of d -/
structure Dsc (st : Stg α) (d : Nat) (S : Stg α) (ws : Nat → List α) (H : List (Nat × α)) : Prop where
  len : S.length = st.length
  own : hp S d = H
  oth : ∀ b, b ≠ d → hp S b = hp st b ++ (ws b).reverse.map fun w => (d, w)
theorem Dsc.push {st S : Stg α} {d : Nat} {ws : Nat → List α} {H : List (Nat × α)} {b : Nat} {w : α} (D : Dsc st d S ws (H ++ [(b, w)])) (hd : d < st.length) (hb : b < st.length) (ne : b ≠ d) : Dsc st d (peckM S d) (fun c => if c = b then w :: ws c else ws c) H := by
  obtain ⟨k1, k2, k3⟩ := D
  have hg : (hp S d).getLast? = some (b, w) := by rw [k2]; simp
  have hH := hp_peck (by omega) hg (show b < S.length by omega) ne
  refine ⟨(len_peck S d).trans k1, ?_, fun c hc => ?_⟩
  · rw [hH d, if_neg (Ne.symm ne), if_pos rfl, k2]
    simp
  · rw [hH c]
    by_cases e : c = b
    · subst e
      rw [if_pos rfl]
      show hp S c ++ [(d, w)] = _
      rw [k3 c hc]
      simp
    · rw [if_neg e, if_neg hc, k3 c hc, if_neg e]
theorem Dsc.pull {st S : Stg α} {d : Nat} {ws : Nat → List α} {H : List (Nat × α)} {b : Nat} {w : α} {t : List α} (D : Dsc st d S ws H) (hd : d < st.length) (hb : b < st.length) (ne : b ≠ d) (hw : ws b = w :: t) : Dsc st d (peckM S b) (fun c => if c = b then t else ws c) (H ++ [(b, w)]) ∧ hp S b ≠ [] := by
  obtain ⟨k1, k2, k3⟩ := D
  have e0 := k3 b ne
  rw [hw] at e0
  have hg : (hp S b).getLast? = some (d, w) := by rw [e0]; simp
  have hH := hp_peck (show b < S.length by omega) hg (show d < S.length by omega) (Ne.symm ne)
  refine ⟨⟨(len_peck S b).trans k1, ?_, fun c hc => ?_⟩, fun z => by rw [z] at hg; cases hg⟩
  · rw [hH d, if_pos rfl, k2]
  · rw [hH c, if_neg hc]
    by_cases e : c = b
    · subst e
      rw [if_pos rfl, if_pos rfl, e0]
      simp [List.dropLast_append_of_ne_nil, ← List.append_assoc]
    · rw [if_neg e, if_neg e, k3 c hc]
theorem run_snoc (st : Stg α) (r : List Nat) (d : Nat) : run st (r ++ [d]) = (run st r).bind fun s => if d < s.length ∧ hp s d ≠ [] then some (peckM s d) else none := by
  rw [run_append]
  rfl
/-- k pecks of d -/
theorem pushes {st : Stg α} {d : Nat} (hd : d < st.length) (hok : ∀ g ∈ hp st d, g.1 < st.length ∧ g.1 ≠ d) : ∀ k, k ≤ (hp st d).length → ∃ S, run st (List.replicate k d) = some S ∧ Dsc st d S (fun b => hw ((hp st d).drop ((hp st d).length - k)) b) ((hp st d).take ((hp st d).length - k))
  | 0, _ => ⟨st, rfl, rfl, by simp, fun b _ => by simp [hw]⟩
  | k + 1, hk => by
    obtain ⟨S, h1, h2⟩ := pushes hd hok k (by omega)
    have hlt : (hp st d).length - (k + 1) < (hp st d).length := by omega
    have e1 : (hp st d).take ((hp st d).length - k) = (hp st d).take ((hp st d).length - (k + 1)) ++ [(hp st d)[(hp st d).length - (k + 1)]] := by
      have : (hp st d).length - k = (hp st d).length - (k + 1) + 1 := by omega
      rw [this, List.take_add_one, List.getElem?_eq_getElem hlt]
      rfl
    have e2 : (hp st d).drop ((hp st d).length - (k + 1)) = (hp st d)[(hp st d).length - (k + 1)] :: (hp st d).drop ((hp st d).length - k) := by
      have : (hp st d).length - k = (hp st d).length - (k + 1) + 1 := by omega
      rw [this]
      exact List.drop_eq_getElem_cons hlt
    obtain ⟨q1, q2⟩ := hok _ (List.getElem_mem hlt)
    generalize (hp st d)[(hp st d).length - (k + 1)] = g at *
    rw [e1] at h2
    have h3 := h2.push (b := g.1) (w := g.2) hd q1 q2
    refine ⟨peckM S d, ?_, h3.len, h3.own, fun b hb => ?_⟩
    · rw [List.replicate_succ', run_snoc, h1]
      show (if d < S.length ∧ hp S d ≠ [] then some (peckM S d) else none) = _
      rw [if_pos ⟨by rw [h2.len]; exact hd, by rw [h2.own]; simp⟩]
    · rw [h3.oth b hb, e2, hw_cons]
      by_cases e : g.1 = b
      · subst e
        simp
      · rw [if_neg e, if_neg (Ne.symm e)]
        rfl
/-- the others pecked in the order ab -/
theorem pulls {st : Stg α} {d : Nat} (hd : d < st.length) : ∀ (ab : List Nat) (S : Stg α) (ws : Nat → List α) (H : List (Nat × α)), Dsc st d S ws H → (∀ b ∈ ab, b < st.length ∧ b ≠ d) → (∀ b, ab.count b ≤ (ws b).length) →
    ∃ S', run S ab = some S' ∧ Dsc st d S' (fun b => (ws b).drop (ab.count b)) (H ++ deal ws ab)
  | [], S, ws, H, D, _, _ => ⟨S, rfl, D.len, by rw [D.own]; simp [deal], fun b hb => by rw [D.oth b hb]; simp⟩
  | b :: ab, S, ws, H, D, hab, hc => by
    obtain ⟨q1, q2⟩ := hab b List.mem_cons_self
    have hcb := hc b
    rw [List.count_cons_self] at hcb
    cases e : ws b with
    | nil => rw [e] at hcb; simp at hcb
    | cons w t =>
      obtain ⟨h1, h2⟩ := D.pull hd q1 q2 e
      obtain ⟨S', h3, h4⟩ := pulls hd ab _ _ _ h1 (fun c hc => hab c (List.mem_cons_of_mem _ hc)) fun c => by
        by_cases ec : c = b
        · subst ec
          rw [if_pos rfl]
          rw [e] at hcb
          simp at hcb
          omega
        · rw [if_neg ec]
          have := hc c
          rw [List.count_cons_of_ne (Ne.symm ec)] at this
          exact this
      refine ⟨S', ?_, h4.len, ?_, fun c hcd => ?_⟩
      · show (if b < S.length ∧ hp S b ≠ [] then run (peckM S b) ab else none) = _
        rw [if_pos ⟨by rw [D.len]; exact q1, h2⟩, h3]
      · rw [h4.own]
        show _ = H ++ (match ws b with | [] => _ | w :: t => _)
        rw [e]
        simp
      · rw [h4.oth c hcd]
        by_cases ec : c = b
        · subst ec
          rw [if_pos rfl, List.count_cons_self, e]
          rfl
        · rw [if_neg ec, List.count_cons_of_ne (Ne.symm ec)]
end
end Gr
/-! plain mathematics 4: deals, rows that lead on -/
namespace Gr
section
variable {α : Type}
theorem count_abouts (h : List (Nat × α)) (b : Nat) : (abouts h).count b = (hw h b).length := by
  induction h with
  | nil => rfl
  | cons g h ih =>
    unfold abouts at ih ⊢
    rw [List.map_cons, List.count_cons, ih, hw_cons]
    by_cases e : g.1 = b
    · simp [e]
    · simp [e]
theorem deal_len : ∀ (ab : List Nat) (ws : Nat → List α), (∀ b, ab.count b ≤ (ws b).length) → abouts (deal ws ab) = ab
  | [], _, _ => rfl
  | a :: ab, ws, h => by
    have ha := h a
    rw [List.count_cons_self] at ha
    cases e : ws a with
    | nil => rw [e] at ha; simp at ha
    | cons w t =>
      unfold deal
      rw [e]
      show a :: abouts _ = a :: ab
      congr 1
      refine deal_len ab _ fun c => ?_
      by_cases ec : c = a
      · subst ec
        rw [if_pos rfl]
        rw [e] at ha
        simp at ha
        omega
      · rw [if_neg ec]
        have := h c
        rwa [List.count_cons_of_ne (Ne.symm ec)] at this
theorem hw_deal : ∀ (ab : List Nat) (ws : Nat → List α), (∀ b, ab.count b ≤ (ws b).length) → ∀ b, hw (deal ws ab) b = (ws b).take (ab.count b)
  | [], _, _, b => by simp [deal, hw]
  | a :: ab, ws, h, b => by
    have ha := h a
    rw [List.count_cons_self] at ha
    cases e : ws a with
    | nil => rw [e] at ha; simp at ha
    | cons w t =>
      unfold deal
      rw [e]
      show hw ((a, w) :: _) b = _
      rw [hw_cons, hw_deal ab _ fun c => ?_]
      · by_cases ec : a = b
        · subst ec
          rw [if_pos rfl, if_pos rfl, List.count_cons_self, e]
          rfl
        · rw [if_neg ec, if_neg (Ne.symm ec), List.count_cons_of_ne ec]
          rfl
      · by_cases ec : c = a
        · subst ec
          rw [if_pos rfl]
          rw [e] at ha
          simp at ha
          omega
        · rw [if_neg ec]
          have := h c
          rwa [List.count_cons_of_ne (Ne.symm ec)] at this
theorem deal_self : ∀ h : List (Nat × α), deal (hw h) (abouts h) = h
  | [] => rfl
  | g :: h => by
    have e : hw (g :: h) g.1 = g.2 :: hw h g.1 := by rw [hw_cons, if_pos rfl]; rfl
    show deal (hw (g :: h)) (g.1 :: abouts h) = g :: h
    unfold deal
    rw [e]
    have e2 : (fun b => if b = g.1 then hw h g.1 else hw (g :: h) b) = hw h := by
      funext b
      by_cases q : b = g.1
      · subst q; rw [if_pos rfl]
      · rw [if_neg q, hw_cons, if_neg (Ne.symm q)]; rfl
    show (g.1, g.2) :: deal (fun b => if b = g.1 then hw h g.1 else hw (g :: h) b) (abouts h) = _
    rw [e2, deal_self h]
theorem abouts_take (h : List (Nat × α)) (n : Nat) : abouts (h.take n) = (abouts h).take n := by
  unfold abouts
  rw [List.map_take]
/-- d's heap laid anew in the order ab -/
theorem shuffle {st : Stg α} {d : Nat} {ab : List Nat} (ok : Okn st.length st) (hd : d < st.length) (hp' : ab.Perm (abouts (hp st d))) : run st (List.replicate (hp st d).length d ++ ab) = some (st.set d (deal (held st d) ab)) := by
  obtain ⟨S, h1, h2⟩ := pushes hd (fun g hg => ok.2 d g hg) (hp st d).length (Nat.le_refl _)
  rw [Nat.sub_self, List.drop_zero, List.take_zero] at h2
  have hc : ∀ b, ab.count b = (held st d b).length := fun b => by
    rw [hp'.count_eq, count_abouts]
    rfl
  obtain ⟨S', h3, h4⟩ := pulls hd ab S _ _ h2 (fun b hb => by
    obtain ⟨g, hg, rfl⟩ := List.mem_map.mp (hp'.mem_iff.mp hb)
    exact ok.2 d g hg) fun b => by rw [hc b]; exact Nat.le_refl _
  rw [run_append, h1]
  show run S ab = _
  rw [h3]
  congr 1
  refine stg_ext (by rw [h4.len, List.length_set]) fun e he => ?_
  rw [hp_set _ _ _ _ hd]
  by_cases q : d = e
  · subst q
    rw [if_pos rfl, h4.own]
    rfl
  · rw [if_neg q, h4.oth e (Ne.symm q)]
    have : ((hw (hp st d) e).drop (ab.count e)) = [] := by
      rw [List.drop_eq_nil_iff, hc e]
      exact Nat.le_refl _
    show hp st e ++ ((hw (hp st d) e).drop (ab.count e)).reverse.map _ = _
    rw [this]
    simp
/-- what a row keeps -/
theorem run_ok {n : Nat} : ∀ (r : List Nat) (st t : Stg α), Okn n st → run st r = some t → Okn n t ∧ (∀ a b, line t a b = line st a b) ∧ grudges t = grudges st
  | [], st, t, ok, h => by
    obtain rfl : st = t := Option.some.inj h
    exact ⟨ok, fun _ _ => rfl, rfl⟩
  | d :: r, st, t, ok, h => by
    have h : (if d < st.length ∧ hp st d ≠ [] then run (peckM st d) r else none) = some t := h
    split at h
    · rename_i q
      obtain ⟨g, hg⟩ : ∃ g, (hp st d).getLast? = some g := ⟨_, List.getLast?_eq_some_getLast q.2⟩
      have hdn : d < n := by rw [← ok.1]; exact q.1
      obtain ⟨k1, k2, k3⟩ := run_ok r _ _ (okn_peck ok hdn hg) h
      exact ⟨k1, fun a b => (k2 a b).trans (line_peck ok hdn hg a b), k3.trans (grudges_peck ok hdn hg)⟩
    · cases h
theorem words_peck {P : α → Prop} {st : Stg α} {d : Nat} (h : ∀ e, ∀ g ∈ hp st e, P g.2) : ∀ e, ∀ g ∈ hp (peckM st d) e, P g.2 := by
  intro e x hx
  unfold peckM at hx
  cases q : (hp st d).getLast? with
  | none => rw [q] at hx; exact h e x hx
  | some g =>
    rw [q] at hx
    have hx : x ∈ hp ((st.set d (hp st d).dropLast).set g.1 (hp st g.1 ++ [(d, g.2)])) e := hx
    have hg : P g.2 := h d g (List.mem_of_getLast? q)
    by_cases l1 : g.1 < st.length
    · rw [hp_set _ _ _ _ (by rw [List.length_set]; exact l1)] at hx
      split at hx
      · rcases List.mem_append.mp hx with hx | hx
        · exact h _ x hx
        · rw [List.mem_singleton.mp hx]; exact hg
      · by_cases l2 : d < st.length
        · rw [hp_set _ _ _ _ l2] at hx
          split at hx
          · exact h d x (List.dropLast_subset _ hx)
          · exact h e x hx
        · rw [List.set_eq_of_length_le (by omega)] at hx
          exact h e x hx
    · rw [List.set_eq_of_length_le (l := st.set d (hp st d).dropLast) (by rw [List.length_set]; omega)] at hx
      by_cases l2 : d < st.length
      · rw [hp_set _ _ _ _ l2] at hx
        split at hx
        · exact h d x (List.dropLast_subset _ hx)
        · exact h e x hx
      · rw [List.set_eq_of_length_le (by omega)] at hx
        exact h e x hx
theorem words_run {P : α → Prop} : ∀ (r : List Nat) (st t : Stg α), (∀ e, ∀ g ∈ hp st e, P g.2) → run st r = some t → ∀ e, ∀ g ∈ hp t e, P g.2
  | [], st, t, h, e => by
    obtain rfl : st = t := Option.some.inj e
    exact h
  | d :: r, st, t, h, e => by
    have e : (if d < st.length ∧ hp st d ≠ [] then run (peckM st d) r else none) = some t := e
    split at e
    · exact words_run r _ _ (words_peck h) e
    · cases e
/-! which go -/
theorem prt_perm : ∀ (l : List Nat) (ov : Nat → Int), ((prt ov l).1 ++ (prt ov l).2).Perm l
  | [], _ => List.Perm.nil
  | a :: l, ov => by
    unfold prt
    split
    · exact (List.perm_middle).trans (List.Perm.cons a (prt_perm l _))
    · exact List.Perm.cons a (prt_perm l ov)
theorem prt_count : ∀ (l : List Nat) (ov : Nat → Int) (b : Nat), ((prt ov l).2.count b : Int) = min (l.count b : Int) (max 0 (ov b))
  | [], ov, b => by simp [prt]; omega
  | a :: l, ov, b => by
    unfold prt
    split
    · rename_i h
      show (((a :: (prt (fun b => if b = a then ov a - 1 else ov b) l).2).count b : Nat) : Int) = _
      have ih := prt_count l (fun b => if b = a then ov a - 1 else ov b) b
      by_cases e : b = a
      · subst e
        rw [List.count_cons_self, List.count_cons_self]
        rw [if_pos rfl] at ih
        omega
      · rw [List.count_cons_of_ne (Ne.symm e), List.count_cons_of_ne (Ne.symm e), ih, if_neg e]
    · rename_i h
      show (((prt ov l).2.count b : Nat) : Int) = _
      have ih := prt_count l ov b
      by_cases e : b = a
      · subst e
        rw [List.count_cons_self]
        omega
      · rw [List.count_cons_of_ne (Ne.symm e)]
        exact ih
theorem part_perm (here other : Stg α) (d : Nat) : ((partM here other d).1 ++ (partM here other d).2).Perm (abouts (hp here d)) := by
  unfold partM
  have h := prt_perm (abouts (hp here d)).reverse (ovM here other d)
  exact ((List.reverse_perm _).append (List.reverse_perm _)).trans (h.trans (List.reverse_perm _))
theorem part_count (here other : Stg α) (d b : Nat) : (partM here other d).2.count b = cut here d b - cut other d b := by
  unfold partM
  show ((prt (ovM here other d) (abouts (hp here d)).reverse).2.reverse).count b = _
  rw [(List.reverse_perm _).count_eq]
  have h := prt_count (abouts (hp here d)).reverse (ovM here other d) b
  rw [(List.reverse_perm _).count_eq, count_abouts] at h
  rw [show ovM here other d b = (cut here d b : Int) - cut other d b from rfl] at h
  have : (hw (hp here d) b).length = cut here d b := rfl
  omega
theorem part_count1 (here other : Stg α) (d b : Nat) : (partM here other d).1.count b = min (cut here d b) (cut other d b) := by
  have h := (part_perm here other d).count_eq b
  rw [List.count_append, part_count, count_abouts] at h
  have : (hw (hp here d) b).length = cut here d b := rfl
  omega
theorem line_len (st : Stg α) (a b : Nat) : (line st a b).length = cut st a b + cut st b a := by
  unfold line cut
  rw [List.length_append, List.length_reverse]
theorem part_len (here other : Stg α) (d : Nat) : (partM here other d).1.length + (partM here other d).2.length = (hp here d).length := by
  have h := (part_perm here other d).length_eq
  unfold abouts at h
  rw [List.length_append, List.length_map] at h
  exact h
/-- the first pass at one dove -/
theorem row1_run {st t : Stg α} {d : Nat} (ok : Okn st.length st) (hd : d < st.length) : ∃ S, run st (row1 st t d) = some S ∧ (∀ b, cut S d b = min (cut st d b) (cut t d b)) ∧ (∀ e c, e ≠ d → c ≠ d → cut S e c = cut st e c) ∧ (row1 st t d).length ≤ 3 * (hp st d).length := by
  have hpl := part_len st t d
  unfold row1
  split
  · rename_i hg
    have pm := part_perm st t d
    have e1 := shuffle ok hd pm
    have hc : ∀ b, ((partM st t d).1 ++ (partM st t d).2).count b ≤ (held st d b).length := fun b => by
      rw [pm.count_eq, count_abouts]
      exact Nat.le_refl _
    have ab1 := deal_len _ _ hc
    obtain ⟨ok1, _, _⟩ := run_ok _ _ _ ok e1
    have hp1 : hp (st.set d (deal (held st d) ((partM st t d).1 ++ (partM st t d).2))) d = deal (held st d) ((partM st t d).1 ++ (partM st t d).2) := by rw [hp_set _ _ _ _ hd, if_pos rfl]
    have dl : (deal (held st d) ((partM st t d).1 ++ (partM st t d).2)).length = (partM st t d).1.length + (partM st t d).2.length := by
      have := congrArg List.length ab1
      unfold abouts at this
      rw [List.length_map, List.length_append] at this
      exact this
    obtain ⟨S, h1, h2⟩ := pushes (st := st.set d (deal (held st d) ((partM st t d).1 ++ (partM st t d).2))) (d := d) (by rw [List.length_set]; exact hd) (fun g hg => by
      have := ok1.2 d g hg
      rw [List.length_set]
      exact this) (partM st t d).2.length (by rw [hp1, dl]; omega)
    refine ⟨S, ?_, fun b => ?_, fun e c he hc' => ?_, ?_⟩
    · unfold rowTake
      rw [Nat.sub_zero, run_append, e1]
      exact h1
    · unfold cut held
      rw [h2.own, hp1, dl, ← count_abouts, abouts_take, ab1, Nat.add_sub_cancel, List.take_left]
      exact part_count1 st t d b
    · unfold cut held
      rw [h2.oth e he, hp_set _ _ _ _ hd, if_neg (Ne.symm he), hw_append]
      have : ∀ l : List α, hw (l.map fun w => (d, w)) c = [] := fun l => by
        induction l with
        | nil => rfl
        | cons w l ih => rw [List.map_cons, hw_cons, if_neg (Ne.symm hc'), ih]; rfl
      rw [this, List.append_nil]
    · unfold rowTake
      rw [List.length_append, List.length_append, List.length_replicate, List.length_append, List.length_replicate]
      omega
  · rename_i hg
    refine ⟨st, rfl, fun b => ?_, fun _ _ _ _ => rfl, by simp⟩
    have h := part_count st t d b
    have : (partM st t d).2 = [] := by
      cases q : (partM st t d).2 with
      | nil => rfl
      | cons x l => rw [q] at hg; simp at hg
    rw [this] at h
    simp at h
    omega
end
end Gr
/-! plain mathematics 5: lead_awake leads there -/
namespace Gr
section
variable {α : Type}
theorem leadGo_snoc (f : Stg α → Nat → List Nat) (d : Nat) : ∀ (ds : List Nat) (s : Stg α), leadGo f (ds ++ [d]) s = ((run (leadGo f ds s).1 (f (leadGo f ds s).1 d)).getD (leadGo f ds s).1, (leadGo f ds s).2 ++ f (leadGo f ds s).1 d)
  | [], s => by simp [leadGo]
  | e :: ds, s => by
    have ih := leadGo_snoc f d ds ((run s (f s e)).getD s)
    show ((leadGo f (ds ++ [d]) ((run s (f s e)).getD s)).1, f s e ++ (leadGo f (ds ++ [d]) ((run s (f s e)).getD s)).2) = _
    rw [ih]
    simp [leadGo]
theorem leadGo_succ (f : Stg α → Nat → List Nat) (i : Nat) (s : Stg α) : leadGo f (List.range (i + 1)) s = ((run (leadGo f (List.range i) s).1 (f (leadGo f (List.range i) s).1 i)).getD (leadGo f (List.range i) s).1, (leadGo f (List.range i) s).2 ++ f (leadGo f (List.range i) s).1 i) := by
  rw [List.range_succ, leadGo_snoc]
theorem heap_le (st : Stg α) (d : Nat) : (hp st d).length ≤ grudges st := by
  by_cases hd : d < st.length
  · have := grudges_set (st := st) (d := d) (h := []) hd
    simp at this
    omega
  · rw [hp_out _ _ (by omega)]
    exact Nat.zero_le _
/-- both of n doves, lines alike -/
structure Al (n : Nat) (s t : Stg α) : Prop where
  o1 : Okn n s
  o2 : Okn n t
  ln : ∀ a b, line s a b = line t a b
theorem Al.cuts {n : Nat} {s t : Stg α} (h : Al n s t) (a b : Nat) : cut s a b + cut s b a = cut t a b + cut t b a := by
  rw [← line_len, ← line_len, h.ln]
theorem cut_self {n : Nat} {s : Stg α} (ok : Okn n s) (a : Nat) : held s a a = [] := by
  unfold held hw
  rw [List.map_eq_nil_iff, List.filter_eq_nil_iff]
  intro g hg
  have := (ok.2 a g hg).2
  simpa using this
theorem Al.run {n : Nat} {s t S : Stg α} (h : Al n s t) {r : List Nat} (e : run s r = some S) : Al n S t ∧ grudges S = grudges s := by
  obtain ⟨k1, k2, k3⟩ := run_ok r s S h.o1 e
  exact ⟨⟨k1, h.o2, fun a b => (k2 a b).trans (h.ln a b)⟩, k3⟩
/-- the first pass, up to dove i -/
theorem lead1 {n : Nat} {s t : Stg α} (h : Al n s t) (h9 : grudges s ≤ 9) : ∀ i, i ≤ n → run s (leadGo (fun h d => row1 h t d) (List.range i) s).2 = some (leadGo (fun h d => row1 h t d) (List.range i) s).1 ∧ (∀ a b, a < i → cut (leadGo (fun h d => row1 h t d) (List.range i) s).1 a b ≤ cut t a b) ∧ (leadGo (fun h d => row1 h t d) (List.range i) s).2.length ≤ 27 * i
  | 0, _ => ⟨rfl, fun a b h => by omega, by simp [leadGo]⟩
  | i + 1, hi => by
    obtain ⟨k1, k2, k3⟩ := lead1 h h9 i (by omega)
    rw [leadGo_succ]
    obtain ⟨al, g9⟩ := h.run k1
    generalize leadGo (fun h d => row1 h t d) (List.range i) s = p at *
    have okp : Okn p.1.length p.1 := by rw [al.o1.1]; exact al.o1
    obtain ⟨S, e1, e2, e3, e4⟩ := row1_run (t := t) (d := i) okp (by rw [al.o1.1]; omega)
    have hl := heap_le p.1 i
    rw [e1]
    refine ⟨?_, fun a b ha => ?_, ?_⟩
    · show run s (p.2 ++ row1 p.1 t i) = some S
      rw [run_append, k1]
      exact e1
    · show cut S a b ≤ cut t a b
      by_cases ai : a = i
      · subst ai
        rw [e2]
        exact Nat.min_le_right _ _
      · by_cases bi : b = i
        · subst bi
          obtain ⟨al2, _⟩ := al.run e1
          have c1 := al2.cuts a b
          have c2 := al.cuts a b
          have c3 := e2 a
          have c4 := k2 a b (by omega)
          omega
        · rw [e3 a b ai bi]
          exact k2 a b (by omega)
    · show (p.2 ++ row1 p.1 t i).length ≤ 27 * (i + 1)
      rw [List.length_append]
      omega
theorem lead1_step {n : Nat} {s t : Stg α} (h : Al n s t) (h9 : grudges s ≤ 9) {i : Nat} (hi : i < n) : run (leadGo (fun h d => row1 h t d) (List.range i) s).1 (row1 (leadGo (fun h d => row1 h t d) (List.range i) s).1 t i) = some (leadGo (fun h d => row1 h t d) (List.range (i + 1)) s).1 := by
  obtain ⟨k1, _, _⟩ := lead1 h h9 i (by omega)
  obtain ⟨al, g9⟩ := h.run k1
  rw [leadGo_succ]
  generalize leadGo (fun h d => row1 h t d) (List.range i) s = p at *
  obtain ⟨S, e1, _, _, _⟩ := row1_run (st := p.1) (t := t) (d := i) (by rw [al.o1.1]; exact al.o1) (by rw [al.o1.1]; omega)
  rw [e1]
  rfl
theorem held_eq {n : Nat} {s t : Stg α} (h : Al n s t) (hc : ∀ a b, a < n → b < n → cut s a b = cut t a b) (a b : Nat) : held s a b = held t a b := by
  by_cases ha : a < n
  · by_cases hb : b < n
    · have e1 : held s a b = (line s a b).take (cut s a b) := by unfold line cut; rw [List.take_left]
      have e2 : held t a b = (line t a b).take (cut t a b) := by unfold line cut; rw [List.take_left]
      rw [e1, e2, h.ln, hc a b ha hb]
    · have z : ∀ st : Stg α, Okn n st → held st a b = [] := fun st ok => by
        unfold held hw
        rw [List.map_eq_nil_iff, List.filter_eq_nil_iff]
        intro g hg
        have := (ok.2 a g hg).1
        simp
        omega
      rw [z s h.o1, z t h.o2]
  · have z : ∀ st : Stg α, Okn n st → held st a b = [] := fun st ok => by
      unfold held
      rw [hp_out _ _ (by rw [ok.1]; omega)]
      rfl
    rw [z s h.o1, z t h.o2]
theorem lead1_end {n : Nat} {s t : Stg α} (h : Al n s t) (h9 : grudges s ≤ 9) : run s (leadGo (fun h d => row1 h t d) (List.range n) s).2 = some (leadA s t) ∧ ∀ a b, held (leadA s t) a b = held t a b := by
  obtain ⟨k1, k2, _⟩ := lead1 h h9 n (Nat.le_refl _)
  have e : leadA s t = (leadGo (fun h d => row1 h t d) (List.range n) s).1 := by unfold leadA; rw [h.o1.1]
  rw [e]
  obtain ⟨al, _⟩ := h.run k1
  refine ⟨k1, held_eq al fun a b ha hb => ?_⟩
  have c1 := al.cuts a b
  have c2 := k2 a b ha
  have c3 := k2 b a hb
  omega
theorem heap_of {s t : Stg α} {d : Nat} (hh : ∀ b, held s d b = held t d b) (ha : abouts (hp s d) = abouts (hp t d)) : hp s d = hp t d := by
  rw [← deal_self (hp s d), ← deal_self (hp t d), ha]
  congr 1
  funext b
  exact hh b
theorem row2_run {n : Nat} {s t : Stg α} {d : Nat} (h : Al n s t) (hh : ∀ a b, held s a b = held t a b) (hd : d < n) : run s (row2 s t d) = some (s.set d (hp t d)) ∧ (row2 s t d).length ≤ 2 * (hp s d).length := by
  have hd' : d < s.length := by rw [h.o1.1]; exact hd
  unfold row2
  split
  · have pm : (abouts (hp t d)).Perm (abouts (hp s d)) := List.perm_iff_count.mpr fun b => by
      rw [count_abouts, count_abouts]
      exact (congrArg List.length (hh d b)).symm
    have e1 := shuffle (by rw [h.o1.1]; exact h.o1) hd' pm
    have e2 : deal (held s d) (abouts (hp t d)) = hp t d := by
      conv => rhs; rw [← deal_self (hp t d)]
      congr 1
      funext b
      exact hh d b
    rw [e2] at e1
    refine ⟨e1, ?_⟩
    have := pm.length_eq
    unfold abouts at this
    rw [List.length_map, List.length_map] at this
    unfold rowTake
    rw [List.length_append, List.length_replicate]
    unfold abouts
    rw [List.length_map]
    omega
  · rename_i e
    have e : abouts (hp s d) = abouts (hp t d) := Classical.not_not.mp e
    have e2 := heap_of (fun b => hh d b) e
    refine ⟨?_, by simp⟩
    show some s = some (s.set d (hp t d))
    congr 1
    refine stg_ext (by simp) fun c hc => ?_
    rw [hp_set _ _ _ _ hd']
    split
    · rename_i q
      rw [← q]
      exact e2
    · rfl
theorem lead2 {n : Nat} {s t : Stg α} (h : Al n s t) (h9 : grudges s ≤ 9) (hh : ∀ a b, held s a b = held t a b) : ∀ i, i ≤ n → run s (leadGo (fun h d => row2 h t d) (List.range i) s).2 = some (leadGo (fun h d => row2 h t d) (List.range i) s).1 ∧ (∀ a b, held (leadGo (fun h d => row2 h t d) (List.range i) s).1 a b = held t a b) ∧ (∀ a, a < i → hp (leadGo (fun h d => row2 h t d) (List.range i) s).1 a = hp t a) ∧ (leadGo (fun h d => row2 h t d) (List.range i) s).2.length ≤ 18 * i
  | 0, _ => ⟨rfl, hh, fun a h => by omega, by simp [leadGo]⟩
  | i + 1, hi => by
    obtain ⟨k1, k2, k3, k4⟩ := lead2 h h9 hh i (by omega)
    rw [leadGo_succ]
    obtain ⟨al, g9⟩ := h.run k1
    generalize leadGo (fun h d => row2 h t d) (List.range i) s = p at *
    obtain ⟨e1, e2⟩ := row2_run al k2 (show i < n by omega)
    have hl := heap_le p.1 i
    have hi' : i < p.1.length := by rw [al.o1.1]; omega
    rw [e1]
    refine ⟨?_, fun a b => ?_, fun a ha => ?_, ?_⟩
    · show run s (p.2 ++ row2 p.1 t i) = _
      rw [run_append, k1]
      exact e1
    · show held (p.1.set i (hp t i)) a b = held t a b
      unfold held
      rw [hp_set _ _ _ _ hi']
      split
      · rename_i q
        rw [q]
      · exact k2 a b
    · show hp (p.1.set i (hp t i)) a = hp t a
      rw [hp_set _ _ _ _ hi']
      split
      · rename_i q
        rw [q]
      · exact k3 a (by omega)
    · show (p.2 ++ row2 p.1 t i).length ≤ 18 * (i + 1)
      rw [List.length_append]
      omega
theorem lead2_step {n : Nat} {s t : Stg α} (h : Al n s t) (h9 : grudges s ≤ 9) (hh : ∀ a b, held s a b = held t a b) {i : Nat} (hi : i < n) : run (leadGo (fun h d => row2 h t d) (List.range i) s).1 (row2 (leadGo (fun h d => row2 h t d) (List.range i) s).1 t i) = some (leadGo (fun h d => row2 h t d) (List.range (i + 1)) s).1 := by
  obtain ⟨k1, k2, _⟩ := lead2 h h9 hh i (by omega)
  obtain ⟨al, g9⟩ := h.run k1
  rw [leadGo_succ]
  generalize leadGo (fun h d => row2 h t d) (List.range i) s = p at *
  obtain ⟨e1, _⟩ := row2_run al k2 hi
  rw [e1]
  rfl
/-- lead_awake leads there -/
theorem lead_run {n : Nat} {s t : Stg α} (h : Al n s t) (h9 : grudges s ≤ 9) : run s (leadM s t) = some t ∧ (leadM s t).length ≤ 45 * n := by
  obtain ⟨a1, a2⟩ := lead1_end h h9
  obtain ⟨_, _, a3⟩ := lead1 h h9 n (Nat.le_refl _)
  obtain ⟨al, g⟩ := h.run a1
  obtain ⟨b1, b2, b3, b4⟩ := lead2 al (by omega) a2 n (Nat.le_refl _)
  have e : leadM s t = (leadGo (fun h d => row1 h t d) (List.range n) s).2 ++ (leadGo (fun h d => row2 h t d) (List.range n) (leadA s t)).2 := by unfold leadM; rw [h.o1.1]
  obtain ⟨al2, _⟩ := al.run b1
  have et : (leadGo (fun h d => row2 h t d) (List.range n) (leadA s t)).1 = t := stg_ext (by rw [al2.o1.1, h.o2.1]) fun d hd => b3 d (by rw [al2.o1.1] at hd; exact hd)
  rw [e]
  refine ⟨?_, by rw [List.length_append]; omega⟩
  rw [run_append, a1]
  show run (leadA s t) _ = some t
  rw [b1, et]
end
end Gr
/-! plain mathematics 6: sums of shares -/
namespace Gr
theorem way_step (W T k : Nat) : W * ch (T + k) k * (T + k + 1) / (k + 1) = W * ch (T + (k + 1)) (k + 1) := by
  have h := ch_absorb (T + k) k
  have e : W * ch (T + k) k * (T + k + 1) = (k + 1) * (W * ch (T + k + 1) (k + 1)) := by
    rw [Nat.mul_assoc, Nat.mul_comm (ch (T + k) k), ← h, ← Nat.mul_assoc, ← Nat.mul_assoc, Nat.mul_comm W]
  rw [e, Nat.mul_div_cancel_left _ (Nat.succ_pos k)]
  rfl
theorem waysN_snoc : ∀ (l : List (List Nat)) (m : List Nat), waysN (l ++ [m]) = waysN l * multi m
  | [], m => by simp [waysN]
  | x :: l, m => by
    show multi x * waysN (l ++ [m]) = multi x * waysN l * multi m
    rw [waysN_snoc l m, Nat.mul_assoc]
theorem cutsStep_len (f : List (List Nat)) (x : Nat) : (cutsStep f x).length = f.length * (x + 1) := by
  unfold cutsStep
  rw [List.length_flatMap]
  induction f with
  | nil => simp
  | cons c f ih =>
    rw [List.map_cons, List.sum_cons, ih, List.length_cons, List.length_map, List.length_range, Nat.succ_mul, Nat.add_comm]
theorem allCuts_len (l : List Nat) : (allCuts l).length ≤ 2 ^ l.sum := by
  induction l using snoc_ind with
  | h0 => simp [allCuts]
  | h1 l x ih =>
    rw [allCuts_snoc, cutsStep_len, List.sum_append]
    have h2 : x + 1 ≤ 2 ^ x := Nat.lt_two_pow_self
    simp
    rw [Nat.pow_add]
    exact Nat.mul_le_mul ih h2
theorem fact_le {a b : Nat} (h : a ≤ b) : fact a ≤ fact b := by
  induction b with
  | zero => rw [show a = 0 by omega]; exact Nat.le_refl _
  | succ b ih =>
    by_cases e : a = b + 1
    · rw [e]; exact Nat.le_refl _
    · have := ih (by omega)
      show fact a ≤ (b + 1) * fact b
      have h1 : fact b ≤ (b + 1) * fact b := Nat.le_mul_of_pos_left _ (by omega)
      omega
theorem multi_9 {l : List Nat} (h : l.sum ≤ 9) : multi l ≤ 362880 := Nat.le_trans (multi_le_fact l) (Nat.le_trans (fact_le h) (by decide))
theorem fact_mul : ∀ (a b : Nat), fact a * fact b ≤ fact (a + b)
  | a, 0 => by simp [fact]
  | a, b + 1 => by
    have ih := fact_mul a b
    show fact a * ((b + 1) * fact b) ≤ (a + b + 1) * fact (a + b)
    calc fact a * ((b + 1) * fact b) = (b + 1) * (fact a * fact b) := by rw [← Nat.mul_assoc, Nat.mul_comm (fact a), Nat.mul_assoc]
      _ ≤ (b + 1) * fact (a + b) := Nat.mul_le_mul_left _ ih
      _ ≤ (a + b + 1) * fact (a + b) := Nat.mul_le_mul_right _ (by omega)
theorem waysN_le : ∀ (m : List (List Nat)), waysN m ≤ fact ((m.map List.sum).sum)
  | [] => by simp [waysN, fact]
  | x :: m => by
    show multi x * waysN m ≤ fact (x.sum + (m.map List.sum).sum)
    exact Nat.le_trans (Nat.mul_le_mul (multi_le_fact x) (waysN_le m)) (fact_mul _ _)
theorem waysN_9 {m : List (List Nat)} (h : (m.map List.sum).sum ≤ 9) : waysN m ≤ 362880 := Nat.le_trans (waysN_le m) (Nat.le_trans (fact_le h) (by decide))
end Gr
/-! plain mathematics 7: the sums of what is shared out -/
namespace Gr
theorem sum_setN : ∀ (l : List Nat) (i x : Nat), i < l.length → (l.set i x).sum + l.getD i 0 = l.sum + x
  | [], i, x, h => by simp at h
  | y :: l, 0, x, _ => by simp; omega
  | y :: l, i + 1, x, h => by
    have := sum_setN l i x (by simpa using h)
    simp at this ⊢
    omega
theorem sum_set_le (l : List Nat) (i x : Nat) : (l.set i x).sum ≤ l.sum + x := by
  by_cases h : i < l.length
  · have := sum_setN l i x h
    omega
  · rw [List.set_eq_of_length_le (by omega)]
    omega
def tot2 (m : List (List Nat)) : Nat := (m.map List.sum).sum
theorem tot2_put (m : List (List Nat)) (a b v : Nat) : tot2 (putM m a b v) ≤ tot2 m + v := by
  unfold tot2 putM
  rw [List.map_set]
  by_cases h : a < m.length
  · have h1 := sum_setN (m.map List.sum) a ((m.getD a []).set b v).sum (by simpa using h)
    have h2 : (m.map List.sum).getD a 0 = (m.getD a []).sum := by
      rw [List.getD_eq_getElem?_getD, List.getD_eq_getElem?_getD, List.getElem?_map, List.getElem?_eq_getElem h]
      rfl
    have h3 := sum_set_le (m.getD a []) b v
    omega
  · rw [List.set_eq_of_length_le (by simp; omega)]
    omega
theorem tot2_fold : ∀ (xs : List ((Nat × Nat) × Nat × Nat)) (m : List (List Nat)), (∀ x ∈ xs, x.2.2 ≤ x.2.1) → tot2 (xs.foldl szStep m) ≤ tot2 m + (xs.map fun x => x.2.1).sum
  | [], m, _ => by simp
  | x :: xs, m, h => by
    have h1 := tot2_fold xs (szStep m x) fun y hy => h y (List.mem_cons_of_mem _ hy)
    have h2 := tot2_put m x.1.1 x.1.2 x.2.2
    have h3 := tot2_put (putM m x.1.1 x.1.2 x.2.2) x.1.2 x.1.1 (x.2.1 - x.2.2)
    have h4 := h x List.mem_cons_self
    rw [List.foldl_cons, List.map_cons, List.sum_cons]
    unfold szStep at h1 ⊢
    omega
theorem fits_zip : ∀ {c l : List Nat}, Fits c l → ∀ x ∈ l.zip c, x.2 ≤ x.1
  | [], [], _, x, h => by simp at h
  | c :: cs, l :: ls, h, x, hx => by
    rw [List.zip_cons_cons] at hx
    rcases List.mem_cons.mp hx with rfl | hx
    · exact h.1
    · exact fits_zip h.2 x hx
  | [], l :: ls, h, _, _ => h.elim
  | c :: cs, [], h, _, _ => h.elim
theorem zip_sum_le (ps : List (Nat × Nat)) : ∀ (ls cs : List Nat), ((ps.zip (ls.zip cs)).map fun x => x.2.1).sum ≤ ls.sum := by
  induction ps with
  | nil => intros; simp
  | cons p ps ih =>
    intro ls cs
    cases ls with
    | nil => simp
    | cons l ls =>
      cases cs with
      | nil => simp
      | cons c cs =>
        have := ih ls cs
        simp at this ⊢
        omega
theorem tot2_zeros (n : Nat) : tot2 (zeros n) = 0 := by
  unfold tot2 zeros
  rw [List.map_map]
  have : ∀ l : List Nat, (l.map (List.sum ∘ fun _ => List.replicate n 0)).sum = 0 := by
    intro l
    induction l with
    | nil => rfl
    | cons x l ih => rw [List.map_cons, List.sum_cons, ih]; simp
  exact this _
theorem szM_tot {n : Nat} {lens c : List Nat} (h : Fits c lens) : tot2 (szM n lens c) ≤ lens.sum := by
  have h1 := tot2_fold ((pairs n).zip (lens.zip c)) (zeros n) fun x hx => by
    have := List.of_mem_zip hx
    exact fits_zip h x.2 this.2
  rw [tot2_zeros, Nat.zero_add] at h1
  exact Nat.le_trans h1 (zip_sum_le _ _ _)
theorem pairs_sum (n : Nat) (h : n ≤ 6) (f : Nat → Nat → Nat) : ((pairs n).map fun p => f p.1 p.2 + f p.2 p.1).sum ≤ ((List.range n).map fun a => ((List.range n).map fun b => f a b).sum).sum := by
  have : n = 0 ∨ n = 1 ∨ n = 2 ∨ n = 3 ∨ n = 4 ∨ n = 5 ∨ n = 6 := by omega
  rcases this with rfl | rfl | rfl | rfl | rfl | rfl | rfl <;> simp [pairs, List.range, List.range.loop] <;> omega
theorem counts_le (n : Nat) : ∀ l : List Nat, ((List.range n).map fun b => l.count b).sum ≤ l.length
  | [] => by
    have : ∀ bs : List Nat, (bs.map fun b => ([] : List Nat).count b).sum = 0 := by
      intro bs
      induction bs with
      | nil => rfl
      | cons b bs ih => rw [List.map_cons, List.sum_cons, ih]; rfl
    rw [this]
    exact Nat.zero_le _
  | x :: l => by
    have ih := counts_le n l
    have : ∀ bs : List Nat, bs.Nodup → (bs.map fun b => (x :: l).count b).sum ≤ (bs.map fun b => l.count b).sum + 1 := by
      intro bs
      have key : ∀ cs : List Nat, x ∉ cs → (cs.map fun b => (x :: l).count b).sum = (cs.map fun b => l.count b).sum := by
        intro cs hcs
        congr 1
        refine List.map_congr_left fun b hb => ?_
        rw [List.count_cons]
        have : ¬ x = b := fun z => hcs (z ▸ hb)
        simp [this]
      induction bs with
      | nil => intros; simp
      | cons b bs ih2 =>
        intro nd
        obtain ⟨n1, n2⟩ := List.nodup_cons.mp nd
        rw [List.map_cons, List.map_cons, List.sum_cons, List.sum_cons, List.count_cons]
        by_cases q : x = b
        · subst q
          rw [key bs n1]
          simp
          omega
        · have := ih2 n2
          simp [q] at this ⊢
          omega
    have := this (List.range n) List.nodup_range
    rw [List.length_cons]
    omega
theorem sum_mono {α : Type} {f g : α → Nat} : ∀ {l : List α}, (∀ x ∈ l, f x ≤ g x) → (l.map f).sum ≤ (l.map g).sum
  | [], _ => Nat.le_refl _
  | x :: l, h => by
    have h1 := h x List.mem_cons_self
    have h2 := sum_mono fun y hy => h y (List.mem_cons_of_mem x hy)
    rw [List.map_cons, List.map_cons, List.sum_cons, List.sum_cons]
    omega
theorem lens_sum {α : Type} (st : Stg α) (h : st.length ≤ 6) : (lensM st.length (line st)).sum ≤ grudges st := by
  have h1 := pairs_sum st.length h fun a b => (held st a b).length
  have h2 : lensM st.length (line st) = (pairs st.length).map fun p => (held st p.1 p.2).length + (held st p.2 p.1).length := by
    unfold lensM line
    refine List.map_congr_left fun p _ => ?_
    rw [List.length_append, List.length_reverse]
  have h3 : ((List.range st.length).map fun a => ((List.range st.length).map fun b => (held st a b).length).sum).sum ≤ ((List.range st.length).map fun a => (hp st a).length).sum := by
    refine sum_mono fun a _ => ?_
    have := counts_le st.length (abouts (hp st a))
    have e : (fun b => (abouts (hp st a)).count b) = fun b => (held st a b).length := by
      funext b
      exact count_abouts (hp st a) b
    rw [e] at this
    unfold abouts at this
    rw [List.length_map] at this
    exact this
  have h4 : ((List.range st.length).map fun a => (hp st a).length) = st.map List.length := by
    apply List.ext_getElem
    · simp
    · intro i h1 h2
      simp [hp]
      simp at h1
      rw [List.getElem?_eq_getElem h1]
      rfl
  rw [h4] at h3
  rw [h2]
  unfold grudges
  exact Nat.le_trans h1 h3
end Gr
/-! plain mathematics 8: what lies where -/
namespace Gr
def ent (m : List (List Nat)) (a b : Nat) : Nat := (m.getD a []).getD b 0
theorem ent_put (m : List (List Nat)) (a b v x y : Nat) : (x = a ∧ y = b ∧ ent (putM m a b v) x y = v) ∨ ent (putM m a b v) x y = ent m x y := by
  unfold ent putM
  by_cases h : a < m.length
  · by_cases q : x = a
    · subst q
      have e : (m.set x ((m.getD x []).set b v)).getD x [] = (m.getD x []).set b v := by
        rw [List.getD_eq_getElem?_getD, List.getElem?_set, if_pos rfl, if_pos h]
        rfl
      rw [e]
      by_cases q2 : y = b
      · subst q2
        by_cases h2 : y < (m.getD x []).length
        · refine .inl ⟨rfl, rfl, ?_⟩
          rw [List.getD_eq_getElem?_getD, List.getElem?_set, if_pos rfl, if_pos h2]
          rfl
        · rw [List.set_eq_of_length_le (by omega)]
          exact .inr rfl
      · refine .inr ?_
        rw [List.getD_eq_getElem?_getD, List.getElem?_set, if_neg (fun z => q2 z.symm), ← List.getD_eq_getElem?_getD]
    · refine .inr ?_
      have e : (m.set a ((m.getD a []).set b v)).getD x [] = m.getD x [] := by
        rw [List.getD_eq_getElem?_getD, List.getElem?_set, if_neg (fun z => q z.symm), ← List.getD_eq_getElem?_getD]
      rw [e]
  · rw [List.set_eq_of_length_le (by omega)]
    exact .inr rfl
theorem ent_fold (L : Nat → Nat → Nat) (sym : ∀ a b, L a b = L b a) : ∀ (xs : List ((Nat × Nat) × Nat × Nat)) (m : List (List Nat)), (∀ x ∈ xs, x.2.1 = L x.1.1 x.1.2 ∧ x.2.2 ≤ x.2.1) → (∀ a b, ent m a b ≤ L a b) → ∀ a b, ent (xs.foldl szStep m) a b ≤ L a b
  | [], m, _, h, a, b => h a b
  | x :: xs, m, hx, h, a, b => ent_fold L sym xs (szStep m x) (fun y hy => hx y (List.mem_cons_of_mem _ hy)) (fun a b => by
      obtain ⟨e1, e2⟩ := hx x List.mem_cons_self
      unfold szStep
      rcases ent_put (putM m x.1.1 x.1.2 x.2.2) x.1.2 x.1.1 (x.2.1 - x.2.2) a b with ⟨r1, r2, r3⟩ | r
      · rw [r3, r1, r2, sym]
        omega
      · rw [r]
        rcases ent_put m x.1.1 x.1.2 x.2.2 a b with ⟨r1, r2, r3⟩ | r
        · rw [r3, r1, r2]
          omega
        · rw [r]
          exact h a b) a b
theorem line_sym {α : Type} (st : Stg α) (a b : Nat) : (line st a b).length = (line st b a).length := by
  unfold line
  rw [List.length_append, List.length_append, List.length_reverse, List.length_reverse]
  omega
theorem ent_zeros (n a b : Nat) : ent (zeros n) a b = 0 := by
  unfold ent zeros
  by_cases h : a < n
  · rw [show ((List.range n).map fun _ => List.replicate n 0).getD a [] = List.replicate n 0 from by
      rw [List.getD_eq_getElem?_getD, List.getElem?_map, List.getElem?_range h]
      rfl]
    rw [List.getD_eq_getElem?_getD, List.getElem?_replicate]
    by_cases q : b < n <;> simp [q]
  · rw [show ((List.range n).map fun _ => List.replicate n 0).getD a [] = [] from by
      rw [List.getD_eq_getElem?_getD, List.getElem?_eq_none (by simp; omega)]
      rfl]
    rfl
theorem zip_map_mem {β γ : Type} (f : β → Nat) : ∀ (ps : List β) (cs : List γ), ∀ x ∈ ps.zip ((ps.map f).zip cs), x.2.1 = f x.1
  | [], _, x, h => by simp at h
  | p :: ps, [], x, h => by simp at h
  | p :: ps, c :: cs, x, h => by
    rw [List.map_cons, List.zip_cons_cons, List.zip_cons_cons] at h
    rcases List.mem_cons.mp h with rfl | h
    · rfl
    · exact zip_map_mem f ps cs x h
theorem szM_ent {α : Type} (ln : Nat → Nat → List α) (n : Nat) (sym : ∀ a b, (ln a b).length = (ln b a).length) {c : List Nat} (f : Fits c (lensM n ln)) (a b : Nat) : ent (szM n (lensM n ln) c) a b ≤ (ln a b).length :=
  ent_fold (fun a b => (ln a b).length) sym _ _ (fun x hx => ⟨zip_map_mem (fun p : Nat × Nat => (ln p.1 p.2).length) (pairs n) c x hx, fits_zip f x.2 (List.of_mem_zip hx).2⟩) (fun a b => by rw [ent_zeros]; exact Nat.zero_le _) a b
theorem rowsN_get : ∀ (m : List (List Nat)) (n d : Nat), d < m.length → n < waysN m → ∃ q, q < multi (m.getD d []) ∧ (rowsN m n).getD d [] = nthS (m.getD d []).sum (m.getD d []) q
  | [], _, d, h, _ => by simp at h
  | x :: r, n, 0, _, hn => ⟨n / waysN r, div_lt x r hn, rfl⟩
  | x :: r, n, d + 1, h, hn => by
    obtain ⟨q, q1, q2⟩ := rowsN_get r (n % waysN r) d (by simpa using h) (Nat.mod_lt _ (waysN_pos r))
    exact ⟨q, by simpa using q1, by simpa [rowsN] using q2⟩
theorem rowsN_count {m : List (List Nat)} {n : Nat} (hn : n < waysN m) (d b : Nat) : ((rowsN m n).getD d []).count b = ent m d b := by
  by_cases h : d < m.length
  · obtain ⟨q, q1, q2⟩ := rowsN_get m n d h hn
    rw [q2, nthS_count _ _ _ rfl q1]
    rfl
  · unfold ent
    rw [List.getD_eq_getElem?_getD, List.getElem?_eq_none (by rw [rowsN_len]; omega), List.getD_eq_getElem?_getD (l := m), List.getElem?_eq_none (by omega)]
    rfl
end Gr
/-! plain mathematics 9: what lies where, told fully -/
namespace Gr
def Dm (n : Nat) (m : List (List Nat)) : Prop := m.length = n ∧ ∀ a, a < n → (m.getD a []).length = n
theorem Dm.put {n : Nat} {m : List (List Nat)} {a b v : Nat} (h : Dm n m) (ha : a < n) : Dm n (putM m a b v) := by
  unfold putM
  refine ⟨by rw [List.length_set]; exact h.1, fun x hx => ?_⟩
  rw [List.getD_eq_getElem?_getD, List.getElem?_set]
  by_cases q : a = x
  · subst q
    rw [if_pos rfl, if_pos (by rw [h.1]; exact ha)]
    simp
    exact h.2 a ha
  · rw [if_neg q, ← List.getD_eq_getElem?_getD]
    exact h.2 x hx
theorem ent_at {n : Nat} {m : List (List Nat)} {a b : Nat} (v : Nat) (h : Dm n m) (ha : a < n) (hb : b < n) : ent (putM m a b v) a b = v := by
  unfold ent putM
  have e : (m.set a ((m.getD a []).set b v)).getD a [] = (m.getD a []).set b v := by
    rw [List.getD_eq_getElem?_getD, List.getElem?_set, if_pos rfl, if_pos (by rw [h.1]; exact ha)]
    rfl
  rw [e, List.getD_eq_getElem?_getD, List.getElem?_set, if_pos rfl, if_pos (by rw [h.2 a ha]; exact hb)]
  rfl
theorem ent_off (m : List (List Nat)) {a b v x y : Nat} (h : ¬ (x = a ∧ y = b)) : ent (putM m a b v) x y = ent m x y := by
  rcases ent_put m a b v x y with ⟨r1, r2, _⟩ | r
  · exact absurd ⟨r1, r2⟩ h
  · exact r
theorem ent_keep {a b : Nat} : ∀ (xs : List ((Nat × Nat) × Nat × Nat)) (m : List (List Nat)), (∀ x ∈ xs, x.1 ≠ (a, b) ∧ x.1 ≠ (b, a)) → ent (xs.foldl szStep m) a b = ent m a b
  | [], m, _ => rfl
  | x :: xs, m, h => by
    rw [List.foldl_cons, ent_keep xs _ fun y hy => h y (List.mem_cons_of_mem _ hy)]
    obtain ⟨h1, h2⟩ := h x List.mem_cons_self
    unfold szStep
    rw [ent_off _ fun z => h2 (by rw [z.1, z.2]), ent_off _ fun z => h1 (by rw [z.1, z.2])]
theorem ent_full {n : Nat} : ∀ (xs : List ((Nat × Nat) × Nat × Nat)) (m : List (List Nat)), Dm n m → (∀ x ∈ xs, x.1.1 < x.1.2 ∧ x.1.2 < n) → (xs.map (·.1)).Nodup → ∀ x ∈ xs, ent (xs.foldl szStep m) x.1.1 x.1.2 = x.2.2 ∧ ent (xs.foldl szStep m) x.1.2 x.1.1 = x.2.1 - x.2.2
  | [], _, _, _, _, x, h => by simp at h
  | y :: xs, m, dm, hx, nd, x, h => by
    rw [List.map_cons] at nd
    obtain ⟨n1, n2⟩ := List.nodup_cons.mp nd
    obtain ⟨y1, y2⟩ := hx y List.mem_cons_self
    have d1 : Dm n (putM m y.1.1 y.1.2 y.2.2) := dm.put (by omega)
    have d2 : Dm n (szStep m y) := d1.put y2
    rw [List.foldl_cons]
    rcases List.mem_cons.mp h with rfl | h
    · have off : ∀ z ∈ xs, z.1 ≠ (x.1.1, x.1.2) ∧ z.1 ≠ (x.1.2, x.1.1) := fun z hz => ⟨fun e => n1 (by
        have : z.1 ∈ xs.map (·.1) := List.mem_map_of_mem hz
        rw [e] at this
        exact this), fun e => by
        obtain ⟨z1, z2⟩ := hx z (List.mem_cons_of_mem _ hz)
        rw [e] at z1
        exact absurd z1 (by show ¬ x.1.2 < x.1.1; omega)⟩
      rw [ent_keep xs _ off, ent_keep xs _ fun z hz => ⟨(off z hz).2, (off z hz).1⟩]
      unfold szStep
      refine ⟨?_, ent_at _ d1 y2 (by omega)⟩
      rw [ent_off _ fun z => by omega]
      exact ent_at _ dm (by omega) y2
    · exact ent_full xs _ d2 (fun z hz => hx z (List.mem_cons_of_mem _ hz)) n2 x h
theorem zip3_map {β : Type} (f g : β → Nat) : ∀ ps : List β, ps.zip ((ps.map f).zip (ps.map g)) = ps.map fun p => (p, f p, g p)
  | [] => rfl
  | p :: ps => by
    rw [List.map_cons, List.map_cons, List.zip_cons_cons, List.zip_cons_cons, List.map_cons, zip3_map f g ps]
theorem pairs_nodup (n : Nat) (h : n ≤ 6) : (pairs n).Nodup := by
  have : n = 0 ∨ n = 1 ∨ n = 2 ∨ n = 3 ∨ n = 4 ∨ n = 5 ∨ n = 6 := by omega
  rcases this with rfl | rfl | rfl | rfl | rfl | rfl | rfl <;> decide
theorem pairs_mem {n a b : Nat} : (a, b) ∈ pairs n ↔ a < b ∧ b < n := by
  unfold pairs
  rw [List.mem_flatMap]
  constructor
  · rintro ⟨x, hx, h⟩
    obtain ⟨j, hj, e⟩ := List.mem_map.mp h
    injection e with e1 e2
    have := List.mem_range.mp hj
    omega
  · intro ⟨h1, h2⟩
    refine ⟨a, List.mem_range.mpr (by omega), List.mem_map.mpr ⟨b - (a + 1), List.mem_range.mpr (by omega), ?_⟩⟩
    congr 1
    omega
theorem dm_zeros (n : Nat) : Dm n (zeros n) := by
  unfold zeros
  refine ⟨by simp, fun a ha => ?_⟩
  rw [List.getD_eq_getElem?_getD, List.getElem?_map, List.getElem?_range ha]
  simp
theorem szM_map (n : Nat) (f g : Nat × Nat → Nat) : szM n ((pairs n).map f) ((pairs n).map g) = ((pairs n).map fun p => (p, f p, g p)).foldl szStep (zeros n) := by
  unfold szM
  rw [zip3_map]
/-- what the shares say of a pair -/
theorem szM_at {n : Nat} (h6 : n ≤ 6) (f g : Nat × Nat → Nat) {a b : Nat} (h : a < b) (hb : b < n) : ent (szM n ((pairs n).map f) ((pairs n).map g)) a b = g (a, b) ∧ ent (szM n ((pairs n).map f) ((pairs n).map g)) b a = f (a, b) - g (a, b) := by
  rw [szM_map]
  refine ent_full (n := n) ((pairs n).map fun p => (p, f p, g p)) (zeros n) (dm_zeros n) (fun x hx => ?_) ?_ ((a, b), f (a, b), g (a, b)) (List.mem_map.mpr ⟨(a, b), pairs_mem.mpr ⟨h, hb⟩, rfl⟩)
  · obtain ⟨p, hp, rfl⟩ := List.mem_map.mp hx
    exact pairs_mem.mp hp
  · rw [List.map_map]
    have : ((fun x : (Nat × Nat) × Nat × Nat => x.1) ∘ fun p => (p, f p, g p)) = id := rfl
    rw [this, List.map_id]
    exact pairs_nodup n h6
theorem szM_self {n : Nat} (f g : Nat × Nat → Nat) (a : Nat) : ent (szM n ((pairs n).map f) ((pairs n).map g)) a a = 0 := by
  rw [szM_map, ent_keep, ent_zeros]
  intro x hx
  obtain ⟨p, hp, rfl⟩ := List.mem_map.mp hx
  have := pairs_mem.mp (show (p.1, p.2) ∈ pairs n from hp)
  exact ⟨fun e => by rw [show p = (a, a) from e] at this; omega, fun e => by rw [show p = (a, a) from e] at this; omega⟩
theorem dm_fold {n : Nat} : ∀ (xs : List ((Nat × Nat) × Nat × Nat)) (m : List (List Nat)), Dm n m → (∀ x ∈ xs, x.1.1 < n ∧ x.1.2 < n) → Dm n (xs.foldl szStep m)
  | [], m, h, _ => h
  | x :: xs, m, h, hx => dm_fold xs (szStep m x) ((h.put (hx x List.mem_cons_self).1).put (hx x List.mem_cons_self).2) fun y hy => hx y (List.mem_cons_of_mem _ hy)
theorem dm_szM (n : Nat) (lens c : List Nat) : Dm n (szM n lens c) := dm_fold _ _ (dm_zeros n) fun x hx => by
  have := pairs_mem.mp (show (x.1.1, x.1.2) ∈ pairs n from (List.of_mem_zip hx).1)
  omega
theorem ent_out {n : Nat} {m : List (List Nat)} (h : Dm n m) {a b : Nat} (q : n ≤ a ∨ n ≤ b) : ent m a b = 0 := by
  unfold ent
  by_cases ha : a < n
  · rw [List.getD_eq_getElem?_getD (i := b), List.getElem?_eq_none (by rw [h.2 a ha]; omega)]
    rfl
  · rw [List.getD_eq_getElem?_getD (i := a), List.getElem?_eq_none (by rw [h.1]; omega)]
    rfl
theorem cut_none {α : Type} {n : Nat} {t : Stg α} (ok : Okn n t) {d b : Nat} (q : n ≤ d ∨ n ≤ b ∨ d = b) : cut t d b = 0 := by
  unfold cut held hw
  rw [List.length_map, List.length_eq_zero_iff, List.filter_eq_nil_iff]
  intro g hg
  have h1 := ok.2 d g hg
  by_cases hd : d < n
  · simp
    omega
  · rw [hp_out t d (by rw [ok.1]; omega)] at hg
    cases hg
/-- the shares of a standing are its own -/
theorem szM_due {α : Type} {n : Nat} (h6 : n ≤ 6) (ln : Nat → Nat → List α) {t : Stg α} (ok : Okn n t) (h : ∀ a b, (ln a b).length = (line t a b).length) (d b : Nat) : ent (szM n (lensM n ln) (dueM n t)) d b = cut t d b := by
  have e : ∀ a b, (line t a b).length = cut t a b + cut t b a := fun a b => by
    unfold line cut
    rw [List.length_append, List.length_reverse]
  by_cases q : n ≤ d ∨ n ≤ b ∨ d = b
  · rw [cut_none ok q]
    rcases q with q | q | q
    · exact ent_out (dm_szM n _ _) (.inl q)
    · exact ent_out (dm_szM n _ _) (.inr q)
    · rw [q]
      exact szM_self _ _ b
  · by_cases lt : d < b
    · exact (szM_at h6 (fun p => (ln p.1 p.2).length) (fun p => cut t p.1 p.2) lt (by omega)).1
    · have := (szM_at h6 (fun p => (ln p.1 p.2).length) (fun p => cut t p.1 p.2) (a := b) (b := d) (by omega) (by omega)).2
      have k : (ln b d).length = cut t b d + cut t d b := by rw [h, e]
      unfold lensM dueM
      rw [this]
      show (ln b d).length - cut t b d = _
      omega
end Gr
/-! plain mathematics 10: the standing of a number -/
namespace Gr
section
variable {α : Type}
theorem as_map {β : Type} [DecidableEq β] : ∀ (l : List β) (c : List Nat), l.Nodup → c.length = l.length → ∃ g : β → Nat, c = l.map g
  | [], [], _, _ => ⟨fun _ => 0, rfl⟩
  | [], _ :: _, _, h => by cases h
  | _ :: _, [], _, h => by cases h
  | x :: l, y :: c, nd, h => by
    obtain ⟨n1, n2⟩ := List.nodup_cons.mp nd
    obtain ⟨g, e⟩ := as_map l c n2 (by simpa using h)
    refine ⟨fun z => if z = x then y else g z, ?_⟩
    rw [List.map_cons, if_pos rfl, e]
    congr 1
    refine List.map_congr_left fun z hz => ?_
    have : z ≠ x := fun q => n1 (by rw [← q]; exact hz)
    rw [if_neg this]
theorem line_rev (st : Stg α) (a b : Nat) : line st b a = (line st a b).reverse := by
  unfold line
  rw [List.reverse_append, List.reverse_reverse]
theorem held_none {n : Nat} {t : Stg α} (ok : Okn n t) {d b : Nat} (q : n ≤ d ∨ n ≤ b ∨ d = b) : held t d b = [] := List.eq_nil_of_length_eq_zero (cut_none ok q)
theorem line_none {n : Nat} {t : Stg α} (ok : Okn n t) {d b : Nat} (q : n ≤ d ∨ n ≤ b ∨ d = b) : line t d b = [] := by
  unfold line
  rw [held_none ok q, held_none ok (by omega)]
  rfl
theorem rowsN_lens : ∀ (l : List (List Nat)) (n : Nat), (rowsN l n).map List.length = l.map List.sum
  | [], _ => rfl
  | m :: r, n => by
    show (nthS m.sum m (n / waysN r)).length :: (rowsN r (n % waysN r)).map List.length = _
    rw [nthS_len, rowsN_lens r]
    rfl
theorem hp_heaps (ln : Nat → Nat → List α) (rows : List (List Nat)) {d : Nat} (h : d < rows.length) : hp (heapsM ln rows) d = deal (ln d) (rows.getD d []) := by
  unfold hp heapsM
  rw [List.getD_eq_getElem?_getD, List.getElem?_map, List.getElem?_zipIdx, List.getD_eq_getElem?_getD, List.getElem?_eq_getElem h]
  simp
theorem line_def (s : Stg α) (a b : Nat) : line s a b = held s a b ++ (held s b a).reverse := rfl
theorem heaps_len (ln : Nat → Nat → List α) (rows : List (List Nat)) : (heapsM ln rows).length = rows.length := by simp [heapsM]
/-- shares of which a row for each heap is told -/
structure Shd (n : Nat) (st : Stg α) (c : List Nat) (rows : List (List Nat)) : Prop where
  fits : Fits c (lensM n (line st))
  len : rows.length = n
  cnt : ∀ d b, (rows.getD d []).count b = ent (szM n (lensM n (line st)) c) d b
  lens : rows.map List.length = (szM n (lensM n (line st)) c).map List.sum
theorem shd_of {n : Nat} {st : Stg α} {c : List Nat} {m : Nat} (f : Fits c (lensM n (line st))) (h : m < waysN (szM n (lensM n (line st)) c)) : Shd n st c (rowsN (szM n (lensM n (line st)) c) m) where
  fits := f
  len := by rw [rowsN_len]; exact (dm_szM n _ _).1
  cnt := fun d b => rowsN_count h d b
  lens := rowsN_lens _ _
variable {n : Nat} {st : Stg α} {c : List Nat} {rows : List (List Nat)}
theorem Shd.le (S : Shd n st c rows) (d b : Nat) : (rows.getD d []).count b ≤ (line st d b).length := by
  rw [S.cnt]
  exact szM_ent (line st) n (line_sym st) S.fits d b
theorem Shd.abouts (S : Shd n st c rows) : (heapsM (line st) rows).map abouts = rows := by
  apply List.ext_getElem
  · rw [List.length_map, heaps_len]
  · intro i h1 h2
    have := S.le i
    rw [List.getD_eq_getElem?_getD, List.getElem?_eq_getElem h2] at this
    simp [heapsM]
    exact deal_len _ _ this
theorem Shd.held (S : Shd n st c rows) (a b : Nat) : held (heapsM (line st) rows) a b = (line st a b).take (ent (szM n (lensM n (line st)) c) a b) := by
  by_cases h : a < rows.length
  · unfold Gr.held
    rw [hp_heaps _ _ h, hw_deal _ _ (S.le a), S.cnt]
  · have : n ≤ a := by rw [← S.len]; omega
    rw [ent_out (dm_szM n _ _) (.inl this)]
    unfold Gr.held
    rw [hp_out _ _ (by rw [heaps_len]; omega)]
    rfl
theorem Shd.pair (S : Shd n st c rows) (h6 : n ≤ 6) : ∃ g : Nat × Nat → Nat, c = (pairs n).map g ∧ ∀ a b, a < b → b < n → ent (szM n (lensM n (line st)) c) a b = g (a, b) ∧ ent (szM n (lensM n (line st)) c) b a = (line st a b).length - g (a, b) := by
  have hl := fits_len S.fits
  obtain ⟨g, e⟩ := as_map (pairs n) c (pairs_nodup n h6) (by rw [hl]; unfold lensM; rw [List.length_map])
  refine ⟨g, e, fun a b h1 h2 => ?_⟩
  have := szM_at h6 (fun p => (line st p.1 p.2).length) g h1 h2
  rw [← e] at this
  exact this
theorem Shd.lines (S : Shd n st c rows) (h6 : n ≤ 6) (ok : Okn n st) (a b : Nat) : line (heapsM (line st) rows) a b = line st a b := by
  obtain ⟨g, e, hg⟩ := S.pair h6
  have up : ∀ a b, a < b → b < n → line (heapsM (line st) rows) a b = line st a b := fun a b h1 h2 => by
    obtain ⟨g1, g2⟩ := hg a b h1 h2
    rw [line_def (heapsM (line st) rows)]
    rw [S.held a b, S.held b a, g1, g2, line_rev st a b, List.take_reverse, List.reverse_reverse]
    have : g (a, b) ≤ (line st a b).length := by
      rw [← g1]
      exact szM_ent (line st) n (line_sym st) S.fits a b
    rw [show (line st a b).length - ((line st a b).length - g (a, b)) = g (a, b) by omega, List.take_append_drop]
  by_cases q : n ≤ a ∨ n ≤ b ∨ a = b
  · rw [line_none ok q]
    rw [line_def (heapsM (line st) rows)]
    rw [S.held a b, S.held b a, line_none ok q, line_none ok (by omega)]
    simp
  · by_cases lt : a < b
    · exact up a b lt (by omega)
    · rw [line_rev _ b a, line_rev st b a, up b a (by omega) (by omega)]
theorem Shd.due (S : Shd n st c rows) (h6 : n ≤ 6) : dueM n (heapsM (line st) rows) = c := by
  obtain ⟨g, e, hg⟩ := S.pair h6
  conv => rhs; rw [e]
  unfold dueM
  refine List.map_congr_left fun p hp => ?_
  obtain ⟨h1, h2⟩ := pairs_mem.mp (show (p.1, p.2) ∈ pairs n from hp)
  unfold cut
  rw [S.held, List.length_take, (hg p.1 p.2 h1 h2).1]
  have : g (p.1, p.2) ≤ (line st p.1 p.2).length := by
    rw [← (hg p.1 p.2 h1 h2).1]
    exact szM_ent (line st) n (line_sym st) S.fits p.1 p.2
  show min (g (p.1, p.2)) _ = g (p.1, p.2)
  omega
theorem Shd.okn (S : Shd n st c rows) : Okn n (heapsM (line st) rows) := by
  refine ⟨by rw [heaps_len, S.len], fun d g hg => ?_⟩
  by_cases h : d < n
  · have h1 : g.1 ∈ Gr.abouts (hp (heapsM (line st) rows) d) := List.mem_map_of_mem hg
    rw [hp_heaps _ _ (by rw [S.len]; exact h), deal_len _ _ (S.le d)] at h1
    have h2 := List.count_pos_iff.mpr h1
    rw [S.cnt] at h2
    constructor
    · by_cases q : g.1 < n
      · exact q
      · rw [ent_out (dm_szM n _ _) (.inr (by omega))] at h2
        cases h2
    · intro e
      rw [e] at h2
      have : ent (szM n (lensM n (line st)) c) d d = 0 := by
        unfold szM
        rw [ent_keep, ent_zeros]
        intro x hx
        have := pairs_mem.mp (show (x.1.1, x.1.2) ∈ pairs n from (List.of_mem_zip hx).1)
        exact ⟨fun e => by rw [e] at this; omega, fun e => by rw [e] at this; omega⟩
      omega
  · rw [hp_out _ _ (by rw [heaps_len, S.len]; omega)] at hg
    cases hg
theorem Shd.grudges (S : Shd n st c rows) (h6 : st.length ≤ 6) (hn : st.length = n) : grudges (heapsM (line st) rows) ≤ grudges st := by
  have e : (heapsM (line st) rows).map List.length = ((heapsM (line st) rows).map Gr.abouts).map List.length := by
    rw [List.map_map]
    refine List.map_congr_left fun h _ => ?_
    show _ = (Gr.abouts h).length
    unfold Gr.abouts
    rw [List.length_map]
  unfold Gr.grudges
  rw [e, S.abouts, S.lens]
  have h1 := szM_tot (n := n) S.fits
  subst hn
  have h2 := lens_sum st h6
  unfold tot2 at h1
  unfold Gr.grudges at h2
  omega
theorem mem_held {st : Stg α} {d : Nat} {g : Nat × α} (h : g ∈ hp st d) : g.2 ∈ held st d g.1 := by
  unfold held hw
  exact List.mem_map.mpr ⟨g, List.mem_filter.mpr ⟨h, by simp⟩, rfl⟩
theorem held_mem {st : Stg α} {d b : Nat} {x : α} (h : x ∈ held st d b) : ∃ g ∈ hp st d, g.2 = x := by
  unfold held hw at h
  obtain ⟨g, hg, e⟩ := List.mem_map.mp h
  exact ⟨g, (List.mem_filter.mp hg).1, e⟩
theorem Shd.words {P : α → Prop} (S : Shd n st c rows) (hw : ∀ d, ∀ g ∈ hp st d, P g.2) : ∀ d, ∀ g ∈ hp (heapsM (line st) rows) d, P g.2 := fun d g hg => by
  have h := mem_held hg
  rw [S.held] at h
  have h := List.mem_of_mem_take h
  unfold line at h
  rcases List.mem_append.mp h with h | h
  · obtain ⟨g', h1, h2⟩ := held_mem h
    rw [← h2]
    exact hw _ _ h1
  · obtain ⟨g', h1, h2⟩ := held_mem (List.mem_reverse.mp h)
    rw [← h2]
    exact hw _ _ h1
/-! ### numbers -/
abbrev Wst (n : Nat) (st : Stg α) : List Nat → Nat := WM n (lensM n (line st))
abbrev Cst (n : Nat) (st : Stg α) : List (List Nat) := allCuts (lensM n (line st))
theorem nth_shd {k : Nat} (h : k < hmM n (line st)) : ∃ c m, nthC (Wst n st) (Cst n st) k = some (c, m) ∧ m < waysN (szM n (lensM n (line st)) c) ∧ Shd n st c (rowsN (szM n (lensM n (line st)) c) m) ∧ nthM n (line st) k = heapsM (line st) (rowsN (szM n (lensM n (line st)) c) m) := by
  obtain ⟨c, m, e, hc, hm⟩ := nthC_some (Wst n st) (Cst n st) k h
  refine ⟨c, m, e, hm, shd_of ((mem_allCuts _ c).mp hc) hm, ?_⟩
  unfold nthM
  rw [e]
theorem nof_nth {k : Nat} (h6 : n ≤ 6) (h : k < hmM n (line st)) : nofM n (line st) (nthM n (line st) k) = k := by
  obtain ⟨c, m, e, hm, S, ek⟩ := nth_shd h
  unfold nofM
  rw [ek, S.due h6, S.abouts, numR_rows _ _ _ hm]
  have := numC_nthC (Wst n st) (Cst n st) k c m (nodup_of_rise (allCuts_rise _)) e
  show numC (Wst n st) c (Cst n st) + (0 * waysN (szM n (lensM n (line st)) c) + m) = k
  omega
/-- by which standings rise -/
def KeyLt (n : Nat) (s t : Stg α) : Prop := Lx (dueM n s) (dueM n t) ∨ (dueM n s = dueM n t ∧ LxR (s.map abouts) (t.map abouts))
theorem nth_rise {k l : Nat} (h6 : n ≤ 6) (hk : k < l) (h : l < hmM n (line st)) : KeyLt n (nthM n (line st) k) (nthM n (line st) l) := by
  obtain ⟨c, m, e, hm, S, ek⟩ := nth_shd (Nat.lt_trans hk h)
  obtain ⟨c', m', e', hm', S', ek'⟩ := nth_shd h
  unfold KeyLt
  rw [ek, ek', S.due h6, S'.due h6, S.abouts, S'.abouts]
  rcases nthC_mono (Wst n st) (Cst n st) k l c m c' m' (allCuts_rise _) hk e e' with q | ⟨rfl, q⟩
  · exact .inl q
  · exact .inr ⟨rfl, rowsN_mono _ _ _ q hm'⟩
theorem total_le (W : List Nat → Nat) (b : Nat) : ∀ cs : List (List Nat), (∀ c ∈ cs, W c ≤ b) → total W cs ≤ cs.length * b
  | [], _ => Nat.zero_le _
  | c :: r, h => by
    have h1 := h c List.mem_cons_self
    have h2 := total_le W b r fun x hx => h x (List.mem_cons_of_mem _ hx)
    show W c + total W r ≤ (r.length + 1) * b
    rw [Nat.add_mul]
    omega
theorem hm_le (h6 : st.length ≤ 6) (h9 : grudges st ≤ 9) : hmM st.length (line st) ≤ 512 * 362880 := by
  have hl := Nat.le_trans (lens_sum st h6) h9
  have h1 := total_le (Wst st.length st) 362880 (Cst st.length st) fun c hc => by
    have := szM_tot (n := st.length) ((mem_allCuts _ c).mp hc)
    exact waysN_9 (Nat.le_trans this hl)
  refine Nat.le_trans h1 (Nat.mul_le_mul_right _ (Nat.le_trans (allCuts_len _) ?_))
  exact Nat.le_trans (Nat.pow_le_pow_right (by decide) hl) (by decide)
theorem hm_pos : 0 < hmM n (line st) := by
  unfold hmM
  cases h : allCuts (lensM n (line st)) with
  | nil => exact absurd h (allCuts_ne _)
  | cons c r =>
    have := waysN_pos (szM n (lensM n (line st)) c)
    show 0 < Wst n st c + total _ r
    unfold Wst WM
    omega
end
end Gr
/-! a layer of my own over the hand layer: values told as data, the heap out of sight -/
namespace Gr
open PySem L2
/-! ### data -/
inductive Dt where
  | non | bl (b : Bool) | int (i : Int) | str (x : Str) | lst (xs : List Dt) | tup (xs : List Dt)
  | ins (C : Addr) (ns : List Str) (xs : List Dt) | ty (n : String)
mutual
/-- v stands in H for the datum -/
def Da (K : PySem.W.Frag) (H : Hp) : V → Dt → Prop
  | v, .non => v = .non
  | v, .bl b => v = .bl b
  | v, .int i => v = .int i
  | v, .str x => v = .str x
  | v, .lst ds => ∃ a xs, v = .ref a ∧ H a = some (.lst xs) ∧ DaAll K H xs ds
  | v, .tup ds => ∃ a xs, v = .ref a ∧ SqT K H a xs ∧ DaAll K H xs ds
  | v, .ty n => v = .ty n
  | v, .ins C ns ds => ∃ a dx xs, v = .ref a ∧ H a = some (.ins C dx (ns.zip xs)) ∧ xs.length = ns.length ∧ DaAll K H xs ds
def DaAll (K : PySem.W.Frag) (H : Hp) : List V → List Dt → Prop
  | vs, [] => vs = []
  | vs, d :: ds => ∃ v r, vs = v :: r ∧ Da K H v d ∧ DaAll K H r ds
end
section
variable {K : PySem.W.Frag} {H H' : Hp}
abbrev Exn (H H' : Hp) : Prop := Evl.Ex H H'
mutual
theorem Da.mono (e : Evl.Ex H H') : ∀ {d : Dt} {v : V}, Da K H v d → Da K H' v d
  | .non, _, h => h
  | .bl _, _, h => h
  | .int _, _, h => h
  | .str _, _, h => h
  | .ty _, _, h => h
  | .lst ds, _, h => by
    obtain ⟨a, xs, e1, e2, e3⟩ := h
    exact ⟨a, xs, e1, e a _ e2, DaAll.mono e e3⟩
  | .tup ds, _, h => by
    obtain ⟨a, xs, e1, e2, e3⟩ := h
    exact ⟨a, xs, e1, Evl.ex_t e e2, DaAll.mono e e3⟩
  | .ins C ns ds, _, h => by
    obtain ⟨a, dx, xs, e1, e2, e3, e4⟩ := h
    exact ⟨a, dx, xs, e1, e a _ e2, e3, DaAll.mono e e4⟩
theorem DaAll.mono (e : Evl.Ex H H') : ∀ {ds : List Dt} {vs : List V}, DaAll K H vs ds → DaAll K H' vs ds
  | [], _, h => h
  | d :: ds, _, h => by
    obtain ⟨v, r, e1, e2, e3⟩ := h
    exact ⟨v, r, e1, Da.mono e e2, DaAll.mono e e3⟩
end
theorem DaAll.len : ∀ {ds : List Dt} {vs : List V}, DaAll K H vs ds → vs.length = ds.length
  | [], _, h => by rw [show _ = [] from h]; rfl
  | d :: ds, _, h => by
    obtain ⟨v, r, rfl, _, e3⟩ := h
    exact congrArg (· + 1) e3.len
theorem DaAll.nil : DaAll K H [] [] := rfl
theorem DaAll.cons {v : V} {d : Dt} {vs : List V} {ds : List Dt} (h : Da K H v d) (t : DaAll K H vs ds) : DaAll K H (v :: vs) (d :: ds) := ⟨v, vs, rfl, h, t⟩
theorem DaAll.get : ∀ {ds : List Dt} {vs : List V} {i : Nat} {d : Dt}, DaAll K H vs ds → ds[i]? = some d → ∃ v, vs[i]? = some v ∧ Da K H v d
  | [], _, i, d, h, e => by simp at e
  | d :: ds, _, 0, d', h, e => by
    obtain ⟨v, r, rfl, e2, e3⟩ := h
    simp at e
    subst e
    exact ⟨v, rfl, e2⟩
  | d :: ds, _, i + 1, d', h, e => by
    obtain ⟨v, r, rfl, e2, e3⟩ := h
    obtain ⟨u, e4, e5⟩ := e3.get (i := i) (d := d') (by simpa using e)
    exact ⟨u, by simpa using e4, e5⟩
theorem DaAll.get2 {ds : List Dt} {vs : List V} {i : Nat} {v : V} (h : DaAll K H vs ds) (e : vs[i]? = some v) : ∃ d, ds[i]? = some d ∧ Da K H v d := by
  have hl := h.len
  have hi : i < ds.length := by
    have := (List.getElem?_eq_some_iff.mp e).1
    omega
  obtain ⟨u, e1, e2⟩ := h.get (List.getElem?_eq_getElem hi)
  rw [e] at e1
  cases e1
  exact ⟨_, List.getElem?_eq_getElem hi, e2⟩
theorem DaAll.append : ∀ {ds es : List Dt} {vs us : List V}, DaAll K H vs ds → DaAll K H us es → DaAll K H (vs ++ us) (ds ++ es)
  | [], es, _, us, h, t => by
    rw [show _ = [] from h]
    exact t
  | d :: ds, es, _, us, h, t => by
    obtain ⟨v, r, rfl, e2, e3⟩ := h
    exact .cons e2 (e3.append t)
theorem DaAll.take : ∀ (n : Nat) {ds : List Dt} {vs : List V}, DaAll K H vs ds → DaAll K H (vs.take n) (ds.take n)
  | 0, _, _, _ => rfl
  | n + 1, [], _, h => by
    rw [show _ = [] from h]
    rfl
  | n + 1, d :: ds, _, h => by
    obtain ⟨v, r, rfl, e2, e3⟩ := h
    exact .cons e2 (e3.take n)
theorem DaAll.drop : ∀ (n : Nat) {ds : List Dt} {vs : List V}, DaAll K H vs ds → DaAll K H (vs.drop n) (ds.drop n)
  | 0, _, _, h => h
  | n + 1, [], _, h => by
    rw [show _ = [] from h]
    rfl
  | n + 1, d :: ds, _, h => by
    obtain ⟨v, r, rfl, e2, e3⟩ := h
    exact e3.drop n
theorem DaAll.set : ∀ (n : Nat) {ds : List Dt} {vs : List V} {d : Dt} {v : V}, DaAll K H vs ds → Da K H v d → DaAll K H (vs.set n v) (ds.set n d)
  | n, [], _, _, _, h, _ => by
    rw [show _ = [] from h]
    rfl
  | 0, d :: ds, _, _, _, h, t => by
    obtain ⟨v, r, rfl, e2, e3⟩ := h
    exact .cons t e3
  | n + 1, d :: ds, _, _, _, h, t => by
    obtain ⟨v, r, rfl, e2, e3⟩ := h
    exact .cons e2 (e3.set n t)
theorem DaAll.rev {ds : List Dt} {vs : List V} (h : DaAll K H vs ds) : DaAll K H vs.reverse ds.reverse := by
  induction ds generalizing vs with
  | nil =>
    rw [show vs = [] from h]
    rfl
  | cons d ds ih =>
    obtain ⟨v, r, rfl, e2, e3⟩ := h
    rw [List.reverse_cons, List.reverse_cons]
    exact (ih e3).append (.cons e2 .nil)
theorem DaAll.ints : ∀ {ns : List Int} {vs : List V}, DaAll K H vs (ns.map Dt.int) → vs = ns.map V.int
  | [], _, h => h
  | n :: ns, _, h => by
    obtain ⟨v, r, rfl, e2, e3⟩ := h
    rw [show v = V.int n from e2, DaAll.ints e3]
    rfl
theorem DaAll.bls : ∀ {ns : List Bool} {vs : List V}, DaAll K H vs (ns.map Dt.bl) → vs = ns.map V.bl
  | [], _, h => h
  | n :: ns, _, h => by
    obtain ⟨v, r, rfl, e2, e3⟩ := h
    rw [show v = V.bl n from e2, DaAll.bls e3]
    rfl
theorem DaAll.of_ints : ∀ (ns : List Int), DaAll K H (ns.map V.int) (ns.map Dt.int)
  | [] => rfl
  | n :: ns => .cons rfl (DaAll.of_ints ns)
end

/-! ### the frozen part of a heap, and how both grow -/
structure Gw (F H F' H' : Hp) : Prop where
  ff : Evl.Ex F F'
  fh : Evl.Ex F' H'
  hh : Evl.Ex H H'
  no : ∀ a, F a = none → H a ≠ none → F' a = none
theorem Gw.refl {F H : Hp} (e : Evl.Ex F H) : Gw F H F H := ⟨Evl.Ex.refl _, e, Evl.Ex.refl _, fun _ h _ => h⟩
theorem Gw.trans {F H F1 H1 F2 H2 : Hp} (a : Gw F H F1 H1) (b : Gw F1 H1 F2 H2) : Gw F H F2 H2 :=
  ⟨a.ff.trans b.ff, b.fh, a.hh.trans b.hh, fun x h1 h2 => b.no x (a.no x h1 h2) fun h => by
    cases e : H x with
    | none => exact h2 e
    | some o => rw [a.hh x o e] at h; cases h⟩
/-- a new object, frozen -/
theorem Gw.new {F H : Hp} {p : Addr} {o : HO} (e : Evl.Ex F H) (h : H p = none) : Gw F H (upd F p o) (upd H p o) :=
  ⟨Evl.Ex.new (Evl.fresh_back e h), fun a u q => by
    by_cases ha : a = p
    · subst ha; rw [upd_same] at q ⊢; exact q
    · rw [upd_ne ha] at q ⊢; exact e a u q, Evl.Ex.new h, fun a h1 h2 => by
    have : a ≠ p := fun z => h2 (z ▸ h)
    rw [upd_ne this]; exact h1⟩
/-- a new object, not frozen -/
theorem Gw.mut {F H : Hp} {p : Addr} {o : HO} (e : Evl.Ex F H) (h : H p = none) : Gw F H F (upd H p o) :=
  ⟨Evl.Ex.refl _, e.trans (Evl.Ex.new h), Evl.Ex.new h, fun _ h1 _ => h1⟩

/-! ### what the slots hold: nothing told, a datum, a list of one's own that may change, a Pecking of one's own -/
/-- another thing of one's own: its addresses, its value, what stands there -/
structure Rsc where
  as : List Addr
  v : V
  R : PySem.W.Frag → Hp → Hp → Prop
  mono : ∀ {K : PySem.W.Frag} {F H F' H' : Hp}, R K F H → Evl.Ex F F' → (∀ a ∈ as, ∀ o, H a = some o → H' a = some o) → R K F' H'
  there : ∀ {K : PySem.W.Frag} {F H : Hp}, R K F H → ∀ a ∈ as, ∃ o, H a = some o
inductive Sl where
  | no | val (d : Dt) | own (a : Addr) (ds : List Dt) | pk (x C dx l : Addr) (here : Dt) (row : List Dt) | res (r : Rsc)
abbrev Env := List Sl
/-- the addresses that a slot alone knows -/
def Sl.adr : Sl → List Addr
  | .own a _ => [a]
  | .pk x _ _ l _ _ => [x, l]
  | .res r => r.as
  | _ => []
/-- what stands at them -/
def Sl.holds (K : PySem.W.Frag) (F H : Hp) : Sl → Prop
  | .own a ds => ∃ xs, H a = some (.lst xs) ∧ DaAll K F xs ds
  | .pk x C dx l here row => ∃ vh xs, H x = some (.ins C dx [("here", vh), ("so_far", .ref l)]) ∧ H l = some (.lst xs) ∧ Da K F vh here ∧ DaAll K F xs row
  | .res r => r.R K F H
  | _ => True
/-- the value in the slot -/
def Sl.at_ : Sl → Option V
  | .own a _ => some (.ref a)
  | .pk x _ _ _ _ _ => some (.ref x)
  | .res r => some r.v
  | _ => none
theorem Sl.holds_mono {K : PySem.W.Frag} {F H F' H' : Hp} : ∀ {s : Sl}, s.holds K F H → Evl.Ex F F' → (∀ a ∈ s.adr, ∀ o, H a = some o → H' a = some o) → s.holds K F' H'
  | .no, _, _, _ => trivial
  | .val _, _, _, _ => trivial
  | .own a ds, ⟨xs, h1, h2⟩, e, k => ⟨xs, k a List.mem_cons_self _ h1, h2.mono e⟩
  | .pk x C dx l here row, ⟨vh, xs, h1, h2, h3, h4⟩, e, k => ⟨vh, xs, k x List.mem_cons_self _ h1, k l (List.mem_cons_of_mem _ List.mem_cons_self) _ h2, h3.mono e, h4.mono e⟩
  | .res r, h, e, k => r.mono h e k
theorem Sl.holds_there {K : PySem.W.Frag} {F H : Hp} : ∀ {s : Sl}, s.holds K F H → ∀ a ∈ s.adr, ∃ o, H a = some o
  | .no, _, a, ha => by cases ha
  | .val _, _, a, ha => by cases ha
  | .own b ds, ⟨xs, h1, h2⟩, a, ha => by
    have e : a = b := by simpa [Sl.adr] using ha
    exact ⟨_, e ▸ h1⟩
  | .pk x C dx l here row, ⟨vh, xs, h1, h2, h3, h4⟩, a, ha => by
    have e : a = x ∨ a = l := by simpa [Sl.adr] using ha
    rcases e with e | e
    · exact ⟨_, e ▸ h1⟩
    · exact ⟨_, e ▸ h2⟩
  | .res r, h, a, ha => r.there h a ha
/-- from the base (Fb, Hb) the state has come to F, H -/
structure Iv (K : PySem.W.Frag) (Fb Hb F H : Hp) (σ : L2.St) (ρ : Env) : Prop where
  gw : Gw Fb Hb F H
  len : σ.length = ρ.length
  val : ∀ (i : Nat) d, ρ[i]? = some (.val d) → ∃ v, σ[i]? = some (some v) ∧ Da K F v d
  res : ∀ (i : Nat) s, ρ[i]? = some s → (∀ v, s.at_ = some v → σ[i]? = some (some v)) ∧ (∀ a ∈ s.adr, F a = none ∧ Hb a = none) ∧ s.holds K F H
  apart : ∀ (i j : Nat) s t, i ≠ j → ρ[i]? = some s → ρ[j]? = some t → ∀ a ∈ s.adr, a ∉ t.adr
section
variable {K : PySem.W.Frag} {Fb Hb F H F' H' : Hp} {σ : L2.St} {ρ : Env}
theorem Iv.fh (I : Iv K Fb Hb F H σ ρ) : Evl.Ex F H := I.gw.fh
theorem Iv.own (I : Iv K Fb Hb F H σ ρ) (i : Nat) (a : Addr) (ds : List Dt) (h : ρ[i]? = some (.own a ds)) : σ[i]? = some (some (.ref a)) ∧ F a = none ∧ Hb a = none ∧ ∃ xs, H a = some (.lst xs) ∧ DaAll K F xs ds := by
  obtain ⟨h1, h2, h3⟩ := I.res i _ h
  exact ⟨h1 _ rfl, (h2 a List.mem_cons_self).1, (h2 a List.mem_cons_self).2, h3⟩
/-- what evaluates and changes nothing -/
theorem Iv.grow (I : Iv K Fb Hb F H σ ρ) (g : Gw F H F' H') : Iv K Fb Hb F' H' σ ρ where
  gw := I.gw.trans g
  len := I.len
  val := fun i d e => let ⟨v, a, b⟩ := I.val i d e; ⟨v, a, b.mono g.ff⟩
  res := fun i s e => by
    obtain ⟨h1, h2, h3⟩ := I.res i s e
    refine ⟨h1, fun a ha => ?_, Sl.holds_mono h3 g.ff fun a _ o q => g.hh a o q⟩
    obtain ⟨o, ho⟩ := Sl.holds_there h3 a ha
    exact ⟨g.no a (h2 a ha).1 (by rw [ho]; simp), (h2 a ha).2⟩
  apart := I.apart
theorem set_get {α : Type} {l : List α} {i j : Nat} {x y : α} (h : (l.set i x)[j]? = some y) : (i = j ∧ x = y ∧ i < l.length) ∨ (i ≠ j ∧ l[j]? = some y) := by
  rw [List.getElem?_set] at h
  by_cases q : i = j
  · rw [if_pos q] at h
    by_cases hl : i < l.length
    · rw [if_pos hl] at h
      exact .inl ⟨q, Option.some.inj h, hl⟩
    · rw [if_neg hl] at h; cases h
  · rw [if_neg q] at h
    exact .inr ⟨q, h⟩
theorem set_same {α : Type} {l : List α} {i : Nat} {x : α} (h : i < l.length) : (l.set i x)[i]? = some x := by rw [List.getElem?_set, if_pos rfl, if_pos h]
theorem set_ne {α : Type} {l : List α} {i j : Nat} {x : α} (h : i ≠ j) : (l.set i x)[j]? = l[j]? := by rw [List.getElem?_set, if_neg h]
/-- a slot set: to a datum, to nothing told, to a resource that is new -/
theorem Iv.put (I : Iv K Fb Hb F H σ ρ) {i : Nat} {o : Option V} {s : Sl} (hv : ∀ d, s = .val d → ∃ v, o = some v ∧ Da K F v d) (h1 : ∀ v, s.at_ = some v → o = some v) (h2 : ∀ a ∈ s.adr, F a = none ∧ Hb a = none) (h3 : s.holds K F H)
    (hn : ∀ (j : Nat) t, ρ[j]? = some t → ∀ a ∈ s.adr, a ∉ t.adr) : Iv K Fb Hb F H (σ.set i o) (ρ.set i s) where
  gw := I.gw
  len := by rw [List.length_set, List.length_set]; exact I.len
  val := fun j e hj => by
    rcases set_get hj with ⟨rfl, q, hl⟩ | ⟨ne, q⟩
    · obtain ⟨v, k1, k2⟩ := hv e q
      exact ⟨v, by rw [k1]; exact set_same (by rw [I.len]; exact hl), k2⟩
    · rw [set_ne ne]
      exact I.val j e q
  res := fun j t hj => by
    rcases set_get hj with ⟨rfl, q, hl⟩ | ⟨ne, q⟩
    · subst q
      exact ⟨fun v hv => by rw [h1 v hv]; exact set_same (by rw [I.len]; exact hl), h2, h3⟩
    · rw [set_ne ne]
      exact I.res j t q
  apart := fun j k t u ne hj hk => by
    rcases set_get hj with ⟨e1, q, _⟩ | ⟨n1, q1⟩
    · subst q
      rcases set_get hk with ⟨e2, q, _⟩ | ⟨n2, q2⟩
      · exact absurd (e1.symm.trans e2) ne
      · exact hn k u q2
    · rcases set_get hk with ⟨_, q, _⟩ | ⟨n2, q2⟩
      · subst q
        exact fun a ha hb => hn j t q1 a hb ha
      · exact I.apart j k t u ne q1 q2
theorem Iv.setVal (I : Iv K Fb Hb F H σ ρ) {i : Nat} {v : V} {d : Dt} (h : Da K F v d) : Iv K Fb Hb F H (σ.set i (some v)) (ρ.set i (.val d)) :=
  I.put (fun e q => by cases q; exact ⟨v, rfl, h⟩) (fun v q => by cases q) (fun a q => by cases q) trivial fun _ _ _ a q => by cases q
theorem Iv.setNo (I : Iv K Fb Hb F H σ ρ) {i : Nat} (o : Option V) : Iv K Fb Hb F H (σ.set i o) (ρ.set i .no) :=
  I.put (fun e q => by cases q) (fun v q => by cases q) (fun a q => by cases q) trivial fun _ _ _ a q => by cases q
/-- what is new is no slot's -/
theorem Iv.nobody (I : Iv K Fb Hb F H σ ρ) {p : Addr} (hp : H p = none) (j : Nat) (t : Sl) (hj : ρ[j]? = some t) : p ∉ t.adr := fun ha => by
  obtain ⟨o, ho⟩ := Sl.holds_there (I.res j t hj).2.2 p ha
  rw [hp] at ho
  cases ho
theorem Iv.setOwn (I : Iv K Fb Hb F H σ ρ) {i : Nat} {p : Addr} {xs : List V} {ds : List Dt} (h : H p = some (.lst xs)) (hf : F p = none) (hb : Hb p = none) (hn : ∀ (j : Nat) t, ρ[j]? = some t → p ∉ t.adr) (hd : DaAll K F xs ds) : Iv K Fb Hb F H (σ.set i (some (.ref p))) (ρ.set i (.own p ds)) :=
  I.put (fun e q => by cases q) (fun v q => by cases q; rfl) (fun a q => by
    have e : a = p := by simpa [Sl.adr] using q
    exact e ▸ ⟨hf, hb⟩) ⟨xs, h, hd⟩ fun j t hj a q => by
    have e : a = p := by simpa [Sl.adr] using q
    exact e ▸ hn j t hj
/-- a resource changed, by whoever; its addresses are the same -/
theorem Iv.changed (I : Iv K Fb Hb F H σ ρ) {i : Nat} {s s' : Sl} (hi : ρ[i]? = some s) (hs : s'.adr = s.adr) (ha : s'.at_ = s.at_) (nv : ∀ d, s' ≠ .val d) (e1 : Evl.Ex F F') (e2 : Evl.Ex F' H') (hH : ∀ a o, a ∉ s.adr → H a = some o → H' a = some o)
    (no : ∀ a, a ∉ s.adr → F a = none → H a ≠ none → F' a = none) (fp : ∀ a ∈ s.adr, F' a = none) (hd : s'.holds K F' H') : Iv K Fb Hb F' H' σ (ρ.set i s') := by
  obtain ⟨h1, h2, h3⟩ := I.res i s hi
  have il : i < ρ.length := (List.getElem?_eq_some_iff.mp hi).1
  have nb : ∀ a o, Hb a = some o → a ∉ s.adr := fun a o e z => by rw [(h2 a z).2] at e; cases e
  refine ⟨⟨I.gw.ff.trans e1, e2, fun a o e => hH a o (nb a o e) (I.gw.hh a o e), fun a f1 f2 => ?_⟩, by rw [List.length_set]; exact I.len, fun j e hj => ?_, fun j t hj => ?_, fun j k t u ne hj hk => ?_⟩
  · cases q : Hb a with
    | none => exact absurd q f2
    | some o => exact no a (nb a o q) (I.gw.no a f1 f2) (by rw [I.gw.hh a o q]; simp)
  · rcases set_get hj with ⟨_, q, _⟩ | ⟨ne, q⟩
    · exact absurd q (nv e)
    · obtain ⟨v, g1, g2⟩ := I.val j e q
      exact ⟨v, g1, g2.mono e1⟩
  · rcases set_get hj with ⟨rfl, q, _⟩ | ⟨ne, q⟩
    · subst q
      exact ⟨fun v hv => h1 v (by rw [← ha]; exact hv), fun a z => ⟨fp a (by rw [← hs]; exact z), (h2 a (by rw [← hs]; exact z)).2⟩, hd⟩
    · obtain ⟨g1, g2, g3⟩ := I.res j t q
      have na : ∀ a ∈ t.adr, a ∉ s.adr := fun a z z2 => I.apart i j s t ne hi q a z2 z
      refine ⟨g1, fun a z => ⟨?_, (g2 a z).2⟩, Sl.holds_mono g3 e1 fun a z o q => hH a o (na a z) q⟩
      obtain ⟨o, ho⟩ := Sl.holds_there g3 a z
      exact no a (na a z) (g2 a z).1 (by rw [ho]; simp)
  · have f : ∀ (j : Nat) t, (ρ.set i s')[j]? = some t → ∃ u, ρ[j]? = some u ∧ u.adr = t.adr := fun j t hj => by
      rcases set_get hj with ⟨rfl, q, _⟩ | ⟨ne, q⟩
      · exact ⟨s, hi, by rw [← q, hs]⟩
      · exact ⟨t, q, rfl⟩
    obtain ⟨u1, k1, k2⟩ := f j t hj
    obtain ⟨u2, k3, k4⟩ := f k u hk
    rw [← k2, ← k4]
    exact I.apart j k u1 u2 ne k1 k3
theorem Iv.write (I : Iv K Fb Hb F H σ ρ) {i : Nat} {p : Addr} {ds es : List Dt} {ys : List V} (hi : ρ[i]? = some (.own p ds)) (hd : DaAll K F ys es) : Iv K Fb Hb F (upd H p (.lst ys)) σ (ρ.set i (.own p es)) := by
  obtain ⟨h1, h3, h4, xs, h2, h5⟩ := I.own i p ds hi
  have one : ∀ a, a ∉ (Sl.own p ds).adr → a ≠ p := fun a h e => h (by rw [e]; exact List.mem_cons_self)
  exact I.changed hi rfl rfl (fun _ q => by cases q) (Evl.Ex.refl _) (fun a o e => by rw [upd_ne (fun z => by rw [z, h3] at e; cases e)]; exact I.gw.fh a o e) (fun a o ne e => by rw [upd_ne (one a ne)]; exact e) (fun _ _ h _ => h)
    (fun a q => by
      have e : a = p := by simpa [Sl.adr] using q
      exact e ▸ h3) ⟨ys, upd_same, hd⟩
/-- one's own list frozen, its slot holds it still -/
theorem Iv.freeze (I : Iv K Fb Hb F H σ ρ) {i : Nat} {p : Addr} {ds : List Dt} (hi : ρ[i]? = some (.own p ds)) : ∃ F', Evl.Ex F F' ∧ Iv K Fb Hb F' H σ (ρ.set i (.val (.lst ds))) ∧ Da K F' (.ref p) (.lst ds) := by
  obtain ⟨h1, h3, h4, xs, h2, h5⟩ := I.own i p ds hi
  have e1 : Evl.Ex F (upd F p (.lst xs)) := Evl.Ex.new h3
  have dp : Da K (upd F p (.lst xs)) (.ref p) (.lst ds) := ⟨p, xs, rfl, upd_same, h5.mono e1⟩
  refine ⟨_, e1, ⟨⟨I.gw.ff.trans e1, fun a o e => ?_, I.gw.hh, fun a f1 f2 => ?_⟩, by rw [List.length_set]; exact I.len, fun j e hj => ?_, fun j t hj => ?_, fun j k t u ne hj hk => ?_⟩, dp⟩
  · by_cases z : a = p
    · subst z
      rw [upd_same] at e
      rw [h2, e]
    · rw [upd_ne z] at e
      exact I.gw.fh a o e
  · rw [upd_ne (fun z => f2 (by rw [z]; exact h4))]
    exact I.gw.no a f1 f2
  · rcases set_get hj with ⟨rfl, q, _⟩ | ⟨ne, q⟩
    · cases q
      exact ⟨_, h1, dp⟩
    · obtain ⟨v, g1, g2⟩ := I.val j e q
      exact ⟨v, g1, g2.mono e1⟩
  · rcases set_get hj with ⟨rfl, q, _⟩ | ⟨ne, q⟩
    · subst q
      exact ⟨fun v z => (by cases z), fun a z => (by cases z), trivial⟩
    · obtain ⟨g1, g2, g3⟩ := I.res j t q
      have na : ∀ a ∈ t.adr, a ≠ p := fun a z z2 => I.apart i j _ t ne hi q p List.mem_cons_self (z2 ▸ z)
      exact ⟨g1, fun a z => ⟨by rw [upd_ne (na a z)]; exact (g2 a z).1, (g2 a z).2⟩, Sl.holds_mono g3 e1 fun _ _ _ q => q⟩
  · rcases set_get hj with ⟨_, q, _⟩ | ⟨n1, q1⟩
    · subst q
      exact fun a z => by cases z
    · rcases set_get hk with ⟨_, q, _⟩ | ⟨n2, q2⟩
      · subst q
        exact fun a _ z => by cases z
      · exact I.apart j k t u ne q1 q2
end
/-! ### judgements -/
section
variable (K : PySem.W.Frag)
def EvX (te : TE) (ρ : Env) (d : Dt) (ρ' : Env) : Prop := ∀ Fb Hb F H σ, Iv K Fb Hb F H σ ρ → ∀ Q : VK, (∀ v F' H', Iv K Fb Hb F' H' σ ρ' → Evl.Ex F F' → Da K F' v d → Q v H') → te σ H Q
def EvB (tt : TT) (ρ : Env) (b : Bool) (ρ' : Env) : Prop := ∀ Fb Hb F H σ, Iv K Fb Hb F H σ ρ → ∀ Q : Bool → Hp → Prop, (∀ F' H', Iv K Fb Hb F' H' σ ρ' → Evl.Ex F F' → Q b H') → tt σ H Q
def EvL (ta : TA) (ρ : Env) (ds : List Dt) (ρ' : Env) : Prop := ∀ Fb Hb F H σ, Iv K Fb Hb F H σ ρ → ∀ Q : List V → Hp → Prop, (∀ vs F' H', Iv K Fb Hb F' H' σ ρ' → Evl.Ex F F' → DaAll K F' vs ds → Q vs H') → ta σ H Q
def EvO (to : TO) (ρ : Env) (o : Option Int) : Prop := ∀ Fb Hb F H σ, Iv K Fb Hb F H σ ρ → ∀ Q : Option Int → Hp → Prop, (∀ F' H', Iv K Fb Hb F' H' σ ρ → Evl.Ex F F' → Q o H') → to σ H Q
/-- a list, frozen or one's own, read -/
def EvR (te : TE) (ρ : Env) (ds : List Dt) : Prop := ∀ Fb Hb F H σ, Iv K Fb Hb F H σ ρ → ∀ Q : VK, (∀ a F' H', Iv K Fb Hb F' H' σ ρ → Evl.Ex F F' → (∀ F2 H2, Iv K Fb Hb F2 H2 σ ρ → Evl.Ex F' F2 → ∃ xs, H2 a = some (.lst xs) ∧ DaAll K F2 xs ds) → Q (.ref a) H') → te σ H Q
/-- operators, calls of what is built in, by values -/
def OpD (r : R2) (d1 d2 d : Dt) : Prop := ∀ F H x y, Evl.Ex F H → Da K F x d1 → Da K F y d2 → ∀ Q : VK, (∀ v F' H', Gw F H F' H' → Da K F' v d → Q v H') → r x y H Q
def UnD (r : V → Hp → VK → Prop) (d1 d : Dt) : Prop := ∀ F H x, Evl.Ex F H → Da K F x d1 → ∀ Q : VK, (∀ v F' H', Gw F H F' H' → Da K F' v d → Q v H') → r x H Q
def CbD (r : List V → Hp → VK → Prop) (ds : List Dt) (d : Dt) : Prop := ∀ F H xs, Evl.Ex F H → DaAll K F xs ds → ∀ Q : VK, (∀ v F' H', Gw F H F' H' → Da K F' v d → Q v H') → r xs H Q
/-- what holds behind a statement -/
structure De where
  nx : Env → Prop
  rt : Dt → Env → Prop
  bk : Env → Prop := fun _ => False
  ct : Env → Prop := fun _ => False
def EvS (ts : TS) (E : De) (ρ : Env) : Prop := ∀ Fb Hb F H σ, Iv K Fb Hb F H σ ρ → ∀ D : Ends,
  (∀ ρ' F' H' σ', E.nx ρ' → Iv K Fb Hb F' H' σ' ρ' → Evl.Ex F F' → D.nx σ' H') →
  (∀ d ρ' v F' H' σ', E.rt d ρ' → Iv K Fb Hb F' H' σ' ρ' → Evl.Ex F F' → Da K F' v d → D.rt v H') →
  (∀ ρ' F' H' σ', E.bk ρ' → Iv K Fb Hb F' H' σ' ρ' → Evl.Ex F F' → D.bk σ' H') →
  (∀ ρ' F' H' σ', E.ct ρ' → Iv K Fb Hb F' H' σ' ρ' → Evl.Ex F F' → D.ct σ' H') → ts D σ H
/-- a target takes a datum: the slots it sets lie in js -/
def EvG (g : TG) (ρ : Env) (d : Dt) (ρ' : Env) (js : List Nat) : Prop := ∀ Fb Hb F H σ v, Iv K Fb Hb F H σ ρ → Da K F v d → ∀ k : L2.St → Hp → Prop,
  (∀ F' H' σ', Iv K Fb Hb F' H' σ' ρ' → Evl.Ex F F' → (∀ vs : List Nat, (∀ j ∈ js, j ∈ vs) → wipe σ' vs = wipe σ vs) → k σ' H') → g v σ H k
def EvGs (g : TGs) (ρ : Env) (ds : List Dt) (ρ' : Env) (js : List Nat) : Prop := ∀ Fb Hb F H σ vs, Iv K Fb Hb F H σ ρ → DaAll K F vs ds → ∀ k : L2.St → Hp → Prop,
  (∀ F' H' σ', Iv K Fb Hb F' H' σ' ρ' → Evl.Ex F F' → (∀ vs : List Nat, (∀ j ∈ js, j ∈ vs) → wipe σ' vs = wipe σ vs) → k σ' H') → g vs σ H k
/-- what is walked: items that stay, whatever of one's own changes meanwhile -/
def WkD (J : It) (F1 : Hp) (ds : List Dt) : Prop := ∀ F H, Evl.Ex F1 F → Evl.Ex F H → (∀ (i : Nat) d, ds[i]? = some d → J.go i H ∧ ∀ x H3, J.yld i H x H3 → ∃ F3, Gw F H F3 H3 ∧ Da K F3 x d) ∧ J.stop ds.length H
def EvI (wi : TI) (ρ : Env) (ds : List Dt) (ρ' : Env) : Prop := ∀ Fb Hb F H σ, Iv K Fb Hb F H σ ρ → ∀ R : It → Hp → Prop, (∀ J F' H', Iv K Fb Hb F' H' σ ρ' → Evl.Ex F F' → WkD K J F' ds → R J H') → wi σ H R
end
section
variable {K : PySem.W.Frag} {ρ ρ1 ρ2 ρ3 : Env} {ta tb te tx : TE} {d d1 d2 d3 : Dt} {r : R2}
/-! ### expressions -/
theorem x_var {i : Nat} (h : ρ[i]? = some (.val d)) : EvX K (tVar i) ρ d ρ := fun Fb Hb F H σ I Q q => by
  obtain ⟨v, h1, h2⟩ := I.val i d h
  exact ⟨v, h1, q v F H I (Evl.Ex.refl _) h2⟩
theorem x_int {n : Int} : EvX K (tC (.int n)) ρ (.int n) ρ := fun _ _ F H _ I _ q => q _ F H I (Evl.Ex.refl _) rfl
theorem x_str {n : Str} : EvX K (tC (.str n)) ρ (.str n) ρ := fun _ _ F H _ I _ q => q _ F H I (Evl.Ex.refl _) rfl
theorem x_bl {n : Bool} : EvX K (tC (.bl n)) ρ (.bl n) ρ := fun _ _ F H _ I _ q => q _ F H I (Evl.Ex.refl _) rfl
theorem x_non : EvX K (tC .non) ρ .non ρ := fun _ _ F H _ I _ q => q _ F H I (Evl.Ex.refl _) rfl
theorem x_op (ha : EvX K ta ρ d1 ρ1) (hb : EvX K tb ρ1 d2 ρ2) (hr : OpD K r d1 d2 d) : EvX K (tOp r ta tb) ρ d ρ2 := fun Fb Hb F H σ I Q q =>
  ha Fb Hb F H σ I _ fun x F1 H1 I1 e1 h1 => hb Fb Hb F1 H1 σ I1 _ fun y F2 H2 I2 e2 h2 => hr F2 H2 x y I2.fh (h1.mono e2) h2 Q fun v F3 H3 g h3 => q v F3 H3 (I2.grow g) ((e1.trans e2).trans g.ff) h3
theorem x_un {r : V → Hp → VK → Prop} (ha : EvX K ta ρ d1 ρ1) (hr : UnD K r d1 d) : EvX K (tUn r ta) ρ d ρ1 := fun Fb Hb F H σ I Q q =>
  ha Fb Hb F H σ I _ fun x F1 H1 I1 e1 h1 => hr F1 H1 x I1.fh h1 Q fun v F3 H3 g h3 => q v F3 H3 (I1.grow g) (e1.trans g.ff) h3
theorem l_nil : EvL K tNil ρ [] ρ := fun _ _ F H _ I _ q => q [] F H I (Evl.Ex.refl _) rfl
theorem l_cons {tr : TA} {ds : List Dt} (h : EvX K ta ρ d ρ1) (hr : EvL K tr ρ1 ds ρ2) : EvL K (tCons ta tr) ρ (d :: ds) ρ2 := fun Fb Hb F H σ I Q q =>
  h Fb Hb F H σ I _ fun x F1 H1 I1 e1 h1 => hr Fb Hb F1 H1 σ I1 _ fun xs F2 H2 I2 e2 h2 => q (x :: xs) F2 H2 I2 (e1.trans e2) ⟨x, xs, rfl, h1.mono e2, h2⟩
theorem x_cb {r : List V → Hp → VK → Prop} {t : TA} {ds : List Dt} (h : EvL K t ρ ds ρ1) (hr : CbD K r ds d) : EvX K (tCB r t) ρ d ρ1 := fun Fb Hb F H σ I Q q =>
  h Fb Hb F H σ I _ fun xs F1 H1 I1 e1 h1 => hr F1 H1 xs I1.fh h1 Q fun v F3 H3 g h3 => q v F3 H3 (I1.grow g) (e1.trans g.ff) h3
theorem sz {n : Nat} (h : n ≤ 100000) : n ≤ sizeLine := Evl.sz_of h
theorem x_tup {t : TA} {ds : List Dt} (h : EvL K t ρ ds ρ1) (hl : ds.length ≤ 100000 := by decide) : EvX K (tTup t) ρ (.tup ds) ρ1 := fun Fb Hb F H σ I Q q =>
  h Fb Hb F H σ I _ fun xs F1 H1 I1 e1 h1 => ⟨by rw [h1.len]; exact sz hl, fun p hp => by
    have g := Gw.new (o := .tup xs) I1.fh hp
    exact q _ _ _ (I1.grow g) (e1.trans g.ff) ⟨p, xs, rfl, Evl.st_of upd_same, h1.mono g.ff⟩⟩
theorem x_lst {t : TA} {ds : List Dt} (h : EvL K t ρ ds ρ1) (hl : ds.length ≤ 100000 := by decide) : EvX K (tLst t) ρ (.lst ds) ρ1 := fun Fb Hb F H σ I Q q =>
  h Fb Hb F H σ I _ fun xs F1 H1 I1 e1 h1 => ⟨by rw [h1.len]; exact sz hl, fun p hp => by
    have g := Gw.new (o := .lst xs) I1.fh hp
    exact q _ _ _ (I1.grow g) (e1.trans g.ff) ⟨p, xs, rfl, upd_same, h1.mono g.ff⟩⟩
theorem x_if {t : TT} {b : Bool} (h : EvB K t ρ b ρ1) (h1 : b = true → EvX K ta ρ1 d ρ2) (h2 : b = false → EvX K tb ρ1 d ρ2) : EvX K (tIf t ta tb) ρ d ρ2 := fun Fb Hb F H σ I Q q =>
  h Fb Hb F H σ I _ fun F1 H1 I1 e1 => by
    cases b with
    | true => exact h1 rfl Fb Hb F1 H1 σ I1 Q fun v F2 H2 I2 e2 h => q v F2 H2 I2 (e1.trans e2) h
    | false => exact h2 rfl Fb Hb F1 H1 σ I1 Q fun v F2 H2 I2 e2 h => q v F2 H2 I2 (e1.trans e2) h
theorem x_to {d' : Dt} (h : EvX K te ρ d ρ1) (e : d = d') : EvX K te ρ d' ρ1 := e ▸ h
theorem b_to {t : TT} {b b' : Bool} (h : EvB K t ρ b ρ1) (e : b = b') : EvB K t ρ b' ρ1 := e ▸ h
/-! tests -/
theorem b_test {b : Bool} (h : EvX K te ρ (.bl b) ρ1) : EvB K (tTest te) ρ b ρ1 := fun Fb Hb F H σ I Q q => h Fb Hb F H σ I _ fun v F1 H1 I1 e1 h1 => ⟨b, h1, q F1 H1 I1 e1⟩
theorem b_B {b : Bool} (h : EvX K te ρ (.bl b) ρ1) : EvB K (tB te) ρ b ρ1 := fun Fb Hb F H σ I Q q => h Fb Hb F H σ I _ fun v F1 H1 I1 e1 h1 => ⟨b, h1, q F1 H1 I1 e1⟩
theorem b_and {t u : TT} {a b : Bool} (h1 : EvB K t ρ a ρ) (h2 : a = true → EvB K u ρ b ρ) : EvB K (tAnd t u) ρ (a && b) ρ := fun Fb Hb F H σ I Q q => h1 Fb Hb F H σ I _ fun F1 H1 I1 e1 => by
  cases a with
  | true => exact h2 rfl Fb Hb F1 H1 σ I1 Q fun F2 H2 I2 e2 => q F2 H2 I2 (e1.trans e2)
  | false => exact q F1 H1 I1 e1
theorem b_or {t u : TT} {a b : Bool} (h1 : EvB K t ρ a ρ) (h2 : a = false → EvB K u ρ b ρ) : EvB K (tOr t u) ρ (a || b) ρ := fun Fb Hb F H σ I Q q => h1 Fb Hb F H σ I _ fun F1 H1 I1 e1 => by
  cases a with
  | true => exact q F1 H1 I1 e1
  | false => exact h2 rfl Fb Hb F1 H1 σ I1 Q fun F2 H2 I2 e2 => q F2 H2 I2 (e1.trans e2)
theorem b_not {t : TT} {a : Bool} (h1 : EvB K t ρ a ρ1) : EvB K (tNot t) ρ (!a) ρ1 := fun Fb Hb F H σ I Q q => h1 Fb Hb F H σ I _ fun F1 H1 I1 e1 => q F1 H1 I1 e1
theorem b_yes : EvB K tYes ρ true ρ := fun _ _ F H _ I _ q => q F H I (Evl.Ex.refl _)
theorem x_andV {a b : Bool} (h1 : EvX K ta ρ (.bl a) ρ) (h2 : a = true → EvX K tb ρ (.bl b) ρ) : EvX K (tAndV ta tb) ρ (.bl (a && b)) ρ := fun Fb Hb F H σ I Q q => h1 Fb Hb F H σ I _ fun v F1 H1 I1 e1 g1 => ⟨a, g1, by
  cases a with
  | true => exact h2 rfl Fb Hb F1 H1 σ I1 Q fun v F2 H2 I2 e2 h => q v F2 H2 I2 (e1.trans e2) h
  | false => exact q _ F1 H1 I1 e1 rfl⟩
theorem x_notV {a : Bool} (h1 : EvX K ta ρ (.bl a) ρ1) : EvX K (tNotV ta) ρ (.bl (!a)) ρ1 := fun Fb Hb F H σ I Q q => h1 Fb Hb F H σ I _ fun v F1 H1 I1 e1 g1 => ⟨a, g1, q _ F1 H1 I1 e1 rfl⟩
theorem x_notB {t : TT} {a : Bool} (h1 : EvB K t ρ a ρ1) : EvB K (tNot t) ρ (!a) ρ1 := b_not h1
theorem x_chain {r r' : R2} {tc : TE} {a b : Bool} (ha : EvX K ta ρ d1 ρ) (hb : EvX K tb ρ d2 ρ) (hr : OpD K r d1 d2 (.bl a)) (hc : a = true → EvX K tc ρ d3 ρ) (hr' : a = true → OpD K r' d2 d3 (.bl b)) : EvX K (tChain r r' ta tb tc) ρ (.bl (a && b)) ρ := fun Fb Hb F H σ I Q q =>
  ha Fb Hb F H σ I _ fun x F1 H1 I1 e1 h1 => hb Fb Hb F1 H1 σ I1 _ fun y F2 H2 I2 e2 h2 => hr F2 H2 x y I2.fh (h1.mono e2) h2 _ fun z F3 H3 g3 h3 => ⟨a, h3, by
    have I3 := I2.grow g3
    cases a with
    | true => exact hc rfl Fb Hb F3 H3 σ I3 _ fun w F4 H4 I4 e4 h4 => hr' rfl F4 H4 y w I4.fh (h2.mono (g3.ff.trans e4)) h4 Q fun v F5 H5 g5 h5 => q v F5 H5 (I4.grow g5) ((((e1.trans e2).trans g3.ff).trans e4).trans g5.ff) h5
    | false => exact q _ F3 H3 I3 ((e1.trans e2).trans g3.ff) rfl⟩
/-! operators -/
theorem o_I0 {g : Int → Int → V} {i j : Int} (hd : ∀ F, Da K F (g i j) d) : OpD K (rI0 g) (.int i) (.int j) d := fun F H x y e hx hy Q q => ⟨i, j, hx, hy, q _ F H (Gw.refl e) (hd F)⟩
theorem o_I {C : Int → Int → Prop} {g : Int → Int → V} {i j : Int} (hc : C i j) (hd : ∀ F, Da K F (g i j) d) : OpD K (rI C g) (.int i) (.int j) d := fun F H x y e hx hy Q q => ⟨i, j, hx, hy, hc, q _ F H (Gw.refl e) (hd F)⟩
theorem o_eqI {i j : Int} : OpD K rEq (.int i) (.int j) (.bl (decide (i = j))) := fun F H x y e hx hy Q q => by
  rw [show x = V.int i from hx, show y = V.int j from hy]
  refine ⟨rfl, ?_⟩
  have : decide (V.int i = V.int j) = decide (i = j) := by
    by_cases h : i = j
    · subst h; simp
    · simp [h]
  rw [this]
  exact q _ F H (Gw.refl e) rfl
theorem o_neI {i j : Int} : OpD K rNe (.int i) (.int j) (.bl (!decide (i = j))) := fun F H x y e hx hy Q q => by
  rw [show x = V.int i from hx, show y = V.int j from hy]
  refine ⟨rfl, ?_⟩
  have : decide (V.int i = V.int j) = decide (i = j) := by
    by_cases h : i = j
    · subst h; simp
    · simp [h]
  rw [this]
  exact q _ F H (Gw.refl e) rfl
theorem u_neg {i : Int} : UnD K (rU fun i => .int (-i)) (.int i) (.int (-i)) := fun F H x e hx Q q => ⟨i, hx, q _ F H (Gw.refl e) rfl⟩
end
end Gr
namespace Gr
open PySem L2
section
variable {K : PySem.W.Frag} {ρ ρ1 ρ2 ρ3 : Env} {ta tb te tx : TE} {d d1 d2 d3 : Dt} {r : R2} {ds es : List Dt}
/-! ### sequences -/
theorem DaAll.atI {F : Hp} {vs : List V} {i : Int} (h : DaAll K F vs ds) (e : L2.atI ds i = some d) : ∃ v, L2.atI vs i = some v ∧ Da K F v d := by
  unfold L2.atI at e ⊢
  rw [h.len]
  cases q : ixN ds.length i with
  | none => rw [q] at e; cases e
  | some j =>
    rw [q] at e
    exact h.get e
theorem atI_n {α : Type} {xs : List α} {j : Nat} {v : α} (h : xs[j]? = some v) : L2.atI xs (j : Int) = some v := by
  unfold L2.atI ixN
  have hj := (List.getElem?_eq_some_iff.mp h).1
  rw [if_pos (by omega), if_pos (by omega)]
  simpa using h
theorem atI_l {α : Type} {xs : List α} {v : α} (h : xs.getLast? = some v) : L2.atI xs (-1) = some v := by
  cases xs with
  | nil => cases h
  | cons x r =>
    rw [List.getLast?_eq_getElem?] at h
    unfold L2.atI ixN
    rw [if_neg (by decide), if_pos (by simp only [List.length_cons]; omega)]
    have : ((-1 : Int) + ((x :: r).length : Nat)).toNat = (x :: r).length - 1 := by simp only [List.length_cons]; omega
    show (x :: r)[((-1 : Int) + ((x :: r).length : Nat)).toNat]? = some v
    rw [this]
    exact h
theorem o_ixT {i : Int} (e : L2.atI ds i = some d) : OpD K (rIxT K) (.tup ds) (.int i) d := fun F H x y ex hx hy Q q => by
  obtain ⟨a, xs, rfl, h2, h3⟩ := hx
  obtain ⟨v, h4, h5⟩ := h3.atI e
  exact ⟨a, xs, i, v, rfl, hy, Evl.ex_t ex h2, h4, q _ F H (Gw.refl ex) h5⟩
theorem o_ixL {i : Int} (e : L2.atI ds i = some d) : OpD K (rIxL K) (.lst ds) (.int i) d := fun F H x y ex hx hy Q q => by
  obtain ⟨a, xs, rfl, h2, h3⟩ := hx
  obtain ⟨v, h4, h5⟩ := h3.atI e
  exact ⟨a, xs, i, v, rfl, hy, Evl.sq_of (ex a _ h2), h4, q _ F H (Gw.refl ex) h5⟩
/-! lists that are read: frozen ones, one's own -/
theorem r_val (h : EvX K te ρ (.lst ds) ρ) : EvR K te ρ ds := fun Fb Hb F H σ I Q q =>
  h Fb Hb F H σ I _ fun v F1 H1 I1 e1 h1 => by
    obtain ⟨a, xs, rfl, h2, h3⟩ := h1
    exact q a F1 H1 I1 e1 fun F2 H2 I2 e2 => ⟨xs, I2.fh a _ (e2 a _ h2), h3.mono e2⟩
theorem r_own {i : Nat} {a : Addr} (h : ρ[i]? = some (.own a ds)) : EvR K (tVar i) ρ ds := fun Fb Hb F H σ I Q q => by
  obtain ⟨h1, h2, h3, xs, h4, h5⟩ := I.own i a ds h
  refine ⟨_, h1, q a F H I (Evl.Ex.refl _) fun F2 H2 I2 e2 => ?_⟩
  obtain ⟨_, _, _, r⟩ := I2.own i a ds h
  exact r
theorem x_ixR {i : Int} (ha : EvR K ta ρ ds) (hb : EvX K tb ρ (.int i) ρ) (e : L2.atI ds i = some d) : EvX K (tOp (rIxL K) ta tb) ρ d ρ := fun Fb Hb F H σ I Q q =>
  ha Fb Hb F H σ I _ fun a F1 H1 I1 e1 h1 => hb Fb Hb F1 H1 σ I1 _ fun y F2 H2 I2 e2 h2 => by
    obtain ⟨xs, h3, h4⟩ := h1 F2 H2 I2 e2
    obtain ⟨v, h5, h6⟩ := h4.atI e
    exact ⟨a, xs, i, v, rfl, h2, Evl.sq_of h3, h5, q _ F2 H2 I2 (e1.trans e2) h6⟩
/-- one argument that is a list -/
theorem x_cbR {r : List V → Hp → VK → Prop} (ha : EvR K ta ρ ds) (hr : ∀ F H a xs, Evl.Ex F H → H a = some (.lst xs) → DaAll K F xs ds → ∀ Q : VK, (∀ v F' H', Gw F H F' H' → Da K F' v d → Q v H') → r [.ref a] H Q) : EvX K (tCB r (tCons ta tNil)) ρ d ρ := fun Fb Hb F H σ I Q q =>
  ha Fb Hb F H σ I _ fun a F1 H1 I1 e1 h1 => by
    obtain ⟨xs, h3, h4⟩ := h1 F1 H1 I1 (Evl.Ex.refl _)
    exact hr F1 H1 a xs I1.fh h3 h4 Q fun v F2 H2 g h => q v F2 H2 (I1.grow g) (e1.trans g.ff) h
def cLen (K : PySem.W.Frag) : List V → Hp → VK → Prop := fun xs H Q => ∃ p ys, xs = [.ref p] ∧ (SqL K H p ys ∨ SqT K H p ys) ∧ Q (.int ys.length) H
def cList (K : PySem.W.Frag) : List V → Hp → VK → Prop := fun xs H Q => ∃ p ys, xs = [.ref p] ∧ (SqL K H p ys ∨ SqT K H p ys) ∧ ∀ l, H l = none → Q (.ref l) (upd H l (.lst ys))
def cTuple (K : PySem.W.Frag) : List V → Hp → VK → Prop := fun xs H Q => ∃ p ys, xs = [.ref p] ∧ ((SqL K H p ys ∧ ∀ l, H l = none → Q (.ref l) (upd H l (.tup ys))) ∨ (SqT K H p ys ∧ Q (.ref p) H))
theorem x_lenR (ha : EvR K ta ρ ds) : EvX K (tCB (cLen K) (tCons ta tNil)) ρ (.int ds.length) ρ := x_cbR ha fun F H a xs e h1 h2 Q q =>
  ⟨a, xs, rfl, .inl (Evl.sq_of h1), by rw [h2.len]; exact q _ F H (Gw.refl e) rfl⟩
theorem c_lenT : CbD K (cLen K) [.tup ds] (.int ds.length) := fun F H xs e h Q q => by
  obtain ⟨v, r, rfl, ⟨a, ys, rfl, h2, h3⟩, h4⟩ := h
  obtain rfl : r = [] := h4
  exact ⟨a, ys, rfl, .inr (Evl.ex_t e h2), by rw [h3.len]; exact q _ F H (Gw.refl e) rfl⟩
theorem c_lenL : CbD K (cLen K) [.lst ds] (.int ds.length) := fun F H xs e h Q q => by
  obtain ⟨v, r, rfl, ⟨a, ys, rfl, h2, h3⟩, h4⟩ := h
  obtain rfl : r = [] := h4
  exact ⟨a, ys, rfl, .inl (Evl.sq_of (e a _ h2)), by rw [h3.len]; exact q _ F H (Gw.refl e) rfl⟩
theorem x_sumR {ns : List Int} (ha : EvR K ta ρ (ns.map Dt.int)) : EvX K (tCB (rSum K) (tCons ta tNil)) ρ (.int ns.sum) ρ := x_cbR ha fun F H a xs e h1 h2 Q q =>
  ⟨a, ns, rfl, by rw [← h2.ints]; exact Evl.sq_of h1, q _ F H (Gw.refl e) rfl⟩
theorem x_allR {ns : List Bool} (ha : EvR K ta ρ (ns.map Dt.bl)) : EvX K (tCB (rAll K) (tCons ta tNil)) ρ (.bl (ns.all id)) ρ := x_cbR ha fun F H a xs e h1 h2 Q q =>
  ⟨a, ns, rfl, by rw [← h2.bls]; exact Evl.sq_of h1, q _ F H (Gw.refl e) rfl⟩
theorem x_listR (ha : EvR K ta ρ ds) : EvX K (tCB (cList K) (tCons ta tNil)) ρ (.lst ds) ρ := x_cbR ha fun F H a xs e h1 h2 Q q =>
  ⟨a, xs, rfl, .inl (Evl.sq_of h1), fun l hl => q _ _ _ (Gw.new e hl) ⟨l, xs, rfl, upd_same, h2.mono (Gw.new (o := .lst xs) e hl).ff⟩⟩
theorem c_listT : CbD K (cList K) [.tup ds] (.lst ds) := fun F H xs e h Q q => by
  obtain ⟨v, r, rfl, ⟨a, ys, rfl, h2, h3⟩, h4⟩ := h
  obtain rfl : r = [] := h4
  exact ⟨a, ys, rfl, .inr (Evl.ex_t e h2), fun l hl => q _ _ _ (Gw.new e hl) ⟨l, ys, rfl, upd_same, h3.mono (Gw.new (o := .lst ys) e hl).ff⟩⟩
theorem x_tupleR (ha : EvR K ta ρ ds) : EvX K (tCB (cTuple K) (tCons ta tNil)) ρ (.tup ds) ρ := x_cbR ha fun F H a xs e h1 h2 Q q =>
  ⟨a, xs, rfl, .inl ⟨Evl.sq_of h1, fun l hl => q _ _ _ (Gw.new e hl) ⟨l, xs, rfl, Evl.st_of upd_same, h2.mono (Gw.new (o := .tup xs) e hl).ff⟩⟩⟩
theorem c_tupleL : CbD K (cTuple K) [.lst ds] (.tup ds) := fun F H xs e h Q q => by
  obtain ⟨v, r, rfl, ⟨a, ys, rfl, h2, h3⟩, h4⟩ := h
  obtain rfl : r = [] := h4
  exact ⟨a, ys, rfl, .inl ⟨Evl.sq_of (e a _ h2), fun l hl => q _ _ _ (Gw.new e hl) ⟨l, ys, rfl, Evl.st_of upd_same, h3.mono (Gw.new (o := .tup ys) e hl).ff⟩⟩⟩
/-! slices -/
def cutD (xs : List Dt) (lo hi : Option Int) : List Dt := (xs.drop (HT.sIx xs.length 0 lo)).take (HT.sIx xs.length xs.length hi - HT.sIx xs.length 0 lo)
theorem DaAll.cut {F : Hp} {vs : List V} {lo hi : Option Int} (h : DaAll K F vs ds) : DaAll K F (cutV vs lo hi) (cutD ds lo hi) := by
  unfold cutV cutD
  rw [h.len]
  exact (h.drop _).take _
theorem p_none : EvO K tNoPart ρ none := fun _ _ F H _ I _ q => q F H I (Evl.Ex.refl _)
theorem p_some {i : Int} (h : EvX K te ρ (.int i) ρ) : EvO K (tPart te) ρ (some i) := fun Fb Hb F H σ I Q q => h Fb Hb F H σ I _ fun v F1 H1 I1 e1 h1 => ⟨i, h1, q F1 H1 I1 e1⟩
theorem x_slR {tl th : TO} {lo hi : Option Int} (h : EvR K te ρ ds) (h1 : EvO K tl ρ lo) (h2 : EvO K th ρ hi) : EvX K (tSl (rSlL K) te tl th) ρ (.lst (cutD ds lo hi)) ρ := fun Fb Hb F H σ I Q q =>
  h Fb Hb F H σ I _ fun a F1 H1 I1 e1 g1 => h1 Fb Hb F1 H1 σ I1 _ fun F2 H2 I2 e2 => h2 Fb Hb F2 H2 σ I2 _ fun F3 H3 I3 e3 => by
    obtain ⟨xs, g2, g3⟩ := g1 F3 H3 I3 (e2.trans e3)
    exact ⟨a, xs, rfl, Evl.sq_of g2, fun p hp => by
      have g := Gw.new (o := .lst (cutV xs lo hi)) I3.fh hp
      exact q _ _ _ (I3.grow g) (((e1.trans e2).trans e3).trans g.ff) ⟨p, _, rfl, upd_same, g3.cut.mono g.ff⟩⟩
theorem x_slT {tl th : TO} {lo hi : Option Int} (h : EvX K te ρ (.tup ds) ρ) (h1 : EvO K tl ρ lo) (h2 : EvO K th ρ hi) : EvX K (tSl (rSlA K) te tl th) ρ (.tup (cutD ds lo hi)) ρ := fun Fb Hb F H σ I Q q =>
  h Fb Hb F H σ I _ fun v F1 H1 I1 e1 g1 => h1 Fb Hb F1 H1 σ I1 _ fun F2 H2 I2 e2 => h2 Fb Hb F2 H2 σ I2 _ fun F3 H3 I3 e3 => by
    obtain ⟨a, xs, rfl, g2, g3⟩ := g1
    have g4 := g3.mono (e2.trans e3)
    refine ⟨a, xs, rfl, Evl.ex_t ((e2.trans e3).trans I3.fh) g2, fun w => ?_, fun w p hp => ?_⟩
    · refine q _ F3 H3 I3 ((e1.trans e2).trans e3) ⟨a, xs, rfl, Evl.ex_t (e2.trans e3) g2, ?_⟩
      have : cutD ds lo hi = ds := by
        unfold cutD
        rw [g3.len] at w
        rw [w.1, w.2]
        simp
      rw [this]
      exact g4
    · have g := Gw.new (o := .tup (cutV xs lo hi)) I3.fh hp
      exact q _ _ _ (I3.grow g) (((e1.trans e2).trans e3).trans g.ff) ⟨p, _, rfl, Evl.st_of upd_same, g4.cut.mono g.ff⟩
theorem x_revR (h : EvR K te ρ ds) : EvX K (tRevL K te) ρ (.lst ds.reverse) ρ := fun Fb Hb F H σ I Q q =>
  h Fb Hb F H σ I _ fun a F1 H1 I1 e1 g1 => by
    obtain ⟨xs, g2, g3⟩ := g1 F1 H1 I1 (Evl.Ex.refl _)
    exact ⟨a, xs, rfl, Evl.sq_of g2, fun p hp => by
      have g := Gw.new (o := .lst xs.reverse) I1.fh hp
      exact q _ _ _ (I1.grow g) (e1.trans g.ff) ⟨p, _, rfl, upd_same, g3.rev.mono g.ff⟩⟩
/-! + and * of sequences -/
theorem o_cat (hl : ds.length + es.length ≤ 100000) : OpD K rCat (.lst ds) (.lst es) (.lst (ds ++ es)) := fun F H x y e hx hy Q q => by
  obtain ⟨a, xs, rfl, h2, h3⟩ := hx
  obtain ⟨b, ys, rfl, h4, h5⟩ := hy
  refine ⟨a, b, xs, ys, rfl, rfl, e a _ h2, e b _ h4, by rw [h3.len, h5.len]; exact sz hl, fun p hp => ?_⟩
  have g := Gw.new (o := .lst (xs ++ ys)) e hp
  exact q _ _ _ g ⟨p, _, rfl, upd_same, (h3.append h5).mono g.ff⟩
theorem o_catA (hl : ds.length + es.length ≤ 100000) : OpD K (rCatA K) (.tup ds) (.tup es) (.tup (ds ++ es)) := fun F H x y e hx hy Q q => by
  obtain ⟨a, xs, rfl, h2, h3⟩ := hx
  obtain ⟨b, ys, rfl, h4, h5⟩ := hy
  refine ⟨a, b, xs, ys, rfl, rfl, Evl.ex_t e h2, Evl.ex_t e h4, by rw [h3.len, h5.len]; exact sz hl, fun z => ?_, fun _ z => ?_, fun _ _ p hp => ?_⟩
  · subst z
    have : ds = [] := List.length_eq_zero_iff.mp h3.len.symm
    subst this
    exact q _ F H (Gw.refl e) ⟨b, ys, rfl, h4, h5⟩
  · subst z
    have : es = [] := List.length_eq_zero_iff.mp h5.len.symm
    subst this
    rw [List.append_nil] at q
    exact q _ F H (Gw.refl e) ⟨a, xs, rfl, h2, h3⟩
  · have g := Gw.new (o := .tup (xs ++ ys)) e hp
    exact q _ _ _ g ⟨p, _, rfl, Evl.st_of upd_same, (h3.append h5).mono g.ff⟩
/-! is None, abs, min, max, int, divmod -/
def isNon : Dt → Bool
  | .non => true
  | _ => false
theorem da_non {F : Hp} {v : V} (h : Da K F v d) : decide (v = .non) = isNon d := by
  cases d with
  | non => rw [show v = .non from h]; rfl
  | bl b => rw [show v = .bl b from h]; rfl
  | int b => rw [show v = .int b from h]; rfl
  | str b => rw [show v = .str b from h]; rfl
  | ty b => rw [show v = .ty b from h]; rfl
  | lst b => obtain ⟨a, _, rfl, _⟩ := h; rfl
  | tup b => obtain ⟨a, _, rfl, _⟩ := h; rfl
  | ins _ _ _ => obtain ⟨a, _, _, rfl, _⟩ := h; rfl
def rIsN : R2 := fun x y H Q => y = .non ∧ Q (.bl (decide (x = .non))) H
def rNotN : R2 := fun x y H Q => y = .non ∧ Q (.bl (!decide (x = .non))) H
theorem o_isN : OpD K rIsN d .non (.bl (isNon d)) := fun F H x y e hx hy Q q => ⟨hy, by rw [da_non hx]; exact q _ F H (Gw.refl e) rfl⟩
theorem o_notN : OpD K rNotN d .non (.bl (!isNon d)) := fun F H x y e hx hy Q q => ⟨hy, by rw [da_non hx]; exact q _ F H (Gw.refl e) rfl⟩
def cAbs : List V → Hp → VK → Prop := fun xs H Q => ∃ i, xs = [.int i] ∧ Q (.int (if i < 0 then -i else i)) H
def cMax2 : List V → Hp → VK → Prop := fun xs H Q => ∃ i j, xs = [.int i, .int j] ∧ Q (.int (if j > i then j else i)) H
def cMin2 : List V → Hp → VK → Prop := fun xs H Q => ∃ i j, xs = [.int i, .int j] ∧ Q (.int (if j < i then j else i)) H
def cInt1 : List V → Hp → VK → Prop := fun xs H Q => (∃ i, xs = [.int i] ∧ Q (.int i) H) ∨ ∃ k, xs = [.bl k] ∧ Q (.int (if k then 1 else 0)) H
def cDivmod : List V → Hp → VK → Prop := fun xs H Q => ∃ i j, xs = [.int i, .int j] ∧ CDiv i j ∧ ∀ p, H p = none → Q (.ref p) (upd H p (.tup [.int (i / j), .int (i % j)]))
theorem all1 {F : Hp} {vs : List V} (h : DaAll K F vs [d]) : ∃ v, vs = [v] ∧ Da K F v d := by
  obtain ⟨v, r, rfl, h1, h2⟩ := h
  obtain rfl : r = [] := h2
  exact ⟨v, rfl, h1⟩
theorem all2 {F : Hp} {vs : List V} (h : DaAll K F vs [d1, d2]) : ∃ v u, vs = [v, u] ∧ Da K F v d1 ∧ Da K F u d2 := by
  obtain ⟨v, r, rfl, h1, h2⟩ := h
  obtain ⟨u, rfl, h3⟩ := all1 h2
  exact ⟨v, u, rfl, h1, h3⟩
theorem c_abs {i : Int} : CbD K cAbs [.int i] (.int (if i < 0 then -i else i)) := fun F H xs e h Q q => by
  obtain ⟨v, rfl, h1⟩ := all1 h
  exact ⟨i, by rw [show v = .int i from h1], q _ F H (Gw.refl e) rfl⟩
theorem c_max2 {i j : Int} : CbD K cMax2 [.int i, .int j] (.int (if j > i then j else i)) := fun F H xs e h Q q => by
  obtain ⟨v, u, rfl, h1, h2⟩ := all2 h
  exact ⟨i, j, by rw [show v = .int i from h1, show u = .int j from h2], q _ F H (Gw.refl e) rfl⟩
theorem c_min2 {i j : Int} : CbD K cMin2 [.int i, .int j] (.int (if j < i then j else i)) := fun F H xs e h Q q => by
  obtain ⟨v, u, rfl, h1, h2⟩ := all2 h
  exact ⟨i, j, by rw [show v = .int i from h1, show u = .int j from h2], q _ F H (Gw.refl e) rfl⟩
theorem c_intB {k : Bool} : CbD K cInt1 [.bl k] (.int (if k then 1 else 0)) := fun F H xs e h Q q => by
  obtain ⟨v, rfl, h1⟩ := all1 h
  exact .inr ⟨k, by rw [show v = .bl k from h1], q _ F H (Gw.refl e) rfl⟩
theorem c_divmod {i j : Int} (hc : CDiv i j) : CbD K cDivmod [.int i, .int j] (.tup [.int (i / j), .int (i % j)]) := fun F H xs e h Q q => by
  obtain ⟨v, u, rfl, h1, h2⟩ := all2 h
  refine ⟨i, j, by rw [show v = .int i from h1, show u = .int j from h2], hc, fun p hp => ?_⟩
  exact q _ _ _ (Gw.new e hp) ⟨p, _, rfl, Evl.st_of upd_same, .cons rfl (.cons rfl .nil)⟩
theorem x_ty {n : String} : EvX K (tC (.ty n)) ρ (.ty n) ρ := fun _ _ F H _ I _ q => q _ F H I (Evl.Ex.refl _) rfl
theorem c_isi {i : Int} {n : String} {b : Bool} (hb : PySem.W.kitOne K (.type "int") (.type n) = some b) : CbD K (rIsi K) [.int i, .ty n] (.bl b) := fun F H xs e h Q q => by
  obtain ⟨v, u, rfl, h1, h2⟩ := all2 h
  rw [show v = .int i from h1, show u = .ty n from h2]
  exact ⟨_, _, .type "int", _, b, rfl, .ty n, .base (.int i), hb, q _ F H (Gw.refl e) rfl⟩
/-! in, not in: ints -/
theorem inV_ints (i : Int) (ns : List Int) : inV (.int i) (ns.map V.int) = decide (i ∈ ns) := by
  unfold inV
  induction ns with
  | nil => rfl
  | cons n r ih =>
    rw [List.map_cons, List.any_cons, ih]
    show (n == i || _) = _
    by_cases h : i = n
    · subst h; simp
    · have : (n == i) = false := by simpa using fun e => h e.symm
      rw [this, Bool.false_or]
      simp [h]
theorem flat_ints (ns : List Int) : (ns.map V.int).all flatV = true := by
  induction ns with
  | nil => rfl
  | cons n r ih => rw [List.map_cons, List.all_cons, ih]; rfl
theorem o_inL {neg : Bool} {i : Int} {ns : List Int} : OpD K (rIn K neg) (.int i) (.lst (ns.map Dt.int)) (.bl (if neg then !decide (i ∈ ns) else decide (i ∈ ns))) := fun F H x y e hx hy Q q => by
  obtain ⟨a, xs, rfl, h2, h3⟩ := hy
  rw [show x = .int i from hx]
  have := h3.ints
  subst this
  refine ⟨a, _, rfl, .inl (Evl.sq_of (e a _ h2)), rfl, flat_ints ns, ?_⟩
  rw [inV_ints]
  exact q _ F H (Gw.refl e) rfl
theorem o_inT0 {neg : Bool} {i : Int} : OpD K (rIn K neg) (.int i) (.tup []) (.bl neg) := fun F H x y e hx hy Q q => by
  obtain ⟨a, xs, rfl, h2, h3⟩ := hy
  rw [show x = .int i from hx]
  obtain rfl : xs = [] := h3
  refine ⟨a, _, rfl, .inr (Evl.ex_t e h2), rfl, rfl, ?_⟩
  cases neg <;> exact q _ F H (Gw.refl e) rfl
end
end Gr
namespace Gr
open PySem L2
section
variable {K : PySem.W.Frag} {ρ ρ1 ρ2 ρ3 : Env} {ta tb te tx : TE} {d d1 d2 d3 : Dt} {r : R2} {ds es : List Dt} {E : De}
/-! ### targets -/
theorem wipe_set {σ : L2.St} {i : Nat} {o : Option V} : ∀ {vs : List Nat}, i ∈ vs → wipe (σ.set i o) vs = wipe σ vs
  | [], h => by cases h
  | v :: vs, h => by
    show (wipe (σ.set i o) vs).set v none = (wipe σ vs).set v none
    by_cases hm : i ∈ vs
    · rw [wipe_set hm]
    · have e : i = v := by
        rcases List.mem_cons.mp h with q | q
        · exact q
        · exact absurd q hm
      subst e
      have : ∀ (vs : List Nat), i ∉ vs → (wipe (σ.set i o) vs) = (wipe σ vs).set i o := by
        intro vs
        induction vs with
        | nil => intro _; rfl
        | cons w ws ih =>
          intro h
          have h1 : w ≠ i := fun z => h (by rw [z]; exact List.mem_cons_self)
          have h2 : i ∉ ws := fun z => h (List.mem_cons_of_mem _ z)
          show (wipe (σ.set i o) ws).set w none = ((wipe σ ws).set w none).set i o
          rw [ih h2, List.set_comm _ _ h1.symm]
      rw [this vs hm, List.set_set]
theorem g_name {i : Nat} : EvG K (gName i) ρ d (ρ.set i (.val d)) [i] := fun Fb Hb F H σ v I h k q => q F H _ (I.setVal h) (Evl.Ex.refl _) fun vs hv => wipe_set (hv i List.mem_cons_self)
theorem gs_nil : EvGs K gNil ρ [] ρ [] := fun Fb Hb F H σ vs I h k q => ⟨h, q F H σ I (Evl.Ex.refl _) fun _ _ => rfl⟩
theorem gs_cons {g : TG} {gs : TGs} {js ks : List Nat} (h : EvG K g ρ d ρ1 js) (hs : EvGs K gs ρ1 ds ρ2 ks) : EvGs K (gCons g gs) ρ (d :: ds) ρ2 (js ++ ks) := fun Fb Hb F H σ vs I hd k q => by
  obtain ⟨v, r, rfl, h1, h2⟩ := hd
  exact ⟨v, r, rfl, h Fb Hb F H σ v I h1 _ fun F1 H1 σ1 I1 e1 w1 => hs Fb Hb F1 H1 σ1 r I1 (h2.mono e1) k fun F2 H2 σ2 I2 e2 w2 => q F2 H2 σ2 I2 (e1.trans e2) fun us hu =>
    (w2 us fun j hj => hu j (List.mem_append_right _ hj)).trans (w1 us fun j hj => hu j (List.mem_append_left _ hj))⟩
theorem g_tup {gs : TGs} {js : List Nat} {n : Nat} (h : EvGs K gs ρ ds ρ1 js) (hn : ds.length = n) : EvG K (gTup K n gs) ρ (.tup ds) ρ1 js := fun Fb Hb F H σ v I hd k q => by
  obtain ⟨a, xs, rfl, h2, h3⟩ := hd
  exact ⟨a, xs, rfl, Evl.ex_t I.fh h2, by rw [h3.len]; exact hn, h Fb Hb F H σ xs I h3 k q⟩
/-! ### statements -/
theorem s_seq {t u : TS} (h : EvS K t { E with nx := fun ρ' => EvS K u E ρ' } ρ) : EvS K (tSeq t u) E ρ := fun Fb Hb F H σ I D n1 n2 n3 n4 =>
  h Fb Hb F H σ I { D with nx := u D } (fun ρ' F' H' σ' hu I' e' => hu Fb Hb F' H' σ' I' D (fun r1 F1 H1 σ1 x I1 e1 => n1 r1 F1 H1 σ1 x I1 (e'.trans e1)) (fun d r1 v F1 H1 σ1 x I1 e1 => n2 d r1 v F1 H1 σ1 x I1 (e'.trans e1))
    (fun r1 F1 H1 σ1 x I1 e1 => n3 r1 F1 H1 σ1 x I1 (e'.trans e1)) (fun r1 F1 H1 σ1 x I1 e1 => n4 r1 F1 H1 σ1 x I1 (e'.trans e1))) n2 n3 n4
theorem s_next (h : E.nx ρ) : EvS K tNext E ρ := fun Fb Hb F H σ I D n1 _ _ _ => n1 ρ F H σ h I (Evl.Ex.refl _)
theorem s_brk (h : E.bk ρ) : EvS K tBreak E ρ := fun Fb Hb F H σ I D _ _ n3 _ => n3 ρ F H σ h I (Evl.Ex.refl _)
theorem s_cont (h : E.ct ρ) : EvS K tCont E ρ := fun Fb Hb F H σ I D _ _ _ n4 => n4 ρ F H σ h I (Evl.Ex.refl _)
theorem s_asg {g : TG} {js : List Nat} (h : EvX K te ρ d ρ1) (hg : EvG K g ρ1 d ρ2 js) (q : E.nx ρ2) : EvS K (tAsg te g) E ρ := fun Fb Hb F H σ I D n1 _ _ _ =>
  h Fb Hb F H σ I _ fun v F1 H1 I1 e1 h1 => hg Fb Hb F1 H1 σ v I1 h1 _ fun F2 H2 σ2 I2 e2 _ => n1 ρ2 F2 H2 σ2 q I2 (e1.trans e2)
theorem s_set {i : Nat} (h : EvX K te ρ d ρ1) (q : E.nx (ρ1.set i (.val d))) : EvS K (tAsg te (gName i)) E ρ := s_asg h g_name q
theorem s_drop (h : EvX K te ρ d ρ1) (q : E.nx ρ1) : EvS K (tDrop te) E ρ := fun Fb Hb F H σ I D n1 _ _ _ => h Fb Hb F H σ I _ fun v F1 H1 I1 e1 _ => n1 ρ1 F1 H1 σ q I1 e1
theorem s_ret (h : EvX K te ρ d ρ1) (q : E.rt d ρ1) : EvS K (tRet te) E ρ := fun Fb Hb F H σ I D _ n2 _ _ => h Fb Hb F H σ I _ fun v F1 H1 I1 e1 h1 => n2 d ρ1 v F1 H1 σ q I1 e1 h1
theorem s_retOwn {i : Nat} {a : Addr} (h : ρ[i]? = some (.own a ds)) (q : E.rt (.lst ds) (ρ.set i (.val (.lst ds)))) : EvS K (tRet (tVar i)) E ρ := fun Fb Hb F H σ I D _ n2 _ _ => by
  obtain ⟨F1, e1, I1, h1⟩ := I.freeze h
  obtain ⟨h2, _⟩ := I.own i a ds h
  exact ⟨_, h2, n2 _ _ _ F1 H σ q I1 e1 h1⟩
theorem s_if {t : TT} {u w : TS} {b : Bool} (h : EvB K t ρ b ρ1) (h1 : b = true → EvS K u E ρ1) (h2 : b = false → EvS K w E ρ1) : EvS K (tIfS t u w) E ρ := fun Fb Hb F H σ I D n1 n2 n3 n4 =>
  h Fb Hb F H σ I _ fun F1 H1 I1 e1 => by
    have m1 := fun r1 F2 H2 σ2 x I2 e2 => n1 r1 F2 H2 σ2 x I2 (e1.trans e2)
    have m2 := fun d r1 v F2 H2 σ2 x I2 e2 => n2 d r1 v F2 H2 σ2 x I2 (e1.trans e2)
    have m3 := fun r1 F2 H2 σ2 x I2 e2 => n3 r1 F2 H2 σ2 x I2 (e1.trans e2)
    have m4 := fun r1 F2 H2 σ2 x I2 e2 => n4 r1 F2 H2 σ2 x I2 (e1.trans e2)
    cases b with
    | true => exact h1 rfl Fb Hb F1 H1 σ I1 D m1 m2 m3 m4
    | false => exact h2 rfl Fb Hb F1 H1 σ I1 D m1 m2 m3 m4
theorem s_yes {t : TT} {u w : TS} (h : EvB K t ρ true ρ1) (h1 : EvS K u E ρ1) : EvS K (tIfS t u w) E ρ := s_if h (fun _ => h1) fun e => nomatch e
theorem s_no {t : TT} {u w : TS} (h : EvB K t ρ false ρ1) (h1 : EvS K w E ρ1) : EvS K (tIfS t u w) E ρ := s_if h (fun e => nomatch e) fun _ => h1
theorem s_weak {t : TS} {E' : De} (h : EvS K t E' ρ) (m1 : ∀ r, E'.nx r → E.nx r) (m2 : ∀ d r, E'.rt d r → E.rt d r) (m3 : ∀ r, E'.bk r → E.bk r) (m4 : ∀ r, E'.ct r → E.ct r) : EvS K t E ρ := fun Fb Hb F H σ I D n1 n2 n3 n4 =>
  h Fb Hb F H σ I D (fun r F1 H1 σ1 x => n1 r F1 H1 σ1 (m1 r x)) (fun d r v F1 H1 σ1 x => n2 d r v F1 H1 σ1 (m2 d r x)) (fun r F1 H1 σ1 x => n3 r F1 H1 σ1 (m3 r x)) (fun r F1 H1 σ1 x => n4 r F1 H1 σ1 (m4 r x))
/-- x += e -/
theorem s_aug {i : Nat} {f : Int → Int → Int} {a b : Int} (hx : ρ[i]? = some (.val (.int a))) (h : EvX K te ρ (.int b) ρ1) (q : E.nx (ρ1.set i (.val (.int (f a b))))) : EvS K (tAug i te (ipI f)) E ρ := fun Fb Hb F H σ I D n1 _ _ _ => by
  obtain ⟨v, h1, h2⟩ := I.val i _ hx
  exact ⟨v, h1, h Fb Hb F H σ I _ fun u F1 H1 I1 e1 h3 => ⟨a, b, h2, h3, n1 _ F1 H1 _ q (I1.setVal (show Da K F1 (.int (f a b)) (.int (f a b)) from rfl)) e1⟩⟩
/-! lists of one's own: made, grown, written -/
def EvN (K : PySem.W.Frag) (te : TE) (ρ : Env) (ds : List Dt) (ρ' : Env) : Prop := ∀ Fb Hb F H σ, Iv K Fb Hb F H σ ρ → ∀ Q : VK, (∀ p xs F' H', Iv K Fb Hb F' H' σ ρ' → Evl.Ex F F' → F' p = none → Hb p = none → (∀ (j : Nat) t, ρ'[j]? = some t → p ∉ t.adr) → H' p = some (.lst xs) → DaAll K F' xs ds → Q (.ref p) H') → te σ H Q
theorem Iv.fresh {Fb Hb F H : Hp} {σ : L2.St} (I : Iv K Fb Hb F H σ ρ) {p : Addr} (hp : H p = none) : F p = none ∧ Hb p = none ∧ ∀ (j : Nat) t, ρ[j]? = some t → p ∉ t.adr :=
  ⟨Evl.fresh_back I.fh hp, Evl.fresh_back I.gw.hh hp, I.nobody hp⟩
theorem Iv.newOwn {Fb Hb F H : Hp} {σ : L2.St} (I : Iv K Fb Hb F H σ ρ) {p : Addr} {o : HO} (hp : H p = none) : Iv K Fb Hb F (upd H p o) σ ρ := I.grow (Gw.mut I.fh hp)
theorem n_lst {t : TA} (h : EvL K t ρ ds ρ1) (hl : ds.length ≤ 100000 := by decide) : EvN K (tLst t) ρ ds ρ1 := fun Fb Hb F H σ I Q q =>
  h Fb Hb F H σ I _ fun xs F1 H1 I1 e1 h1 => ⟨by rw [h1.len]; exact sz hl, fun p hp => by
    obtain ⟨f1, f2, f3⟩ := I1.fresh hp
    exact q p xs F1 _ (I1.newOwn hp) e1 f1 f2 f3 upd_same h1⟩
theorem n_listR (ha : EvR K ta ρ ds) : EvN K (tCB (cList K) (tCons ta tNil)) ρ ds ρ := fun Fb Hb F H σ I Q q =>
  ha Fb Hb F H σ I _ fun a F1 H1 I1 e1 h1 => by
    obtain ⟨xs, h3, h4⟩ := h1 F1 H1 I1 (Evl.Ex.refl _)
    refine ⟨a, xs, rfl, .inl (Evl.sq_of h3), fun p hp => ?_⟩
    obtain ⟨f1, f2, f3⟩ := I1.fresh hp
    exact q p xs F1 _ (I1.newOwn hp) e1 f1 f2 f3 upd_same h4
theorem n_listT (ha : EvX K ta ρ (.tup ds) ρ1) : EvN K (tCB (cList K) (tCons ta tNil)) ρ ds ρ1 := fun Fb Hb F H σ I Q q =>
  ha Fb Hb F H σ I _ fun v F1 H1 I1 e1 h1 => by
    obtain ⟨a, xs, rfl, h3, h4⟩ := h1
    refine ⟨a, xs, rfl, .inr (Evl.ex_t I1.fh h3), fun p hp => ?_⟩
    obtain ⟨f1, f2, f3⟩ := I1.fresh hp
    exact q p xs F1 _ (I1.newOwn hp) e1 f1 f2 f3 upd_same h4
theorem s_setN {i : Nat} (h : EvN K te ρ ds ρ1) (q : ∀ p, E.nx (ρ1.set i (.own p ds))) : EvS K (tAsg te (gName i)) E ρ := fun Fb Hb F H σ I D n1 _ _ _ =>
  h Fb Hb F H σ I _ fun p xs F1 H1 I1 e1 f1 f2 f3 h1 h2 => n1 _ F1 H1 _ (q p) (I1.setOwn h1 f1 f2 f3 h2) e1
/-- two names at once -/
theorem s_parVV {i j : Nat} (ha : EvX K ta ρ d1 ρ1) (hb : EvX K tb ρ1 d2 ρ2) (q : E.nx ((ρ2.set i (.val d1)).set j (.val d2))) : EvS K (tPar i j (tCons ta (tCons tb tNil))) E ρ := fun Fb Hb F H σ I D n1 _ _ _ =>
  ha Fb Hb F H σ I _ fun v F1 H1 I1 e1 h1 => hb Fb Hb F1 H1 σ I1 _ fun u F2 H2 I2 e2 h2 => ⟨v, u, rfl, n1 _ F2 H2 _ q ((I2.setVal (h1.mono e2)).setVal h2) (e1.trans e2)⟩
theorem s_parN0 {i j : Nat} (ha : EvN K ta ρ ds ρ1) (q : ∀ p p', p ≠ p' → E.nx ((ρ1.set i (.own p ds)).set j (.own p' []))) : EvS K (tPar i j (tCons ta (tCons (tLst tNil) tNil))) E ρ := fun Fb Hb F H σ I D n1 _ _ _ =>
  ha Fb Hb F H σ I _ fun p xs F1 H1 I1 e1 f1 f2 f3 h1 h2 => ⟨Nat.zero_le _, fun p' hp' => by
    have ne : p ≠ p' := ne_of_none h1 hp'
    obtain ⟨g1, g2, g3⟩ := I1.fresh hp'
    have I2 := (I1.newOwn (o := .lst []) hp').setOwn (i := i) (p := p) (by rw [upd_ne ne]; exact h1) f1 f2 f3 h2
    refine ⟨.ref p, .ref p', rfl, n1 _ F1 _ _ (q p p' ne) (I2.setOwn upd_same g1 g2 (fun k t hk => ?_) .nil) e1⟩
    rcases set_get hk with ⟨_, z, _⟩ | ⟨_, z⟩
    · subst z
      exact fun hm => ne (by simpa [Sl.adr] using hm : p' = p).symm
    · exact g3 k t z⟩
theorem s_parNI {i j : Nat} {n : Int} (ha : EvN K ta ρ ds ρ1) (q : ∀ p, E.nx ((ρ1.set i (.own p ds)).set j (.val (.int n)))) : EvS K (tPar i j (tCons ta (tCons (tC (.int n)) tNil))) E ρ := fun Fb Hb F H σ I D n1 _ _ _ =>
  ha Fb Hb F H σ I _ fun p xs F1 H1 I1 e1 f1 f2 f3 h1 h2 => ⟨.ref p, .int n, rfl, n1 _ F1 H1 _ (q p) ((I1.setOwn h1 f1 f2 f3 h2).setVal (show Da K F1 (.int n) (.int n) from rfl)) e1⟩
theorem s_par0V {i j k : Nat} (hk : ρ[k]? = some (.val d)) (q : ∀ p, E.nx ((ρ.set i (.own p [])).set j (.val d))) : EvS K (tPar i j (tCons (tLst tNil) (tCons (tVar k) tNil))) E ρ := fun Fb Hb F H σ I D n1 _ _ _ => by
  obtain ⟨v, h1, h2⟩ := I.val k d hk
  refine ⟨Nat.zero_le _, fun p hp => ?_⟩
  obtain ⟨f1, f2, f3⟩ := I.fresh hp
  exact ⟨v, h1, .ref p, v, rfl, n1 _ F _ _ (q p) (((I.newOwn (o := .lst []) hp).setOwn upd_same f1 f2 f3 .nil).setVal h2) (Evl.Ex.refl _)⟩
/-- xs.append(e) -/
theorem s_app {i : Nat} {a : Addr} {ds' : List Dt} (ha : ρ[i]? = some (.own a ds')) (h : EvX K te ρ d ρ1) (h1 : ρ1[i]? = some (.own a ds)) (hl : ds.length < 100000) (q : E.nx (ρ1.set i (.own a (ds ++ [d])))) : EvS K (tDrop (tBM K "list" rAppend (tVar i) (tCons te tNil))) E ρ := fun Fb Hb F H σ I D n1 _ _ _ => by
  obtain ⟨g1, g2, g3, xs0, g4, _⟩ := I.own i a _ ha
  refine ⟨_, g1, .inl ⟨rfl, xs0, Evl.sq_of g4⟩, h Fb Hb F H σ I _ fun v F1 H1 I1 e1 k1 => ?_⟩
  obtain ⟨_, _, _, xs, g5, g6⟩ := I1.own i a _ h1
  exact ⟨a, xs, v, rfl, rfl, g5, Evl.sz_lt (by rw [g6.len]; exact hl), n1 _ F1 _ σ q (I1.write h1 (g6.append (.cons k1 .nil))) e1⟩
/-- xs[i] = e -/
theorem s_setL {i j : Nat} {ti : TE} {a : Addr} (h : EvX K te ρ d ρ1) (hi : ρ1[i]? = some (.own a ds)) (hj : EvX K ti ρ1 (.int (j : Int)) ρ1) (hl : j < ds.length) (q : E.nx (ρ1.set i (.own a (ds.set j d)))) : EvS K (tAsg te (gSub (tVar i) ti rSetL)) E ρ := fun Fb Hb F H σ I D n1 _ _ _ =>
  h Fb Hb F H σ I _ fun v F1 H1 I1 e1 k1 => by
    obtain ⟨g1, _⟩ := I1.own i a _ hi
    refine ⟨_, g1, hj Fb Hb F1 H1 σ I1 _ fun y F2 H2 I2 e2 k2 => ?_⟩
    obtain ⟨_, _, _, xs, g5, g6⟩ := I2.own i a _ hi
    have hx : j < xs.length := by rw [g6.len]; exact hl
    exact ⟨a, xs, j, j, rfl, k2, g5, Evl.ixN_nat hx, n1 _ F2 _ σ q (I2.write hi (g6.set j (k1.mono e2))) (e1.trans e2)⟩
/-! ### what is walked -/
theorem i_list (h : EvX K te ρ (.lst ds) ρ1) : EvI K (iList K te) ρ ds ρ1 := fun Fb Hb F H σ I R q =>
  h Fb Hb F H σ I _ fun v F1 H1 I1 e1 h1 => by
    obtain ⟨a, xs, rfl, h2, h3⟩ := h1
    refine ⟨a, rfl, ⟨xs, Evl.sq_of (I1.fh a _ h2)⟩, q _ F1 H1 I1 e1 fun F2 H2 e2 e3 => ⟨fun i d hi => ?_, ?_⟩⟩
    · obtain ⟨v, g1, g2⟩ := h3.get hi
      have hs : SqL K H2 a xs := Evl.sq_of (e3 a _ (e2 a _ h2))
      exact ⟨⟨xs, v, hs, g1⟩, fun x H3 hy => by
        obtain ⟨rfl, hy⟩ := hy
        have := hy xs hs
        rw [g1] at this
        cases this
        exact ⟨F2, Gw.refl e3, g2.mono e2⟩⟩
    · exact ⟨xs, Evl.sq_of (e3 a _ (e2 a _ h2)), by rw [h3.len]; exact Nat.le_refl _⟩
theorem i_tup (h : EvX K te ρ (.tup ds) ρ1) : EvI K (iTup K te) ρ ds ρ1 := fun Fb Hb F H σ I R q =>
  h Fb Hb F H σ I _ fun v F1 H1 I1 e1 h1 => by
    obtain ⟨a, xs, rfl, h2, h3⟩ := h1
    refine ⟨a, rfl, ⟨xs, Evl.ex_t I1.fh h2⟩, q _ F1 H1 I1 e1 fun F2 H2 e2 e3 => ⟨fun i d hi => ?_, ?_⟩⟩
    · obtain ⟨v, g1, g2⟩ := h3.get hi
      have hs : SqT K H2 a xs := Evl.ex_t (e2.trans e3) h2
      exact ⟨⟨xs, v, hs, g1⟩, fun x H3 hy => by
        obtain ⟨rfl, hy⟩ := hy
        have := hy xs hs
        rw [g1] at this
        cases this
        exact ⟨F2, Gw.refl e3, g2.mono e2⟩⟩
    · exact ⟨xs, Evl.ex_t (e2.trans e3) h2, by rw [h3.len]; exact Nat.le_refl _⟩
/-- lo, lo + 1, .. -/
def rg (lo : Int) (n : Nat) : List Dt := (List.range n).map fun i => .int (lo + (i : Nat))
theorem rg_get {lo : Int} {n i : Nat} {d : Dt} (h : (rg lo n)[i]? = some d) : i < n ∧ d = .int (lo + (i : Nat)) := by
  unfold rg at h
  rw [List.getElem?_map] at h
  by_cases hi : i < n
  · rw [List.getElem?_range hi] at h
    exact ⟨hi, (Option.some.inj h).symm⟩
  · rw [List.getElem?_eq_none (by simp; omega)] at h
    cases h
theorem rg_len (lo : Int) (n : Nat) : (rg lo n).length = n := by simp [rg]
theorem wk_rng {F : Hp} {lo : Int} {n : Nat} : WkD K (Itr lo n) F (rg lo n) := fun F2 H2 e2 e3 => ⟨fun i d hi => by
  obtain ⟨h1, rfl⟩ := rg_get hi
  exact ⟨h1, fun x H3 hy => by
    obtain ⟨rfl, rfl⟩ := hy
    exact ⟨F2, Gw.refl e3, rfl⟩⟩, by rw [rg_len]; exact Nat.le_refl _⟩
theorem i_rng1 {t : TA} {n : Int} (h : EvL K t ρ [.int n] ρ1) (hn : -100000000 ≤ n ∧ n ≤ 100000000) : EvI K (iRng1 t) ρ (rg 0 n.toNat) ρ1 := fun Fb Hb F H σ I R q =>
  h Fb Hb F H σ I _ fun vs F1 H1 I1 e1 h1 => by
    obtain ⟨v, rfl, h2⟩ := all1 h1
    rw [show v = V.int n from h2]
    exact ⟨n, rfl, by omega, by omega, q _ F1 H1 I1 e1 wk_rng⟩
theorem i_rng2 {t : TA} {lo hi : Int} (h : EvL K t ρ [.int lo, .int hi] ρ1) (hn : -100000000 ≤ lo ∧ lo ≤ 100000000 ∧ -100000000 ≤ hi ∧ hi ≤ 100000000) : EvI K (iRng2 t) ρ (rg lo (hi - lo).toNat) ρ1 := fun Fb Hb F H σ I R q =>
  h Fb Hb F H σ I _ fun vs F1 H1 I1 e1 h1 => by
    obtain ⟨v, u, rfl, h2, h3⟩ := all2 h1
    rw [show v = V.int lo from h2, show u = V.int hi from h3]
    exact ⟨lo, hi, rfl, ⟨by omega, by omega, by omega, by omega⟩, q _ F1 H1 I1 e1 wk_rng⟩
def en (ds : List Dt) : List Dt := ds.zipIdx.map fun p => .tup [.int (p.2 : Nat), p.1]
theorem en_get {i : Nat} {d : Dt} (h : (en ds)[i]? = some d) : ∃ d', ds[i]? = some d' ∧ d = .tup [.int (i : Nat), d'] := by
  unfold en at h
  rw [List.getElem?_map, List.getElem?_zipIdx] at h
  cases q : ds[i]? with
  | none => rw [q] at h; cases h
  | some d' =>
    rw [q] at h
    refine ⟨d', rfl, ?_⟩
    have := Option.some.inj h
    rw [← this]
    simp
theorem en_len : (en ds).length = ds.length := by simp [en]
/-- a new pair -/
theorem gw_pair {F H : Hp} {T : Addr} {x y : V} (e : Evl.Ex F H) (hT : H T = none) (hx : Da K F x d1) (hy : Da K F y d2) : ∃ F3, Gw F H F3 (upd H T (.tup [x, y])) ∧ Da K F3 (.ref T) (.tup [d1, d2]) := by
  have g := Gw.new (o := .tup [x, y]) e hT
  exact ⟨_, g, T, _, rfl, Evl.st_of upd_same, .cons (hx.mono g.ff) (.cons (hy.mono g.ff) .nil)⟩
theorem i_enumL {t : TA} (h : EvL K t ρ [.lst ds] ρ1) : EvI K (iEnum K t) ρ (en ds) ρ1 := fun Fb Hb F H σ I R q =>
  h Fb Hb F H σ I _ fun vs F1 H1 I1 e1 h1 => by
    obtain ⟨v, rfl, a, xs, rfl, h2, h3⟩ := all1 h1
    refine ⟨a, xs, rfl, Evl.sq_of (I1.fh a _ h2), q _ F1 H1 I1 e1 fun F2 H2 e2 e3 => ⟨fun i d hi => ?_, ?_⟩⟩
    · obtain ⟨d', k1, rfl⟩ := en_get hi
      obtain ⟨v, g1, g2⟩ := h3.get k1
      have hs : SqL K H2 a xs := Evl.sq_of (e3 a _ (e2 a _ h2))
      exact ⟨⟨xs, v, hs, g1⟩, fun x H3 hy => by
        obtain ⟨T, y, rfl, hT, rfl, hy⟩ := hy
        have := hy xs hs
        rw [g1] at this
        cases this
        exact gw_pair e3 hT rfl (g2.mono e2)⟩
    · exact ⟨xs, Evl.sq_of (e3 a _ (e2 a _ h2)), by rw [en_len, h3.len]; exact Nat.le_refl _⟩
/-! ### loops, comprehensions -/
theorem s_for {wi : TI} {g : TG} {tb : TS} (hi : EvI K wi ρ ds ρ1) (P : Nat → Env → Prop) (h0 : P 0 ρ1)
    (hs : ∀ (i : Nat) d ρ2, ds[i]? = some d → P i ρ2 → ∃ ρ3 js, EvG K g ρ2 d ρ3 js ∧ EvS K tb { E with nx := P (i + 1), ct := P (i + 1), bk := E.nx } ρ3) (hd : ∀ ρ2, P ds.length ρ2 → E.nx ρ2) : EvS K (tFor wi g tb) E ρ := fun Fb Hb F H σ I D n1 n2 n3 n4 =>
  hi Fb Hb F H σ I _ fun J F1 H1 I1 e1 wk => by
    refine ⟨fun i m σ2 H2 => m = ds.length - i ∧ i ≤ ds.length ∧ ∃ ρ2 F2, P i ρ2 ∧ Iv K Fb Hb F2 H2 σ2 ρ2 ∧ Evl.Ex F1 F2, ⟨ds.length, by simp, Nat.zero_le _, ρ1, F1, h0, I1, Evl.Ex.refl _⟩, ?_⟩
    rintro i m σ2 H2 ⟨rfl, hle, ρ2, F2, hp, I2, e2⟩
    obtain ⟨w1, w2⟩ := wk F2 H2 e2 I2.fh
    by_cases hlt : i < ds.length
    · obtain ⟨v1, v2⟩ := w1 i ds[i] (List.getElem?_eq_getElem hlt)
      refine .inr ⟨v1, fun σ3 H3 => ∃ ρ3 F3, P (i + 1) ρ3 ∧ Iv K Fb Hb F3 H3 σ3 ρ3 ∧ Evl.Ex F1 F3, fun σ3 H3 ⟨ρ3, F3, p3, I3, e3⟩ => ⟨ds.length - (i + 1), by omega, rfl, hlt, ρ3, F3, p3, I3, e3⟩, fun x H3 hy => ?_⟩
      obtain ⟨F3, g3, k3⟩ := v2 x H3 hy
      obtain ⟨ρ3, js, hg, hb⟩ := hs i ds[i] ρ2 (List.getElem?_eq_getElem hlt) hp
      refine hg Fb Hb F3 H3 σ2 x (I2.grow g3) k3 _ fun F4 H4 σ4 I4 e4 _ => ?_
      have e5 := e2.trans (g3.ff.trans e4)
      exact hb Fb Hb F4 H4 σ4 I4 _ (fun r F5 H5 σ5 x I5 e6 => ⟨r, F5, x, I5, e5.trans e6⟩) (fun d r v F5 H5 σ5 x I5 e6 => n2 d r v F5 H5 σ5 x I5 ((e1.trans e5).trans e6))
        (fun r F5 H5 σ5 x I5 e6 => n1 r F5 H5 σ5 x I5 ((e1.trans e5).trans e6)) (fun r F5 H5 σ5 x I5 e6 => ⟨r, F5, x, I5, e5.trans e6⟩)
    · have e : i = ds.length := by omega
      subst e
      exact .inl ⟨w2, n1 ρ2 F2 H2 σ2 (hd ρ2 hp) I2 (e1.trans e2)⟩
/-- while: m falls -/
theorem s_while {tc : TT} {tb : TS} (P : Nat → Env → Prop) (m0 : Nat) (h0 : P m0 ρ)
    (hs : ∀ m ρ2, P m ρ2 → ∃ b, EvB K tc ρ2 b ρ2 ∧ (b = true → EvS K tb { E with nx := fun r => ∃ m', m' < m ∧ P m' r, ct := fun r => ∃ m', m' < m ∧ P m' r, bk := E.nx } ρ2) ∧ (b = false → E.nx ρ2)) : EvS K (tWhile tc tb) E ρ := fun Fb Hb F H σ I D n1 n2 n3 n4 => by
  refine ⟨fun m σ2 H2 => ∃ ρ2 F2, P m ρ2 ∧ Iv K Fb Hb F2 H2 σ2 ρ2 ∧ Evl.Ex F F2, ⟨m0, ρ, F, h0, I, Evl.Ex.refl _⟩, ?_⟩
  rintro m σ2 H2 ⟨ρ2, F2, hp, I2, e2⟩
  obtain ⟨b, hb, h1, h2⟩ := hs m ρ2 hp
  refine hb Fb Hb F2 H2 σ2 I2 _ fun F3 H3 I3 e3 => ?_
  cases b with
  | true =>
    refine ⟨fun σ4 H4 => ∃ m', m' < m ∧ ∃ ρ4 F4, P m' ρ4 ∧ Iv K Fb Hb F4 H4 σ4 ρ4 ∧ Evl.Ex F F4, fun σ4 H4 x => x, h1 rfl Fb Hb F3 H3 σ2 I3 _ (fun r F5 H5 σ5 ⟨m', x1, x2⟩ I5 e6 => ⟨m', x1, r, F5, x2, I5, (e2.trans e3).trans e6⟩)
      (fun d r v F5 H5 σ5 x I5 e6 => n2 d r v F5 H5 σ5 x I5 ((e2.trans e3).trans e6)) (fun r F5 H5 σ5 x I5 e6 => n1 r F5 H5 σ5 x I5 ((e2.trans e3).trans e6)) (fun r F5 H5 σ5 ⟨m', x1, x2⟩ I5 e6 => ⟨m', x1, r, F5, x2, I5, (e2.trans e3).trans e6⟩)⟩
  | false => exact n1 ρ2 F3 H3 σ2 (h2 rfl) I3 (e2.trans e3)
/-- the slots of a block's own names forgotten -/
def wipeE (ρ : Env) : List Nat → Env
  | [] => ρ
  | v :: vs => (wipeE ρ vs).set v .no
theorem Iv.wipe {Fb Hb F H : Hp} {σ : L2.St} (I : Iv K Fb Hb F H σ ρ) : ∀ vs : List Nat, Iv K Fb Hb F H (L2.wipe σ vs) (wipeE ρ vs)
  | [] => I
  | v :: vs => (I.wipe vs).setNo none
/-- a new base: all that stands now but what the slots alone know stands on -/
theorem Iv.rebase {Fb Hb F H : Hp} {σ : L2.St} (I : Iv K Fb Hb F H σ ρ) : ∃ Hb', Iv K F Hb' F H σ ρ ∧ (∀ a o, H a = some o → (∀ (j : Nat) t, ρ[j]? = some t → a ∉ t.adr) → Hb' a = some o) ∧
    ∀ F' H' σ' ρ', Iv K F Hb' F' H' σ' ρ' → Iv K Fb Hb F' H' σ' ρ' := by
  classical
  refine ⟨fun a => if ∃ (j : Nat) (t : Sl), ρ[j]? = some t ∧ a ∈ t.adr then none else H a, ⟨⟨Evl.Ex.refl _, I.fh, fun a o e => ?_, fun a h _ => h⟩, I.len, I.val, fun i s h => ?_, I.apart⟩, fun a o e h => ?_, fun F' H' σ' ρ' J => ?_⟩
  · by_cases q : ∃ (j : Nat) (t : Sl), ρ[j]? = some t ∧ a ∈ t.adr
    · rw [if_pos q] at e; cases e
    · rw [if_neg q] at e; exact e
  · obtain ⟨h1, h2, h3⟩ := I.res i s h
    exact ⟨h1, fun a z => ⟨(h2 a z).1, if_pos ⟨i, s, h, z⟩⟩, h3⟩
  · refine (if_neg ?_).trans e
    rintro ⟨j, t, hj, z⟩
    exact h j t hj z
  · have key : ∀ a o, Hb a = some o → (if ∃ (j : Nat) (t : Sl), ρ[j]? = some t ∧ a ∈ t.adr then none else H a) = some o := fun a o e => by
      rw [if_neg]
      · exact I.gw.hh a o e
      · rintro ⟨j, t, hj, z⟩
        have h3 := ((I.res j t hj).2.1 a z).2
        rw [h3] at e; cases e
    refine ⟨⟨I.gw.ff.trans J.gw.ff, J.gw.fh, fun a o e => J.gw.hh a o (key a o e), fun a h1 h2 => J.gw.no a (I.gw.no a h1 h2) fun z => ?_⟩, J.len, J.val, fun i s h => ?_, J.apart⟩
    · cases q : Hb a with
      | none => exact h2 q
      | some o =>
        have := key a o q
        rw [z] at this
        cases this
    · obtain ⟨h1, h2, h3⟩ := J.res i s h
      refine ⟨h1, fun a z => ⟨(h2 a z).1, ?_⟩, h3⟩
      cases q : Hb a with
      | none => rfl
      | some o =>
        have := key a o q
        rw [(h2 a z).2] at this
        cases this
/-- back from the block: the slots as they were; what the slots alone know may have changed there -/
theorem Iv.back {Fb Hb F H F' H' : Hp} {σ σ' : L2.St} {ρ' ρ'' : Env} (I : Iv K Fb Hb F H σ ρ) (I' : Iv K Fb Hb F' H' σ' ρ') (e : Evl.Ex F F') (hl : ρ''.length = ρ.length) (hv : ∀ (i : Nat) d, ρ''[i]? = some (.val d) → ρ[i]? = some (.val d))
    (same : ∀ (i : Nat) s, ρ''[i]? = some s → s.adr = [] ∧ s.at_ = none ∧ s.holds K F' H' ∨ (∃ t, ρ[i]? = some t ∧ t.adr = s.adr ∧ t.at_ = s.at_) ∧ ∃ j : Nat, ρ'[j]? = some s) : Iv K Fb Hb F' H' σ ρ'' where
  gw := I'.gw
  len := by rw [hl]; exact I.len
  val := fun i d h => let ⟨v, a, b⟩ := I.val i d (hv i d h); ⟨v, a, b.mono e⟩
  res := fun i s h => by
    rcases same i s h with ⟨k1, k2, k3⟩ | ⟨⟨t, ht, k1, k2⟩, j, hj⟩
    · exact ⟨fun v z => (by rw [k2] at z; cases z), fun a z => (by rw [k1] at z; cases z), k3⟩
    · obtain ⟨_, g2, g3⟩ := I'.res j s hj
      exact ⟨fun v z => (I.res i t ht).1 v (by rw [k2]; exact z), g2, g3⟩
  apart := fun i j s t ne h1 h2 => by
    rcases same i s h1 with ⟨k1, _, _⟩ | ⟨⟨s', hs', k1, _⟩, _⟩
    · rw [k1]; exact fun a z => by cases z
    · rcases same j t h2 with ⟨k2, _, _⟩ | ⟨⟨t', ht', k2, _⟩, _⟩
      · rw [k2]; exact fun a _ z => by cases z
      · rw [← k1, ← k2]
        exact I.apart i j s' t' ne hs' ht'
/-- a slot behind: of ρ's what is told, of ρ' what the slot alone knows -/
def LikeS : Sl → Sl → Sl → Prop
  | .val d, _, s => s = .val d
  | .no, _, s => s = .no
  | .own a _, s', s => s = s' ∧ ∃ fs, s' = .own a fs
  | .pk x C dx l _ _, s', s => s = s' ∧ ∃ h w, s' = .pk x C dx l h w
  | .res r, s', s => s = s' ∧ ∃ r', s' = .res r' ∧ r'.as = r.as ∧ r'.v = r.v
def Like : Env → Env → Env → Prop
  | [], _, [] => True
  | a :: r, b :: t, c :: u => LikeS a b c ∧ Like r t u
  | _, _, _ => False
theorem LikeS.spec {a b c : Sl} (h : LikeS a b c) : (∀ d, c = .val d → a = .val d) ∧ ((c.adr = [] ∧ c.at_ = none ∧ ∀ (K : PySem.W.Frag) F H, c.holds K F H) ∨ (a.adr = c.adr ∧ a.at_ = c.at_ ∧ b = c)) := by
  cases a with
  | no => obtain rfl : c = .no := h; exact ⟨fun d q => (by cases q), .inl ⟨rfl, rfl, fun _ _ _ => trivial⟩⟩
  | val d => obtain rfl : c = .val d := h; exact ⟨fun d q => q ▸ rfl, .inl ⟨rfl, rfl, fun _ _ _ => trivial⟩⟩
  | own x ds => obtain ⟨rfl, fs, rfl⟩ := h; exact ⟨fun d q => (by cases q), .inr ⟨rfl, rfl, rfl⟩⟩
  | pk x C dx l hh w => obtain ⟨rfl, h', w', rfl⟩ := h; exact ⟨fun d q => (by cases q), .inr ⟨rfl, rfl, rfl⟩⟩
  | res r => obtain ⟨rfl, r', rfl, e1, e2⟩ := h; exact ⟨fun d q => (by cases q), .inr ⟨e1.symm, congrArg some e2.symm, rfl⟩⟩
theorem Like.spec : ∀ {ρ ρ' ρ'' : Env}, Like ρ ρ' ρ'' → ρ''.length = ρ.length ∧ (∀ (i : Nat) d, ρ''[i]? = some (.val d) → ρ[i]? = some (.val d)) ∧
    ∀ (i : Nat) s, ρ''[i]? = some s → (s.adr = [] ∧ s.at_ = none ∧ ∀ (K : PySem.W.Frag) F H, s.holds K F H) ∨ (∃ t, ρ[i]? = some t ∧ t.adr = s.adr ∧ t.at_ = s.at_) ∧ ∃ j : Nat, ρ'[j]? = some s
  | [], _, [], _ => ⟨rfl, fun i d h => by simp at h, fun i s h => by simp at h⟩
  | [], _, _ :: _, h => h.elim
  | _ :: _, [], _, h => (show False from h).elim
  | _ :: _, _ :: _, [], h => (show False from h).elim
  | a :: r, b :: t, c :: u, h => by
    obtain ⟨g1, g2⟩ := (show LikeS a b c from h.1).spec
    obtain ⟨h1, h2, h3⟩ := Like.spec (show Like r t u from h.2)
    refine ⟨congrArg (· + 1) h1, fun i dd hi => ?_, fun i s hi => ?_⟩
    · cases i with
      | zero => simp at hi ⊢; exact g1 dd hi
      | succ i => exact h2 i dd (by simpa using hi)
    · cases i with
      | zero =>
        simp at hi
        subst hi
        rcases g2 with q | ⟨q1, q2, q3⟩
        · exact .inl q
        · exact .inr ⟨⟨a, rfl, q1, q2⟩, 0, by rw [q3]; rfl⟩
      | succ i =>
        rcases h3 i s (by simpa using hi) with q | ⟨⟨v, q1, q2⟩, j, q3⟩
        · exact .inl q
        · exact .inr ⟨⟨v, by simpa using q1, q2⟩, j + 1, by simpa using q3⟩
theorem Iv.backL {Fb Hb F H F' H' : Hp} {σ σ' : L2.St} {ρ' ρ'' : Env} (I : Iv K Fb Hb F H σ ρ) (I' : Iv K Fb Hb F' H' σ' ρ') (e : Evl.Ex F F') (l : Like ρ ρ' ρ'') : Iv K Fb Hb F' H' σ ρ'' := by
  obtain ⟨h1, h2, h3⟩ := l.spec
  refine I.back I' e h1 h2 fun i s hs => ?_
  rcases h3 i s hs with ⟨a, b, c⟩ | q
  · exact .inl ⟨a, b, c K F' H'⟩
  · exact .inr q
theorem Like.adr : ∀ {ρ ρ' ρ'' : Env}, Like ρ ρ' ρ'' → ∀ (i : Nat) s, ρ''[i]? = some s → ∀ a ∈ s.adr, ∃ (j : Nat) (t : Sl), ρ[j]? = some t ∧ a ∈ t.adr := fun {ρ ρ' ρ''} l i s hs a ha => by
  obtain ⟨_, _, h3⟩ := l.spec
  rcases h3 i s hs with ⟨q, _, _⟩ | ⟨⟨t, q1, q2, _⟩, _⟩
  · rw [q] at ha; cases ha
  · exact ⟨i, t, q1, by rw [q2]; exact ha⟩
/-- [e for x in xs if t]; what the slots alone know may change: P tells it, turn by turn -/
theorem lc_go {α : Type} {wi : TI} {g : TG} {tt : TT} {vs : List Nat} {ρn : Env} (xs : List α) (emb : α → Dt) (P : Nat → Env → List Dt → Prop) (hi : EvI K wi ρ (xs.map emb) ρ1) (hl : xs.length ≤ 90000) (h0 : P 0 ρ1 [])
    (step : ∀ (i : Nat) x ρ2 acc, xs[i]? = some x → P i ρ2 acc → ∃ ρ3 js, EvG K g (wipeE ρ2 vs) (emb x) ρ3 js ∧ (∀ j ∈ js, j ∈ vs) ∧
      ((∃ ρ4 d, EvB K tt ρ3 true ρ3 ∧ EvX K te ρ3 d ρ4 ∧ ∃ ρ5, Like ρ2 ρ4 ρ5 ∧ P (i + 1) ρ5 (acc ++ [d])) ∨ (EvB K tt ρ3 false ρ3 ∧ Like ρ2 ρ3 ρ2 ∧ P (i + 1) ρ2 acc)))
    (hb : ∀ i ρ2 acc, P i ρ2 acc → acc.length ≤ i) (hd : ∀ ρ2 acc, P xs.length ρ2 acc → ρ2 = ρn ∧ acc = ds) : EvN K (tLc wi g tt te vs) ρ ds ρn := fun Fb Hb F H σ I Q q =>
  hi Fb Hb F H σ I _ fun J F1 H1 I1 e1 wk Dp hD => by
    obtain ⟨f1, f2, f3⟩ := I1.fresh hD
    have I0 : Iv K Fb Hb F1 (upd H1 Dp (.lst [])) σ ρ1 := I1.newOwn hD
    refine ⟨fun i m H2 => m = xs.length - i ∧ i ≤ xs.length ∧ ∃ ρ2 F2 acc rs, P i ρ2 rs ∧ Iv K Fb Hb F2 H2 σ ρ2 ∧ Evl.Ex F1 F2 ∧ H2 Dp = some (.lst acc) ∧ F2 Dp = none ∧ DaAll K F2 acc rs ∧ (∀ (j : Nat) t, ρ2[j]? = some t → Dp ∉ t.adr), ⟨xs.length, by simp, Nat.zero_le _, ρ1, F1, [], [], h0, I0, Evl.Ex.refl _, upd_same, f1, rfl, f3⟩, ?_⟩
    rintro i m H2 ⟨rfl, hle, ρ2, F2, acc, rs, hp, I2, e2, hd2, hf, ha, hn⟩
    obtain ⟨w1, w2⟩ := wk F2 H2 e2 I2.fh
    by_cases hlt : i < xs.length
    · have hx : (xs.map emb)[i]? = some (emb xs[i]) := by rw [List.getElem?_map, List.getElem?_eq_getElem hlt]; rfl
      obtain ⟨v1, v2⟩ := w1 i _ hx
      refine .inr ⟨v1, fun H3 => ∃ ρ3 F3 acc' rs', P (i + 1) ρ3 rs' ∧ Iv K Fb Hb F3 H3 σ ρ3 ∧ Evl.Ex F1 F3 ∧ H3 Dp = some (.lst acc') ∧ F3 Dp = none ∧ DaAll K F3 acc' rs' ∧ (∀ (j : Nat) t, ρ3[j]? = some t → Dp ∉ t.adr), fun H3 ⟨ρ3, F3, acc', rs', r0, r1, r2, r3, r4, r5, r6⟩ => ⟨xs.length - (i + 1), by omega, rfl, hlt, ρ3, F3, acc', rs', r0, r1, r2, r3, r4, r5, r6⟩, fun x H3 hy => ?_⟩
      obtain ⟨F3, g3, k3⟩ := v2 x H3 hy
      obtain ⟨ρ3, js, hg, hjs, hcase⟩ := step i xs[i] ρ2 rs (List.getElem?_eq_getElem hlt) hp
      have I3 : Iv K Fb Hb F3 H3 σ ρ2 := I2.grow g3
      have d3 : H3 Dp = some (.lst acc) := g3.hh Dp _ hd2
      have n3 : F3 Dp = none := g3.no Dp hf (by rw [hd2]; simp)
      obtain ⟨Hb', J3, jb, jret⟩ := I3.rebase
      have hbD : Hb' Dp = some (.lst acc) := jb Dp _ d3 hn
      have stay : ∀ F' H' σ' ρ', Iv K F3 Hb' F' H' σ' ρ' → H' Dp = some (.lst acc) ∧ F' Dp = none := fun F' H' σ' ρ' J => ⟨J.gw.hh Dp _ hbD, J.gw.no Dp n3 (by rw [hbD]; simp)⟩
      refine hg F3 Hb' F3 H3 (wipe σ vs) x (J3.wipe vs) k3 _ fun F4 H4 σ4 J4 e4 w4 => ⟨?_, ?_⟩
      · rw [w4 vs hjs]
        have : ∀ (us : List Nat) (s : L2.St), (∀ u ∈ us, u ∈ vs) → wipe (wipe s us) vs = wipe s vs := by
          intro us
          induction us with
          | nil => intro s _; rfl
          | cons u us ih =>
            intro s hu
            show wipe ((wipe s us).set u none) vs = wipe s vs
            rw [wipe_set (hu u List.mem_cons_self)]
            exact ih s fun u' h' => hu u' (List.mem_cons_of_mem _ h')
        exact this vs σ fun _ h => h
      · rcases hcase with ⟨ρ4, d, ht, he, ρ5, hlike, hp'⟩ | ⟨ht, hlike, hp'⟩
        · refine ht F3 Hb' F4 H4 σ4 J4 _ fun F5 H5 J5 e5 => he F3 Hb' F5 H5 σ4 J5 _ fun y F6 H6 J6 e6 k6 => ?_
          obtain ⟨s1, s2⟩ := stay _ _ _ _ J6
          have eall := g3.ff.trans (e4.trans (e5.trans e6))
          have J7 : Iv K Fb Hb F6 H6 σ ρ5 := I3.backL (jret F6 H6 σ4 ρ4 J6) (e4.trans (e5.trans e6)) hlike
          have hn' : ∀ (j : Nat) t, ρ5[j]? = some t → Dp ∉ t.adr := fun j t hj hz => by
            obtain ⟨k, u, hk, hu⟩ := hlike.adr j t hj Dp hz
            exact hn k u hk hu
          have hlen := hb i ρ2 rs hp
          refine ⟨acc, s1, Evl.sz_lt (by rw [ha.len]; omega), ρ5, F6, acc ++ [y], rs ++ [d], hp', ?_, e2.trans eall, upd_same, s2, (ha.mono eall).append (.cons k6 .nil), hn'⟩
          refine ⟨⟨J7.gw.ff, fun a o e => ?_, fun a o e => ?_, J7.gw.no⟩, J7.len, J7.val, fun j s hj => ?_, J7.apart⟩
          · rw [upd_ne (fun z => by rw [z, s2] at e; cases e)]
            exact J7.gw.fh a o e
          · rw [upd_ne (fun z => by rw [z, f2] at e; cases e)]
            exact J7.gw.hh a o e
          · obtain ⟨h1, h2, h3⟩ := J7.res j s hj
            exact ⟨h1, h2, Sl.holds_mono h3 (Evl.Ex.refl _) fun a z o q => by rw [upd_ne (fun z2 => hn' j s hj (by rw [← z2]; exact z))]; exact q⟩
        · refine ht F3 Hb' F4 H4 σ4 J4 _ fun F5 H5 J5 e5 => ?_
          obtain ⟨s1, s2⟩ := stay _ _ _ _ J5
          have eall := g3.ff.trans (e4.trans e5)
          exact ⟨ρ2, F5, acc, rs, hp', I3.backL (jret F5 H5 σ4 ρ3 J5) (e4.trans e5) hlike, e2.trans eall, s1, s2, ha.mono eall, hn⟩
    · have e : i = xs.length := by omega
      subst e
      obtain ⟨rfl, rfl⟩ := hd ρ2 rs hp
      rw [List.length_map] at w2
      exact .inl ⟨w2, q Dp acc F2 H2 I2 (e1.trans e2) hf f2 hn hd2 ha⟩
/-- nothing of one's own changed -/
theorem lc_run {α : Type} {wi : TI} {g : TG} {tt : TT} {vs : List Nat} (xs : List α) (emb : α → Dt) (b : α → Bool) (f : α → Dt) (hi : EvI K wi ρ (xs.map emb) ρ1) (hl : xs.length ≤ 90000)
    (step : ∀ x ∈ xs, ∃ ρ3 js, EvG K g (wipeE ρ1 vs) (emb x) ρ3 js ∧ (∀ j ∈ js, j ∈ vs) ∧ Like ρ1 ρ3 ρ1 ∧ EvB K tt ρ3 (b x) ρ3 ∧ (b x = true → EvX K te ρ3 (f x) ρ3)) : EvN K (tLc wi g tt te vs) ρ ((xs.filter b).map f) ρ1 := by
  refine lc_go xs emb (fun i ρ2 acc => i ≤ xs.length ∧ ρ2 = ρ1 ∧ acc = ((xs.take i).filter b).map f) hi hl ⟨Nat.zero_le _, rfl, rfl⟩ (fun i x ρ2 acc hx hp => ?_) (fun i ρ2 acc hp => ?_) fun ρ2 acc hp => ?_
  · obtain ⟨_, rfl, rfl⟩ := hp
    have hlt := (List.getElem?_eq_some_iff.mp hx).1
    obtain ⟨ρ3, js, h1, h2, h3, h4, h5⟩ := step x (List.mem_of_getElem? hx)
    have tk : xs.take (i + 1) = xs.take i ++ [x] := by rw [List.take_add_one, hx]; rfl
    refine ⟨ρ3, js, h1, h2, ?_⟩
    cases hb : b x with
    | true =>
      rw [hb] at h4
      exact .inl ⟨ρ3, f x, h4, h5 hb, ρ2, h3, hlt, rfl, by rw [tk, List.filter_append, List.map_append, List.filter_cons, if_pos hb]; rfl⟩
    | false =>
      rw [hb] at h4
      exact .inr ⟨h4, h3, hlt, rfl, by rw [tk, List.filter_append, List.map_append, List.filter_cons, if_neg (by rw [hb]; simp)]; simp⟩
  · obtain ⟨hle, _, rfl⟩ := hp
    rw [List.length_map]
    have := List.length_filter_le b (xs.take i)
    rw [List.length_take] at this
    omega
  · obtain ⟨_, rfl, rfl⟩ := hp
    exact ⟨rfl, by rw [List.take_length]⟩
/-- a new list of one's own, frozen at once -/
theorem x_ofN (h : EvN K te ρ ds ρ1) : EvX K te ρ (.lst ds) ρ1 := fun Fb Hb F H σ I Q q =>
  h Fb Hb F H σ I _ fun p xs F1 H1 I1 e1 f1 f2 f3 h1 h2 => by
    have ex : Evl.Ex F1 (upd F1 p (.lst xs)) := Evl.Ex.new f1
    refine q _ (upd F1 p (.lst xs)) H1 ⟨⟨I1.gw.ff.trans ex, fun a o e => ?_, I1.gw.hh, fun a g1 g2 => ?_⟩, I1.len, fun i d hi => ?_, fun i s hi => ?_, I1.apart⟩ (e1.trans ex) ⟨p, xs, rfl, upd_same, h2.mono ex⟩
    · by_cases z : a = p
      · subst z
        rw [upd_same] at e
        rw [h1, e]
      · rw [upd_ne z] at e
        exact I1.gw.fh a o e
    · rw [upd_ne (fun z => g2 (by rw [z]; exact f2))]
      exact I1.gw.no a g1 g2
    · obtain ⟨v, k1, k2⟩ := I1.val i d hi
      exact ⟨v, k1, k2.mono ex⟩
    · obtain ⟨k1, k2, k3⟩ := I1.res i s hi
      exact ⟨k1, fun a z => ⟨by rw [upd_ne (fun z2 => f3 i s hi (by rw [← z2]; exact z))]; exact (k2 a z).1, (k2 a z).2⟩, Sl.holds_mono k3 ex fun _ _ _ q => q⟩
end
end Gr
namespace Gr
open PySem L2
section
variable {K : PySem.W.Frag} {ρ ρ1 ρ2 ρ3 : Env} {ta tb te tx : TE} {d d1 d2 d3 : Dt} {ds es : List Dt} {E : De}
/-! ### promises -/
/-- a def that takes data and hands back a datum, all that stood stands -/
def spD (K : PySem.W.Frag) (R : List Dt → Dt → Prop) : Sp := fun vs H Q _ => ∃ (F : Hp) (ds : List Dt) (r : Dt), R ds r ∧ Evl.Ex F H ∧ DaAll K F vs ds ∧ ∀ v F' H', Gw F H F' H' → Da K F' v r → Q v H'
theorem x_call {R : List Dt → Dt → Prop} {X : XK} {t : TA} (h : EvL K t ρ ds ρ1) (hR : R ds d) : EvX K (tCall (spD K R) [] X t) ρ d ρ1 := fun Fb Hb F H σ I Q q =>
  h Fb Hb F H σ I _ fun vs F1 H1 I1 e1 h1 => by
    show spD K R (vs ++ []) H1 Q X
    rw [List.append_nil]
    exact ⟨F1, ds, d, hR, I1.fh, h1, fun v F2 H2 g h2 => q v F2 H2 (I1.grow g) (e1.trans g.ff) h2⟩
/-- some places of a heap let go -/
def er (H : Hp) (as : List Addr) : Hp := fun b => if b ∈ as then none else H b
theorem er_in {H : Hp} {as : List Addr} {a : Addr} (h : a ∈ as) : er H as a = none := if_pos h
theorem er_out {H : Hp} {as : List Addr} {b : Addr} (h : b ∉ as) : er H as b = H b := if_neg h
/-- a def that besides changes what its first argument is (a list, a Pecking, of the caller's own) -/
def spS (K : PySem.W.Frag) (R : Sl → List Dt → Dt → Sl → Prop) : Sp := fun vs H Q _ => ∃ (F : Hp) (v0 : V) (ws : List V) (s : Sl) (ds : List Dt) (r : Dt) (s' : Sl), vs = v0 :: ws ∧ R s ds r s' ∧ s.at_ = some v0 ∧ s'.at_ = s.at_ ∧ s'.adr = s.adr ∧
  (∀ a ∈ s.adr, F a = none) ∧ s.holds K F H ∧ Evl.Ex F H ∧ DaAll K F ws ds ∧ ∀ v F' H', Gw F (er H s.adr) F' H' → (∀ a ∈ s.adr, F' a = none) → s'.holds K F' H' → Da K F' v r → Q v H'
theorem nv_of {s : Sl} {v : V} (h : s.at_ = some v) (d : Dt) : s ≠ .val d := fun e => by
  subst e
  cases h
theorem Iv.after {Fb Hb F H F' H' : Hp} {σ : L2.St} (I : Iv K Fb Hb F H σ ρ) {i : Nat} {s s' : Sl} {v0 : V} (hi : ρ[i]? = some s) (hv : s.at_ = some v0) (ha : s'.at_ = s.at_) (hs : s'.adr = s.adr) (g : Gw F (er H s.adr) F' H') (f' : ∀ a ∈ s.adr, F' a = none) (h' : s'.holds K F' H') : Iv K Fb Hb F' H' σ (ρ.set i s') :=
  I.changed hi hs ha (nv_of (ha.trans hv)) g.ff g.fh (fun a o ne e => g.hh a o (by rw [er_out ne]; exact e)) (fun a ne h1 h2 => g.no a h1 (by rw [er_out ne]; exact h2)) f' h'
/-- .. called with what stands in a slot -/
theorem x_callS {R : Sl → List Dt → Dt → Sl → Prop} {X : XK} {t : TA} {i : Nat} {s0 s s' : Sl} {v0 : V} (h0 : ρ[i]? = some s0) (a0 : s0.at_ = some v0) (h : EvL K t ρ ds ρ1) (hi : ρ1[i]? = some s) (a1 : s.at_ = some v0) (a2 : s'.at_ = s.at_) (a3 : s'.adr = s.adr) (hR : R s ds d s') : EvX K (tCall (spS K R) [] X (tCons (tVar i) t)) ρ d (ρ1.set i s') := fun Fb Hb F H σ I Q q => by
  have g1 := (I.res i s0 h0).1 v0 a0
  refine ⟨v0, g1, h Fb Hb F H σ I _ fun vs F1 H1 I1 e1 h1 => ?_⟩
  show spS K R ((v0 :: vs) ++ []) H1 Q X
  rw [List.append_nil]
  obtain ⟨_, g2, g3⟩ := I1.res i s hi
  exact ⟨F1, v0, vs, s, ds, d, s', rfl, hR, a1, a2, a3, fun a z => (g2 a z).1, g3, I1.fh, h1, fun v F2 H2 g f' h' k => q v F2 H2 (I1.after hi a1 a2 a3 g f' h') (e1.trans g.ff) k⟩
/-- .. with a new list that is let go behind it -/
theorem x_callSN {R : Sl → List Dt → Dt → Sl → Prop} {X : XK} {xs xs' : List Dt} (h : EvN K ta ρ xs ρ1) (hR : ∀ p, R (.own p xs) [] d (.own p xs')) : EvX K (tCall (spS K R) [] X (tCons ta tNil)) ρ d ρ1 := fun Fb Hb F H σ I Q q =>
  h Fb Hb F H σ I _ fun p bs F1 H1 I1 e1 f1 f2 f3 h1 h2 => by
    show spS K R ([.ref p] ++ []) H1 Q X
    rw [List.append_nil]
    have one : ∀ {a : Addr}, a ∉ [p] → a ≠ p := fun h e => h (by rw [e]; exact List.mem_cons_self)
    refine ⟨F1, .ref p, [], .own p xs, [], d, .own p xs', rfl, hR p, rfl, rfl, rfl, fun a z => ?_, ⟨bs, h1, h2⟩, I1.fh, rfl, fun v F2 H2 g f' h' k => q v F2 H2 ⟨⟨I1.gw.ff.trans g.ff, g.fh, fun a o e => ?_, fun a k1 k2 => ?_⟩, I1.len, fun i d hi => ?_, fun i s hi => ?_, I1.apart⟩ (e1.trans g.ff) k⟩
    · have e : a = p := by simpa [Sl.adr] using z
      exact e ▸ f1
    · have ne : a ∉ [p] := fun z => by
        have z : a = p := by simpa using z
        rw [z, f2] at e; cases e
      exact g.hh a o ((er_out ne).trans (I1.gw.hh a o e))
    · have ne : a ∉ [p] := fun z => k2 (by
        have z : a = p := by simpa using z
        rw [z]; exact f2)
      refine g.no a (I1.gw.no a k1 k2) ?_
      show er H1 [p] a ≠ none
      rw [er_out ne]
      cases q2 : Hb a with
      | none => exact absurd q2 k2
      | some o => rw [I1.gw.hh a o q2]; simp
    · obtain ⟨u, k1, k2⟩ := I1.val i d hi
      exact ⟨u, k1, k2.mono g.ff⟩
    · obtain ⟨k1, k2, k3⟩ := I1.res i s hi
      have ne : ∀ a ∈ s.adr, a ∉ [p] := fun a z z2 => f3 i s hi (by
        have z2 : a = p := by simpa using z2
        rw [← z2]; exact z)
      refine ⟨k1, fun a z => ⟨?_, (k2 a z).2⟩, Sl.holds_mono k3 g.ff fun a z o w => g.hh a o ((er_out (ne a z)).trans w)⟩
      obtain ⟨o, ho⟩ := Sl.holds_there k3 a z
      exact g.no a (k2 a z).1 (by show er H1 [p] a ≠ none; rw [er_out (ne a z), ho]; simp)
/-! a Pecking of one's own -/
section
variable {x C dx l : Addr} {here : Dt} {row : List Dt} {i : Nat}
theorem x_fldH (h : ρ[i]? = some (.pk x C dx l here row)) (hc : Cls K C) (hn : NoAttr K C "here") : EvX K (tFld K (tVar i) "here") ρ here ρ := fun Fb Hb F H σ I Q q => by
  obtain ⟨g1, g2, vh, xs, g3, g4, g5, g6⟩ := I.res i _ h
  exact ⟨_, g1 _ rfl, x, C, dx, _, vh, rfl, g3, hc, hn, rfl, q vh F H I (Evl.Ex.refl _) g5⟩
theorem s_fldH {te : TE} {d : Dt} (h : EvX K te ρ d ρ) (hi : ρ[i]? = some (.pk x C dx l here row)) (hc : Cls K C) (hn : NoAttr K C "here") (q : E.nx (ρ.set i (.pk x C dx l d row))) : EvS K (sFld K (tVar i) te "here") E ρ := fun Fb Hb F H σ I D n1 _ _ _ =>
  h Fb Hb F H σ I _ fun v F1 H1 I1 e1 k1 => by
    obtain ⟨g1, g2, vh, xs, g3, g4, g5, g6⟩ := I1.res i _ hi
    have hne : l ≠ x := fun z => by rw [z, g3] at g4; cases g4
    refine ⟨_, g1 _ rfl, x, C, dx, _, rfl, g3, hc, hn, by show 2 < 1000; decide, n1 _ F1 _ σ q ?_ e1⟩
    have fx : F1 x = none := (g2 x List.mem_cons_self).1
    refine I1.changed hi rfl rfl (fun _ z => by cases z) (Evl.Ex.refl _) (fun a o e => ?_) (fun a o ne e => ?_) (fun _ _ z _ => z) (fun a z => (g2 a z).1) ⟨v, xs, ?_, ?_, k1, g6⟩
    · rw [upd_ne (fun z => by rw [z, fx] at e; cases e)]
      exact I1.gw.fh a o e
    · rw [upd_ne (fun z => ne (by rw [z]; exact List.mem_cons_self))]
      exact e
    · rw [upd_same]
      rfl
    · rw [upd_ne hne]
      exact g4
theorem s_appR {te : TE} {d : Dt} (hi : ρ[i]? = some (.pk x C dx l here row)) (hc : Cls K C) (hn : NoAttr K C "so_far") (h : EvX K te ρ d ρ) (hl : row.length < 100000) (q : E.nx (ρ.set i (.pk x C dx l here (row ++ [d])))) : EvS K (tDrop (tBM K "list" rAppend (tFld K (tVar i) "so_far") (tCons te tNil))) E ρ := fun Fb Hb F H σ I D n1 _ _ _ => by
  obtain ⟨g1, g2, vh, xs, g3, g4, g5, g6⟩ := I.res i _ hi
  refine ⟨_, g1 _ rfl, x, C, dx, _, .ref l, rfl, g3, hc, hn, rfl, .inl ⟨rfl, xs, Evl.sq_of g4⟩, h Fb Hb F H σ I _ fun v F1 H1 I1 e1 k1 => ?_⟩
  obtain ⟨k2, k3, vh', ys, k4, k5, k6, k7⟩ := I1.res i _ hi
  have hne : x ≠ l := fun z => by rw [z, k5] at k4; cases k4
  have fl : F1 l = none := (k3 l (List.mem_cons_of_mem _ List.mem_cons_self)).1
  refine ⟨l, ys, v, rfl, rfl, k5, Evl.sz_lt (by rw [k7.len]; exact hl), n1 _ F1 _ σ q ?_ e1⟩
  refine I1.changed hi rfl rfl (fun _ z => by cases z) (Evl.Ex.refl _) (fun a o e => ?_) (fun a o ne e => ?_) (fun _ _ z _ => z) (fun a z => (k3 a z).1) ⟨vh', ys ++ [v], ?_, upd_same, k6, k7.append (.cons k1 .nil)⟩
  · rw [upd_ne (fun z => by rw [z, fl] at e; cases e)]
    exact I1.gw.fh a o e
  · rw [upd_ne (fun z => ne (by rw [z]; exact List.mem_cons_of_mem _ List.mem_cons_self))]
    exact e
  · rw [upd_ne hne]
    exact k4
theorem x_methS {R : Sl → List Dt → Dt → Sl → Prop} {X : XK} {t : TA} {m : Str} {s' : Sl} (h0 : ρ[i]? = some (.pk x C dx l here row)) (hm : ([("here", V.non), ("so_far", V.non)] : List (Str × V)).lookup m = none) (h : EvL K t ρ ds ρ) (a2 : s'.at_ = some (.ref x)) (a3 : s'.adr = [x, l]) (hR : R (.pk x C dx l here row) ds d s') : EvX K (tMeth C m (spS K R) [] X (tVar i) t) ρ d (ρ.set i s') := fun Fb Hb F H σ I Q q => by
  obtain ⟨g1, g2, vh, xs, g3, g4, g5, g6⟩ := I.res i _ h0
  refine ⟨_, g1 _ rfl, x, dx, _, rfl, g3, ?_, h Fb Hb F H σ I _ fun vs F1 H1 I1 e1 h1 => ?_⟩
  · rw [List.lookup_cons] at hm ⊢
    by_cases z : m == "here"
    · rw [z] at hm; cases hm
    · have z : (m == "here") = false := by simpa using z
      rw [z] at hm ⊢
      rw [List.lookup_cons] at hm ⊢
      by_cases z : m == "so_far"
      · rw [z] at hm; cases hm
      · have z : (m == "so_far") = false := by simpa using z
        rw [z]
        rfl
  · show spS K R (.ref x :: (vs ++ [])) H1 Q X
    rw [List.append_nil]
    obtain ⟨_, k2, k3⟩ := I1.res i _ h0
    exact ⟨F1, .ref x, vs, _, ds, d, s', rfl, hR, rfl, a2, a3, fun a z => (k2 a z).1, k3, I1.fh, h1, fun v F2 H2 g f' h' k => q v F2 H2 (I1.after h0 rfl a2 a3 g f' h') (e1.trans g.ff) k⟩
end
/-! objects that stay as they were made -/
theorem zip_lookup {ns : List Str} : ∀ {vs : List V} {ds : List Dt} {F : Hp} {f : Str}, DaAll K F vs ds → vs.length = ns.length → (ns.zip ds).lookup f = some d → ∃ v, (ns.zip vs).lookup f = some v ∧ Da K F v d := by
  induction ns with
  | nil => intro vs ds F f h hl e; simp at e
  | cons n ns ih =>
    intro vs ds F f h hl e
    cases ds with
    | nil => simp at e
    | cons d' ds =>
      obtain ⟨v, r, rfl, h1, h2⟩ := h
      rw [List.zip_cons_cons, List.lookup_cons] at e ⊢
      by_cases q : f == n
      · rw [q] at e ⊢
        cases e
        exact ⟨v, rfl, h1⟩
      · have q' : (f == n) = false := by simpa using q
        rw [q'] at e ⊢
        exact ih h2 (by simpa using hl) e
theorem x_fld {C : Addr} {ns : List Str} {f : Str} (h : EvX K ta ρ (.ins C ns ds) ρ1) (hf : (ns.zip ds).lookup f = some d) (hc : Cls K C) (hn : NoAttr K C f) : EvX K (tFld K ta f) ρ d ρ1 := fun Fb Hb F H σ I Q q =>
  h Fb Hb F H σ I _ fun v F1 H1 I1 e1 h1 => by
    obtain ⟨a, dx, xs, rfl, h2, h3, h4⟩ := h1
    obtain ⟨u, h5, h6⟩ := zip_lookup h4 h3 hf
    exact ⟨a, C, dx, _, u, rfl, I1.fh a _ h2, hc, hn, h5, q u F1 H1 I1 e1 h6⟩
theorem lookup_none {ns : List Str} {m : Str} : ∀ {xs : List V}, ns.contains m = false → (ns.zip xs).lookup m = none := by
  induction ns with
  | nil => intro xs _; simp
  | cons n ns ih =>
    intro xs h
    cases xs with
    | nil => simp
    | cons x xs =>
      rw [List.contains_cons, Bool.or_eq_false_iff] at h
      rw [List.zip_cons_cons, List.lookup_cons, h.1]
      exact ih h.2
theorem x_meth {C : Addr} {ns : List Str} {m : Str} {R : List Dt → Dt → Prop} {X : XK} {t : TA} (h : EvX K ta ρ (.ins C ns ds) ρ1) (hm : ns.contains m = false) (ht : EvL K t ρ1 es ρ2) (hR : R (.ins C ns ds :: es) d) : EvX K (tMeth C m (spD K R) [] X ta t) ρ d ρ2 := fun Fb Hb F H σ I Q q =>
  h Fb Hb F H σ I _ fun v F1 H1 I1 e1 h1 => by
    have h1' := h1
    obtain ⟨a, dx, xs, rfl, h2, h3, h4⟩ := h1
    refine ⟨a, dx, _, rfl, I1.fh a _ h2, lookup_none hm, ht Fb Hb F1 H1 σ I1 _ fun vs F2 H2 I2 e2 k2 => ?_⟩
    show spD K R (.ref a :: (vs ++ [])) H2 Q X
    rw [List.append_nil]
    exact ⟨F2, _, d, hR, I2.fh, .cons (h1'.mono e2) k2, fun v F3 H3 g h5 => q v F3 H3 (I2.grow g) ((e1.trans e2).trans g.ff) h5⟩
/-! ### a def's body -/
def envOf (N : List Str) (ds : List Dt) : Env := ds.map .val ++ List.replicate (N.length - ds.length) .no
theorem env_val {N : List Str} {i : Nat} {s : Sl} (hi : (envOf N ds)[i]? = some s) : s.adr = [] ∧ s.at_ = none ∧ (∀ (K : PySem.W.Frag) F H, s.holds K F H) ∧ ∀ d, s = .val d → ds[i]? = some d := by
  unfold envOf at hi
  by_cases hl : i < ds.length
  · rw [List.getElem?_append_left (by simpa using hl), List.getElem?_map] at hi
    cases q : ds[i]? with
    | none => rw [q] at hi; cases hi
    | some d' =>
      rw [q] at hi
      cases hi
      exact ⟨rfl, rfl, fun _ _ _ => trivial, fun d e => by cases e; rfl⟩
  · rw [List.getElem?_append_right (by simpa using hl), List.getElem?_replicate] at hi
    split at hi
    · cases hi
      exact ⟨rfl, rfl, fun _ _ _ => trivial, fun d e => by cases e⟩
    · cases hi
theorem iv_start {F H : Hp} {N : List Str} {vs : List V} (e : Evl.Ex F H) (h : DaAll K F vs ds) : Iv K F H F H (L2.start N vs) (envOf N ds) where
  gw := Gw.refl e
  len := by simp [L2.start, envOf, h.len]
  val := fun i d hi => by
    have hd := (env_val hi).2.2.2 d rfl
    obtain ⟨v, h1, h2⟩ := h.get hd
    refine ⟨v, ?_, h2⟩
    have hl := (List.getElem?_eq_some_iff.mp h1).1
    unfold L2.start
    rw [List.getElem?_append_left (by simpa using hl), List.getElem?_map, h1]
    rfl
  res := fun i s hi => by
    obtain ⟨h1, h2, h3, _⟩ := env_val hi
    exact ⟨fun v z => (by rw [h2] at z; cases z), fun a z => (by rw [h1] at z; cases z), h3 K F H⟩
  apart := fun i j s t ne hi hj => by
    rw [(env_val hi).1]
    exact fun a z => by cases z
/-- the body's reading keeps the promise -/
theorem body_D {R : List Dt → Dt → Prop} {ts : TS} {N : List Str} (hb : ∀ ds r, R ds r → EvS K ts { nx := fun _ => r = .non, rt := fun d _ => d = r } (envOf N ds)) {vs : List V} {H : Hp} {Q : VK} {X : XK} (h : spD K R vs H Q X) : ts { nx := fun _ H' => Q .non H', rt := Q } (L2.start N vs) H := by
  obtain ⟨F, ds, r, hR, e, hd, q⟩ := h
  refine hb ds r hR F H F H _ (iv_start e hd) _ (fun ρ' F' H' σ' hn I' e' => ?_) (fun d ρ' v F' H' σ' hr I' e' hv => ?_) (fun _ _ _ _ x => x.elim) (fun _ _ _ _ x => x.elim)
  · exact q .non F' H' I'.gw (by rw [hn]; rfl)
  · rw [hr] at hv
    exact q v F' H' I'.gw hv
theorem len_D {R : List Dt → Dt → Prop} {n : Nat} (hn : ∀ ds r, R ds r → ds.length = n) {vs : List V} {H : Hp} {Q : VK} {X : XK} (h : spD K R vs H Q X) : vs.length = n := by
  obtain ⟨F, ds, r, hR, e, hd, q⟩ := h
  rw [hd.len]
  exact hn ds r hR
theorem len_S {R : Sl → List Dt → Dt → Sl → Prop} {n : Nat} (hn : ∀ s ds r s', R s ds r s' → ds.length = n) {vs : List V} {H : Hp} {Q : VK} {X : XK} (h : spS K R vs H Q X) : vs.length = n + 1 := by
  obtain ⟨F, v0, ws, s, ds, r, s', rfl, hR, _, _, _, _, _, e, hd, q⟩ := h
  rw [List.length_cons, hd.len, hn s ds r s' hR]
/-- .. with what is the caller's own as the first argument -/
theorem body_S {R : Sl → List Dt → Dt → Sl → Prop} {ts : TS} {n0 : Str} {N : List Str} (hb : ∀ s ds r s', R s ds r s' → EvS K ts { nx := fun ρ => r = .non ∧ ∃ i : Nat, ρ[i]? = some s', rt := fun d ρ => d = r ∧ ∃ i : Nat, ρ[i]? = some s' } (s :: envOf N ds)) {vs : List V} {H : Hp} {Q : VK} {X : XK} (h : spS K R vs H Q X) : ts { nx := fun _ H' => Q .non H', rt := Q } (L2.start (n0 :: N) vs) H := by
  obtain ⟨F, v0, ws, s, ds, r, s', rfl, hR, a1, a2, a3, fs, hs, e, hd, q⟩ := h
  have ee : Evl.Ex F (er H s.adr) := fun a o h => by
    rw [er_out (fun z => by rw [fs a z] at h; cases h)]
    exact e a o h
  have es : Evl.Ex (er H s.adr) H := fun a o h => by
    by_cases z : a ∈ s.adr
    · rw [er_in z] at h; cases h
    · rw [er_out z] at h; exact h
  have I0 := iv_start (N := N) e hd
  have st : L2.start (n0 :: N) (v0 :: ws) = some v0 :: L2.start N ws := by
    unfold L2.start
    simp
  rw [st]
  have J : Iv K F (er H s.adr) F H (some v0 :: L2.start N ws) (s :: envOf N ds) := by
    refine ⟨⟨Evl.Ex.refl _, e, es, fun _ h _ => h⟩, congrArg (· + 1) I0.len, fun i d hi => ?_, fun i t hi => ?_, fun i j t u ne hi hj => ?_⟩
    · cases i with
      | zero =>
        have z : s = .val d := by simpa using hi
        exact absurd z (nv_of a1 d)
      | succ i => exact I0.val i d (by simpa using hi)
    · cases i with
      | zero =>
        have z : s = t := by simpa using hi
        subst z
        exact ⟨fun v w => by rw [a1] at w; cases w; rfl, fun a w => ⟨fs a w, er_in w⟩, hs⟩
      | succ i =>
        obtain ⟨h1, h2, h3, _⟩ := env_val (N := N) (ds := ds) (i := i) (s := t) (by simpa using hi)
        exact ⟨fun v z => (by rw [h2] at z; cases z), fun a z => (by rw [h1] at z; cases z), h3 K F H⟩
    · cases i with
      | zero =>
        cases j with
        | zero => exact absurd rfl ne
        | succ j =>
          rw [(env_val (N := N) (ds := ds) (i := j) (s := u) (by simpa using hj)).1]
          exact fun a _ z => by cases z
      | succ i =>
        rw [(env_val (N := N) (ds := ds) (i := i) (s := t) (by simpa using hi)).1]
        exact fun a z => by cases z
  have fin : ∀ {ρ' : Env} {v : V} {F' H' : Hp} {σ' : L2.St}, (∃ i : Nat, ρ'[i]? = some s') → Iv K F (er H s.adr) F' H' σ' ρ' → Da K F' v r → Q v H' := fun {ρ' v F' H' σ'} hi I' hv => by
    obtain ⟨i, hi⟩ := hi
    obtain ⟨_, h2, h3⟩ := I'.res i s' hi
    exact q v F' H' I'.gw (fun a z => (h2 a (by rw [a3]; exact z)).1) h3 hv
  refine hb s ds r s' hR F (er H s.adr) F H _ J _ (fun ρ' F' H' σ' hn I' e' => ?_) (fun d ρ' v F' H' σ' hr I' e' hv => ?_) (fun _ _ _ _ x => x.elim) (fun _ _ _ _ x => x.elim)
  · exact fin hn.2 I' (by rw [hn.1]; rfl)
  · rw [hr.1] at hv
    exact fin hr.2 I' hv
end
end Gr
/-! t[::-1] of a tuple -/
namespace Gr
open PySem PySem.Spec PyProof.Rows L2
section
variable {prog : Program} {w : World} {A : Around} {E : Value → Shared → Prop} {s : Shared}
theorem adjust_back (n : Nat) : Builtin.Slice.sliceAdjust none none (-1) (n : Int) = ((n : Int) - 1, -1) := by
  unfold Builtin.Slice.sliceAdjust
  have h1 : ((-1 : Int) < 0) := by decide
  simp only [h1, if_true]
theorem places_back (n : Nat) : Builtin.Slice.slicePlaces ((n : Int) - 1) (-1) (-1) = n := by
  unfold Builtin.Slice.slicePlaces
  have h1 : ¬ ((-1 : Int) > 0) := by decide
  have h2 : (-(-1 : Int)) = 1 := by decide
  simp only [h1, if_false, h2, Int.ediv_one]
  split <;> omega
theorem fm_some {α β : Type} {f : α → Option β} {g : α → β} : ∀ {l : List α}, (∀ m ∈ l, f m = some (g m)) → l.filterMap f = l.map g
  | [], _ => rfl
  | a :: l, h => by
    rw [List.filterMap_cons, h a List.mem_cons_self, List.map_cons]
    simp only
    rw [fm_some fun m hm => h m (List.mem_cons_of_mem _ hm)]
theorem pick_back (xs : Array Value) : ((List.range xs.size).filterMap fun (m : Nat) => xs[(((xs.size : Int) - 1) + (m : Int) * (-1)).toNat]?) = xs.toList.reverse := by
  apply List.ext_getElem?
  intro i
  have e : ∀ m ∈ List.range xs.size, xs[(((xs.size : Int) - 1) + (m : Int) * (-1)).toNat]? = some (xs.toList.reverse.getD m Value.none) := by
    intro m hm
    have hm := List.mem_range.mp hm
    have : (((xs.size : Int) - 1) + (m : Int) * (-1)).toNat = xs.size - 1 - m := by omega
    rw [this, List.getD_eq_getElem?_getD, List.getElem?_reverse (by simpa using hm)]
    have hlt : xs.size - 1 - m < xs.size := by omega
    simp [hlt]
  rw [fm_some e, List.getElem?_map]
  by_cases hi : i < xs.size
  · have : i < xs.toList.reverse.length := by simpa using hi
    rw [List.getElem?_range hi, List.getElem?_eq_getElem this]
    show some (xs.toList.reverse.getD i Value.none) = _
    rw [List.getD_eq_getElem?_getD, List.getElem?_eq_getElem this]
    rfl
  · rw [List.getElem?_eq_none (by simpa using hi), List.getElem?_eq_none (by simpa using hi)]
    rfl
theorem applied_back {sl : Addr} {vs : Value} {n : Nat} {Q : Int × Int × Nat → Shared → Prop} (hs : s.heap.IsSliceOf sl .none .none vs) (ps : IsPart vs (some (-1))) (h : Q ((n : Int) - 1, -1, n) s) :
    wpAny (model prog w) A (Builtin.Slice.sliceApplied (.ref sl) (pure (n : Int))) Q E s := by
  obtain ⟨os, hos, hcs, hds⟩ := id hs
  unfold Builtin.Slice.sliceApplied Builtin.Slice.sliceFields
  refine wpAny_bind (wpAny_bind (wpAny_field hos hds (x := .none) rfl (wpAny_bind (wpAny_field hos hds (x := .none) rfl (wpAny_bind (wpAny_field hos hds (x := vs) rfl (wpAny_pure ?_)))))))
  refine wpAny_bind (HT.slicePart_ ps ?_)
  show wpAny _ _ (if ((-1 : Int) == 0) = true then _ else _) _ _ s
  rw [if_neg (by decide)]
  refine wpAny_bind (HT.slicePart_ .none (wpAny_bind (HT.slicePart_ .none (wpAny_bind (wpAny_pure ?_)))))
  show wpAny _ _ (match Builtin.Slice.sliceAdjust none none (-1) (n : Int) with | (lo, hi) => pure (lo, (-1 : Int), Builtin.Slice.slicePlaces lo hi (-1))) _ _ s
  rw [adjust_back n]
  show wpAny _ _ (pure ((n : Int) - 1, (-1 : Int), Builtin.Slice.slicePlaces ((n : Int) - 1) (-1) (-1))) _ _ s
  rw [places_back]
  exact wpAny_pure h
theorem item_back {t sl : Addr} {items : Array Value} {vs : Value} {Q : Value → Shared → Prop} (ht : IsTup s.heap t items) (hs : s.heap.IsSliceOf sl .none .none vs) (ps : IsPart vs (some (-1)))
    (h : Q (.ref s.heap.objs.size) { s with heap := s.heap.push { cls := .type "tuple", data := .seq items.toList.reverse.toArray } }) (hsz : items.size ≤ sizeLine) : wpAny (model prog w) A (getItem (.ref t) (.ref sl)) Q E s := by
  have hok : sizeOk (.seq items.toList.reverse.toArray) := by
    show items.toList.reverse.toArray.size ≤ sizeLine
    simpa using hsz
  obtain ⟨os, hos, hcs, hds⟩ := id hs
  have hT : s.TypeIs (.ref sl) "slice" := ⟨os, hos, hcs⟩
  unfold getItem
  try with_reducible refine wpAny_holding ?_
  first | refine wpAny_bind (wpAny_pure ?_) | skip
  refine wpAny_bind (wpAny_sequenceKey ht.typeIs (by decide) (wpAny_bind (wpAny_callSpecial?_slot (name := Str.ofString "__getitem__") ht.typeIs PyProof.Rows.slot_tuple_getitem
    (wpAny_call_entry PyProof.Rows.slot_tuple_getitem ht.typeIs entry_tuple_getitem ?_ (args_tuple_getitem _ _)))))
  show wpAny _ _ (Builtin.Tuple.tupleItemsOf (.ref t) >>= _) _ _ s
  refine wpAny_bind (tupleItemsOf_ ht (wpAny_bind (wpAny_typeOf hT ?_)))
  rw [if_pos (by decide)]
  refine wpAny_bind (applied_back hs ps ?_)
  have hno : ¬ (((items.size : Int) - 1 == 0 && (-1 : Int) == 1 && items.size == items.size) = true) := by
    intro q
    rw [Bool.and_eq_true, Bool.and_eq_true] at q
    exact absurd q.1.2 (by decide)
  show wpAny _ _ (if ((items.size : Int) - 1 == 0 && (-1 : Int) == 1 && items.size == items.size) = true then _ else _) _ _ s
  rw [if_neg hno, pick_back]
  first
    | exact wpAny_bind (m := Builtin.Tuple.tupleExact _) (wpAny_newObj_type (wpAny_pure ⟨_, rfl, wpAny_pure h⟩) hok)
    | exact wpAny_bind (m := Builtin.Tuple.tupleExact _) (wpAny_newObj_type (wpAny_bind (wpAny_pure (wpAny_pure ⟨_, rfl, wpAny_pure h⟩))) hok)
    | exact wpAny_bind (wpAny_bind (m := Builtin.Tuple.tupleExact _) (wpAny_newObj_type (wpAny_pure (wpAny_pure ⟨_, rfl, wpAny_pure h⟩)) hok))
    | exact wpAny_bind (wpAny_bind (m := Builtin.Tuple.tupleExact _) (wpAny_newObj_type (wpAny_pure ⟨_, rfl, wpAny_pure h⟩) hok))
end
section
variable {X : Cx}
def tRevT (K : PySem.W.Frag) (te : TE) : TE := fun σ H Q => te σ H fun x H1 => ∃ a xs, x = .ref a ∧ SqT K H1 a xs ∧ ∀ p, H1 p = none → Q (.ref p) (upd H1 p (.tup xs.reverse))
theorem pe_revT {e : Expr} {te : TE} {k : Nat} {p1 p2 p3 pos : Pos} (he : PE X e te) : PE X (.Subscript e (.Slice none none (some (.UnaryOp .USub (.Constant (.int 1) k p1) p2)) p3) pos) (tRevT X.K te) := by
  refine ⟨fun pins s σ H Q I h => Subscript_ (thn (he.run pins s σ H _ I h) fun v s1 ⟨x, H1, I1, r1, q1⟩ => ?_)⟩
  obtain ⟨a, xs, ex, hx, q⟩ := q1
  subst ex
  cases r1
  have hst : PO X (some (.UnaryOp .USub (.Constant (.int 1) k p1) p2)) (tPart (tUn (rU fun i => .int (-i)) (tC (.int 1)))) := po_some (pe_un un_neg pe_int)
  refine wpAny_Slice (thn (po_none.run pins s1 σ H1 (fun o H2 => o = none ∧ H2 = H1) I1 ⟨rfl, rfl⟩) fun vl s2 ⟨l, H2, I2, pl, el, e2⟩ => ?_)
  subst el e2
  refine thn (po_none.run pins s2 σ H2 (fun o H3 => o = none ∧ H3 = H2) I2 ⟨rfl, rfl⟩) fun vu s3 ⟨u, H3, I3, pu, eu, e3⟩ => ?_
  subst eu e3
  refine thn (hst.run pins s3 σ H3 (fun o H4 => o = some (-1) ∧ H4 = H3) I3 ⟨1, rfl, -1, rfl, rfl, rfl⟩) fun vs s4 ⟨o, H4, I4, ps, eo, e4⟩ => ?_
  subst eo e4
  cases pl
  cases pu
  have I5 : Inv X pins σ H4 { s4 with heap := s4.heap.push { cls := .type "slice", data := .fields #[.none, .none, vs] } } := I4.kept (t' := s4.toks) fun b ob q => Heap.get?_push_of_some _ q
  obtain ⟨its, r, ht, hz⟩ := I5.tuple hx
  have hlen := r.length
  show wpAny (model X.prog X.w) X.A (subscriptTail e (.Slice none none (some (.UnaryOp .USub (.Constant (.int 1) k p1) p2)) p3) (.ref a) (.ref s4.heap.objs.size)) (EP X pins σ Q) X.xe { s4 with heap := s4.heap.push { cls := .type "slice", data := .fields #[.none, .none, vs] } }
  refine tail_any (ops := [.ref a, .ref s4.heap.objs.size]) ht.typeIs (PyProof.Rows.slot_tuple_getitem.lookup) ?_ (by with_unfolding_all rfl)
  refine item_back ht (Heap.IsSliceOf.new _ _ _ vs) ps ?_ (by rw [List.size_toArray]; omega)
  refine ⟨.ref _, _, I5.laid (t' := s4.toks) (o := .tup xs.reverse) (fun b ob q => Heap.get?_push_of_some _ q) (Nat.le_refl _) ?_, rfl, q _ (I5.hok.fresh (Nat.le_refl _))⟩
  exact ⟨by rw [List.length_reverse]; exact (by omega : xs.length ≤ sizeLine), _, r.reverse, IsTup.new _ _⟩
end
section
variable {K : PySem.W.Frag} {ρ : Env} {te : TE} {ds : List Dt}
theorem x_revT (h : EvX K te ρ (.tup ds) ρ) : EvX K (tRevT K te) ρ (.tup ds.reverse) ρ := fun Fb Hb F H σ I Q q =>
  h Fb Hb F H σ I _ fun v F1 H1 I1 e1 h1 => by
    obtain ⟨a, xs, rfl, g2, g3⟩ := h1
    exact ⟨a, xs, rfl, Evl.ex_t I1.fh g2, fun p hp => by
      have g := Gw.new (o := .tup xs.reverse) I1.fh hp
      exact q _ _ _ (I1.grow g) (e1.trans g.ff) ⟨p, _, rfl, Evl.st_of upd_same, g3.rev.mono g.ff⟩⟩
end
end Gr
/-! rules that the layer lacked; short forms -/
namespace Gr
open PySem PySem.Spec PyProof.Rows L2
section
variable {X : Cx} {pos pos' : Pos}
/-- a read of a list's place, not below 0 -/
def rIx0 (K : PySem.W.Frag) : R2 := fun x y H Q => ∃ p xs i v, x = .ref p ∧ y = .int i ∧ SqL K H p xs ∧ 0 ≤ i ∧ atI xs i = some v ∧ Q v H
theorem get_list : PGet X (rIx0 X.K) := by
  intro pins s σ H x y v u Q I rx ry h
  obtain ⟨p, xs, i, z, rfl, rfl, hq, h0, he, q⟩ := h
  cases rx
  obtain ⟨t, rfl⟩ := ry
  obtain ⟨its, r, pl, hz⟩ := I.list hq
  obtain ⟨j, h1, h2, h3, h4, h5⟩ := atI_get he
  obtain ⟨w, ew, rw'⟩ := r.get h2
  have hl := r.length
  have hj : i.toNat = j := by
    rw [seqIndex_of h0 h5] at h1
    exact Option.some.inj h1
  have hn := line63
  exact wpAny_getItem_list pl.isList h0 (by omega) (by rw [hj]; simpa using ew) ⟨z, H, I, rw', q⟩
/-- *= of ints, one side below 2^64 -/
def ipMul : TIp := fun x y H Q => ∃ i j, x = .int i ∧ y = .int j ∧ CMul i j ∧ Q (.int (i * j)) H
theorem ip_mul : PIp X .Mult ipMul := by
  intro pins s σ H x y v u Q I r1 r2 h
  obtain ⟨i, j, e1, e2, hc, q⟩ := h
  subst e1; subst e2
  obtain ⟨t, rfl⟩ := r1
  obtain ⟨t', rfl⟩ := r2
  exact imul_int ⟨.int _, H, I.tok _, ⟨_, rfl⟩, q⟩ hc.ok
/-! short forms -/
theorem ps_st (i : Nat) {x : Str} {e : Expr} {te : TE} (nd : X.N.Nodup) (he : PE X e te) (hi : X.N[i]? = some x := by rfl) (hx : Loc X.env.scope x := by first | exact Or.inl rfl | exact Or.inr rfl)
    (hs : swapsWith e (some (.Name x pos')) pos.line X.env = pure false := by rfl) (hf : X.fn x = true ∨ X.env.scope.names.lookup x = some .local := by first | exact .inl rfl | exact .inr rfl | assumption) : PS X (.Assign [.Name x pos'] e pos) (tAsg te (gName i)) := ps_set nd hi hx he hs hf
theorem pg_nm (i : Nat) {x : Str} (nd : X.N.Nodup) (hi : X.N[i]? = some x := by rfl) (hx : Loc X.env.scope x := by first | exact Or.inl rfl | exact Or.inr rfl)
    (hf : X.fn x = true ∨ X.env.scope.names.lookup x = some .local := by first | exact .inl rfl | exact .inr rfl | assumption) : PG X (.Name x pos) (gName i) := pg_name nd hi hx hf
theorem ps_ag (i : Nat) {x : Str} {e : Expr} {te : TE} {op : Operator} {ti : TIp} (nd : X.N.Nodup) (he : PE X e te) (ho : PIp X op ti) (hi : X.N[i]? = some x := by rfl) (hx : Loc X.env.scope x := by first | exact Or.inl rfl | exact Or.inr rfl)
    (hf : X.fn x = true ∨ X.env.scope.names.lookup x = some .local := by first | exact .inl rfl | exact .inr rfl | assumption) : PS X (.AugAssign (.Name x pos') op e pos) (tAug i te ti) := ps_aug nd hi hx he ho hf
/-! a def called with keywords -/
def catV (vs zs : List V) : List V := vs ++ zs
structure CalN (P : Program) (w : World) (K : PySem.W.Frag) (mg : Str → Option Value) (base : Heap) (k : Nat) (x : Str) (n : Nat) (ks : List Str) (sp : Sp) : Prop where
  ex : ∃ (f : Addr) (fd : FuncData) (ps : List Str) (g : List Value → List Value → List Value), FnOk P w K mg base C8.CX0 k f fd ps sp ∧ mg x = some (.ref f) ∧ PySem.W.keepIn K (.ref f) = true ∧ KBn K fd ps n ks g catV
theorem pe_cN {k j n : Nat} {x : Str} {sp : Sp} {p : Pos} {e : Expr} {es : List Expr} {kws : List Keyword} {ks : List Str} {t tk : TA} (c : CalN X.prog X.w X.K X.mg X.base k x n ks sp) (hr : Room j X.A) (hk : k ≤ j) (hg : Gl X x) (ha : PA X (e :: es) t) (hkw : PK X kws tk)
    (hall : (backToKw pos (keywordEach kws X.env)).all (·.1.isSome) = true := by rfl) (hks : (backToKw pos (keywordEach kws X.env)).filterMap (·.1) = ks := by rfl)
    (hdb : (x == ("__debug__" : Str)) = false := by decide) (he : starEach (e :: es) X.env = (false, eval e X.env) :: starEach es X.env := by rfl)
    (hpl : ((backTo pos (starEach (e :: es) X.env)).any (·.1) || (backToKw pos (keywordEach kws X.env)).any (·.1.isNone)) = false := by rfl) : PE X (.Call (.Name x p) (e :: es) kws pos) (tCallN n ks.length sp catV C8.E0 t tk) := by
  obtain ⟨f, fd, ps, g, F, hm, kp, b⟩ := c.ex
  exact pe_callN F (hr.mono hk) hg hm kp b C8.pass0 ha hkw hall hks hdb he hpl
end
section
variable {K : PySem.W.Frag} {ρ ρ1 ρ2 : Env} {ds es : List Dt} {d : Dt} {E : De} {te ti : TE}
theorem x_callN {R : List Dt → Dt → Prop} {Y : XK} {t tk : TA} {n m : Nat} (h : EvL K t ρ ds ρ1) (hk : EvL K tk ρ1 es ρ2) (hn : ds.length = n) (hm : es.length = m) (hR : R (ds ++ es) d) : EvX K (tCallN n m (spD K R) catV Y t tk) ρ d ρ2 := fun Fb Hb F H σ I Q q =>
  h Fb Hb F H σ I _ fun vs F1 H1 I1 e1 h1 => hk Fb Hb F1 H1 σ I1 _ fun zs F2 H2 I2 e2 h2 => ⟨h1.len.trans hn, h2.len.trans hm, F2, _, d, hR, I2.fh, (h1.mono e2).append h2, fun v F3 H3 g h3 => q v F3 H3 (I2.grow g) ((e1.trans e2).trans g.ff) h3⟩
/-- xs[i] -= e, of ints -/
theorem s_augL {i j : Nat} {a : Addr} {f : Int → Int → Int} {x y : Int} (hi : ρ[i]? = some (.own a ds)) (hj : EvX K ti ρ (.int (j : Int)) ρ) (hx : ds[j]? = some (.int x)) (hv : EvX K te ρ (.int y) ρ) (q : E.nx (ρ.set i (.own a (ds.set j (.int (f x y)))))) : EvS K (tAugS (tVar i) ti te (rIx0 K) (ipI f) rSetL) E ρ := fun Fb Hb F H σ I D n1 _ _ _ => by
  obtain ⟨g1, _⟩ := I.own i a _ hi
  refine ⟨_, g1, hj Fb Hb F H σ I _ fun u F1 H1 I1 e1 k1 => ?_⟩
  obtain ⟨_, _, _, xs, g2, g3⟩ := I1.own i a _ hi
  obtain ⟨v, k2, k3⟩ := g3.get hx
  have hl : j < xs.length := (List.getElem?_eq_some_iff.mp k2).1
  refine ⟨a, xs, j, v, rfl, k1, Evl.sq_of g2, by omega, atI_n k2, hv Fb Hb F1 H1 σ I1 _ fun w F2 H2 I2 e2 k4 => ?_⟩
  obtain ⟨_, _, _, ys, g4, g5⟩ := I2.own i a _ hi
  have hl2 : j < ys.length := by rw [g5.len, ← g3.len]; exact hl
  exact ⟨x, y, k3, k4, a, ys, j, j, rfl, k1, g4, Evl.ixN_nat hl2, n1 _ F2 _ σ q (I2.write hi (g5.set j (show Da K F2 (.int (f x y)) (.int (f x y)) from rfl))) (e1.trans e2)⟩
theorem s_augMul {i : Nat} {a b : Int} (hx : ρ[i]? = some (.val (.int a))) (h : EvX K te ρ (.int b) ρ1) (hc : CMul a b) (q : E.nx (ρ1.set i (.val (.int (a * b))))) : EvS K (tAug i te ipMul) E ρ := fun Fb Hb F H σ I D n1 _ _ _ => by
  obtain ⟨v, h1, h2⟩ := I.val i _ hx
  exact ⟨v, h1, h Fb Hb F H σ I _ fun u F1 H1 I1 e1 h3 => ⟨a, b, h2, h3, hc, n1 _ F1 H1 _ q (I1.setVal (show Da K F1 (.int (a * b)) (.int (a * b)) from rfl)) e1⟩⟩
end
end Gr
/-! name = {..: .. for ..} on one line; enumerate over a tuple -/
namespace Gr
open PySem PySem.Spec PyProof.Rows L2
section
variable {X : Cx}
theorem ps_setDc {i : Nat} {y : Str} {py : Pos} {kx vx tg iter : Expr} {ifs : List Expr} {scope : Scope} {own : List (Str × Nat)} {pos spos : Pos} {wi : TI} {g : TG} {tt : TT} {tk tv : TE} (hc : X.calm = true) (hN : X.N.Nodup) (hy : X.N[i]? = some y) (hyl : X.env.scope.names.lookup y = some .local)
    (hsw : swapsWith (.DictComp kx vx [⟨tg, iter, ifs, 0⟩] scope pos) (some (.Name y py)) spos.line X.env = pure true) (hi : PI X tg iter wi) (ok : BlkOk X.N X.env.scope scope own)
    (hg : ∀ (s : Shared) (H : Hp) (C : Addr) (cl : List (Str × Addr)) (fp : List Addr), PG (X.blk s H scope (compEnvC scope cl C X.env) fp) tg g) (ht : ∀ (s : Shared) (H : Hp) (C : Addr) (cl : List (Str × Addr)) (fp : List Addr), PTs (X.blk s H scope (compEnvC scope cl C X.env) fp) ifs tt)
    (hk : ∀ (s : Shared) (H : Hp) (C : Addr) (cl : List (Str × Addr)) (fp : List Addr), PE (X.blk s H scope (compEnvC scope cl C X.env) fp) kx tk)
    (he : ∀ (s : Shared) (H : Hp) (C : Addr) (cl : List (Str × Addr)) (fp : List Addr), PE (X.blk s H scope (compEnvC scope cl C X.env) fp) vx tv) (hs : ∀ x, foldedSetIterable iter X.env x = pure x := by intro _; rfl) :
    PS X (.Assign [.Name y py] (.DictComp kx vx [⟨tg, iter, ifs, 0⟩] scope pos) spos) (tAsg (tDc wi g tt tk tv (own.map (·.2))) (gName i)) := by
  refine ⟨fun pins s σ H D I h => ?_⟩
  rw [exec_Assign_Name_used _ _ _ _ hsw]
  refine wpAny_bind (wpAny_standAt (wpAny_bind ?_))
  show wpAny _ X.A (do let _ ← comprehension (.DictComp kx vx [⟨tg, iter, ifs, 0⟩] scope pos) scope X.env (firstIterPos [⟨tg, iter, ifs, 0⟩] pos) newDict false (eval iter X.env) (some (assign (.Name y py) X.env))) _ _ s
  have h : tDc wi g tt tk tv (own.map (·.2)) σ H (fun x H1 => gName i x σ H1 D.nx) := h
  refine wpAny_bind (thn (dc_core (Qf := fun _ s' => SP X pins D .next s') hc hN I hi ok hg ht hk he hs h fun L C s' m H' I' q hn f => ?_) fun _ s' hq => wpAny_pure (wpAny_pure hq))
  show wpAny _ _ (assign (.Name y py) X.env (.ref L)) _ _ _
  refine wpAny_assign_Name (store_ok2 (v := V.ref L) I' hN hy (.inl hyl) rfl (fun s2 I2 ⟨a, sb, ha⟩ => ?_) (.inr hyl))
  obtain ⟨f0, f1, f2, f3, f4, f5⟩ := f
  have haC : C ≠ a := by
    rcases ha with z | z
    · rw [z]; exact f1
    · exact fun e => f4 y a z e.symm
  refine ⟨m, hn.sameBut sb haC, fun h3 sb3 => ?_⟩
  exact ⟨_, H', I2.turned (t' := s2.toks) (fun b o hb e => (sb3.2 b hb).trans e) f0 f1 f3 f4 f5, q⟩
theorem sw_trueD {kx vx : Expr} {gs : List Comprehension} {scope : Scope} {pos py : Pos} {y : Str} {l : Nat} {env : PySem.Env} (hk : env.scope.kind = .function) (hy : env.scope.names.lookup y = some .local) (hl : (py.line == pos.line) = true)
    (ha : (scope.names.any fun (n, k) => n == y && (k == .local || k == .cell)) = false) : swapsWith (.DictComp kx vx gs scope pos) (some (.Name y py)) l env = pure true := by
  have ky : env.kindOf y = some .local := hy
  have hb : env.blockKind = .function := by unfold Env.blockKind; rw [hk]; rfl
  unfold swapsWith
  simp only [hb, ky, ha, Expr.pos, hl]
  rfl
end
/-! enumerate over a tuple -/
def IteT (K : PySem.W.Frag) (a : Addr) : It :=
  ⟨fun i H => ∃ (xs : List V) (x : V), SqT K H a xs ∧ xs[i]? = some x, fun i H v H' => ∃ T x, v = .ref T ∧ H T = none ∧ H' = upd H T (.tup [.int (i : Nat), x]) ∧ ∀ xs, SqT K H a xs → xs[i]? = some x, fun i H => ∃ xs : List V, SqT K H a xs ∧ xs.length ≤ i⟩
end Gr
/-! enumerate(tuple), enumerate(zip(tuple, tuple)) -/
namespace Gr
open PySem PySem.Spec PyProof.Rows L2
set_option maxHeartbeats 1000000 in
/-- enumerate(v), v's iterator told -/
theorem meets_enum1 {v : Value} {it : Addr} {hp h1 : Heap} (hi : ∀ (prog : Program) (w : World) (A : Around) (E : Value → Shared → Prop) (s : Shared) (Q : Value → Shared → Prop), s.heap = hp → Q (.ref it) { s with heap := h1 } → wpAny (model prog w) A (pyIter v) Q E s) :
    Meets (Builtin.«enumerate.__new__» ⟨[.type "enumerate", v], []⟩) (fun _ R s => s.heap = hp ∧
      R (.ok (.ret (.ref h1.objs.size))) { s with heap := h1.push { cls := .type "enumerate", data := .fields #[.none, .bool false, .ref it, rawInt 0, .none, .none] } }) :=
  .of_wp fun prog w A R s h => by
    obtain ⟨h0, g, d, tk, os⟩ := s; obtain ⟨e0, h⟩ := h
    have hsub := sub_enumerate
    have q1 : ∀ {A' : Around} {E : Value → Shared → Prop} {Q : Value → Shared → Prop}, Q (.ref it) ⟨h1, g, d, tk, os⟩ → wpAny (model prog w) A' (pyIter v) Q E ⟨h0, g, d, tk, os⟩ :=
      fun q => hi prog w _ _ ⟨h0, g, d, tk, os⟩ _ e0 q
    wp_walk using q1
    refine wpAny_stack_any fun st => wpAny_pure ?_
    split
    · rename_i c _ _ _ _ _
      cases (c == Value.type "enumerate")
      · wp_walk using q1
        exact ⟨_, rfl, h⟩
      · wp_walk using q1
        exact ⟨_, rfl, h⟩
    · wp_walk using q1
      exact ⟨_, rfl, h⟩
theorem call_enum1 {prog : Program} {w : World} {A : Around} {E : Value → Shared → Prop} {s : Shared} {v : Value} {it : Addr} {h1 : Heap} {Q : Value → Shared → Prop} (hi : ∀ (prog : Program) (w : World) (A : Around) (E : Value → Shared → Prop) (s' : Shared) (Q : Value → Shared → Prop), s'.heap = s.heap → Q (.ref it) { s' with heap := h1 } → wpAny (model prog w) A (pyIter v) Q E s')
    (hk : ∀ b o, s.heap.get? b = some o → h1.get? b = some o)
    (h : ∀ h', IsEnum h' h1.objs.size it 0 .none → (∀ b o, h1.get? b = some o → h'.get? b = some o) → Q (.ref h1.objs.size) { s with heap := h' }) :
    wpAny (model prog w) A (call (.type "enumerate") [v]) Q E s := by
  refine callType_new F.called_enumerate (by decide) (F.typeCall_enumerate_1 _) (F.newCall_enumerate_1 _) (fun obj => F.args_object_init_2 obj _) F.entry_enumerate_new
    (meets_enum1 hi) ⟨rfl, ?_⟩
  have he : IsEnum (h1.push { cls := .type "enumerate", data := .fields #[.none, .bool false, .ref it, rawInt 0, .none, .none] }) h1.objs.size it 0 .none := Heap.get?_push_size h1 rfl
  exact ⟨⟨_, he, rfl⟩, h _ he fun b o x => Heap.get?_push_of_some _ x⟩
theorem turn_enumT {P : Program} {w : World} {K : PySem.W.Frag} {elts : List Expr} {kk : Nat} {tpos : Pos} (a e it : Addr) (hai : a ≠ it) (hae : e ≠ a) :
    Turn P w K (.Tuple elts kk tpos) (IteT K a) [e, it] e (fun i h => (∃ old, IsEnum h e it ((i : Nat) : Int) old) ∧ h.IsTupleIter it a i ∧ e ≠ it) where
  mem := by simp
  obj := fun i h st b hb => by
    obtain ⟨⟨old, he⟩, ⟨o, ho, hc, hd⟩, _⟩ := st
    have e' : b = e ∨ b = it := by simpa using hb
    rcases e' with z | z
    · rw [z]; exact ⟨_, he, fun v q => nomatch q⟩
    · rw [z]; exact ⟨o, ho, fun v q => by rw [hd] at q; cases q⟩
  keep := fun i h h' st k => let ⟨⟨old, he⟩, hi, hne⟩ := st; ⟨⟨old, k e (by simp) _ he⟩, hi.at fun o q => k it (by simp) o q, hne⟩
  item := by
    intro X hP hw hK hc i pins s σ H E I hf st hg
    subst hP hw hK
    obtain ⟨⟨old, he⟩, hit, hne⟩ := st
    obtain ⟨xs, x, hq, hx⟩ := hg
    obtain ⟨its, rv, p, hz⟩ := I.tuple hq
    obtain ⟨u, hu, ru⟩ := rv.get hx
    have hel : e < s.heap.objs.size := Heap.lt_size he
    have hil : it < s.heap.objs.size := by obtain ⟨_, q, _⟩ := hit; exact Heap.lt_size q
    have hlt : i < its.toArray.size := by
      have := (List.getElem?_eq_some_iff.mp hu).1
      simpa using this
    refine wpAny_pyNext_enum_itemC (D := Draws.tuple (prog := X.prog) (w := X.w) (A := X.A.in1) (I.ok.hd hc) it a hai its.toArray) he ⟨hit, p⟩ hlt hne (by simp [hne, hae]) fun y h' tk hy ho st' hT hsz hk => ?_
    obtain rfl : u = y := by
      have : its[i]? = some y := by simpa using hy
      rw [hu] at this
      exact Option.some.inj this
    refine ⟨_, rfl, wpAny_letOwnedTupleGo_enum (s := { s with heap := h', toks := tk + 1 }) ho fun h'' he' sb => ?_⟩
    have hT2 : h''.get? s.heap.objs.size = some { cls := .type "tuple", data := .seq #[.int i tk, u] } := (sb.2 _ (Nat.ne_of_gt hel)).trans hT
    have new : ObjOk X.prog X.w (upd H s.heap.objs.size (.tup [.int (i : Nat), x])) h'' s.heap.objs.size (.tup [.int (i : Nat), x]) :=
      ⟨by show 2 ≤ sizeLine; decide, [.int i tk, u], .cons ⟨_, rfl⟩ (.cons ru .nil), ⟨_, hT2, rfl, _, rfl⟩⟩
    have I1 : Inv X pins σ (upd H s.heap.objs.size (.tup [.int (i : Nat), x])) { s with heap := h'', toks := tk + 1 } :=
      I.turnedNew (ch := [e, it]) (fun b ob hb q => (sb.2 b (fun z => hb (by simp [z]))).trans (hk b ob (fun z => hb (by simp [z])) (fun z => hb (by simp [z])) q)) hf (Nat.le_refl _) new
    refine ⟨.ref s.heap.objs.size, _, I1, rfl, ⟨_, x, rfl, I.hok.fresh (Nat.le_refl _), rfl, fun ys hy => by rw [I.tuple_inj hy hq]; exact hx⟩, ⟨⟨u, ?_⟩, st'.1.at fun o q => (sb.2 it (Ne.symm hne)).trans q, hne⟩, fun b hb => ?_⟩
    · have e1 : ((i + 1 : Nat) : Int) = (i : Int) + 1 := by omega
      rw [e1]; exact he'
    · have hb' : b < s.heap.objs.size := by
        have e' : b = e ∨ b = it := by simpa using hb
        rcases e' with z | z
        · rw [z]; exact hel
        · rw [z]; exact hil
      rw [upd_ne (Nat.ne_of_lt hb')]
      exact (hf b hb).1
  done := by
    intro X hP hw hK hc i pins s σ H E I hf st hg
    subst hP hw hK
    obtain ⟨⟨old, he⟩, hit, hne⟩ := st
    obtain ⟨xs, hq, hx⟩ := hg
    obtain ⟨its, rv, p, hz⟩ := I.tuple hq
    obtain ⟨f0, f1, f2, f3, f4, f5⟩ := hf it (by simp)
    have hl := rv.length
    have hT : s.TypeIs (.ref e) "enumerate" := ⟨_, he, rfl⟩
    have hq0 : its.toArray[i]? = none := by simp; omega
    unfold pyNext
    refine wpAny_bind (wpAny_attempt (wpAny_callSpecial?_slot (name := Str.ofString "__next__") hT F.slot_enumerate_next
      (wpAny_call_entry F.slot_enumerate_next hT F.entry_enumerate_next ?_ (F.args_enumerate_next_1 _))))
    show wpAny _ _ (field (.ref e) 2 >>= _) _ _ s
    refine wpAny_bind (wpAny_field he rfl (x := .ref it) rfl ?_)
    refine wpAny_bind (RZ.nextOf_tuple_end (I.ok.hd hc) hit p hq0 fun h' e2 hx2 ho2 => ?_)
    obtain ⟨o2, ho2, hc2⟩ := ho2
    refine wpAny_bind (wpAny_isInstance (T := "StopIteration") (b := true) ⟨o2, ho2, hc2⟩ isSubtype_stop ?_)
    exact wpAny_pure ⟨rfl, I.turned (t' := s.toks) (fun b o hb q => hx2 b o hb q) f0 f1 f3 f4 f5⟩
  self := fun A i s Q E st h => let ⟨⟨_, he⟩, _⟩ := st; wpAny_pyIter_enum he h
def iEnumT (K : PySem.W.Frag) (ta : TA) : TI := fun σ H R => ta σ H fun vs H1 => ∃ a xs, vs = [.ref a] ∧ SqT K H1 a xs ∧ R (IteT K a) H1
theorem pi_enumT {X : Cx} {e : Expr} {ta : TA} {p pos tpos : Pos} {elts : List Expr} {kk : Nat} (hg : Gl X "enumerate") (hm : X.mg "enumerate" = none) (ha : PA X [e] ta) (hs : starEach [e] X.env = [(false, eval e X.env)] := by rfl) :
    PI X (.Tuple elts kk tpos) (.Call (.Name "enumerate" p) [e] [] pos) (iEnumT X.K ta) := by
  refine ⟨fun pins s σ H R I h => ?_⟩
  refine Call_ (ld_blt I hg hm boot_enumerate (PyProof.Rows.callWith_type1 (thn (ha.run pos pins s σ H _ I h) fun us s1 ⟨vs, H1, I1, r1, q1⟩ => ?_) hs rfl))
  obtain ⟨a, xs, ex, hq, q⟩ := q1
  subst ex
  cases r1 with
  | cons r rr =>
    cases rr
    cases r
    obtain ⟨its, rv, p', hz⟩ := I1.tuple hq
    have hsz : (s1.heap.push { cls := .type "tuple_iterator", data := .fields #[.ref a, .int 0 0] }).objs.size = s1.heap.objs.size + 1 := Heap.size_push ..
    refine call_enum1 (it := s1.heap.objs.size) (h1 := s1.heap.push { cls := .type "tuple_iterator", data := .fields #[.ref a, .int 0 0] }) (fun prog w A E s' Q e0 q' => ?_) (fun b o x => Heap.get?_push_of_some _ x) fun h' he hk => wpAny_pyIter_enum he ?_
    · refine wpAny_pyIter_tuple (items := its.toArray) (by rw [e0]; exact p') ?_
      rw [e0]
      exact q'
    have hk2 : ∀ b o, s1.heap.get? b = some o → h'.get? b = some o := fun b o x => hk b o (Heap.get?_push_of_some _ x)
    have I2 : Inv X pins σ H1 { s1 with heap := h' } := I1.kept (t' := s1.toks) hk2
    have hit : h'.IsTupleIter s1.heap.objs.size a 0 := ⟨_, hk _ _ (Heap.get?_push_size _ rfl), rfl, rfl⟩
    have pl : a < s1.heap.objs.size := by obtain ⟨o, ho, _⟩ := id p'; exact Heap.lt_size ho
    rw [hsz] at he ⊢
    refine ⟨s1.heap.objs.size + 1, [s1.heap.objs.size + 1, s1.heap.objs.size], _, _, H1, rfl, I2, turn_enumT a (s1.heap.objs.size + 1) s1.heap.objs.size (Nat.ne_of_lt pl) (Nat.ne_of_gt (Nat.lt_succ_of_lt pl)), ⟨⟨.none, he⟩, hit, Nat.succ_ne_self _⟩, fun b hb => ?_, q⟩
    · have e' : b = s1.heap.objs.size + 1 ∨ b = s1.heap.objs.size := by simpa using hb
      have hle : s1.heap.objs.size ≤ b := by
        rcases e' with z | z
        · rw [z]; exact Nat.le_add_right _ _
        · rw [z]; exact Nat.le_refl _
      exact I1.fpOk hle (I1.hok.fresh hle)
end Gr
set_option maxHeartbeats 1000000
/-! enumerate(zip(tuple, tuple)) -/
namespace Gr
open PySem PySem.Spec PyProof.Rows L2
section
variable {prog : Program} {w : World} {A : Around} {E : Value → Shared → Prop} {s : Shared}
theorem wpAny_ifAlive {M : Model} {a : Addr} {Q : Option Obj → Shared → Prop} (h : Q (s.heap.get? a) s) : wpAny M A (loadIfAlive a) Q E s := fun Γ p _ => by
  show Sem.wp M Γ (.loadIfAlive a .pure) _ _ p s
  rw [Sem.wp_loadIfAlive]
  exact h
/-- a zip whose last pair may live still -/
abbrev IsZipG (h : Heap) (z TI TO : Addr) (f0 : Value) (b : Bool) : Prop :=
  h.get? z = some { cls := .type "zip", dict := none, data := .fields #[f0, .bool b, .bool false, .ref TI, .ref TO], slots := #[] }
/-- what the zip's cells stand for at turn i -/
structure ZipG (h : Heap) (z TI TO i1 i2 a b : Addr) (i : Nat) : Prop where
  z0 : ∃ f0 fb, (f0 = .none ∨ ∃ T : Addr, f0 = rawInt T) ∧ IsZipG h z TI TO f0 fb
  ti : IsPair h TI (.ref i1) (.ref i2)
  to : ∃ x y, IsPair h TO x y
  h1 : h.IsTupleIter i1 a i
  h2 : h.IsTupleIter i2 b i
theorem ZipG.keep {h h' : Heap} {z TI TO i1 i2 a b : Addr} {i : Nat} (Z : ZipG h z TI TO i1 i2 a b i) (k : ∀ c, c = z ∨ c = TI ∨ c = TO ∨ c = i1 ∨ c = i2 → ∀ o, h.get? c = some o → h'.get? c = some o) : ZipG h' z TI TO i1 i2 a b i := by
  obtain ⟨⟨f0, fb, e0, g⟩, ti, ⟨x, y, to⟩, h1, h2⟩ := Z
  exact ⟨⟨f0, fb, e0, k z (.inl rfl) _ g⟩, k TI (.inr (.inl rfl)) _ ti, ⟨x, y, k TO (.inr (.inr (.inl rfl))) _ to⟩, h1.at fun o q => k i1 (by simp) o q, h2.at fun o q => k i2 (by simp) o q⟩
theorem isFree_true {z : Addr} {o : Obj} {vs : Array Value} {f0 : Value} {Q : Bool → Shared → Prop} (ho : s.heap.get? z = some o) (hd : o.data = .fields vs) (hv : vs[0]? = some f0) (hf0 : f0 = .none ∨ ∃ T : Addr, f0 = rawInt T ∧ s.heap.get? T = none) (hQ : Q true s) :
    wpAny (model prog w) A (Builtin.SmallTypes.ownedTupleIsFree (.ref z)) Q E s := by
  unfold Builtin.SmallTypes.ownedTupleIsFree
  refine wpAny_bind (wpAny_field ho hd hv ?_)
  rcases hf0 with rfl | ⟨T, rfl, hT⟩
  · exact wpAny_pure hQ
  · show wpAny _ _ (loadIfAlive (Int.toNat (T : Int)) >>= _) _ _ s
    refine wpAny_bind (wpAny_ifAlive ?_)
    rw [show Int.toNat (T : Int) = T from rfl, hT]
    exact wpAny_pure hQ
theorem isFree_false {z TI TO T : Addr} {fb : Bool} {Q : Bool → Shared → Prop} (hz : IsZipG s.heap z TI TO (rawInt T) fb) (hT : s.heap.get? T ≠ none) (hQ : ∀ h', IsZipG h' z TI TO (rawInt T) true → Heap.SameBut z s.heap h' → Q false { s with heap := h' }) :
    wpAny (model prog w) A (Builtin.SmallTypes.ownedTupleIsFree (.ref z)) Q E s := by
  unfold Builtin.SmallTypes.ownedTupleIsFree
  refine wpAny_bind (wpAny_field hz rfl (x := rawInt T) rfl ?_)
  show wpAny _ _ (loadIfAlive (Int.toNat (T : Int)) >>= _) _ _ s
  refine wpAny_bind (wpAny_ifAlive ?_)
  rw [show Int.toNat (T : Int) = T from rfl]
  cases e : s.heap.get? T with
  | none => exact absurd e hT
  | some o =>
    show wpAny _ _ (field (.ref z) 1 >>= _) _ _ s
    refine wpAny_bind (wpAny_field hz rfl (x := .bool fb) rfl ?_)
    cases fb with
    | true => exact wpAny_pure (hQ s.heap hz ⟨rfl, fun _ _ => rfl⟩)
    | false =>
      show wpAny _ _ (setField (.ref z) 1 (.bool true) >>= _) _ _ s
      exact wpAny_bind (wpAny_setField_rec hz (by simp) fun h' hz' hs' => wpAny_pure (hQ h' hz' hs'))
theorem zipG_owned {z TI TO i1 i2 l1 l2 : Addr} {k : Nat} {xs ys : Array Value} {x y a b f0 : Value} {fb : Bool} {Q : Value → Shared → Prop} (D : ZipApart z TI TO i1 i2 l1 l2)
    (hf0 : f0 = .none ∨ ∃ T : Addr, f0 = rawInt T ∧ s.heap.get? T = none) (hz : IsZipG s.heap z TI TO f0 fb) (hTI : IsPair s.heap TI (.ref i1) (.ref i2)) (hTO : IsPair s.heap TO a b)
    (h1 : s.heap.IsTupleIter i1 l1 k) (h2 : s.heap.IsTupleIter i2 l2 k) (hl1 : s.heap.IsTuple l1 xs) (hl2 : s.heap.IsTuple l2 ys) (hx : xs[k]? = some x) (hy : ys[k]? = some y)
    (hQ : ∀ h', ZipG h' z TI TO i1 i2 l1 l2 (k + 1) → IsPair h' s.heap.objs.size x y → h'.objs.size = s.heap.objs.size + 1 →
      (∀ c o, c ≠ z → c ≠ TO → c ≠ i1 → c ≠ i2 → s.heap.get? c = some o → h'.get? c = some o) → Q (.ref s.heap.objs.size) { s with heap := h' }) :
    wpAny (model prog w) A (Builtin.«zip.__next__» ⟨[.ref z], []⟩) (fun fin s' => ∃ v, fin = .done (.ret v) ∧ Q v s') E s := by
  show wpAny _ _ (field (.ref z) 2 >>= _) _ _ _
  refine wpAny_bind (wpAny_field hz rfl (x := .bool false) rfl ?_)
  show wpAny _ _ (field (.ref z) 3 >>= _) _ _ _
  refine wpAny_bind (wpAny_field hz rfl (x := .ref TI) rfl ?_)
  refine wpAny_bind (wpAny_seqItems hTI rfl ?_)
  show wpAny _ _ (Builtin.SmallTypes.ownedTupleIsFree (.ref z) >>= _) _ _ _
  refine wpAny_bind (isFree_true hz rfl rfl hf0 ?_)
  simp only [if_true]
  refine wpAny_bind (wpAny_rule ?_)
  refine wpAny_bind (wpAny_field hz rfl (x := .ref TO) rfl ?_)
  refine wpAny_bind (wpAny_setField_rec hz (by simp) fun h₁ hz₁ hs₁ => ?_)
  replace hz₁ : IsZipG h₁ z TI TO .ellipsis fb := hz₁
  refine wpAny_bind ?_
  simp only [List.zipIdx_cons, List.zipIdx_nil, List.forIn_cons, List.forIn_nil]

  refine wpAny_bind (wpAny_bind (wpAny_onRaise ?_))
  show wpAny _ _ (Builtin.SmallTypes.nextOf (.ref i1) >>= _) _ _ _
  refine wpAny_bind (RZ.nextOf_tuple_item (h1.extBut hs₁.extBut D.i1z) (hl1.extBut hs₁.extBut D.l1z) hx fun h₂ h1₂ hs₂ => wpAny_pure ?_)
  have hTO₂ : IsPair h₂ TO a b := hs₂.extBut _ _ D.TOi1 (hs₁.extBut _ _ D.TOz hTO)
  refine wpAny_bind (wpAny_seqItems hTO₂ rfl ?_)
  refine wpAny_bind (wpAny_updateSeq_pair hTO₂ fun h₃ hTO₃ hs₃ => ?_)
  replace hTO₃ : IsPair h₃ TO x b := hTO₃
  refine wpAny_bind (wpAny_letGo (wpAny_pure ?_))

  refine wpAny_bind (wpAny_bind (wpAny_onRaise ?_))
  show wpAny _ _ (Builtin.SmallTypes.nextOf (.ref i2) >>= _) _ _ _
  refine wpAny_bind (RZ.nextOf_tuple_item (((h2.extBut hs₁.extBut D.i2z).extBut hs₂.extBut D.i12.symm).extBut hs₃.extBut D.TOi2.symm)
    (((hl2.extBut hs₁.extBut D.l2z).extBut hs₂.extBut D.l2i1).extBut hs₃.extBut D.l2TO) hy fun h₄ h2₄ hs₄ => wpAny_pure ?_)
  have hTO₄ : IsPair h₄ TO x b := hs₄.extBut _ _ D.TOi2 hTO₃
  refine wpAny_bind (wpAny_seqItems hTO₄ rfl ?_)
  refine wpAny_bind (wpAny_updateSeq_pair hTO₄ fun h₅ hTO₅ hs₅ => ?_)
  replace hTO₅ : IsPair h₅ TO x y := hTO₅
  refine wpAny_bind (wpAny_letGo (wpAny_pure (wpAny_pure ?_)))

  refine wpAny_bind (wpAny_seqItems hTO₅ rfl ?_)
  refine wpAny_bind (wpAny_newTuple ?_)
  have hsz : h₅.objs.size = s.heap.objs.size := by rw [hs₅.1, hs₄.1, hs₃.1, hs₂.1, hs₁.1]
  have hz₅ : IsZipG h₅ z TI TO .ellipsis fb := hs₅.extBut _ _ D.TOz.symm (hs₄.extBut _ _ D.i2z.symm (hs₃.extBut _ _ D.TOz.symm (hs₂.extBut _ _ D.i1z.symm hz₁)))
  have hk₅ : ∀ c o, c ≠ z → c ≠ TO → c ≠ i1 → c ≠ i2 → s.heap.get? c = some o → h₅.get? c = some o := fun c o c1 c2 c3 c4 e =>
    hs₅.extBut _ _ c2 (hs₄.extBut _ _ c4 (hs₃.extBut _ _ c2 (hs₂.extBut _ _ c3 (hs₁.extBut _ _ c1 e))))
  have h1₅ : h₅.IsTupleIter i1 l1 (k + 1) := ((h1₂.extBut hs₃.extBut D.TOi1.symm).extBut hs₄.extBut D.i12).extBut hs₅.extBut D.TOi1.symm
  have h2₅ : h₅.IsTupleIter i2 l2 (k + 1) := h2₄.extBut hs₅.extBut D.TOi2.symm
  have hzlt : z < h₅.objs.size := Heap.lt_size hz₅
  show wpAny _ _ (Builtin.SmallTypes.ownedTupleHandOut (.ref z) (.ref h₅.objs.size) >>= _) _ _ _
  refine wpAny_bind ?_
  unfold Builtin.SmallTypes.ownedTupleHandOut
  have hz₆ : IsZipG (h₅.push { cls := .type "tuple", data := .seq #[x, y] }) z TI TO .ellipsis fb := Heap.get?_push_of_some _ hz₅
  refine wpAny_bind (wpAny_setField_rec hz₆ (by simp) fun h₇ hz₇ hs₇ => ?_)
  replace hz₇ : IsZipG h₇ z TI TO (rawInt h₅.objs.size) fb := hz₇
  refine wpAny_setField_rec hz₇ (by simp) fun h₈ hz₈ hs₈ => ?_
  replace hz₈ : IsZipG h₈ z TI TO (rawInt h₅.objs.size) false := hz₈
  have up : ∀ c o, c ≠ z → h₅.get? c = some o → h₈.get? c = some o := fun c o c1 e => hs₈.extBut _ _ c1 (hs₇.extBut _ _ c1 (Heap.get?_push_of_some _ e))
  have hT₈ : IsPair h₈ h₅.objs.size x y := hs₈.extBut _ _ (Nat.ne_of_gt hzlt) (hs₇.extBut _ _ (Nat.ne_of_gt hzlt) (Heap.get?_push_size _ rfl))
  have hz8 : h₈.objs.size = h₅.objs.size + 1 := by rw [hs₈.1, hs₇.1, Heap.size_push]
  rw [hsz] at hz₈ hT₈ hz8
  refine wpAny_pure ⟨_, rfl, ?_⟩
  show Q (.ref h₅.objs.size) _
  rw [hsz]
  exact hQ h₈ ⟨⟨_, _, .inr ⟨_, rfl⟩, hz₈⟩, up _ _ D.TIz (hk₅ _ _ D.TIz D.TITO D.TIi1 D.TIi2 hTI), ⟨_, _, up _ _ D.TOz hTO₅⟩, h1₅.at fun o e => up _ o D.i1z e, h2₅.at fun o e => up _ o D.i2z e⟩ hT₈ hz8 fun c o c1 c2 c3 c4 e => up c o c1 (hk₅ c o c1 c2 c3 c4 e)
theorem zipG_plain {z TI TO i1 i2 l1 l2 T : Addr} {k : Nat} {xs ys : Array Value} {x y a b : Value} {fb : Bool} {Q : Value → Shared → Prop} (D : ZipApart z TI TO i1 i2 l1 l2)
    (hT : s.heap.get? T ≠ none) (hz : IsZipG s.heap z TI TO (rawInt T) fb) (hTI : IsPair s.heap TI (.ref i1) (.ref i2)) (hTO : IsPair s.heap TO a b)
    (h1 : s.heap.IsTupleIter i1 l1 k) (h2 : s.heap.IsTupleIter i2 l2 k) (hl1 : s.heap.IsTuple l1 xs) (hl2 : s.heap.IsTuple l2 ys) (hx : xs[k]? = some x) (hy : ys[k]? = some y)
    (hQ : ∀ h', ZipG h' z TI TO i1 i2 l1 l2 (k + 1) → IsPair h' s.heap.objs.size x y → h'.objs.size = s.heap.objs.size + 1 →
      (∀ c o, c ≠ z → c ≠ TO → c ≠ i1 → c ≠ i2 → s.heap.get? c = some o → h'.get? c = some o) → Q (.ref s.heap.objs.size) { s with heap := h' }) :
    wpAny (model prog w) A (Builtin.«zip.__next__» ⟨[.ref z], []⟩) (fun fin s' => ∃ v, fin = .done (.ret v) ∧ Q v s') E s := by
  show wpAny _ _ (field (.ref z) 2 >>= _) _ _ _
  refine wpAny_bind (wpAny_field hz rfl (x := .bool false) rfl ?_)
  show wpAny _ _ (field (.ref z) 3 >>= _) _ _ _
  refine wpAny_bind (wpAny_field hz rfl (x := .ref TI) rfl ?_)
  refine wpAny_bind (wpAny_seqItems hTI rfl ?_)
  show wpAny _ _ (Builtin.SmallTypes.ownedTupleIsFree (.ref z) >>= _) _ _ _
  refine wpAny_bind (isFree_false hz hT fun h₁ hz₁ hs₁ => ?_)
  rw [if_neg Bool.false_ne_true]
  refine wpAny_bind ?_
  rw [← Array.forIn_toList]
  simp only [List.forIn_cons, List.forIn_nil]
  refine wpAny_bind (wpAny_bind (wpAny_holding ?_))
  show wpAny _ _ (Builtin.SmallTypes.nextOf (.ref i1) >>= _) _ _ _
  refine wpAny_bind (RZ.nextOf_tuple_item (h1.extBut hs₁.extBut D.i1z) (hl1.extBut hs₁.extBut D.l1z) hx fun h₂ h1₂ hs₂ => wpAny_pure ?_)
  refine wpAny_pure ?_
  refine wpAny_bind (wpAny_bind (wpAny_holding ?_))
  show wpAny _ _ (Builtin.SmallTypes.nextOf (.ref i2) >>= _) _ _ _
  refine wpAny_bind (RZ.nextOf_tuple_item ((h2.extBut hs₁.extBut D.i2z).extBut hs₂.extBut D.i12.symm)
    ((hl2.extBut hs₁.extBut D.l2z).extBut hs₂.extBut D.l2i1) hy fun h₄ h2₄ hs₄ => wpAny_pure ?_)
  refine wpAny_pure ?_
  refine wpAny_pure ?_
  show wpAny _ _ (newTuple [x, y] >>= _) _ _ _
  refine wpAny_bind (wpAny_newTuple ?_)
  have hsz : h₄.objs.size = s.heap.objs.size := by rw [hs₄.1, hs₂.1, hs₁.1]
  have hk : ∀ c o, c ≠ z → c ≠ i1 → c ≠ i2 → s.heap.get? c = some o → (h₄.push { cls := .type "tuple", data := .seq #[x, y] }).get? c = some o := fun c o c1 c3 c4 e =>
    Heap.get?_push_of_some _ (hs₄.extBut _ _ c4 (hs₂.extBut _ _ c3 (hs₁.extBut _ _ c1 e)))
  have hP : IsPair (h₄.push { cls := .type "tuple", data := .seq #[x, y] }) h₄.objs.size x y := Heap.get?_push_size _ rfl
  have hz8 : (h₄.push { cls := .type "tuple", data := .seq #[x, y] }).objs.size = h₄.objs.size + 1 := Heap.size_push ..
  rw [hsz] at hz8 hP
  refine wpAny_pure ⟨_, rfl, ?_⟩
  show Q (.ref h₄.objs.size) _
  rw [hsz]
  exact hQ _ ⟨⟨_, _, .inr ⟨_, rfl⟩, Heap.get?_push_of_some _ (hs₄.extBut _ _ D.i2z.symm (hs₂.extBut _ _ D.i1z.symm hz₁))⟩, hk _ _ D.TIz D.TIi1 D.TIi2 hTI, ⟨_, _, hk _ _ D.TOz D.TOi1 D.TOi2 hTO⟩,
    (h1₂.extBut hs₄.extBut D.i12).at fun o e => Heap.get?_push_of_some _ e, h2₄.at fun o e => Heap.get?_push_of_some _ e⟩ hP hz8 fun c o c1 c2 c3 c4 e => hk c o c1 c3 c4 e
theorem zipG_item {z TI TO i1 i2 l1 l2 : Addr} {k : Nat} {xs ys : Array Value} {x y : Value} {Q : Value → Shared → Prop} (D : ZipApart z TI TO i1 i2 l1 l2) (Z : ZipG s.heap z TI TO i1 i2 l1 l2 k)
    (hl1 : s.heap.IsTuple l1 xs) (hl2 : s.heap.IsTuple l2 ys) (hx : xs[k]? = some x) (hy : ys[k]? = some y)
    (hQ : ∀ h', ZipG h' z TI TO i1 i2 l1 l2 (k + 1) → IsPair h' s.heap.objs.size x y → h'.objs.size = s.heap.objs.size + 1 →
      (∀ c o, c ≠ z → c ≠ TO → c ≠ i1 → c ≠ i2 → s.heap.get? c = some o → h'.get? c = some o) → Q (.ref s.heap.objs.size) { s with heap := h' }) :
    wpAny (model prog w) A (Builtin.SmallTypes.nextOf (.ref z)) Q E s := by
  obtain ⟨⟨f0, fb, e0, hz⟩, hTI, ⟨a, b, hTO⟩, h1, h2⟩ := Z
  have hT : s.TypeIs (.ref z) "zip" := ⟨_, hz, rfl⟩
  unfold Builtin.SmallTypes.nextOf
  refine wpAny_bind (wpAny_callSpecial?_slot (name := Str.ofString "__next__") hT F.slot_zip_next
    (wpAny_call_entry F.slot_zip_next hT F.entry_zip_next ?_ (F.args_zip_next_1 _)))
  rcases e0 with e0 | ⟨T, e0⟩
  · exact zipG_owned D (.inl e0) hz hTI hTO h1 h2 hl1 hl2 hx hy fun h' q1 q2 q3 q4 => wpAny_pure (hQ h' q1 q2 q3 q4)
  · by_cases hT : s.heap.get? T = none
    · exact zipG_owned D (.inr ⟨T, e0, hT⟩) hz hTI hTO h1 h2 hl1 hl2 hx hy fun h' q1 q2 q3 q4 => wpAny_pure (hQ h' q1 q2 q3 q4)
    · subst e0
      exact zipG_plain D hT hz hTI hTO h1 h2 hl1 hl2 hx hy fun h' q1 q2 q3 q4 => wpAny_pure (hQ h' q1 q2 q3 q4)
/-- the first of the two has ended -/
theorem zipG_end {z TI TO i1 i2 l1 l2 : Addr} {k : Nat} {xs : Array Value} {Q : Value → Shared → Prop} (hh : A.handled = none) (D : ZipApart z TI TO i1 i2 l1 l2) (Z : ZipG s.heap z TI TO i1 i2 l1 l2 k)
    (hl1 : s.heap.IsTuple l1 xs) (hx : xs[k]? = none)
    (hE : ∀ h' e, (∀ c o, c ≠ z → c ≠ TO → c ≠ i1 → c ≠ i2 → s.heap.get? c = some o → h'.get? c = some o) → (∃ o, h'.get? e = some o ∧ o.cls = .type "StopIteration") → E (.ref e) { s with heap := h' }) :
    wpAny (model prog w) A (Builtin.SmallTypes.nextOf (.ref z)) Q E s := by
  obtain ⟨⟨f0, fb, e0, hz⟩, hTI, ⟨a, b, hTO⟩, h1, h2⟩ := Z
  have hT : s.TypeIs (.ref z) "zip" := ⟨_, hz, rfl⟩
  unfold Builtin.SmallTypes.nextOf
  refine wpAny_bind (wpAny_callSpecial?_slot (name := Str.ofString "__next__") hT F.slot_zip_next
    (wpAny_call_entry F.slot_zip_next hT F.entry_zip_next ?_ (F.args_zip_next_1 _)))
  show wpAny _ _ (field (.ref z) 2 >>= _) _ _ _
  refine wpAny_bind (wpAny_field hz rfl (x := .bool false) rfl ?_)
  show wpAny _ _ (field (.ref z) 3 >>= _) _ _ _
  refine wpAny_bind (wpAny_field hz rfl (x := .ref TI) rfl ?_)
  refine wpAny_bind (wpAny_seqItems hTI rfl ?_)
  show wpAny _ _ (Builtin.SmallTypes.ownedTupleIsFree (.ref z) >>= _) _ _ _
  have own : (f0 = .none ∨ ∃ T : Addr, f0 = rawInt T ∧ s.heap.get? T = none) ∨ ∃ T : Addr, f0 = rawInt T ∧ s.heap.get? T ≠ none := by
    rcases e0 with e0 | ⟨T, e0⟩
    · exact .inl (.inl e0)
    · by_cases hT : s.heap.get? T = none
      · exact .inl (.inr ⟨T, e0, hT⟩)
      · exact .inr ⟨T, e0, hT⟩
  rcases own with hf0 | ⟨T, rfl, hT⟩
  · refine wpAny_bind (isFree_true hz rfl rfl hf0 ?_)
    simp only [if_true]
    refine wpAny_bind (wpAny_rule ?_)
    refine wpAny_bind (wpAny_field hz rfl (x := .ref TO) rfl ?_)
    refine wpAny_bind (wpAny_setField_rec hz (by simp) fun h₁ hz₁ hs₁ => ?_)
    replace hz₁ : IsZipG h₁ z TI TO .ellipsis fb := hz₁
    refine wpAny_bind ?_
    simp only [List.zipIdx_cons, List.zipIdx_nil, List.forIn_cons, List.forIn_nil]
    refine wpAny_bind (wpAny_bind (wpAny_onRaise ?_))
    show wpAny _ _ (Builtin.SmallTypes.nextOf (.ref i1) >>= _) _ _ _
    refine wpAny_bind (RZ.nextOf_tuple_end hh (h1.extBut hs₁.extBut D.i1z) (hl1.extBut hs₁.extBut D.l1z) hx fun h₂ e hs₂ he => ?_)
    obtain ⟨oe, hoe, hce⟩ := he
    have hz₂ : IsZipG h₂ z TI TO .ellipsis fb := hs₂ _ _ D.i1z.symm hz₁
    have hez : e ≠ z := fun x => by subst x; rw [hz₂] at hoe; cases hoe; simp at hce
    exact wpAny_setField_rec hz₂ (by simp) fun h₃ _ hs₃ => hE h₃ e (fun c o c1 _ c3 _ x => hs₃.extBut _ _ c1 (hs₂ _ _ c3 (hs₁.extBut _ _ c1 x))) ⟨oe, hs₃.extBut _ _ hez hoe, hce⟩
  · refine wpAny_bind (isFree_false hz hT fun h₁ hz₁ hs₁ => ?_)
    rw [if_neg Bool.false_ne_true]
    refine wpAny_bind ?_
    rw [← Array.forIn_toList]
    simp only [List.forIn_cons, List.forIn_nil]
    refine wpAny_bind (wpAny_bind (wpAny_holding ?_))
    show wpAny _ _ (Builtin.SmallTypes.nextOf (.ref i1) >>= _) _ _ _
    exact wpAny_bind (RZ.nextOf_tuple_end hh (h1.extBut hs₁.extBut D.i1z) (hl1.extBut hs₁.extBut D.l1z) hx fun h₂ e hs₂ he =>
      hE h₂ e (fun c o c1 _ c3 _ x => hs₂ _ _ c3 (hs₁.extBut _ _ c1 x)) he)
end
end Gr
set_option maxHeartbeats 1000000
/-! enumerate(zip(tuple, tuple)): the turn -/
namespace Gr
open PySem PySem.Spec PyProof.Rows L2
section
variable {prog : Program} {w : World} {A : Around} {E : Value → Shared → Prop} {s : Shared}
theorem enumZ_item {e z TI TO i1 i2 l1 l2 : Addr} {k : Nat} {c : Int} {xs ys : Array Value} {x y old : Value} {Q : Option Value → Shared → Prop} (D : ZipApart z TI TO i1 i2 l1 l2) (Z : ZipG s.heap z TI TO i1 i2 l1 l2 k)
    (he : IsEnum s.heap e z c old) (ne : e ≠ z ∧ e ≠ TI ∧ e ≠ TO ∧ e ≠ i1 ∧ e ≠ i2) (hl1 : s.heap.IsTuple l1 xs) (hl2 : s.heap.IsTuple l2 ys) (hx : xs[k]? = some x) (hy : ys[k]? = some y)
    (hQ : ∀ h₁ h' tk, ZipG h₁ z TI TO i1 i2 l1 l2 (k + 1) → IsPair h₁ s.heap.objs.size x y → h₁.objs.size = s.heap.objs.size + 1 → (∀ c o, c ≠ z → c ≠ TO → c ≠ i1 → c ≠ i2 → s.heap.get? c = some o → h₁.get? c = some o) →
      IsEnumOut h' e z (c + 1) (.ref s.heap.objs.size) h₁.objs.size → h'.get? h₁.objs.size = some { cls := .type "tuple", data := .seq #[.int c tk, .ref s.heap.objs.size] } →
      (∀ b o, b ≠ e → h₁.get? b = some o → h'.get? b = some o) → Q (some (.ref h₁.objs.size)) { s with heap := h', toks := tk + 1 }) :
    wpAny (model prog w) A (pyNext (.ref e)) Q E s := by
  have hT : s.TypeIs (.ref e) "enumerate" := ⟨_, he, rfl⟩
  unfold pyNext
  refine wpAny_bind (wpAny_attempt (wpAny_callSpecial?_slot (name := Str.ofString "__next__") hT F.slot_enumerate_next
    (wpAny_call_entry F.slot_enumerate_next hT F.entry_enumerate_next ?_ (F.args_enumerate_next_1 _))))
  obtain ⟨hp, g, d, tk₀, os⟩ := s
  show wpAny _ _ (field (.ref e) 2 >>= _) _ _ _
  refine wpAny_bind (wpAny_field he rfl (x := .ref z) rfl ?_)
  refine wpAny_bind (zipG_item D Z hl1 hl2 hx hy fun h₁ Z₁ hP hsz₁ hk₁ => ?_)
  replace hsz₁ : h₁.objs.size = hp.objs.size + 1 := hsz₁
  have he₁ : IsEnum h₁ e z c old := hk₁ e _ ne.1 ne.2.2.1 ne.2.2.2.1 ne.2.2.2.2 he
  show wpAny _ _ (field (.ref e) 3 >>= _) _ _ ⟨h₁, g, d, tk₀, os⟩
  refine wpAny_bind (wpAny_field he₁ rfl (x := rawInt c) rfl ?_)
  show wpAny _ _ (field (.ref e) 4 >>= _) _ _ ⟨h₁, g, d, tk₀, os⟩
  refine wpAny_bind (wpAny_field he₁ rfl (x := .none) rfl ?_)
  show wpAny _ _ (mkInt c >>= _) _ _ ⟨h₁, g, d, tk₀, os⟩
  refine wpAny_bind (wpAny_mkInt ?_)
  show wpAny _ _ (setField (.ref e) 3 (rawInt (c + 1)) >>= _) _ _ ⟨h₁, g, d, tk₀ + 1, os⟩
  refine wpAny_bind (wpAny_setField_rec he₁ (by simp) fun h₂ he₂ hs₂ => ?_)
  replace hs₂ : Heap.SameBut e h₁ h₂ := hs₂
  replace he₂ : IsEnum h₂ e z (c + 1) old := he₂
  show wpAny _ _ (setField (.ref e) 4 .none >>= _) _ _ ⟨h₂, g, d, tk₀ + 1, os⟩
  refine wpAny_bind (wpAny_setField_rec he₂ (by simp) fun h₃ he₃ hs₃ => ?_)
  replace hs₃ : Heap.SameBut e h₂ h₃ := hs₃
  replace he₃ : IsEnum h₃ e z (c + 1) old := he₃
  show wpAny _ _ (newTuple [.int c tk₀, .ref hp.objs.size] >>= _) _ _ ⟨h₃, g, d, tk₀ + 1, os⟩
  refine wpAny_bind (wpAny_newTuple ?_)
  have he₄ : IsEnum (h₃.push { cls := .type "tuple", data := .seq #[.int c tk₀, .ref hp.objs.size] }) e z (c + 1) old := Heap.get?_push_of_some _ he₃
  generalize hh₄ : h₃.push { cls := .type "tuple", data := .seq #[.int c tk₀, .ref hp.objs.size] } = h₄ at he₄
  have hsz : h₃.objs.size = h₁.objs.size := by rw [hs₃.1, hs₂.1]
  have hel : e < h₁.objs.size := Heap.lt_size he₁
  have ht₄ : h₄.get? h₁.objs.size = some { cls := .type "tuple", data := .seq #[.int c tk₀, .ref hp.objs.size] } := by rw [← hh₄, ← hsz]; exact Heap.get?_push_size _ rfl
  have hk₄ : ∀ b o, b ≠ e → h₁.get? b = some o → h₄.get? b = some o := fun b o hbe hb => by
    rw [← hh₄]; exact Heap.get?_push_of_some _ (hs₃.extBut b o hbe (hs₂.extBut b o hbe hb))
  show wpAny _ _ (Builtin.SmallTypes.ownedTupleIsFree (.ref e) >>= _) _ _ ⟨h₄, g, d, tk₀ + 1, os⟩
  rw [hsz]
  clear hh₄ he₃ hs₃ he₂ hs₂ he₁ hsz h₃ h₂
  refine wpAny_bind ?_
  unfold Builtin.SmallTypes.ownedTupleIsFree
  refine wpAny_bind (wpAny_field he₄ rfl (x := .none) rfl (wpAny_pure ?_))
  simp only [if_true]
  refine wpAny_bind (wpAny_rule ?_)
  refine wpAny_bind (wpAny_field he₄ rfl (x := old) rfl ?_)
  refine wpAny_bind (wpAny_setField_rec he₄ (by simp) fun h₅ he₅ hs₅ => ?_)
  replace hs₅ : Heap.SameBut e h₄ h₅ := hs₅
  replace he₅ : IsEnum h₅ e z (c + 1) (.ref hp.objs.size) := he₅
  show wpAny _ _ (Builtin.SmallTypes.ownedTupleHandOut (.ref e) (.ref h₁.objs.size) >>= _) _ _ ⟨h₅, g, d, tk₀ + 1, os⟩
  refine wpAny_bind ?_
  unfold Builtin.SmallTypes.ownedTupleHandOut
  refine wpAny_bind (wpAny_setField_rec he₅ (by simp) fun h₆ he₆ hs₆ => ?_)
  replace hs₆ : Heap.SameBut e h₅ h₆ := hs₆
  replace he₆ : IsEnumOut h₆ e z (c + 1) (.ref hp.objs.size) h₁.objs.size := he₆
  refine wpAny_setField_rec he₆ (by simp) fun h₇ he₇ hs₇ => ?_
  replace hs₇ : Heap.SameBut e h₆ h₇ := hs₇
  replace he₇ : IsEnumOut h₇ e z (c + 1) (.ref hp.objs.size) h₁.objs.size := he₇
  refine wpAny_bind (wpAny_letGo (wpAny_pure ⟨_, rfl, wpAny_pure (hQ h₁ h₇ tk₀ Z₁ hP hsz₁ hk₁ he₇ ?_ ?_)⟩))
  · exact hs₇.extBut _ _ (Nat.ne_of_gt hel) (hs₆.extBut _ _ (Nat.ne_of_gt hel) (hs₅.extBut _ _ (Nat.ne_of_gt hel) ht₄))
  · exact fun b o hbe hb => hs₇.extBut b o hbe (hs₆.extBut b o hbe (hs₅.extBut b o hbe (hk₄ b o hbe hb)))
end
/-- the tuples at a and b walked side by side, counted -/
def ItEZ (K : PySem.W.Frag) (a b : Addr) : It :=
  ⟨fun i H => ∃ (xs ys : List V) (x y : V), SqT K H a xs ∧ SqT K H b ys ∧ xs[i]? = some x ∧ ys[i]? = some y,
    fun i H v H' => ∃ T T2 x y, v = .ref T2 ∧ H T = none ∧ H T2 = none ∧ T ≠ T2 ∧ H' = upd (upd H T (.tup [x, y])) T2 (.tup [.int (i : Nat), .ref T]) ∧ (∀ xs, SqT K H a xs → xs[i]? = some x) ∧ ∀ ys, SqT K H b ys → ys[i]? = some y,
    fun i H => ∃ xs : List V, SqT K H a xs ∧ xs.length ≤ i⟩
theorem turn_enumZ {P : Program} {w : World} {K : PySem.W.Frag} {elts : List Expr} {kk : Nat} {tpos : Pos} {a b e z TI TO i1 i2 : Addr} (D : ZipApart z TI TO i1 i2 a b) (ne : e ≠ z ∧ e ≠ TI ∧ e ≠ TO ∧ e ≠ i1 ∧ e ≠ i2) :
    Turn P w K (.Tuple elts kk tpos) (ItEZ K a b) [e, z, TI, TO, i1, i2] e (fun i h => (∃ old, IsEnum h e z ((i : Nat) : Int) old) ∧ ZipG h z TI TO i1 i2 a b i) where
  mem := by simp
  obj := fun i h st c hc => by
    obtain ⟨⟨old, he⟩, ⟨f0, fb, _, hz⟩, hTI, ⟨x, y, hTO⟩, ⟨o1, e1, _, d1⟩, ⟨o2, e2, _, d2⟩⟩ := st
    have e' : c = e ∨ c = z ∨ c = TI ∨ c = TO ∨ c = i1 ∨ c = i2 := by simpa using hc
    rcases e' with q | q | q | q | q | q
    · rw [q]; exact ⟨_, he, fun v q => nomatch q⟩
    · rw [q]; exact ⟨_, hz, fun v q => nomatch q⟩
    · rw [q]; exact ⟨_, hTI, fun v q => nomatch q⟩
    · rw [q]; exact ⟨_, hTO, fun v q => nomatch q⟩
    · rw [q]; exact ⟨o1, e1, fun v q => by rw [d1] at q; cases q⟩
    · rw [q]; exact ⟨o2, e2, fun v q => by rw [d2] at q; cases q⟩
  keep := fun i h h' st k => by
    obtain ⟨⟨old, he⟩, Z⟩ := st
    exact ⟨⟨old, k e (by simp) _ he⟩, Z.keep fun c hc o q => k c (by simp; exact .inr hc) o q⟩
  item := by
    intro X hP hw hK hc i pins s σ H E I hf st hg
    subst hP hw hK
    obtain ⟨⟨old, he⟩, Z⟩ := st
    obtain ⟨xs, ys, x, y, hqx, hqy, hx, hy⟩ := hg
    obtain ⟨its, rv, p, _⟩ := I.tuple hqx
    obtain ⟨its2, rv2, p2, _⟩ := I.tuple hqy
    obtain ⟨u, hu, ru⟩ := rv.get hx
    obtain ⟨u2, hu2, ru2⟩ := rv2.get hy
    have hel : e < s.heap.objs.size := Heap.lt_size he
    refine enumZ_item D Z he ne p p2 (x := u) (y := u2) (by simpa using hu) (by simpa using hu2) fun h₁ h' tk Z₁ hT₁ hsz₁ hk₁ ho hT hk => ?_
    refine ⟨_, rfl, wpAny_letOwnedTupleGo_enum (s := { s with heap := h', toks := tk + 1 }) ho fun h'' he' sb => ?_⟩
    have new1 : ObjOk X.prog X.w (upd H s.heap.objs.size (.tup [x, y])) h₁ s.heap.objs.size (.tup [x, y]) :=
      ⟨by show 2 ≤ sizeLine; decide, [u, u2], .cons ru (.cons ru2 .nil), ⟨_, hT₁, rfl, _, rfl⟩⟩
    have I1 : Inv X pins σ (upd H s.heap.objs.size (.tup [x, y])) { s with heap := h₁ } :=
      I.turnedNew (t' := s.toks) (ch := [e, z, TI, TO, i1, i2]) (fun b ob hb q => hk₁ b ob (fun z => hb (by simp [z])) (fun z => hb (by simp [z])) (fun z => hb (by simp [z])) (fun z => hb (by simp [z])) q) hf (Nat.le_refl _) new1
    have hne1 : h₁.objs.size ≠ e := Nat.ne_of_gt (by rw [hsz₁]; exact Nat.lt_succ_of_lt hel)
    have hT2 : h''.get? h₁.objs.size = some { cls := .type "tuple", data := .seq #[.int i tk, .ref s.heap.objs.size] } := (sb.2 _ hne1).trans hT
    have new2 : ObjOk X.prog X.w (upd (upd H s.heap.objs.size (.tup [x, y])) h₁.objs.size (.tup [.int (i : Nat), .ref s.heap.objs.size])) h'' h₁.objs.size (.tup [.int (i : Nat), .ref s.heap.objs.size]) :=
      ⟨by show 2 ≤ sizeLine; decide, [.int i tk, .ref s.heap.objs.size], .cons ⟨_, rfl⟩ (.cons rfl .nil), ⟨_, hT2, rfl, _, rfl⟩⟩
    have fp1 : ∀ b ∈ [e, z, TI, TO, i1, i2], FpOk X pins (upd H s.heap.objs.size (.tup [x, y])) b := fun c hcm => by
      have hlt : c < s.heap.objs.size := by
        obtain ⟨⟨_, _, _, hz⟩, hTI, ⟨_, _, hTO⟩, ⟨_, e1, _⟩, ⟨_, e2, _⟩⟩ := Z
        have e' : c = e ∨ c = z ∨ c = TI ∨ c = TO ∨ c = i1 ∨ c = i2 := by simpa using hcm
        rcases e' with q | q | q | q | q | q
        · rw [q]; exact hel
        · rw [q]; exact Heap.lt_size hz
        · rw [q]; exact Heap.lt_size hTI
        · rw [q]; exact Heap.lt_size hTO
        · rw [q]; exact Heap.lt_size e1
        · rw [q]; exact Heap.lt_size e2
      have q := hf c hcm
      exact ⟨by rw [upd_ne (Nat.ne_of_lt hlt)]; exact q.1, q.2⟩
    have I2 : Inv X pins σ (upd (upd H s.heap.objs.size (.tup [x, y])) h₁.objs.size (.tup [.int (i : Nat), .ref s.heap.objs.size])) { s with heap := h'', toks := tk + 1 } :=
      I1.turnedNew (t' := tk + 1) (ch := [e, z, TI, TO, i1, i2]) (fun b ob hb q => (sb.2 b (fun z => hb (by simp [z]))).trans (hk b ob (fun z => hb (by simp [z])) q)) fp1 (Nat.le_refl _) new2
    have hn1 : H s.heap.objs.size = none := I.hok.fresh (Nat.le_refl _)
    have hn2 : H h₁.objs.size = none := I.hok.fresh (by rw [hsz₁]; exact Nat.le_succ _)
    refine ⟨.ref h₁.objs.size, _, I2, rfl, ⟨s.heap.objs.size, h₁.objs.size, x, y, rfl, hn1, hn2, by rw [hsz₁]; exact Nat.ne_of_lt (Nat.lt_succ_self _), rfl, fun l hl => by rw [I.tuple_inj hl hqx]; exact hx, fun l hl => by rw [I.tuple_inj hl hqy]; exact hy⟩, ⟨⟨.ref s.heap.objs.size, ?_⟩, Z₁.keep fun c hc o q => ?_⟩, fun c hcm => ?_⟩
    · have e1 : ((i + 1 : Nat) : Int) = (i : Int) + 1 := by omega
      rw [e1]; exact he'
    · have hce : c ≠ e := by
        obtain ⟨n1, n2, n3, n4, n5⟩ := ne
        rcases hc with q | q | q | q | q <;> rw [q] <;> exact Ne.symm ‹_›
      exact (sb.2 c hce).trans (hk c o hce q)
    · have q := fp1 c hcm
      have hlt : c ≠ h₁.objs.size := fun ee => by
        have hlt : c < h₁.objs.size := by
          obtain ⟨⟨_, _, _, hz⟩, hTI, ⟨_, _, hTO⟩, ⟨_, e1, _⟩, ⟨_, e2, _⟩⟩ := Z₁
          have e' : c = e ∨ c = z ∨ c = TI ∨ c = TO ∨ c = i1 ∨ c = i2 := by simpa using hcm
          rcases e' with q | q | q | q | q | q
          · rw [q, hsz₁]; exact Nat.lt_succ_of_lt hel
          · rw [q]; exact Heap.lt_size hz
          · rw [q]; exact Heap.lt_size hTI
          · rw [q]; exact Heap.lt_size hTO
          · rw [q]; exact Heap.lt_size e1
          · rw [q]; exact Heap.lt_size e2
        exact Nat.lt_irrefl _ (ee ▸ hlt)
      rw [upd_ne hlt]
      exact q.1
  done := by
    intro X hP hw hK hc i pins s σ H E I hf st hg
    subst hP hw hK
    obtain ⟨⟨old, he⟩, Z⟩ := st
    obtain ⟨xs, hq, hx⟩ := hg
    obtain ⟨its, rv, p, hz⟩ := I.tuple hq
    have hl := rv.length
    have hT : s.TypeIs (.ref e) "enumerate" := ⟨_, he, rfl⟩
    have hq0 : its.toArray[i]? = none := by simp; omega
    unfold pyNext
    refine wpAny_bind (wpAny_attempt (wpAny_callSpecial?_slot (name := Str.ofString "__next__") hT F.slot_enumerate_next
      (wpAny_call_entry F.slot_enumerate_next hT F.entry_enumerate_next ?_ (F.args_enumerate_next_1 _))))
    show wpAny _ _ (field (.ref e) 2 >>= _) _ _ s
    refine wpAny_bind (wpAny_field he rfl (x := .ref z) rfl ?_)
    refine wpAny_bind (zipG_end (I.ok.hd hc) D Z p hq0 fun h' e2 hx2 ho2 => ?_)
    obtain ⟨o2, ho2, hc2⟩ := ho2
    refine wpAny_bind (wpAny_isInstance (T := "StopIteration") (b := true) ⟨o2, ho2, hc2⟩ isSubtype_stop ?_)
    exact wpAny_pure ⟨rfl, I.turnedL (t' := s.toks) (ch := [e, z, TI, TO, i1, i2]) (fun c o hb q => hx2 c o (fun q' => hb (by simp [q'])) (fun q' => hb (by simp [q'])) (fun q' => hb (by simp [q'])) (fun q' => hb (by simp [q'])) q) hf⟩
  self := fun A i s Q E st h => let ⟨⟨_, he⟩, _⟩ := st; wpAny_pyIter_enum he h
def iEnumZip (K : PySem.W.Frag) (ta : TA) : TI := fun σ H R => ta σ H fun vs H1 => ∃ a b xs ys, vs = [.ref a, .ref b] ∧ SqT K H1 a xs ∧ SqT K H1 b ys ∧ xs.length = ys.length ∧ R (ItEZ K a b) H1
theorem pi_enumZip {X : Cx} {e e2 : Expr} {ta : TA} {p p2 pos pos2 tpos : Pos} {elts : List Expr} {kk : Nat} (hg0 : Gl X "enumerate") (hm0 : X.mg "enumerate" = none) (hg : Gl X "zip") (hm : X.mg "zip" = none) (ha : PA X [e, e2] ta)
    (hs0 : starEach [.Call (.Name "zip" p) [e, e2] [] pos] X.env = [(false, eval (.Call (.Name "zip" p) [e, e2] [] pos) X.env)] := by rfl)
    (hs : starEach [e, e2] X.env = (false, eval e X.env) :: starEach [e2] X.env := by rfl) (hpl : (backTo pos (starEach [e2] X.env)).any (·.1) = false := by rfl) :
    PI X (.Tuple elts kk tpos) (.Call (.Name "enumerate" p2) [.Call (.Name "zip" p) [e, e2] [] pos] [] pos2) (iEnumZip X.K ta) := by
  refine ⟨fun pins s σ H R I h => ?_⟩
  refine Call_ (ld_blt I hg0 hm0 boot_enumerate (PyProof.Rows.callWith_type1 (args_cons (Call_ (ld_blt I hg hm PyProof.Rows.boot_zip (PyProof.Rows.callWith_type1 (thn (ha.run pos pins s σ H _ I h) fun us s1 ⟨vs, H1, I1, r1, q1⟩ => ?_) hs hpl))) hs0) hs0 rfl))
  obtain ⟨a, b, xs, ys, ex, hqx, hqy, hl, q⟩ := q1
  subst ex
  cases r1 with
  | cons r rr =>
    cases rr with
    | cons r' rr =>
      cases rr
      cases r
      cases r'
      obtain ⟨its, rv, p1, _⟩ := I1.tuple hqx
      obtain ⟨its2, rv2, p2, _⟩ := I1.tuple hqy
      obtain ⟨o1, ho1, _⟩ := id p1
      obtain ⟨o2, ho2, _⟩ := id p2
      refine RZ.call_zipT (show s1.heap.IsTuple a its.toArray from p1) (show s1.heap.IsTuple b its2.toArray from p2) fun h' hz hTI hTO h1 h2 hsz hk => args_nil ?_
      refine call_enum1 (it := s1.heap.objs.size + 4) (h1 := h') (fun prog w A E s' Q e0 q' => ?_) (fun b o x => x) fun h'' he hk2 => wpAny_pyIter_enum he ?_
      · have : IsZip s'.heap (s1.heap.objs.size + 4) (s1.heap.objs.size + 2) (s1.heap.objs.size + 3) .none := by rw [e0]; exact hz
        refine wpAny_pyIter_zip this ?_
        obtain ⟨hq, _, _, _, _⟩ := s'
        have e0 : hq = h' := e0
        subst e0
        exact q'
      have I2 : Inv X pins σ H1 { s1 with heap := h'' } := I1.kept (t' := s1.toks) fun c o x => hk2 c o (hk c o x)
      have fresh6 : ∀ c, c ∈ [h'.objs.size, s1.heap.objs.size + 4, s1.heap.objs.size + 2, s1.heap.objs.size + 3, s1.heap.objs.size, s1.heap.objs.size + 1] → FpOk X pins H1 c := fun c hcm => by
        have e' : c = s1.heap.objs.size + 5 ∨ c = s1.heap.objs.size + 4 ∨ c = s1.heap.objs.size + 2 ∨ c = s1.heap.objs.size + 3 ∨ c = s1.heap.objs.size ∨ c = s1.heap.objs.size + 1 := by simpa [hsz] using hcm
        have hle : s1.heap.objs.size ≤ c := by
          rcases e' with z | z | z | z | z | z
          · rw [z]; exact Nat.le_add_right _ _
          · rw [z]; exact Nat.le_add_right _ _
          · rw [z]; exact Nat.le_add_right _ _
          · rw [z]; exact Nat.le_add_right _ _
          · rw [z]; exact Nat.le_refl _
          · rw [z]; exact Nat.le_add_right _ _
        exact I1.fpOk hle (I1.hok.fresh hle)
      exact ⟨h'.objs.size, [h'.objs.size, s1.heap.objs.size + 4, s1.heap.objs.size + 2, s1.heap.objs.size + 3, s1.heap.objs.size, s1.heap.objs.size + 1], _, _, H1, rfl, I2,
        turn_enumZ (PySem.W.ktu_apart s1.heap.objs.size a b (Heap.lt_size ho1) (Heap.lt_size ho2)) ⟨by rw [hsz]; simp, by rw [hsz]; simp, by rw [hsz]; simp, by rw [hsz]; simp, by rw [hsz]; simp⟩,
        ⟨⟨.none, he⟩, ⟨⟨.none, false, .inl rfl, hk2 _ _ hz⟩, hk2 _ _ hTI, ⟨_, _, hk2 _ _ hTO⟩, h1.at fun o q => hk2 _ _ q, h2.at fun o q => hk2 _ _ q⟩⟩, fresh6, q⟩
end Gr
set_option maxHeartbeats 1000000
/-! zip(list, list, list, strict=True) -/
namespace Gr
open PySem PySem.Spec PyProof.Rows L2
section
variable {prog : Program} {w : World} {A : Around} {E : Value → Shared → Prop} {s : Shared}
theorem nextOrEnd_item {it : Addr} {fp : List Addr} {n i : Nat} {P : Nat → Value → Prop} {St : Nat → Heap → Prop} {Q : Option Value → Shared → Prop} (D : Draws prog w A it fp n P St) (hi : i < n) (st : St i s.heap)
    (hQ : ∀ x h' tk, P i x → St (i + 1) h' → Heap.SameBut it s.heap h' → Q (some x) { s with heap := h', toks := tk }) : wpAny (model prog w) A (Builtin.SmallTypes.nextOrEnd (.ref it)) Q E s := by
  unfold Builtin.SmallTypes.nextOrEnd
  exact wpAny_bind (wpAny_attempt (D.item i s _ _ hi st fun x h' tk p q b => wpAny_pure (hQ x h' tk p q b)))
theorem nextOrEnd_end {it : Addr} {fp : List Addr} {n : Nat} {P : Nat → Value → Prop} {St : Nat → Heap → Prop} {Q : Option Value → Shared → Prop} (D : Draws prog w A it fp n P St) (st : St n s.heap)
    (hQ : ∀ h', Heap.ExtBut it s.heap h' → Q none { s with heap := h' }) : wpAny (model prog w) A (Builtin.SmallTypes.nextOrEnd (.ref it)) Q E s := by
  unfold Builtin.SmallTypes.nextOrEnd
  refine wpAny_bind (wpAny_attempt (D.done s _ _ st fun h' e b he => ?_))
  obtain ⟨o, ho, hc⟩ := he
  refine wpAny_bind (wpAny_isInstance (T := "StopIteration") (b := true) ⟨o, ho, hc⟩ isSubtype_stop ?_)
  exact wpAny_pure (hQ h' b)
abbrev IsZipS (h : Heap) (z TI TO : Addr) (f0 : Value) : Prop :=
  h.get? z = some { cls := .type "zip", dict := none, data := .fields #[f0, .bool false, .bool true, .ref TI, .ref TO], slots := #[] }
variable {z TI TO i1 i2 i3 : Addr} {fp1 fp2 fp3 : List Addr} {n i : Nat} {P1 P2 P3 : Nat → Value → Prop} {St1 St2 St3 : Nat → Heap → Prop} {a1 a2 a3 : Value}
theorem zipS_item {Q : Value → Shared → Prop} (S : ZipSep3 z TI TO i1 i2 i3 fp1 fp2 fp3) (D1 : Draws prog w A i1 fp1 n P1 St1) (D2 : Draws prog w A i2 fp2 n P2 St2) (D3 : Draws prog w A i3 fp3 n P3 St3)
    (hz : IsZipS s.heap z TI TO .none) (hTI : IsTupOf3 s.heap TI (.ref i1) (.ref i2) (.ref i3)) (hTO : IsTupOf3 s.heap TO a1 a2 a3) (st1 : St1 i s.heap) (st2 : St2 i s.heap) (st3 : St3 i s.heap) (hlt : i < n)
    (hQ : ∀ x1 x2 x3 h' tk, P1 i x1 → P2 i x2 → P3 i x3 → IsZipS h' z TI TO (rawInt s.heap.objs.size) → IsTupOf3 h' TO x1 x2 x3 → St1 (i + 1) h' → St2 (i + 1) h' → St3 (i + 1) h' → IsTupOf3 h' s.heap.objs.size x1 x2 x3 → h'.objs.size = s.heap.objs.size + 1 →
      (∀ c o, c ≠ z → c ≠ TO → c ≠ i1 → c ≠ i2 → c ≠ i3 → s.heap.get? c = some o → h'.get? c = some o) → Q (.ref s.heap.objs.size) { s with heap := h', toks := tk }) :
    wpAny (model prog w) A (Builtin.«zip.__next__» ⟨[.ref z], []⟩) (fun fin s' => ∃ v, fin = .done (.ret v) ∧ Q v s') E s := by
  obtain ⟨hp, g, d, tk0, os⟩ := s
  show wpAny _ _ (field (.ref z) 2 >>= _) _ _ _
  refine wpAny_bind (wpAny_field hz rfl (x := .bool true) rfl ?_)
  show wpAny _ _ (field (.ref z) 3 >>= _) _ _ _
  refine wpAny_bind (wpAny_field hz rfl (x := .ref TI) rfl ?_)
  refine wpAny_bind (wpAny_seqItems hTI rfl ?_)
  show wpAny _ _ (Builtin.SmallTypes.ownedTupleIsFree (.ref z) >>= _) _ _ _
  refine wpAny_bind (isFree_true hz rfl rfl (.inl rfl) ?_)
  simp only [if_true]
  refine wpAny_bind (wpAny_rule ?_)
  refine wpAny_bind (wpAny_field hz rfl (x := .ref TO) rfl ?_)
  refine wpAny_bind (wpAny_setField_rec hz (by simp) fun g0 hz0 hs0 => ?_)
  replace hz0 : IsZipS g0 z TI TO .ellipsis := hz0
  replace hs0 : Heap.SameBut z hp g0 := hs0
  refine wpAny_bind ?_
  simp only [List.zipIdx_cons, List.zipIdx_nil, List.forIn_cons, List.forIn_nil]
  refine wpAny_bind (wpAny_bind (wpAny_onRaise ?_))
  show wpAny _ _ (Builtin.SmallTypes.nextOrEnd (.ref i1)) _ _ ⟨g0, g, d, tk0, os⟩
  refine nextOrEnd_item D1 hlt (D1.over st1 hs0 S.zf1) fun x1 p1 tk1 hx1 sn1 hp1 => ?_
  replace hp1 : Heap.SameBut i1 g0 p1 := hp1
  have hU1 : IsTupOf3 p1 TO a1 a2 a3 := hp1.extBut _ _ S.Ti1 (hs0.extBut _ _ S.TOz hTO)
  refine wpAny_bind (wpAny_seqItems (s := ⟨p1, g, d, tk1, os⟩) hU1 rfl ?_)
  refine wpAny_bind (updateSeq_IsTupOf3 (s := ⟨p1, g, d, tk1, os⟩) hU1 fun g1 hT1 hs1 => ?_)
  replace hT1 : IsTupOf3 g1 TO x1 a2 a3 := hT1
  replace hs1 : Heap.SameBut TO p1 g1 := hs1
  refine wpAny_bind (wpAny_letGo (wpAny_pure ?_))
  refine wpAny_bind (wpAny_bind (wpAny_onRaise ?_))
  show wpAny _ _ (Builtin.SmallTypes.nextOrEnd (.ref i2)) _ _ ⟨g1, g, d, tk1, os⟩
  refine nextOrEnd_item D2 hlt (D2.over (D2.over (D2.over st2 hs0 S.zf2) hp1 S.sep1_2) hs1 S.Tf2) fun x2 p2 tk2 hx2 sn2 hp2 => ?_
  replace hp2 : Heap.SameBut i2 g1 p2 := hp2
  have hU2 : IsTupOf3 p2 TO x1 a2 a3 := hp2.extBut _ _ S.Ti2 hT1
  refine wpAny_bind (wpAny_seqItems (s := ⟨p2, g, d, tk2, os⟩) hU2 rfl ?_)
  refine wpAny_bind (updateSeq_IsTupOf3 (s := ⟨p2, g, d, tk2, os⟩) hU2 fun g2 hT2 hs2 => ?_)
  replace hT2 : IsTupOf3 g2 TO x1 x2 a3 := hT2
  replace hs2 : Heap.SameBut TO p2 g2 := hs2
  refine wpAny_bind (wpAny_letGo (wpAny_pure ?_))
  refine wpAny_bind (wpAny_bind (wpAny_onRaise ?_))
  show wpAny _ _ (Builtin.SmallTypes.nextOrEnd (.ref i3)) _ _ ⟨g2, g, d, tk2, os⟩
  refine nextOrEnd_item D3 hlt (D3.over (D3.over (D3.over (D3.over (D3.over st3 hs0 S.zf3) hp1 S.sep1_3) hs1 S.Tf3) hp2 S.sep2_3) hs2 S.Tf3) fun x3 p3 tk3 hx3 sn3 hp3 => ?_
  replace hp3 : Heap.SameBut i3 g2 p3 := hp3
  have hU3 : IsTupOf3 p3 TO x1 x2 a3 := hp3.extBut _ _ S.Ti3 hT2
  refine wpAny_bind (wpAny_seqItems (s := ⟨p3, g, d, tk3, os⟩) hU3 rfl ?_)
  refine wpAny_bind (updateSeq_IsTupOf3 (s := ⟨p3, g, d, tk3, os⟩) hU3 fun g3 hT3 hs3 => ?_)
  replace hT3 : IsTupOf3 g3 TO x1 x2 x3 := hT3
  replace hs3 : Heap.SameBut TO p3 g3 := hs3
  refine wpAny_bind (wpAny_letGo (wpAny_pure (wpAny_pure ?_)))
  refine wpAny_bind (wpAny_seqItems (s := ⟨g3, g, d, tk3, os⟩) hT3 rfl ?_)
  refine wpAny_bind (wpAny_newTuple ?_)
  have hsz : g3.objs.size = hp.objs.size := by rw [hs3.1, hp3.1, hs2.1, hp2.1, hs1.1, hp1.1, hs0.1]
  have hzz : IsZipS g3 z TI TO .ellipsis := (hs3.extBut _ _ S.TOz.symm (hp3.extBut _ _ S.zi3 (hs2.extBut _ _ S.TOz.symm (hp2.extBut _ _ S.zi2 (hs1.extBut _ _ S.TOz.symm (hp1.extBut _ _ S.zi1 hz0))))))
  have hkk : ∀ c o, c ≠ z → c ≠ TO → c ≠ i1 → c ≠ i2 → c ≠ i3 → hp.get? c = some o → g3.get? c = some o := fun c o cz cT c1 c2 c3 e =>
    (hs3.extBut _ _ cT (hp3.extBut _ _ c3 (hs2.extBut _ _ cT (hp2.extBut _ _ c2 (hs1.extBut _ _ cT (hp1.extBut _ _ c1 (hs0.extBut _ _ cz e)))))))
  have hj1 : St1 (i + 1) g3 := (D1.over (D1.over (D1.over (D1.over (D1.over sn1 hs1 S.Tf1) hp2 S.sep2_1) hs2 S.Tf1) hp3 S.sep3_1) hs3 S.Tf1)
  have hj2 : St2 (i + 1) g3 := (D2.over (D2.over (D2.over sn2 hs2 S.Tf2) hp3 S.sep3_2) hs3 S.Tf2)
  have hj3 : St3 (i + 1) g3 := (D3.over sn3 hs3 S.Tf3)
  have hzlt : z < g3.objs.size := Heap.lt_size hzz
  show wpAny _ _ (Builtin.SmallTypes.ownedTupleHandOut (.ref z) (.ref g3.objs.size) >>= _) _ _ ⟨g3.push { cls := .type "tuple", data := .seq #[x1, x2, x3] }, g, d, tk3, os⟩
  refine wpAny_bind ?_
  unfold Builtin.SmallTypes.ownedTupleHandOut
  have hz₆ : IsZipS (g3.push { cls := .type "tuple", data := .seq #[x1, x2, x3] }) z TI TO .ellipsis := Heap.get?_push_of_some _ hzz
  refine wpAny_bind (wpAny_setField_rec hz₆ (by simp) fun h₇ hz₇ hs₇ => ?_)
  replace hz₇ : IsZipS h₇ z TI TO (rawInt g3.objs.size) := hz₇
  refine wpAny_setField_rec hz₇ (by simp) fun h₈ hz₈ hs₈ => ?_
  replace hz₈ : IsZipS h₈ z TI TO (rawInt g3.objs.size) := hz₈
  replace hs₇ : Heap.SameBut z (g3.push { cls := .type "tuple", data := .seq #[x1, x2, x3] }) h₇ := hs₇
  replace hs₈ : Heap.SameBut z h₇ h₈ := hs₈
  have up : ∀ c o, c ≠ z → g3.get? c = some o → h₈.get? c = some o := fun c o c1 e => hs₈.extBut _ _ c1 (hs₇.extBut _ _ c1 (Heap.get?_push_of_some _ e))
  have hT₈ : IsTupOf3 h₈ g3.objs.size x1 x2 x3 := hs₈.extBut _ _ (Nat.ne_of_gt hzlt) (hs₇.extBut _ _ (Nat.ne_of_gt hzlt) (Heap.get?_push_size _ rfl))
  have hz8 : h₈.objs.size = g3.objs.size + 1 := by rw [hs₈.1, hs₇.1, Heap.size_push]
  rw [hsz] at hz₈ hT₈ hz8
  refine wpAny_pure ⟨_, rfl, ?_⟩
  show Q (.ref g3.objs.size) ⟨h₈, g, d, tk3, os⟩
  rw [hsz]
  exact hQ x1 x2 x3 h₈ tk3 hx1 hx2 hx3 hz₈ (up _ _ S.TOz hT3) (D1.frame _ _ _ hj1 fun b hb o e => up b o (fun q => S.zf1 (q ▸ hb)) e) (D2.frame _ _ _ hj2 fun b hb o e => up b o (fun q => S.zf2 (q ▸ hb)) e) (D3.frame _ _ _ hj3 fun b hb o e => up b o (fun q => S.zf3 (q ▸ hb)) e) hT₈ hz8 fun c o cz cT c1 c2 c3 e => up c o cz (hkk c o cz cT c1 c2 c3 e)
theorem zipS_end {Q : Fin → Shared → Prop} (hh : A.handled = none) (S : ZipSep3 z TI TO i1 i2 i3 fp1 fp2 fp3) (D1 : Draws prog w A i1 fp1 n P1 St1) (D2 : Draws prog w A i2 fp2 n P2 St2) (D3 : Draws prog w A i3 fp3 n P3 St3)
    (hz : IsZipS s.heap z TI TO .none) (hTI : IsTupOf3 s.heap TI (.ref i1) (.ref i2) (.ref i3)) (hTO : IsTupOf3 s.heap TO a1 a2 a3) (st1 : St1 n s.heap) (st2 : St2 n s.heap) (st3 : St3 n s.heap)
    (ex1 : ∀ h h', St2 n h → (∀ b, b ≠ i1 → ∀ o, h.get? b = some o → h'.get? b = some o) → St2 n h') (ex2 : ∀ h h', St3 n h → (∀ b, b ≠ i1 → b ≠ i2 → ∀ o, h.get? b = some o → h'.get? b = some o) → St3 n h')
    (hE : ∀ h' e, (∀ c o, c ≠ z → c ≠ TO → c ≠ i1 → c ≠ i2 → c ≠ i3 → s.heap.get? c = some o → h'.get? c = some o) → (∃ o, h'.get? e = some o ∧ o.cls = .type "StopIteration") → E (.ref e) { s with heap := h' }) :
    wpAny (model prog w) A (Builtin.«zip.__next__» ⟨[.ref z], []⟩) Q E s := by
  obtain ⟨hp, g, d, tk0, os⟩ := s
  show wpAny _ _ (field (.ref z) 2 >>= _) _ _ _
  refine wpAny_bind (wpAny_field hz rfl (x := .bool true) rfl ?_)
  show wpAny _ _ (field (.ref z) 3 >>= _) _ _ _
  refine wpAny_bind (wpAny_field hz rfl (x := .ref TI) rfl ?_)
  refine wpAny_bind (wpAny_seqItems hTI rfl ?_)
  show wpAny _ _ (Builtin.SmallTypes.ownedTupleIsFree (.ref z) >>= _) _ _ _
  refine wpAny_bind (isFree_true hz rfl rfl (.inl rfl) ?_)
  simp only [if_true]
  refine wpAny_bind (wpAny_rule ?_)
  refine wpAny_bind (wpAny_field hz rfl (x := .ref TO) rfl ?_)
  refine wpAny_bind (wpAny_setField_rec hz (by simp) fun g0 hz0 hs0 => ?_)
  replace hz0 : IsZipS g0 z TI TO .ellipsis := hz0
  replace hs0 : Heap.SameBut z hp g0 := hs0
  refine wpAny_bind ?_
  simp only [List.zipIdx_cons, List.zipIdx_nil, List.forIn_cons, List.forIn_nil]
  refine wpAny_bind (wpAny_bind (wpAny_onRaise ?_))
  show wpAny _ _ (Builtin.SmallTypes.nextOrEnd (.ref i1)) _ _ ⟨g0, g, d, tk0, os⟩
  refine nextOrEnd_end D1 (D1.over st1 hs0 S.zf1) fun p1 hp1 => ?_
  replace hp1 : Heap.ExtBut i1 g0 p1 := hp1
  have hz1 : IsZipS p1 z TI TO .ellipsis := hp1 _ _ S.zi1 hz0
  show wpAny _ _ (setField (.ref z) 0 .none >>= _) _ _ ⟨p1, g, d, tk0, os⟩
  refine wpAny_bind (wpAny_setField_rec hz1 (by simp) fun g1 hz1 hs1 => ?_)
  replace hs1 : Heap.SameBut z p1 g1 := hs1
  have s2 : St2 n g1 := D2.over (ex1 _ _ (D2.over st2 hs0 S.zf2) fun b hb o q => hp1 b o hb q) hs1 S.zf2
  have s3 : St3 n g1 := D3.over (ex2 _ _ (D3.over st3 hs0 S.zf3) fun b hb _ o q => hp1 b o hb q) hs1 S.zf3
  refine wpAny_bind (wpAny_bind ?_)
  simp only [List.drop_succ_cons, List.drop_zero, List.zipIdx_cons, List.zipIdx_nil, List.forIn_cons, List.forIn_nil]
  refine wpAny_bind (wpAny_bind (nextOrEnd_end (s := ⟨g1, g, d, tk0, os⟩) D2 s2 fun p2 hp2 => ?_))
  replace hp2 : Heap.ExtBut i2 g1 p2 := hp2
  refine wpAny_pure ?_
  have s3' : St3 n p2 := ex2 _ _ s3 fun b _ hb o q => hp2 b o hb q
  refine wpAny_bind (wpAny_bind (nextOrEnd_end (s := ⟨p2, g, d, tk0, os⟩) D3 s3' fun p3 hp3 => ?_))
  replace hp3 : Heap.ExtBut i3 p2 p3 := hp3
  refine wpAny_pure ?_
  refine wpAny_pure ?_
  refine wpAny_bind (wpAny_rule ?_)
  show wpAny _ _ (newExc (.type "StopIteration") [] >>= _) _ _ _
  refine wpAny_bind ?_
  simp only [newExc, newTuple]
  refine wpAny_bind (wpAny_newObj_type ?_ (by size_fits))
  refine wpAny_bind (m := firstArgMember _ _) (wpAny_of_eq (a := Value.none) (by first | rfl | (simp only [firstArgMember]; rfl)) ?_)
  refine wpAny_newObj_type ?_ (by size_fits)
  simp only [raiseNew]
  refine wpAny_bind (wpAny_handled ?_)
  rw [hh]
  refine wpAny_bind (wpAny_pure (wpAny_throw ?_))
  refine hE _ _ (fun c o cz cT c1 c2 c3 e => Heap.get?_push_of_some _ (Heap.get?_push_of_some _ (hp3 _ _ c3 (hp2 _ _ c2 (hs1.extBut _ _ cz (hp1 _ _ c1 (hs0.extBut _ _ cz e))))))) ⟨_, Heap.get?_push_size _ rfl, rfl⟩
end
end Gr
set_option maxHeartbeats 1000000
/-! zip(list, list, list, strict=True): its beginning, the turn -/
namespace Gr
open PySem PySem.Spec PyProof.Rows L2
open Sem (wp)
section
variable {prog : Program} {w : World} {A : Around} {E : Value → Shared → Prop} {s : Shared}
theorem callType_newKw {T newId : String} {Bn : Builtin} {args : List Value} {kw : List (Str × Value)} {S : PySem.Spec} {Q : Value → Shared → Prop} (ft : TypeCalled T newId "object.__init__")
    (hct : checkTypeCall T ⟨args, kw⟩ = pure ()) (hcn : checkBuiltinCall newId ⟨.type T :: args, kw⟩ = pure ())
    (hok : ∀ obj, argsOk "object.__init__" ⟨obj :: args, kw⟩) (entryN : entryFor table newId = some Bn) (g : Meets (Bn ⟨.type T :: args, kw⟩) S)
    (gi : ∀ obj, Meets (Builtin.«object.__init__» ⟨obj :: args, kw⟩) (fun _ R s => s.TypeIs obj T ∧ R (.ok (.ret .none)) s))
    (h : S A.in1 (wants (fun obj s₁ => s₁.TypeIs obj T ∧ Q obj s₁) E) s) : wpAny (model prog w) A (call (.type T) args kw) Q E s := by
  obtain ⟨c, tl, hmro⟩ := ft.mro
  have hmade := ft.made
  have hsub := ft.sub
  refine wpAny_call (codeAny_of_tree ?_)
  show wpAny _ _ (callAny (.type T) _) _ _ _
  refine wpAny_pure ⟨Code.quiet_builtin _ (by decide +kernel), codeAny_builtin F.entry_type_call ?_⟩
  rw [Around.under_plain (weight_type_call_type T args kw) (units_type_call_type T args kw)]
  have h1 := ft.notType
  have h2 := ft.canCreate
  repeat (any_goals (first | assumption | wp_step))
  refine codeAny_mono (codeAny_call_builtin ft.plain entryN (wpAny_of_eq hcn (g prog w A.in1 _ s h))) fun r s₁ hr => ?_
  cases r with
  | error e => exact hr
  | ok fl =>
    cases fl with
    | ret obj =>
      obtain ⟨hT, hq0⟩ := hr
      have hli := ft.init.lookup
      have hbi := ft.init.bind obj
      repeat (any_goals (first | assumption | wp_step))
      refine codeAny_mono (codeAny_call_builtin ft.init.plain F.entry_object_init (ft.init.check _ _ _ _ _ _ _ _ hT (hok obj) (gi obj prog w A.in1 (wants (fun r s₂ => r = .none ∧ Q obj s₂) E) s₁ ⟨hT, rfl, hq0⟩))) fun r₂ s₂ hr₂ => ?_
      cases r₂ with
      | error e => exact hr₂
      | ok fl₂ =>
        cases fl₂ with
        | ret r =>
          obtain ⟨rfl, hq⟩ := hr₂
          repeat (any_goals (first | assumption | wp_step))
        | _ => exact hr₂.elim
    | _ => exact hr.elim
theorem typeCall_zip_s (a b c : Value) : checkTypeCall "zip" ⟨[a, b, c], [("strict", .bool true)]⟩ = pure () := by kernel_rfl
theorem newCall_zip_s (a b c : Value) : checkBuiltinCall "zip.__new__" ⟨[.type "zip", a, b, c], [("strict", .bool true)]⟩ = pure () := by kernel_rfl
theorem args_object_init_s (obj a b c : Value) : argsOk "object.__init__" ⟨[obj, a, b, c], [("strict", .bool true)]⟩ := by unfold argsOk; kernel_rfl
theorem object_init_s {self a b c : Value} : Meets (Builtin.«object.__init__» ⟨[self, a, b, c], [("strict", .bool true)]⟩) (fun _ R s => s.TypeIs self "zip" ∧ R (.ok (.ret .none)) s) := by
  have hl := F.called_zip.init.lookup
  have hm := F.called_zip.made
  refine Meets.of_wp fun prog w A R s hs => ?_
  obtain ⟨hT, hq⟩ := hs
  repeat (any_goals (first | assumption | wp_step))
  exact ⟨_, rfl, hq⟩
abbrev gzS3 (h : Heap) (o1 o2 o3 : Obj) : Heap := (gzO3 h o1 o2 o3).push { cls := .type "zip", data := .fields #[.none, .bool false, .bool true, .ref (((h.push o1).push o2).push o3).objs.size, .ref (gzT3 h o1 o2 o3).objs.size] }
theorem meets_zip_newS {v1 v2 v3 : Value} {o1 o2 o3 : Obj} {H1 H2 H3 : Heap → Prop} (B1 : Begins v1 o1 H1) (B2 : Begins v2 o2 H2) (B3 : Begins v3 o3 H3) :
    Meets (Builtin.«zip.__new__» ⟨[.type "zip", v1, v2, v3], [("strict", .bool true)]⟩) (fun _ R s => (H1 s.heap ∧ H2 s.heap ∧ H3 s.heap) ∧
      R (.ok (.ret (.ref (gzO3 s.heap o1 o2 o3).objs.size))) { s with heap := gzS3 s.heap o1 o2 o3 }) :=
  .of_wp fun prog w A R s h => by
    obtain ⟨hp, g, d, tk, os⟩ := s; obtain ⟨⟨h1, h2, h3⟩, h⟩ := h
    have hsub := sub_zip
    have q1 : ∀ {A' : Around} {E : Value → Shared → Prop} {Q : Value → Shared → Prop}, Q (.ref hp.objs.size) ⟨(hp.push o1), g, d, tk, os⟩ → wpAny (model prog w) A' (pyIter v1) Q E ⟨hp, g, d, tk, os⟩ :=
      fun q => B1.iter prog w _ _ ⟨hp, g, d, tk, os⟩ _ (B1.keeps _ _ h1 fun b o' e => e) q
    have q2 : ∀ {A' : Around} {E : Value → Shared → Prop} {Q : Value → Shared → Prop}, Q (.ref (hp.push o1).objs.size) ⟨((hp.push o1).push o2), g, d, tk, os⟩ → wpAny (model prog w) A' (pyIter v2) Q E ⟨(hp.push o1), g, d, tk, os⟩ :=
      fun q => B2.iter prog w _ _ ⟨(hp.push o1), g, d, tk, os⟩ _ (B2.keeps _ _ h2 fun b o' e => (Heap.get?_push_of_some _ e)) q
    have q3 : ∀ {A' : Around} {E : Value → Shared → Prop} {Q : Value → Shared → Prop}, Q (.ref ((hp.push o1).push o2).objs.size) ⟨(((hp.push o1).push o2).push o3), g, d, tk, os⟩ → wpAny (model prog w) A' (pyIter v3) Q E ⟨((hp.push o1).push o2), g, d, tk, os⟩ :=
      fun q => B3.iter prog w _ _ ⟨((hp.push o1).push o2), g, d, tk, os⟩ _ (B3.keeps _ _ h3 fun b o' e => (Heap.get?_push_of_some _ (Heap.get?_push_of_some _ e))) q
    wp_walk using q1, q2, q3
    exact ⟨_, rfl, h⟩
theorem zip_beginsS {v1 v2 v3 : Value} {o1 o2 o3 : Obj} {H1 H2 H3 : Heap → Prop} {Q : Value → Shared → Prop} (B1 : Begins v1 o1 H1) (B2 : Begins v2 o2 H2) (B3 : Begins v3 o3 H3) (h1 : H1 s.heap) (h2 : H2 s.heap) (h3 : H3 s.heap)
    (h : ∀ h', IsZipS h' (s.heap.objs.size + 5) (s.heap.objs.size + 3) (s.heap.objs.size + 4) .none → IsTupOf3 h' (s.heap.objs.size + 3) (.ref s.heap.objs.size) (.ref (s.heap.objs.size + 1)) (.ref (s.heap.objs.size + 2)) →
      IsTupOf3 h' (s.heap.objs.size + 4) .none .none .none → h'.get? s.heap.objs.size = some o1 → h'.get? (s.heap.objs.size + 1) = some o2 → h'.get? (s.heap.objs.size + 2) = some o3 → h'.objs.size = s.heap.objs.size + 6 →
      (∀ c o, s.heap.get? c = some o → h'.get? c = some o) → Q (.ref (s.heap.objs.size + 5)) { s with heap := h' }) :
    wpAny (model prog w) A (call (.type "zip") [v1, v2, v3] [("strict", .bool true)]) Q E s := by
  refine callType_newKw F.called_zip (typeCall_zip_s _ _ _) (newCall_zip_s _ _ _) (fun obj => args_object_init_s obj _ _ _) F.entry_zip_new
    (meets_zip_newS B1 B2 B3) (fun _ => object_init_s) ⟨⟨h1, h2, h3⟩, ?_⟩
  have z1 : (s.heap.push o1).objs.size = s.heap.objs.size + 1 := by rw [Heap.size_push]
  have z2 : ((s.heap.push o1).push o2).objs.size = s.heap.objs.size + 2 := by rw [Heap.size_push, z1]
  have z3 : (((s.heap.push o1).push o2).push o3).objs.size = s.heap.objs.size + 3 := by rw [Heap.size_push, z2]
  have zT : (gzT3 s.heap o1 o2 o3).objs.size = s.heap.objs.size + 4 := by rw [Heap.size_push, z3]
  have zO : (gzO3 s.heap o1 o2 o3).objs.size = s.heap.objs.size + 5 := by rw [Heap.size_push, zT]
  have zZ : (gzS3 s.heap o1 o2 o3).objs.size = s.heap.objs.size + 6 := by rw [Heap.size_push, zO]
  have gZ : (gzS3 s.heap o1 o2 o3).get? (gzO3 s.heap o1 o2 o3).objs.size = some { cls := .type "zip", data := .fields #[.none, .bool false, .bool true, .ref (((s.heap.push o1).push o2).push o3).objs.size, .ref (gzT3 s.heap o1 o2 o3).objs.size] } := Heap.get?_push_size _ rfl
  have gO : (gzS3 s.heap o1 o2 o3).get? (gzT3 s.heap o1 o2 o3).objs.size = some { cls := .type "tuple", data := .seq #[.none, .none, .none] } := Heap.get?_push_of_some _ (Heap.get?_push_size _ rfl)
  have gT : (gzS3 s.heap o1 o2 o3).get? (((s.heap.push o1).push o2).push o3).objs.size = some { cls := .type "tuple", data := .seq #[.ref s.heap.objs.size, .ref (s.heap.push o1).objs.size, .ref ((s.heap.push o1).push o2).objs.size] } := Heap.get?_push_of_some _ (Heap.get?_push_of_some _ (Heap.get?_push_size _ rfl))
  have g1 : (gzS3 s.heap o1 o2 o3).get? s.heap.objs.size = some o1 := Heap.get?_push_of_some _ (Heap.get?_push_of_some _ (Heap.get?_push_of_some _ (Heap.get?_push_of_some _ (Heap.get?_push_of_some _ (Heap.get?_push_size _ B1.free)))))
  have g2 : (gzS3 s.heap o1 o2 o3).get? (s.heap.push o1).objs.size = some o2 := Heap.get?_push_of_some _ (Heap.get?_push_of_some _ (Heap.get?_push_of_some _ (Heap.get?_push_of_some _ (Heap.get?_push_size _ B2.free))))
  have g3 : (gzS3 s.heap o1 o2 o3).get? ((s.heap.push o1).push o2).objs.size = some o3 := Heap.get?_push_of_some _ (Heap.get?_push_of_some _ (Heap.get?_push_of_some _ (Heap.get?_push_size _ B3.free)))
  rw [zO, zT, z3] at gZ
  rw [zT] at gO
  rw [z3, z2, z1] at gT
  rw [z1] at g2
  rw [z2] at g3
  show _ ∧ _
  rw [zO]
  exact ⟨⟨_, gZ, rfl⟩, h _ gZ gT gO g1 g2 g3 zZ fun c o e => Heap.get?_push_of_some _ (Heap.get?_push_of_some _ (Heap.get?_push_of_some _ (Heap.get?_push_of_some _ (Heap.get?_push_of_some _ (Heap.get?_push_of_some _ e)))))⟩
theorem letGo_zipS {elts : List Expr} {x1 : Nat} {pos : Pos} {z TI TO T : Addr} {Q : Unit → Shared → Prop} (hz : IsZipS s.heap z TI TO (rawInt T))
    (hQ : ∀ h', IsZipS h' z TI TO .none → Heap.SameBut z s.heap h' → Q () { s with heap := h' }) :
    wpAny (model prog w) A (letOwnedTupleGo (.Tuple elts x1 pos) (.ref z) (.ref T)) Q E s := by
  unfold letOwnedTupleGo
  refine wpAny_bind (wpAny_load hz ?_)
  show wpAny _ _ (if (["enumerate", "zip", "dict_itemiterator", "dict_reverseitemiterator", "odict_iterator", "itertools.zip_longest", "itertools.pairwise"].contains "zip" &&
      (#[rawInt T, .bool false, .bool true, .ref TI, .ref TO] : Array Value)[0]? == some (rawInt T)) = true then _ else _) Q E s
  rw [if_pos (by simp)]
  refine wpAny_bind (wpAny_rule ?_)
  show wpAny _ _ (setField (.ref z) 0 .none) Q E s
  exact wpAny_setField_rec hz (by simp) fun h' hz' hs' => hQ h' hz' hs'
theorem pyIter_zipS {z TI TO : Addr} {f0 : Value} {Q : Value → Shared → Prop} (hz : IsZipS s.heap z TI TO f0) (h : Q (.ref z) s) : wpAny (model prog w) A (pyIter (.ref z)) Q E s := by
  have hT : s.TypeIs (.ref z) "zip" := ⟨_, hz, rfl⟩
  refine wpAny_pyIter_slot hT F.slot_zip_iter (wpAny_call_entry F.slot_zip_iter hT F.entry_zip_iter ?_ (F.args_zip_iter_1 _))
  show wpAny _ _ (ret (.ref z)) _ _ s
  exact wpAny_pure ⟨_, rfl, "zip", _, hT, F.slot_zip_next.lookup, h⟩
theorem callWith_typeKw {env : PySem.Env} {pos : Pos} {T : String} {e : Expr} {rest : List Expr} {kws : List Keyword} {Q : Value → Shared → Prop}
    (h : wpAny (model prog w) A (spliced (backTo pos (starEach (e :: rest) env))) (fun vs s₁ => wpAny (model prog w) A (evalAll ((backToKw pos (keywordEach kws env)).map (·.2)))
      (fun kvs s₂ => wpAny (model prog w) A (call (.type T) vs (((backToKw pos (keywordEach kws env)).filterMap (·.1)).zip kvs)) Q E s₂) E s₁) E s)
    (he : backTo pos (starEach (e :: rest) env) = (false, eval e env) :: backTo pos (starEach rest env) := by rfl)
    (hplain : (backTo pos (starEach (e :: rest) env)).any (·.1) = false := by rfl)
    (hall : (backToKw pos (keywordEach kws env)).all (·.1.isSome) = true := by rfl)
    (hkw : (backToKw pos (keywordEach kws env)).any (·.1.isNone) = false := by rfl) :
    wpAny (model prog w) A (callWith pos (.type T) [] (backTo pos (starEach (e :: rest) env)) (backToKw pos (keywordEach kws env))) Q E s := by
  unfold callWith
  have h2 : wpAny (model prog w) A (evalArgs (.type T) true (backTo pos (starEach (e :: rest) env)) (backToKw pos (keywordEach kws env))) (fun a s₁ => wpAny (model prog w) A (call (.type T) ([] ++ a.pos) a.kw) Q E s₁) E s := by
    rw [he] at h ⊢
    exact evalArgs_kwB hall h
  refine wpAny_bind (wpAny_holding (wpAny_mono h2 (fun a s₁ h₁ => wpAny_bind (wpAny_standAt ?_)) fun _ _ x => x))
  simp only [hplain, hkw, Bool.or_false]
  refine wpAny_bind (wpAny_pure ?_)
  exact wpAny_bind (wpAny_mono h₁ (fun r s₂ hr => wpAny_bind (wpAny_holding (wpAny_point (wpAny_pure hr)))) fun _ _ x => x)
end
/-- three lists walked side by side -/
def ItZ3 (K : PySem.W.Frag) (a b c : Addr) : It :=
  ⟨fun i H => ∃ (xs ys zs : List V), SqL K H a xs ∧ SqL K H b ys ∧ SqL K H c zs ∧ xs.length = ys.length ∧ xs.length = zs.length ∧ i < xs.length,
    fun i H v H' => ∃ T x y u, v = .ref T ∧ H T = none ∧ H' = upd H T (.tup [x, y, u]) ∧ (∀ xs, SqL K H a xs → xs[i]? = some x) ∧ (∀ ys, SqL K H b ys → ys[i]? = some y) ∧ ∀ zs, SqL K H c zs → zs[i]? = some u,
    fun i H => ∃ xs ys zs : List V, SqL K H a xs ∧ SqL K H b ys ∧ SqL K H c zs ∧ xs.length = ys.length ∧ xs.length = zs.length ∧ xs.length = i⟩
theorem turn_zipS {P : Program} {w : World} {K : PySem.W.Frag} {elts : List Expr} {kk : Nat} {tpos : Pos} {a b c z TI TO i1 i2 i3 : Addr} (S : ZipSep3 z TI TO i1 i2 i3 [i1, a] [i2, b] [i3, c]) :
    Turn P w K (.Tuple elts kk tpos) (ItZ3 K a b c) [z, TI, TO, i1, i2, i3] z (fun i h => IsZipS h z TI TO .none ∧ IsTupOf3 h TI (.ref i1) (.ref i2) (.ref i3) ∧ (∃ a1 a2 a3, IsTupOf3 h TO a1 a2 a3) ∧ h.IsListIter i1 a i ∧ h.IsListIter i2 b i ∧ h.IsListIter i3 c i) where
  mem := by simp
  obj := fun i h st d hd => by
    obtain ⟨hz, hTI, ⟨a1, a2, a3, hTO⟩, ⟨o1, e1, _, d1⟩, ⟨o2, e2, _, d2⟩, ⟨o3, e3, _, d3⟩⟩ := st
    have e' : d = z ∨ d = TI ∨ d = TO ∨ d = i1 ∨ d = i2 ∨ d = i3 := by simpa using hd
    rcases e' with q | q | q | q | q | q
    · rw [q]; exact ⟨_, hz, fun v q => nomatch q⟩
    · rw [q]; exact ⟨_, hTI, fun v q => nomatch q⟩
    · rw [q]; exact ⟨_, hTO, fun v q => nomatch q⟩
    · rw [q]; exact ⟨o1, e1, fun v q => by rw [d1] at q; cases q⟩
    · rw [q]; exact ⟨o2, e2, fun v q => by rw [d2] at q; cases q⟩
    · rw [q]; exact ⟨o3, e3, fun v q => by rw [d3] at q; cases q⟩
  keep := fun i h h' st k => by
    obtain ⟨hz, hTI, ⟨a1, a2, a3, hTO⟩, h1, h2, h3⟩ := st
    exact ⟨k z (by simp) _ hz, k TI (by simp) _ hTI, ⟨a1, a2, a3, k TO (by simp) _ hTO⟩, h1.at fun o q => k i1 (by simp) o q, h2.at fun o q => k i2 (by simp) o q, h3.at fun o q => k i3 (by simp) o q⟩
  item := by
    intro X hP hw hK hc i pins s σ H E I hf st hg
    subst hP hw hK
    obtain ⟨hz, hTI, ⟨a1, a2, a3, hTO⟩, h1, h2, h3⟩ := st
    obtain ⟨xs, ys, zs, qa, qb, qc, l1, l2, hi⟩ := hg
    obtain ⟨t1, v1, p1, _⟩ := I.list qa
    obtain ⟨t2, v2, p2, _⟩ := I.list qb
    obtain ⟨t3, v3, p3, _⟩ := I.list qc
    have g1 := v1.length
    have g2 := v2.length
    have g3 := v3.length
    have s2 : t2.toArray.size = t1.toArray.size := by simp; omega
    have s3 : t3.toArray.size = t1.toArray.size := by simp; omega
    have hlt : i < t1.toArray.size := by simp; omega
    have hzl : z < s.heap.objs.size := Heap.lt_size hz
    have ne1 : a ≠ i1 := fun e => by
      obtain ⟨o, ho, hc1, _⟩ := h1
      obtain ⟨o', ho', hc2, _⟩ := p1.isList
      rw [e] at ho'
      rw [ho] at ho'
      cases ho'
      rw [hc1] at hc2
      exact absurd hc2 (by decide)
    have ne2 : b ≠ i2 := fun e => by
      obtain ⟨o, ho, hc1, _⟩ := h2
      obtain ⟨o', ho', hc2, _⟩ := p2.isList
      rw [e] at ho'
      rw [ho] at ho'
      cases ho'
      rw [hc1] at hc2
      exact absurd hc2 (by decide)
    have ne3 : c ≠ i3 := fun e => by
      obtain ⟨o, ho, hc1, _⟩ := h3
      obtain ⟨o', ho', hc2, _⟩ := p3.isList
      rw [e] at ho'
      rw [ho] at ho'
      cases ho'
      rw [hc1] at hc2
      exact absurd hc2 (by decide)
    have hT : s.TypeIs (.ref z) "zip" := ⟨_, hz, rfl⟩
    have D1 := Draws.list (prog := X.prog) (w := X.w) (A := X.A.in1) (I.ok.hd hc) i1 a ne1 t1.toArray
    have D2 := Draws.list (prog := X.prog) (w := X.w) (A := X.A.in1) (I.ok.hd hc) i2 b ne2 t2.toArray
    have D3 := Draws.list (prog := X.prog) (w := X.w) (A := X.A.in1) (I.ok.hd hc) i3 c ne3 t3.toArray
    rw [s2] at D2
    rw [s3] at D3
    unfold pyNext
    refine wpAny_bind (wpAny_attempt (wpAny_callSpecial?_slot (name := Str.ofString "__next__") hT F.slot_zip_next
      (wpAny_call_entry F.slot_zip_next hT F.entry_zip_next (zipS_item S D1 D2 D3 hz hTI hTO ⟨h1, p1.isList⟩ ⟨h2, p2.isList⟩ ⟨h3, p3.isList⟩ hlt fun x1 x2 x3 h' tk e1 e2 e3 z' TO' j1 j2 j3 hT hsz hk => wpAny_pure ?_) (F.args_zip_next_1 _))))
    refine ⟨_, rfl, letGo_zipS (s := { s with heap := h', toks := tk }) z' fun h'' z'' sb => ?_⟩
    have f1 : t1[i]? = some x1 := by simpa using e1
    have f2 : t2[i]? = some x2 := by simpa using e2
    have f3 : t3[i]? = some x3 := by simpa using e3
    have k1 : i < xs.length := hi
    have k2 : i < ys.length := by omega
    have k3 : i < zs.length := by omega
    obtain ⟨u1, hu1, r1⟩ := v1.get (List.getElem?_eq_getElem k1)
    obtain ⟨u2, hu2, r2⟩ := v2.get (List.getElem?_eq_getElem k2)
    obtain ⟨u3, hu3, r3⟩ := v3.get (List.getElem?_eq_getElem k3)
    obtain rfl : u1 = x1 := Option.some.inj (hu1.symm.trans f1)
    obtain rfl : u2 = x2 := Option.some.inj (hu2.symm.trans f2)
    obtain rfl : u3 = x3 := Option.some.inj (hu3.symm.trans f3)
    have hT2 : h''.get? s.heap.objs.size = some { cls := .type "tuple", data := .seq #[u1, u2, u3] } := (sb.2 _ (Nat.ne_of_gt hzl)).trans hT
    have new : ObjOk X.prog X.w (upd H s.heap.objs.size (.tup [xs[i], ys[i], zs[i]])) h'' s.heap.objs.size (.tup [xs[i], ys[i], zs[i]]) :=
      ⟨by show 3 ≤ sizeLine; decide, [u1, u2, u3], .cons r1 (.cons r2 (.cons r3 .nil)), ⟨_, hT2, rfl, _, rfl⟩⟩
    have I1 : Inv X pins σ (upd H s.heap.objs.size (.tup [xs[i], ys[i], zs[i]])) { s with heap := h'', toks := tk } :=
      I.turnedNew (t' := tk) (ch := [z, TI, TO, i1, i2, i3]) (fun c o hb q => (sb.2 c (fun q' => hb (by simp [q']))).trans (hk c o (fun q' => hb (by simp [q'])) (fun q' => hb (by simp [q'])) (fun q' => hb (by simp [q'])) (fun q' => hb (by simp [q'])) (fun q' => hb (by simp [q'])) q)) hf (Nat.le_refl _) new
    refine ⟨.ref s.heap.objs.size, _, I1, rfl, ⟨_, xs[i], ys[i], zs[i], rfl, I.hok.fresh (Nat.le_refl _), rfl, fun l hl => by rw [I.list_inj hl qa]; exact List.getElem?_eq_getElem k1, fun l hl => by rw [I.list_inj hl qb]; exact List.getElem?_eq_getElem k2, fun l hl => by rw [I.list_inj hl qc]; exact List.getElem?_eq_getElem k3⟩, ⟨z'', ?_, ⟨u1, u2, u3, ?_⟩, ?_, ?_, ?_⟩, fun d hdm => ?_⟩
    · exact (sb.2 _ S.TIz).trans (hk _ _ S.TIz S.TITO S.TIi1 S.TIi2 S.TIi3 hTI)
    · exact (sb.2 _ S.TOz).trans TO'
    · exact j1.1.at fun o q => (sb.2 _ (Ne.symm S.zi1)).trans q
    · exact j2.1.at fun o q => (sb.2 _ (Ne.symm S.zi2)).trans q
    · exact j3.1.at fun o q => (sb.2 _ (Ne.symm S.zi3)).trans q
    · have hlt : d < s.heap.objs.size := by
        have e' : d = z ∨ d = TI ∨ d = TO ∨ d = i1 ∨ d = i2 ∨ d = i3 := by simpa using hdm
        rcases e' with q | q | q | q | q | q
        · rw [q]; exact hzl
        · rw [q]; exact Heap.lt_size hTI
        · rw [q]; exact Heap.lt_size hTO
        · rw [q]; obtain ⟨_, e1, _⟩ := h1; exact Heap.lt_size e1
        · rw [q]; obtain ⟨_, e2, _⟩ := h2; exact Heap.lt_size e2
        · rw [q]; obtain ⟨_, e2, _⟩ := h3; exact Heap.lt_size e2
      rw [upd_ne (Nat.ne_of_lt hlt)]
      exact (hf d hdm).1
  done := by
    intro X hP hw hK hc i pins s σ H E I hf st hg
    subst hP hw hK
    obtain ⟨hz, hTI, ⟨a1, a2, a3, hTO⟩, h1, h2, h3⟩ := st
    obtain ⟨xs, ys, zs, qa, qb, qc, l1, l2, hi⟩ := hg
    obtain ⟨t1, v1, p1, _⟩ := I.list qa
    obtain ⟨t2, v2, p2, _⟩ := I.list qb
    obtain ⟨t3, v3, p3, _⟩ := I.list qc
    have g1 := v1.length
    have g2 := v2.length
    have g3 := v3.length
    have s1 : t1.toArray.size = i := by simp; omega
    have s2 : t2.toArray.size = i := by simp; omega
    have s3 : t3.toArray.size = i := by simp; omega
    have nel : ∀ {l it : Addr} {t : List Value} {k : Nat} {m : Addr}, s.heap.IsListIter it m k → s.heap.IsList l t.toArray → l ≠ it := fun hi hl e => by
      obtain ⟨o, ho, hc1, _⟩ := hi
      obtain ⟨o', ho', hc2, _⟩ := hl
      rw [e] at ho'
      rw [ho] at ho'
      cases ho'
      rw [hc1] at hc2
      exact absurd hc2 (by decide)
    have hT : s.TypeIs (.ref z) "zip" := ⟨_, hz, rfl⟩
    have D1 := Draws.list (prog := X.prog) (w := X.w) (A := X.A.in1) (I.ok.hd hc) i1 a (nel h1 p1.isList) t1.toArray
    have D2 := Draws.list (prog := X.prog) (w := X.w) (A := X.A.in1) (I.ok.hd hc) i2 b (nel h2 p2.isList) t2.toArray
    have D3 := Draws.list (prog := X.prog) (w := X.w) (A := X.A.in1) (I.ok.hd hc) i3 c (nel h3 p3.isList) t3.toArray
    rw [s1] at D1
    rw [s2] at D2
    rw [s3] at D3
    unfold pyNext
    refine wpAny_bind (wpAny_attempt (wpAny_callSpecial?_slot (name := Str.ofString "__next__") hT F.slot_zip_next
      (wpAny_call_entry F.slot_zip_next hT F.entry_zip_next (zipS_end (I.ok.hd hc) S D1 D2 D3 hz hTI hTO ⟨h1, p1.isList⟩ ⟨h2, p2.isList⟩ ⟨h3, p3.isList⟩
        (fun h h' st k => ⟨st.1.at fun o q => k i2 (fun e => S.sep1_2 (by simp [e])) o q, st.2.at fun o q => k b (fun e => S.sep1_2 (by simp [e])) o q⟩)
        (fun h h' st k => ⟨st.1.at fun o q => k i3 (fun e => S.sep1_3 (by simp [e])) (fun e => S.sep2_3 (by simp [e])) o q, st.2.at fun o q => k c (fun e => S.sep1_3 (by simp [e])) (fun e => S.sep2_3 (by simp [e])) o q⟩)
        fun h' e2 hk he => ?_) (F.args_zip_next_1 _))))
    obtain ⟨o2, ho2, hc2⟩ := he
    refine wpAny_bind (wpAny_isInstance (T := "StopIteration") (b := true) ⟨o2, ho2, hc2⟩ isSubtype_stop ?_)
    exact wpAny_pure ⟨rfl, I.turnedL (t' := s.toks) (ch := [z, TI, TO, i1, i2, i3]) (fun c o hb q => hk c o (fun q' => hb (by simp [q'])) (fun q' => hb (by simp [q'])) (fun q' => hb (by simp [q'])) (fun q' => hb (by simp [q'])) (fun q' => hb (by simp [q'])) q) hf⟩
  self := fun A i s Q E st h => pyIter_zipS st.1 h
def iZip3 (K : PySem.W.Frag) (ta : TA) : TI := fun σ H R => ta σ H fun vs H1 => ∃ a b c xs ys zs, vs = [.ref a, .ref b, .ref c] ∧ SqL K H1 a xs ∧ SqL K H1 b ys ∧ SqL K H1 c zs ∧ xs.length = ys.length ∧ xs.length = zs.length ∧ R (ItZ3 K a b c) H1
theorem sep3_of (N a b c : Nat) (ha : a < N) (hb : b < N) (hc : c < N) : ZipSep3 (N + 5) (N + 3) (N + 4) N (N + 1) (N + 2) [N, a] [N + 1, b] [N + 2, c] := by
  have k : ∀ (i j x : Nat), x < N → i ≠ j → (N + i : Nat) ≠ N + j ∧ (N + i : Nat) ≠ x := fun i j x h1 h2 => ⟨by omega, by omega⟩
  have k0 : ∀ (j x : Nat), x < N → 0 ≠ j → (N : Nat) ≠ N + j ∧ (N : Nat) ≠ x := fun j x h1 h2 => ⟨by omega, by omega⟩
  have m : ∀ (i j x : Nat), x < N → i ≠ j → (N + i : Nat) ∉ [N + j, x] := fun i j x h1 h2 hm => by
    rcases List.mem_cons.mp hm with e | hm
    · exact (k i j x h1 h2).1 e
    · exact (k i j x h1 h2).2 (List.mem_singleton.mp hm)
  exact {
    TIz := (k 3 5 a ha (by decide)).1, TOz := (k 4 5 a ha (by decide)).1, TITO := (k 3 4 a ha (by decide)).1
    TIi1 := (k 3 0 a ha (by decide)).1, mem1 := List.mem_cons_self, zf1 := m 5 0 a ha (by decide), Tf1 := m 4 0 a ha (by decide)
    TIi2 := (k 3 1 a ha (by decide)).1, mem2 := List.mem_cons_self, zf2 := m 5 1 b hb (by decide), Tf2 := m 4 1 b hb (by decide)
    TIi3 := (k 3 2 a ha (by decide)).1, mem3 := List.mem_cons_self, zf3 := m 5 2 c hc (by decide), Tf3 := m 4 2 c hc (by decide)
    sep1_2 := m 0 1 b hb (by decide), sep1_3 := m 0 2 c hc (by decide), sep2_1 := m 1 0 a ha (by decide), sep2_3 := m 1 2 c hc (by decide), sep3_1 := m 2 0 a ha (by decide), sep3_2 := m 2 1 b hb (by decide) }
theorem pi_zip3s {X : Cx} {e e2 e3 : Expr} {ta : TA} {p pos kp cp tpos : Pos} {tp : Nat} {elts : List Expr} {kk : Nat} (hg : Gl X "zip") (hm : X.mg "zip" = none) (ha : PA X [e, e2, e3] ta)
    (hs : backTo pos (starEach [e, e2, e3] X.env) = (false, eval e X.env) :: backTo pos (starEach [e2, e3] X.env) := by rfl) (hpl : (backTo pos (starEach [e, e2, e3] X.env)).any (·.1) = false := by rfl) :
    PI X (.Tuple elts kk tpos) (.Call (.Name "zip" p) [e, e2, e3] [⟨some "strict", .Constant (.bool true) tp cp, kp⟩] pos) (iZip3 X.K ta) := by
  refine ⟨fun pins s σ H R I h => ?_⟩
  refine wpAny_Call_Name_kw (ld_blt I hg hm PyProof.Rows.boot_zip (callWith_typeKw (thn (ha.run pos pins s σ H _ I h) fun us s1 ⟨vs, H1, I1, r1, q1⟩ => kws_cons ?_) hs hpl))
  refine wpAny_pure (kws_nil ?_)
  show wpAny _ _ (call (.type "zip") us [("strict", .bool true)]) _ _ _
  obtain ⟨a, b, c, xs, ys, zs, ex, qa, qb, qc, l1, l2, q⟩ := q1
  subst ex
  cases r1 with
  | cons r rr =>
    cases rr with
    | cons r' rr =>
      cases rr with
      | cons r'' rr =>
      cases rr
      cases r
      cases r'
      cases r''
      obtain ⟨t1, v1, p1, _⟩ := I1.list qa
      obtain ⟨t2, v2, p2, _⟩ := I1.list qb
      obtain ⟨t3, v3, p3, _⟩ := I1.list qc
      refine zip_beginsS (begins_list a t1.toArray) (begins_list b t2.toArray) (begins_list c t3.toArray) p1.isList p2.isList p3.isList fun h' hz hTI hTO h1 h2 h3 hsz hk => pyIter_zipS hz ?_
      have I2 : Inv X pins σ H1 { s1 with heap := h' } := I1.kept (t' := s1.toks) hk
      refine ⟨s1.heap.objs.size + 5, [s1.heap.objs.size + 5, s1.heap.objs.size + 3, s1.heap.objs.size + 4, s1.heap.objs.size, s1.heap.objs.size + 1, s1.heap.objs.size + 2], _, _, H1, rfl, I2,
        turn_zipS (sep3_of s1.heap.objs.size a b c p1.lt p2.lt p3.lt), ⟨hz, hTI, ⟨_, _, _, hTO⟩, ⟨_, h1, rfl, rfl⟩, ⟨_, h2, rfl, rfl⟩, ⟨_, h3, rfl, rfl⟩⟩, fun d hd => ?_, q⟩
      have hle : s1.heap.objs.size ≤ d := by
        have e' : d = s1.heap.objs.size + 5 ∨ d = s1.heap.objs.size + 3 ∨ d = s1.heap.objs.size + 4 ∨ d = s1.heap.objs.size ∨ d = s1.heap.objs.size + 1 ∨ d = s1.heap.objs.size + 2 := by simpa using hd
        rcases e' with z | z | z | z | z | z <;> rw [z]
        all_goals first | exact Nat.le_refl _ | exact Nat.le_add_right _ _
      exact I1.fpOk hle (I1.hok.fresh hle)
end Gr
/-! the new iterators by data -/
namespace Gr
open PySem PySem.Spec PyProof.Rows L2
section
variable {K : PySem.W.Frag} {ρ ρ1 ρ2 : Env} {ds es fs : List Dt} {d : Dt}
theorem i_enumT {t : TA} (h : EvL K t ρ [.tup ds] ρ1) : EvI K (iEnumT K t) ρ (en ds) ρ1 := fun Fb Hb F H σ I R q =>
  h Fb Hb F H σ I _ fun vs F1 H1 I1 e1 h1 => by
    obtain ⟨v, rfl, a, xs, rfl, h2, h3⟩ := all1 h1
    refine ⟨a, xs, rfl, Evl.ex_t I1.fh h2, q _ F1 H1 I1 e1 fun F2 H2 e2 e3 => ⟨fun i d hi => ?_, ?_⟩⟩
    · obtain ⟨d', k1, rfl⟩ := en_get hi
      obtain ⟨v, g1, g2⟩ := h3.get k1
      have hs : SqT K H2 a xs := Evl.ex_t (e2.trans e3) h2
      exact ⟨⟨xs, v, hs, g1⟩, fun x H3 hy => by
        obtain ⟨T, y, rfl, hT, rfl, hy⟩ := hy
        have := hy xs hs
        rw [g1] at this
        cases this
        exact gw_pair e3 hT rfl (g2.mono e2)⟩
    · exact ⟨xs, Evl.ex_t (e2.trans e3) h2, by rw [en_len, h3.len]; exact Nat.le_refl _⟩
/-- pairs of two rows -/
def zp (ds es : List Dt) : List Dt := (ds.zip es).map fun p => .tup [p.1, p.2]
theorem zp_get {i : Nat} {d : Dt} (h : (zp ds es)[i]? = some d) : ∃ d1 d2, ds[i]? = some d1 ∧ es[i]? = some d2 ∧ d = .tup [d1, d2] := by
  unfold zp at h
  rw [List.getElem?_map] at h
  cases q : (ds.zip es)[i]? with
  | none => rw [q] at h; cases h
  | some p =>
    rw [q] at h
    obtain ⟨k1, k2⟩ := List.getElem?_zip_eq_some.mp q
    exact ⟨p.1, p.2, k1, k2, (Option.some.inj h).symm⟩
theorem zp_len (h : ds.length = es.length) : (zp ds es).length = ds.length := by
  unfold zp
  rw [List.length_map, List.length_zip, ← h, Nat.min_self]
theorem i_enumZip {t : TA} (h : EvL K t ρ [.tup ds, .tup es] ρ1) (hl : ds.length = es.length) : EvI K (iEnumZip K t) ρ (en (zp ds es)) ρ1 := fun Fb Hb F H σ I R q =>
  h Fb Hb F H σ I _ fun vs F1 H1 I1 e1 h1 => by
    obtain ⟨v, u, rfl, ⟨a, xs, rfl, h2, h3⟩, ⟨b, ys, rfl, h4, h5⟩⟩ := all2 h1
    refine ⟨a, b, xs, ys, rfl, Evl.ex_t I1.fh h2, Evl.ex_t I1.fh h4, by rw [h3.len, h5.len]; exact hl, q _ F1 H1 I1 e1 fun F2 H2 e2 e3 => ⟨fun i d hi => ?_, ?_⟩⟩
    · obtain ⟨d', k1, rfl⟩ := en_get hi
      obtain ⟨d1, d2, k2, k3, rfl⟩ := zp_get k1
      obtain ⟨v, g1, g2⟩ := h3.get k2
      obtain ⟨u, g3, g4⟩ := h5.get k3
      have hs : SqT K H2 a xs := Evl.ex_t (e2.trans e3) h2
      have ht : SqT K H2 b ys := Evl.ex_t (e2.trans e3) h4
      exact ⟨⟨xs, ys, v, u, hs, ht, g1, g3⟩, fun x H3 hy => by
        obtain ⟨T, T2, y, z, rfl, hT, hT2, hne, rfl, hy, hz⟩ := hy
        have e5 := hy xs hs
        have e6 := hz ys ht
        rw [g1] at e5
        rw [g3] at e6
        cases e5
        cases e6
        obtain ⟨F3, w1, w2⟩ := gw_pair e3 hT (g2.mono e2) (g4.mono e2)
        obtain ⟨F4, w3, w4⟩ := gw_pair (T := T2) (x := .int (i : Nat)) (d1 := .int (i : Nat)) w1.fh (by rw [upd_ne (Ne.symm hne)]; exact hT2) rfl w2
        exact ⟨F4, w1.trans w3, w4⟩⟩
    · exact ⟨xs, Evl.ex_t (e2.trans e3) h2, by rw [en_len, zp_len hl, h3.len]; exact Nat.le_refl _⟩
theorem gw_tri {F H : Hp} {T : Addr} {x y z : V} {d1 d2 d3 : Dt} (e : Evl.Ex F H) (hT : H T = none) (hx : Da K F x d1) (hy : Da K F y d2) (hz : Da K F z d3) : ∃ F3, Gw F H F3 (upd H T (.tup [x, y, z])) ∧ Da K F3 (.ref T) (.tup [d1, d2, d3]) := by
  have g := Gw.new (o := .tup [x, y, z]) e hT
  exact ⟨_, g, T, _, rfl, Evl.st_of upd_same, .cons (hx.mono g.ff) (.cons (hy.mono g.ff) (.cons (hz.mono g.ff) .nil))⟩
/-- triples of three rows -/
def zp3 (ds es fs : List Dt) : List Dt := (ds.zip (es.zip fs)).map fun p => .tup [p.1, p.2.1, p.2.2]
theorem zp3_get {i : Nat} {d : Dt} (h : (zp3 ds es fs)[i]? = some d) : ∃ d1 d2 d3, ds[i]? = some d1 ∧ es[i]? = some d2 ∧ fs[i]? = some d3 ∧ d = .tup [d1, d2, d3] := by
  unfold zp3 at h
  rw [List.getElem?_map] at h
  cases q : (ds.zip (es.zip fs))[i]? with
  | none => rw [q] at h; cases h
  | some p =>
    rw [q] at h
    obtain ⟨k1, k2⟩ := List.getElem?_zip_eq_some.mp q
    obtain ⟨k3, k4⟩ := List.getElem?_zip_eq_some.mp k2
    exact ⟨p.1, p.2.1, p.2.2, k1, k3, k4, (Option.some.inj h).symm⟩
theorem zp3_len (h : ds.length = es.length) (h2 : ds.length = fs.length) : (zp3 ds es fs).length = ds.length := by
  unfold zp3
  rw [List.length_map, List.length_zip, List.length_zip, ← h, ← h2, Nat.min_self, Nat.min_self]
theorem all3 {F : Hp} {vs : List V} {d1 d2 d3 : Dt} (h : DaAll K F vs [d1, d2, d3]) : ∃ v u w, vs = [v, u, w] ∧ Da K F v d1 ∧ Da K F u d2 ∧ Da K F w d3 := by
  obtain ⟨v, r, rfl, h1, h2⟩ := h
  obtain ⟨u, w, rfl, h3, h4⟩ := all2 h2
  exact ⟨v, u, w, rfl, h1, h3, h4⟩
theorem i_zip3 {t : TA} (h : EvL K t ρ [.lst ds, .lst es, .lst fs] ρ1) (hl : ds.length = es.length) (hm : ds.length = fs.length) : EvI K (iZip3 K t) ρ (zp3 ds es fs) ρ1 := fun Fb Hb F H σ I R q =>
  h Fb Hb F H σ I _ fun vs F1 H1 I1 e1 h1 => by
    obtain ⟨v, u, w, rfl, ⟨a, xs, rfl, h2, h3⟩, ⟨b, ys, rfl, h4, h5⟩, ⟨c, zs, rfl, h6, h7⟩⟩ := all3 h1
    have l1 : xs.length = ys.length := by rw [h3.len, h5.len]; exact hl
    have l2 : xs.length = zs.length := by rw [h3.len, h7.len]; exact hm
    refine ⟨a, b, c, xs, ys, zs, rfl, Evl.sq_of (I1.fh a _ h2), Evl.sq_of (I1.fh b _ h4), Evl.sq_of (I1.fh c _ h6), l1, l2, q _ F1 H1 I1 e1 fun F2 H2 e2 e3 => ⟨fun i d hi => ?_, ?_⟩⟩
    · obtain ⟨d1, d2, d3, k2, k3, k4, rfl⟩ := zp3_get hi
      obtain ⟨v, g1, g2⟩ := h3.get k2
      obtain ⟨u, g3, g4⟩ := h5.get k3
      obtain ⟨w, g5, g6⟩ := h7.get k4
      have ha : SqL K H2 a xs := Evl.sq_of (e3 a _ (e2 a _ h2))
      have hb : SqL K H2 b ys := Evl.sq_of (e3 b _ (e2 b _ h4))
      have hc : SqL K H2 c zs := Evl.sq_of (e3 c _ (e2 c _ h6))
      exact ⟨⟨xs, ys, zs, ha, hb, hc, l1, l2, (List.getElem?_eq_some_iff.mp g1).1⟩, fun x H3 hy => by
        obtain ⟨T, y1, y2, y3, rfl, hT, rfl, hx, hy, hz⟩ := hy
        have e5 := hx xs ha
        have e6 := hy ys hb
        have e7 := hz zs hc
        rw [g1] at e5
        rw [g3] at e6
        rw [g5] at e7
        cases e5
        cases e6
        cases e7
        exact gw_tri e3 hT (g2.mono e2) (g4.mono e2) (g6.mono e2)⟩
    · exact ⟨xs, ys, zs, Evl.sq_of (e3 a _ (e2 a _ h2)), Evl.sq_of (e3 b _ (e2 b _ h4)), Evl.sq_of (e3 c _ (e2 c _ h6)), l1, l2, by rw [zp3_len hl hm, h3.len]⟩
theorem i_zipLL {t : TA} (h : EvL K t ρ [.lst ds, .lst es] ρ1) (hl : ds.length = es.length) : EvI K (RZ.iZipA K t) ρ (zp ds es) ρ1 := fun Fb Hb F H σ I R q =>
  h Fb Hb F H σ I _ fun vs F1 H1 I1 e1 h1 => by
    obtain ⟨v, u, rfl, ⟨a, xs, rfl, h2, h3⟩, ⟨b, ys, rfl, h4, h5⟩⟩ := all2 h1
    refine ⟨a, b, xs, ys, rfl, .inl ⟨Evl.sq_of (I1.fh a _ h2), Evl.sq_of (I1.fh b _ h4), q _ F1 H1 I1 e1 fun F2 H2 e2 e3 => ⟨fun i d hi => ?_, ?_⟩⟩⟩
    · obtain ⟨d1, d2, k2, k3, rfl⟩ := zp_get hi
      obtain ⟨v, g1, g2⟩ := h3.get k2
      obtain ⟨u, g3, g4⟩ := h5.get k3
      have ha : SqL K H2 a xs := Evl.sq_of (e3 a _ (e2 a _ h2))
      have hb : SqL K H2 b ys := Evl.sq_of (e3 b _ (e2 b _ h4))
      exact ⟨⟨xs, ys, v, u, ha, hb, g1, g3⟩, fun x H3 hy => by
        obtain ⟨T, y1, y2, rfl, hT, rfl, hx, hy⟩ := hy
        have e5 := hx xs ha
        have e6 := hy ys hb
        rw [g1] at e5
        rw [g3] at e6
        cases e5
        cases e6
        exact gw_pair e3 hT (g2.mono e2) (g4.mono e2)⟩
    · exact ⟨xs, ys, Evl.sq_of (e3 a _ (e2 a _ h2)), Evl.sq_of (e3 b _ (e2 b _ h4)), .inl (by rw [zp_len hl, h3.len]; exact Nat.le_refl _)⟩
end
end Gr
namespace Gr
open PySem PySem.Spec PyProof.Rows L2
theorem kb_of {K : PySem.W.Frag} {x qual : Str} {params : Arguments} {body : List Stmt} {scope : Scope} {kws : List (Str × V)} {f : Addr} {fd : FuncData} {ps ks : List Str} {n : Nat} (F : FunD K x qual params body scope [] kws f fd)
    (h : ∀ (kV doc pm : Value) (an : Option Addr) (cdv ct : Value) (us ws : List Value), us.length = n → ws.length = ks.length → bindArgs (PySem.W.fnOf x qual params body scope .none kV doc pm an cdv ct) ⟨us, ks.zip ws⟩ = pure (ps.zip (us ++ ws))) : KBn K fd ps n ks (fun us ws => us ++ ws) catV := by
  obtain ⟨oc, od, dV, kV, doc, pm, an, cdv, ct, osl, rfl, lk, hcd, hD, hK⟩ := F.ex
  rcases hD with ⟨_, rfl⟩ | ⟨e, _⟩
  · exact ⟨fun s us ws X l1 l2 => .of_eq (h kV doc pm an cdv ct us ws l1 l2), fun r1 r2 => r1.append r2⟩
  · exact absurd rfl e
end Gr
set_option maxHeartbeats 1000000
/-! list(enumerate(tuple)) -/
namespace Gr
open PySem PySem.Spec PyProof.Rows L2
section
variable {prog : Program} {w : World} {A : Around} {E : Value → Shared → Prop} {s : Shared}
abbrev IsEnumG (h : Heap) (e it : Addr) (i : Int) (f0 : Value) (fb : Bool) (old : Value) : Prop :=
  h.get? e = some { cls := .type "enumerate", dict := none, data := .fields #[f0, .bool fb, .ref it, rawInt i, .none, old], slots := #[] }
def EnG (h : Heap) (e it : Addr) (i : Nat) : Prop := ∃ f0 fb old, (f0 = .none ∨ ∃ T : Addr, f0 = rawInt T) ∧ IsEnumG h e it (i : Nat) f0 fb old
theorem isFree_falseE {e it T : Addr} {i : Int} {fb : Bool} {old : Value} {Q : Bool → Shared → Prop} (hz : IsEnumG s.heap e it i (rawInt T) fb old) (hT : s.heap.get? T ≠ none) (hQ : ∀ h', IsEnumG h' e it i (rawInt T) true old → Heap.SameBut e s.heap h' → Q false { s with heap := h' }) :
    wpAny (model prog w) A (Builtin.SmallTypes.ownedTupleIsFree (.ref e)) Q E s := by
  unfold Builtin.SmallTypes.ownedTupleIsFree
  refine wpAny_bind (wpAny_field hz rfl (x := rawInt T) rfl ?_)
  show wpAny _ _ (loadIfAlive (Int.toNat (T : Int)) >>= _) _ _ s
  refine wpAny_bind (wpAny_ifAlive ?_)
  rw [show Int.toNat (T : Int) = T from rfl]
  cases q : s.heap.get? T with
  | none => exact absurd q hT
  | some o =>
    show wpAny _ _ (field (.ref e) 1 >>= _) _ _ s
    refine wpAny_bind (wpAny_field hz rfl (x := .bool fb) rfl ?_)
    cases fb with
    | true => exact wpAny_pure (hQ s.heap hz ⟨rfl, fun _ _ => rfl⟩)
    | false =>
      show wpAny _ _ (setField (.ref e) 1 (.bool true) >>= _) _ _ s
      exact wpAny_bind (wpAny_setField_rec hz (by simp) fun h' hz' hs' => wpAny_pure (hQ h' hz' hs'))
theorem enumG_item {e it a : Addr} {i : Nat} {items : Array Value} {x : Value} {Q : Option Value → Shared → Prop} (G : EnG s.heap e it i) (hit : s.heap.IsTupleIter it a i) (hl : s.heap.IsTuple a items) (hx : items[i]? = some x) (hne : e ≠ it)
    (hQ : ∀ h' tk, EnG h' e it (i + 1) → h'.IsTupleIter it a (i + 1) → h'.get? s.heap.objs.size = some { cls := .type "tuple", data := .seq #[.int (i : Nat) tk, x] } →
      (∀ b o, b ≠ e → b ≠ it → s.heap.get? b = some o → h'.get? b = some o) → Q (some (.ref s.heap.objs.size)) { s with heap := h', toks := tk + 1 }) :
    wpAny (model prog w) A (pyNext (.ref e)) Q E s := by
  obtain ⟨f0, fb, old, e0, he⟩ := G
  have hT : s.TypeIs (.ref e) "enumerate" := ⟨_, he, rfl⟩
  unfold pyNext
  refine wpAny_bind (wpAny_attempt (wpAny_callSpecial?_slot (name := Str.ofString "__next__") hT F.slot_enumerate_next
    (wpAny_call_entry F.slot_enumerate_next hT F.entry_enumerate_next ?_ (F.args_enumerate_next_1 _))))
  obtain ⟨hp, g, d, tk₀, os⟩ := s
  show wpAny _ _ (field (.ref e) 2 >>= _) _ _ _
  refine wpAny_bind (wpAny_field he rfl (x := .ref it) rfl ?_)
  refine wpAny_bind (RZ.nextOf_tuple_item hit hl hx fun h₁ hit₁ hs₁ => ?_)
  replace hs₁ : Heap.SameBut it hp h₁ := hs₁
  have he₁ : IsEnumG h₁ e it (i : Nat) f0 fb old := (hs₁.2 e hne).trans he
  show wpAny _ _ (field (.ref e) 3 >>= _) _ _ ⟨h₁, g, d, tk₀, os⟩
  refine wpAny_bind (wpAny_field he₁ rfl (x := rawInt (i : Nat)) rfl ?_)
  show wpAny _ _ (field (.ref e) 4 >>= _) _ _ ⟨h₁, g, d, tk₀, os⟩
  refine wpAny_bind (wpAny_field he₁ rfl (x := .none) rfl ?_)
  show wpAny _ _ (mkInt (i : Nat) >>= _) _ _ ⟨h₁, g, d, tk₀, os⟩
  refine wpAny_bind (wpAny_mkInt ?_)
  show wpAny _ _ (setField (.ref e) 3 (rawInt ((i : Nat) + 1)) >>= _) _ _ ⟨h₁, g, d, tk₀ + 1, os⟩
  refine wpAny_bind (wpAny_setField_rec he₁ (by simp) fun h₂ he₂ hs₂ => ?_)
  replace hs₂ : Heap.SameBut e h₁ h₂ := hs₂
  replace he₂ : IsEnumG h₂ e it ((i + 1 : Nat) : Int) f0 fb old := by
    have e1 : ((i + 1 : Nat) : Int) = (i : Int) + 1 := by omega
    rw [e1]; exact he₂
  show wpAny _ _ (setField (.ref e) 4 .none >>= _) _ _ ⟨h₂, g, d, tk₀ + 1, os⟩
  refine wpAny_bind (wpAny_setField_rec he₂ (by simp) fun h₃ he₃ hs₃ => ?_)
  replace hs₃ : Heap.SameBut e h₂ h₃ := hs₃
  replace he₃ : IsEnumG h₃ e it ((i + 1 : Nat) : Int) f0 fb old := he₃
  show wpAny _ _ (newTuple [.int (i : Nat) tk₀, x] >>= _) _ _ ⟨h₃, g, d, tk₀ + 1, os⟩
  refine wpAny_bind (wpAny_newTuple ?_)
  have he₄ : IsEnumG (h₃.push { cls := .type "tuple", data := .seq #[.int (i : Nat) tk₀, x] }) e it ((i + 1 : Nat) : Int) f0 fb old := Heap.get?_push_of_some _ he₃
  generalize hh₄ : h₃.push { cls := .type "tuple", data := .seq #[.int (i : Nat) tk₀, x] } = h₄ at he₄
  have hsz : h₃.objs.size = hp.objs.size := by rw [hs₃.1, hs₂.1, hs₁.1]
  have hel : e < hp.objs.size := Heap.lt_size he
  have ht₄ : h₄.get? hp.objs.size = some { cls := .type "tuple", data := .seq #[.int (i : Nat) tk₀, x] } := by rw [← hh₄, ← hsz]; exact Heap.get?_push_size _ rfl
  have hk₄ : ∀ b o, b ≠ e → b ≠ it → hp.get? b = some o → h₄.get? b = some o := fun b o hbe hbi hb => by
    rw [← hh₄]; exact Heap.get?_push_of_some _ (hs₃.extBut b o hbe (hs₂.extBut b o hbe (hs₁.extBut b o hbi hb)))
  have hi₄ : h₄.IsTupleIter it a (i + 1) := hit₁.at fun o q => by
    rw [← hh₄]; exact Heap.get?_push_of_some _ (hs₃.extBut it o (Ne.symm hne) (hs₂.extBut it o (Ne.symm hne) q))
  show wpAny _ _ (Builtin.SmallTypes.ownedTupleIsFree (.ref e) >>= _) _ _ ⟨h₄, g, d, tk₀ + 1, os⟩
  rw [hsz]
  clear hh₄ he₃ hs₃ he₂ hs₂ he₁ hs₁ hsz hit₁ h₃ h₂ h₁
  have own : (f0 = .none ∨ ∃ T : Addr, f0 = rawInt T ∧ h₄.get? T = none) ∨ ∃ T : Addr, f0 = rawInt T ∧ h₄.get? T ≠ none := by
    rcases e0 with e0 | ⟨T, e0⟩
    · exact .inl (.inl e0)
    · by_cases hT : h₄.get? T = none
      · exact .inl (.inr ⟨T, e0, hT⟩)
      · exact .inr ⟨T, e0, hT⟩
  rcases own with hf0 | ⟨T, rfl, hT⟩
  · refine wpAny_bind (isFree_true (s := ⟨h₄, g, d, tk₀ + 1, os⟩) he₄ rfl rfl hf0 ?_)
    simp only [if_true]
    refine wpAny_bind (wpAny_rule ?_)
    refine wpAny_bind (wpAny_field he₄ rfl (x := old) rfl ?_)
    refine wpAny_bind (wpAny_setField_rec he₄ (by simp) fun h₅ he₅ hs₅ => ?_)
    replace hs₅ : Heap.SameBut e h₄ h₅ := hs₅
    replace he₅ : IsEnumG h₅ e it ((i + 1 : Nat) : Int) f0 fb x := he₅
    show wpAny _ _ (Builtin.SmallTypes.ownedTupleHandOut (.ref e) (.ref hp.objs.size) >>= _) _ _ ⟨h₅, g, d, tk₀ + 1, os⟩
    refine wpAny_bind ?_
    unfold Builtin.SmallTypes.ownedTupleHandOut
    refine wpAny_bind (wpAny_setField_rec he₅ (by simp) fun h₆ he₆ hs₆ => ?_)
    replace hs₆ : Heap.SameBut e h₅ h₆ := hs₆
    replace he₆ : IsEnumG h₆ e it ((i + 1 : Nat) : Int) (rawInt hp.objs.size) fb x := he₆
    refine wpAny_setField_rec he₆ (by simp) fun h₇ he₇ hs₇ => ?_
    replace hs₇ : Heap.SameBut e h₆ h₇ := hs₇
    replace he₇ : IsEnumG h₇ e it ((i + 1 : Nat) : Int) (rawInt hp.objs.size) false x := he₇
    have up : ∀ b o, b ≠ e → h₄.get? b = some o → h₇.get? b = some o := fun b o hbe q => hs₇.extBut b o hbe (hs₆.extBut b o hbe (hs₅.extBut b o hbe q))
    exact wpAny_bind (wpAny_letGo (wpAny_pure ⟨_, rfl, wpAny_pure (hQ h₇ tk₀ ⟨_, _, _, .inr ⟨_, rfl⟩, he₇⟩ (hi₄.at fun o q => up it o (Ne.symm hne) q) (up _ _ (Nat.ne_of_gt hel) ht₄) fun b o hbe hbi q => up b o hbe (hk₄ b o hbe hbi q))⟩))
  · refine wpAny_bind (isFree_falseE (s := ⟨h₄, g, d, tk₀ + 1, os⟩) he₄ hT fun h₅ he₅ hs₅ => ?_)
    replace hs₅ : Heap.SameBut e h₄ h₅ := hs₅
    have up : ∀ b o, b ≠ e → h₄.get? b = some o → h₅.get? b = some o := fun b o hbe q => hs₅.extBut b o hbe q
    show wpAny _ _ (ret (.ref hp.objs.size)) _ _ _
    exact wpAny_pure ⟨_, rfl, wpAny_pure (hQ h₅ tk₀ ⟨_, _, _, .inr ⟨_, rfl⟩, he₅⟩ (hi₄.at fun o q => up it o (Ne.symm hne) q) (up _ _ (Nat.ne_of_gt hel) ht₄) fun b o hbe hbi q => up b o hbe (hk₄ b o hbe hbi q))⟩
theorem enumG_end {e it a : Addr} {i : Nat} {items : Array Value} {Q : Option Value → Shared → Prop} (hh : A.handled = none) (G : EnG s.heap e it i) (hit : s.heap.IsTupleIter it a i) (hl : s.heap.IsTuple a items) (hx : items[i]? = none)
    (hQ : ∀ h', Heap.ExtBut it s.heap h' → Q none { s with heap := h' }) : wpAny (model prog w) A (pyNext (.ref e)) Q E s := by
  obtain ⟨f0, fb, old, e0, he⟩ := G
  have hT : s.TypeIs (.ref e) "enumerate" := ⟨_, he, rfl⟩
  unfold pyNext
  refine wpAny_bind (wpAny_attempt (wpAny_callSpecial?_slot (name := Str.ofString "__next__") hT F.slot_enumerate_next
    (wpAny_call_entry F.slot_enumerate_next hT F.entry_enumerate_next ?_ (F.args_enumerate_next_1 _))))
  show wpAny _ _ (field (.ref e) 2 >>= _) _ _ s
  refine wpAny_bind (wpAny_field he rfl (x := .ref it) rfl ?_)
  refine wpAny_bind (RZ.nextOf_tuple_end hh hit hl hx fun h' e2 hx2 ho2 => ?_)
  obtain ⟨o2, ho2, hc2⟩ := ho2
  refine wpAny_bind (wpAny_isInstance (T := "StopIteration") (b := true) ⟨o2, ho2, hc2⟩ isSubtype_stop ?_)
  exact wpAny_pure (hQ h' hx2)
theorem enum_no_len : typeLookup (.type "enumerate") "__len__" = pure none := by rw [typeLookup_type, builtinLookup_eq_fast]; kernel_rfl
theorem enum_no_hint : typeLookup (.type "enumerate") "__length_hint__" = pure none := by rw [typeLookup_type, builtinLookup_eq_fast]; kernel_rfl
theorem wpAny_pyIter_enumG {e it : Addr} {i : Nat} {Q : Value → Shared → Prop} (G : EnG s.heap e it i) (h : Q (.ref e) s) : wpAny (model prog w) A (pyIter (.ref e)) Q E s := by
  obtain ⟨f0, fb, old, e0, he⟩ := G
  have hT : s.TypeIs (.ref e) "enumerate" := ⟨_, he, rfl⟩
  refine wpAny_pyIter_slot hT F.slot_enumerate_iter (wpAny_call_entry F.slot_enumerate_iter hT F.entry_enumerate_iter ?_ (F.args_enumerate_iter_1 _))
  show wpAny _ _ (ret (.ref e)) _ _ s
  exact wpAny_pure ⟨_, rfl, "enumerate", _, hT, F.slot_enumerate_next.lookup, h⟩
end
/-- the loop of list(enumerate(t)) -/
theorem enl_loop {X : Cx} {pins : List (Addr × Obj)} {σ : L2.St} {A : Around} {R : Result → Shared → Prop} {a S e it : Addr} {xs : List V} {H0 : Hp} (hh : A.handled = none) (hne : e ≠ it) (hz : xs.length ≤ 100000) (hq0 : SqT X.K H0 a xs) (hS0 : H0 S = none)
    (hR : ∀ s' H' (ts : List Addr), Inv X pins σ H' s' → Evl.Ex H0 H' → H' S = some (.lst (ts.map .ref)) → ts.length = xs.length → (∀ (j : Nat) t, ts[j]? = some t → ∃ x, xs[j]? = some x ∧ H' t = some (.tup [.int (j : Nat), x])) → (∀ t ∈ ts, H0 t = none) → R (.ok (.ret .none)) s') :
    ∀ (k i : Nat) (s : Shared) (H : Hp) (ts : List Addr), xs.length - i = k → i ≤ xs.length → Inv X pins σ H s → Evl.Ex H0 H → H S = some (.lst (ts.map .ref)) → ts.length = i → (∀ (j : Nat) t, ts[j]? = some t → ∃ x, xs[j]? = some x ∧ H t = some (.tup [.int (j : Nat), x])) → (∀ t ∈ ts, H0 t = none) →
      EnG s.heap e it i → s.heap.IsTupleIter it a i → (∀ b ∈ [e, it], FpOk X pins H b) → codeAny (model X.prog X.w) A (.builtin "list.extend.loop" ⟨[.ref S, .ref e, .none], []⟩) R s := by
  intro k
  induction k with
  | zero =>
    intro i s H ts hk hi I ex hS hl hts hf0 G hit fp
    have hq := Evl.ex_t ex hq0
    have hin : i = xs.length := by omega
    obtain ⟨its, rv, p, hz⟩ := I.tuple hq
    have hl2 := rv.length
    have hqn : its.toArray[i]? = none := by simp; omega
    refine codeAny_builtin F.entry_extend_loop ?_
    rw [Around.under_plainId F.plain_extend_loop _]
    show wpAny _ A.in1 (pyNext (.ref e) >>= _) _ _ s
    refine wpAny_bind (enumG_end hh G hit p hqn fun h' hx => wpAny_pure ?_)
    obtain ⟨f0, f1, f2, f3, f4, f5⟩ := fp it (by simp)
    exact hR _ H ts (I.turned (t' := s.toks) (fun b o hb q => hx b o hb q) f0 f1 f3 f4 f5) ex hS (hl.trans hin) hts hf0
  | succ k ih =>
    intro i s H ts hk hi I ex hS hl hts hf0 G hit fp
    have hq := Evl.ex_t ex hq0
    have hlt : i < xs.length := by omega
    obtain ⟨its, rv, p, hzz⟩ := I.tuple hq
    obtain ⟨u, hu, ru⟩ := rv.get (List.getElem?_eq_getElem hlt)
    have hel : e < s.heap.objs.size := by obtain ⟨_, _, _, _, he⟩ := G; exact Heap.lt_size he
    have hil : it < s.heap.objs.size := by obtain ⟨_, q, _⟩ := hit; exact Heap.lt_size q
    refine codeAny_builtin F.entry_extend_loop ?_
    rw [Around.under_plainId F.plain_extend_loop _]
    show wpAny _ A.in1 (pyNext (.ref e) >>= _) _ _ s
    refine wpAny_bind (enumG_item G hit p (x := u) (by simpa using hu) hne fun h' tk G' hit' hT hk' => ?_)
    have new : ObjOk X.prog X.w (upd H s.heap.objs.size (.tup [.int (i : Nat), xs[i]])) h' s.heap.objs.size (.tup [.int (i : Nat), xs[i]]) :=
      ⟨by show 2 ≤ sizeLine; decide, [.int (i : Nat) tk, u], .cons ⟨_, rfl⟩ (.cons ru .nil), ⟨_, hT, rfl, _, rfl⟩⟩
    have I1 : Inv X pins σ (upd H s.heap.objs.size (.tup [.int (i : Nat), xs[i]])) { s with heap := h', toks := tk + 1 } :=
      I.turnedNew (t' := tk + 1) (ch := [e, it]) (fun b ob hb q => hk' b ob (fun z => hb (by simp [z])) (fun z => hb (by simp [z])) q) fp (Nat.le_refl _) new
    have hn : H s.heap.objs.size = none := I.hok.fresh (Nat.le_refl _)
    have neS : S ≠ s.heap.objs.size := fun q => by rw [q, hn] at hS; cases hS
    have hS1 : (upd H s.heap.objs.size (.tup [.int (i : Nat), xs[i]])) S = some (.lst (ts.map .ref)) := by rw [upd_ne neS]; exact hS
    obtain ⟨z, its2, n2, r2, hl2, e2⟩ := I1.lstM hS1
    show wpAny _ A.in1 (updateSeq S (·.push (.ref s.heap.objs.size)) >>= _) _ _ _
    have hsz2 : its2.toArray.size = i := by
      have := r2.length
      simp at this ⊢
      omega
    have I2 := I1.lset (l := S) (its' := its2 ++ [.ref s.heap.objs.size]) (ys := ts.map .ref ++ [.ref s.heap.objs.size]) (f := fun (z : Array Value) => z.push (.ref s.heap.objs.size)) (t' := tk + 1) hS1 e2 (by simp) (r2.append (.cons (show L2.RelV (.ref s.heap.objs.size) (.ref s.heap.objs.size) from rfl) .nil)) (by
      rw [List.length_append, List.length_map]
      have := sz (n := 100000) (Nat.le_refl _)
      simp
      omega)
    have neSe : S ≠ e := fun q => by
      have := (fp e (by simp)).1
      rw [← q, hS] at this
      cases this
    have neSi : S ≠ it := fun q => by
      have := (fp it (by simp)).1
      rw [← q, hS] at this
      cases this
    have eqm : ts.map V.ref ++ [.ref s.heap.objs.size] = (ts ++ [s.heap.objs.size]).map V.ref := by simp
    rw [eqm] at I2
    have bigL := sz (n := 100000) (Nat.le_refl _)
    have exH : Evl.Ex H0 (upd (upd H s.heap.objs.size (.tup [.int (i : Nat), xs[i]])) S (.lst ((ts ++ [s.heap.objs.size]).map V.ref))) := fun b o q => by
      have nb : b ≠ S := fun z => by rw [z, hS0] at q; cases q
      have nb2 : b ≠ s.heap.objs.size := fun z => by
        have := ex b o q
        rw [z, hn] at this
        cases this
      rw [upd_ne nb, upd_ne nb2]
      exact ex b o q
    refine wpAny_bind (wpAny_updateSeq e2 rfl (wpAny_pure ⟨plainId_quiet F.plain_extend_loop _, ih (i + 1) _ _ (ts ++ [s.heap.objs.size]) (by omega) hlt I2 exH upd_same (by simp [hl]) (fun j t hj => ?_) (fun t ht => ?_) ?_ ?_ (fun b hb => ?_)⟩) (by rw [hsz2]; omega) (by show ((its2.toArray).push _).size ≤ sizeLine + 1; rw [Array.size_push, hsz2]; omega))
    · have nS : t ≠ S := fun z => by
        rw [List.getElem?_append] at hj
        split at hj
        · rename_i hjl
          obtain ⟨x, q1, q2⟩ := hts j t hj
          rw [z, hS] at q2
          cases q2
        · have : t = s.heap.objs.size := by
            cases q : j - ts.length with
            | zero => rw [q] at hj; exact (Option.some.inj hj).symm
            | succ m => rw [q] at hj; cases hj
          exact neS (z.symm.trans this)
      rw [upd_ne nS]
      rw [List.getElem?_append] at hj
      split at hj
      · obtain ⟨x, q1, q2⟩ := hts j t hj
        refine ⟨x, q1, ?_⟩
        rw [upd_ne (fun z => by rw [z, hn] at q2; cases q2)]
        exact q2
      · rename_i hjl
        cases q : j - ts.length with
        | zero =>
          rw [q] at hj
          have e1 := Option.some.inj hj
          have e2 : j = i := by omega
          subst e2
          subst e1
          exact ⟨xs[j], List.getElem?_eq_getElem hlt, upd_same⟩
        | succ m => rw [q] at hj; cases hj
    · rcases List.mem_append.mp ht with q | q
      · exact hf0 t q
      · rw [List.mem_singleton.mp q]
        cases q2 : H0 s.heap.objs.size with
        | none => rfl
        | some o =>
          have := ex _ o q2
          rw [hn] at this
          cases this
    · obtain ⟨f0, fb, old, e0, he⟩ := G'
      exact ⟨f0, fb, old, e0, (Heap.get?_update_other _ _ neSe).trans he⟩
    · exact hit'.at fun o q => (Heap.get?_update_other _ _ neSi).trans q
    · have q := fp b hb
      have nbS : b ≠ S := fun z => by
        have := q.1
        rw [z, hS] at this
        cases this
      have hlt : b < s.heap.objs.size := by
        have e' : b = e ∨ b = it := by simpa using hb
        rcases e' with z | z
        · rw [z]; exact hel
        · rw [z]; exact hil
      exact ⟨by rw [upd_ne nbS, upd_ne (Nat.ne_of_lt hlt)]; exact q.1, q.2⟩
/-- what has come -/
def EnlR (X : Cx) (pins : List (Addr × Obj)) (σ : L2.St) (H0 : Hp) (S : Addr) (xs : List V) (s' : Shared) : Prop :=
  ∃ (H' : Hp) (ts : List Addr), Inv X pins σ H' s' ∧ Evl.Ex H0 H' ∧ H' S = some (.lst (ts.map .ref)) ∧ ts.length = xs.length ∧ (∀ (j : Nat) t, ts[j]? = some t → ∃ x, xs[j]? = some x ∧ H' t = some (.tup [.int (j : Nat), x])) ∧ ∀ t ∈ ts, H0 t = none
theorem call_list_enum {X : Cx} {pins : List (Addr × Obj)} {σ : L2.St} {s : Shared} {a e it : Addr} {xs : List V} {H : Hp} {Q : Value → Shared → Prop} (hc : X.calm = true) (I : Inv X pins σ H s) (hne : e ≠ it) (hz : xs.length ≤ 100000) (hq : SqT X.K H a xs) (G : EnG s.heap e it 0) (hit : s.heap.IsTupleIter it a 0) (fp : ∀ b ∈ [e, it], FpOk X pins H b)
    (hR : ∀ s', EnlR X pins σ H s.heap.objs.size xs s' → H s.heap.objs.size = none → Q (.ref s.heap.objs.size) s') : wpAny (model X.prog X.w) X.A (call (.type "list") [.ref e]) Q X.xe s := by
  have hel : e < s.heap.objs.size := by obtain ⟨_, _, _, _, he⟩ := G; exact Heap.lt_size he
  have hil : it < s.heap.objs.size := by obtain ⟨_, q, _⟩ := hit; exact Heap.lt_size q
  have hn : H s.heap.objs.size = none := I.hok.fresh (Nat.le_refl _)
  refine callType_codes (Q₁ := fun obj s₁ => obj = .ref s.heap.objs.size ∧ s₁ = { s with heap := s.heap.push { cls := .type "list", data := .seq #[] } }) F.called_list (F.typeCall_list_1 _) F.entry_list_init
    (code_list_new _ ⟨rfl, rfl⟩) fun obj s₁ h₁ => ?_
  obtain ⟨rfl, rfl⟩ := h₁
  have hS : (s.heap.push { cls := .type "list", data := .seq #[] }).get? s.heap.objs.size = some { cls := .type "list", data := .seq #[] } := Heap.get?_push_size _ rfl
  refine ⟨⟨_, hS, rfl⟩, F.args_list_init_2 _ _, ?_⟩
  have I1 : Inv X pins σ (upd H s.heap.objs.size (.lst [])) { s with heap := s.heap.push { cls := .type "list", data := .seq #[] }, toks := s.toks } := I.lnew (its := []) (t' := s.toks) .nil (Nat.zero_le _)
  have G1 : EnG (s.heap.push { cls := .type "list", data := .seq #[] }) e it 0 := by
    obtain ⟨f0, fb, old, e0, he⟩ := G
    exact ⟨f0, fb, old, e0, Heap.get?_push_of_some _ he⟩
  have hit1 : (s.heap.push { cls := .type "list", data := .seq #[] }).IsTupleIter it a 0 := hit.at fun o q => Heap.get?_push_of_some _ q
  generalize hS0 : s.heap.objs.size = S at *
  generalize s.heap.push { cls := .type "list", data := .seq #[] } = h1 at *
  have neSe : S ≠ e := Nat.ne_of_gt hel
  have neSi : S ≠ it := Nat.ne_of_gt hil
  show wpAny _ _ (do let old ← Builtin.List.listItems (.ref S); Builtin.List.listUpdate (.ref S) (fun _ => #[]); letGo old.toList.reverse; Builtin.List.listExtendWith (.ref S) (.ref e) .none) _ _ _
  refine wpAny_bind ?_
  unfold Builtin.List.listItems
  refine wpAny_bind (wpAny_seqItems hS rfl (wpAny_pure ?_))
  show wpAny _ _ (updateSeq S (fun _ => #[]) >>= fun _ => letGo (#[] : Array Value).toList.reverse >>= fun _ => Builtin.List.listExtendWith (.ref S) (.ref e) .none) _ _ _
  refine wpAny_bind (wpAny_updateSeq hS rfl ?_)
  have I2 := I1.lset (l := S) (its := []) (its' := []) (ys := []) (f := fun _ => (#[] : Array Value)) (t' := s.toks) upd_same hS rfl .nil (Nat.zero_le _)
  have hS2 := Heap.get?_update_self (Obj.mapSeq (fun _ => (#[] : Array Value))) hS rfl
  refine wpAny_bind (wpAny_letGo ?_)
  have G2 : EnG (h1.update S (Obj.mapSeq (fun _ => (#[] : Array Value)))) e it 0 := by
    obtain ⟨f0, fb, old, e0, he⟩ := G1
    exact ⟨f0, fb, old, e0, (Heap.get?_update_other _ _ neSe).trans he⟩
  have hit2 : (h1.update S (Obj.mapSeq (fun _ => (#[] : Array Value)))).IsTupleIter it a 0 := hit1.at fun o q => (Heap.get?_update_other _ _ neSi).trans q
  generalize h1.update S (Obj.mapSeq (fun _ => (#[] : Array Value))) = h2 at *
  have hTy : Shared.TypeIs { s with heap := h2 } (.ref e) "enumerate" := by
    obtain ⟨_, _, _, _, he⟩ := G2
    exact ⟨_, he, rfl⟩
  unfold Builtin.List.listExtendWith
  refine wpAny_bind (wpAny_typeOf hTy ?_)
  have g1 : Builtin.List.listSameRef (.ref S) (.ref e) = false := by simp [Builtin.List.listSameRef, neSe]
  have g2 : (Value.type "enumerate" == Value.type "list") = false := by decide
  have g3 : (Value.type "enumerate" == Value.type "tuple") = false := by decide
  simp only [g1, g2, g3, Bool.or_false, Bool.false_eq_true, if_false]
  refine wpAny_bind (wpAny_pyIter_enumG G2 ?_)
  refine wpAny_bind (wpAny_holding ?_)
  unfold Builtin.List.listLengthHint
  refine wpAny_bind (wpAny_specialOf hTy enum_no_len ?_)
  show wpAny _ _ (specialOf (Value.ref e) (Str.ofString "__length_hint__") >>= _) _ _ _
  refine wpAny_bind (wpAny_specialOf hTy enum_no_hint ?_)
  refine wpAny_pure ?_
  show wpAny _ _ (rule "list.extend.makes-room" >>= fun _ => Builtin.List.listTouch (.ref S) >>= fun _ =>
    again (.builtin "list.extend.loop" ⟨[.ref S, .ref e, .none], []⟩)) _ _ _
  refine wpAny_bind (wpAny_rule ?_)
  refine wpAny_bind ?_
  show wpAny _ _ (updateSeq S (·.push .none) >>= fun _ => updateSeq S (·.pop)) _ _ _
  refine wpAny_bind (wpAny_updateSeq hS2 rfl ?_)
  have I3 := I2.lset (l := S) (its := []) (its' := [.none]) (ys := [.non]) (f := fun (z : Array Value) => z.push .none) (t' := s.toks) upd_same hS2 rfl (.cons rfl .nil) (by show 1 ≤ sizeLine; decide)
  have hS3 := Heap.get?_update_self (Obj.mapSeq (·.push Value.none)) hS2 rfl
  refine wpAny_updateSeq (hz := by seq_fits) hS3 rfl ?_
  have I4 := I3.lset (l := S) (its := [.none]) (its' := []) (ys := []) (f := fun (z : Array Value) => z.pop) (t' := s.toks) upd_same hS3 rfl .nil (Nat.zero_le _)
  have ex : Evl.Ex H (upd (upd (upd (upd H S (.lst [])) S (.lst [])) S (.lst [.non])) S (.lst [])) := fun b o q => by
    have nb : b ≠ S := fun z => by rw [z, hn] at q; cases q
    rw [upd_ne nb, upd_ne nb, upd_ne nb, upd_ne nb]
    exact q
  refine wpAny_pure ⟨plainId_quiet F.plain_extend_loop _, enl_loop (A := X.A.in1) (I.ok.hd hc) hne hz hq hn (fun s' H' ts i1 i2 i3 i4 i5 i6 => ⟨rfl, hR s' ⟨H', ts, i1, i2, i3, i4, i5, i6⟩ hn⟩) xs.length 0 _ _ [] rfl (Nat.zero_le _) I4 ex upd_same rfl (fun j t hj => by cases hj) (fun t ht => by cases ht) ?_ ?_ fun b hb => ?_⟩
  · obtain ⟨f0, fb, old, e0, he⟩ := G2
    exact ⟨f0, fb, old, e0, (Heap.get?_update_other _ _ neSe).trans ((Heap.get?_update_other _ _ neSe).trans he)⟩
  · exact hit2.at fun o q => (Heap.get?_update_other _ _ neSi).trans ((Heap.get?_update_other _ _ neSi).trans q)
  · have q := fp b hb
    have nb : b ≠ S := by
      have e' : b = e ∨ b = it := by simpa using hb
      rcases e' with z | z
      · rw [z]; exact Ne.symm neSe
      · rw [z]; exact Ne.symm neSi
    exact ⟨by rw [upd_ne nb, upd_ne nb, upd_ne nb, upd_ne nb]; exact q.1, q.2⟩
def tListEnum (K : PySem.W.Frag) (ta : TA) : TE := fun σ H Q => ta σ H fun vs H1 => ∃ a xs, vs = [.ref a] ∧ SqT K H1 a xs ∧ xs.length ≤ 100000 ∧ ∀ S H' (ts : List Addr), H1 S = none → Evl.Ex H1 H' → H' S = some (.lst (ts.map .ref)) → ts.length = xs.length → (∀ (j : Nat) t, ts[j]? = some t → ∃ x, xs[j]? = some x ∧ H' t = some (.tup [.int (j : Nat), x])) → (∀ t ∈ ts, H1 t = none) → Q (.ref S) H'
theorem pe_listEnum {X : Cx} {a : Expr} {ta : TA} {p p2 q pos : Pos} (hcm : X.calm = true) (hg : Gl X "list") (hm : X.mg "list" = none) (hg2 : Gl X "enumerate") (hm2 : X.mg "enumerate" = none) (ha : PA X [a] ta)
    (na : starEach [a] X.env = [(false, eval a X.env)] := by rfl) (nb : starEach [.Call (.Name "enumerate" p2) [a] [] q] X.env = [(false, eval (.Call (.Name "enumerate" p2) [a] [] q) X.env)] := by rfl) : PE X (.Call (.Name "list" p) [.Call (.Name "enumerate" p2) [a] [] q] [] pos) (tListEnum X.K ta) := by
  refine ⟨fun pins s σ H Q I h => ?_⟩
  refine Call_ (ld_blt I hg hm boot_list (PyProof.Rows.callWith_type1 (args_cons (Call_ (ld_blt I hg2 hm2 boot_enumerate (PyProof.Rows.callWith_type1 (thn (ha.run q pins s σ H _ I h) fun us s1 ⟨vs, H1, I1, r1, q1⟩ => ?_) na rfl))) nb) nb rfl))
  obtain ⟨a, xs, ex, hq, hz, q⟩ := q1
  subst ex
  cases r1 with
  | cons r rr =>
    cases rr
    cases r
    obtain ⟨its, rv, p', _⟩ := I1.tuple hq
    have hsz : (s1.heap.push { cls := .type "tuple_iterator", data := .fields #[.ref a, .int 0 0] }).objs.size = s1.heap.objs.size + 1 := Heap.size_push ..
    refine call_enum1 (it := s1.heap.objs.size) (h1 := s1.heap.push { cls := .type "tuple_iterator", data := .fields #[.ref a, .int 0 0] }) (fun prog w A E s' Q e0 q' => ?_) (fun b o x => Heap.get?_push_of_some _ x) fun h' he hk => args_nil ?_
    · refine wpAny_pyIter_tuple (items := its.toArray) (by rw [e0]; exact p') ?_
      rw [e0]
      exact q'
    have hk2 : ∀ b o, s1.heap.get? b = some o → h'.get? b = some o := fun b o x => hk b o (Heap.get?_push_of_some _ x)
    have I2 : Inv X pins σ H1 { s1 with heap := h' } := I1.kept (t' := s1.toks) hk2
    have hit : h'.IsTupleIter s1.heap.objs.size a 0 := ⟨_, hk _ _ (Heap.get?_push_size _ rfl), rfl, rfl⟩
    rw [hsz] at he ⊢
    refine call_list_enum hcm I2 (Nat.succ_ne_self _) hz hq ⟨.none, false, .none, .inl rfl, he⟩ hit (fun b hb => ?_) fun s' hs hn => ?_
    · have e' : b = s1.heap.objs.size + 1 ∨ b = s1.heap.objs.size := by simpa using hb
      have hle : s1.heap.objs.size ≤ b := by
        rcases e' with z | z
        · rw [z]; exact Nat.le_add_right _ _
        · rw [z]; exact Nat.le_refl _
      exact I1.fpOk hle (I1.hok.fresh hle)
    · obtain ⟨H', ts, i1, i2, i3, i4, i5, i6⟩ := hs
      exact ⟨.ref _, H', i1, rfl, q _ H' ts hn i2 i3 i4 i5 i6⟩
end Gr
namespace Gr
open PySem PySem.Spec PyProof.Rows L2
section
variable {K : PySem.W.Frag} {ρ ρ1 ρ2 : Env} {ds es fs : List Dt} {d : Dt}
theorem DaAll.of_get {H : Hp} : ∀ {ds : List Dt} {vs : List V}, vs.length = ds.length → (∀ (j : Nat) v d, vs[j]? = some v → ds[j]? = some d → Da K H v d) → DaAll K H vs ds
  | [], [], _, _ => rfl
  | d :: ds, v :: vs, hl, h => .cons (h 0 v d rfl rfl) (DaAll.of_get (by simpa using hl) fun j v d h1 h2 => h (j + 1) v d (by simpa using h1) (by simpa using h2))
  | [], _ :: _, hl, _ => by cases hl
  | _ :: _, [], hl, _ => by cases hl
/-- all that is new is frozen -/
theorem Gw.all {F H H' : Hp} (e : Evl.Ex F H) (h : Evl.Ex H H') : ∃ F', Gw F H F' H' ∧ ∀ b, H b = none → F' b = H' b := by
  classical
  refine ⟨fun b => if H b = none then H' b else F b, ⟨fun b o q => ?_, fun b o q => ?_, h, fun b q1 q2 => ?_⟩, fun b hb => ?_⟩
  · have := e b o q
    show (if H b = none then H' b else F b) = some o
    rw [if_neg (by rw [this]; simp)]
    exact q
  · replace q : (if H b = none then H' b else F b) = some o := q
    split at q
    · exact q
    · exact h b o (e b o q)
  · show (if H b = none then H' b else F b) = none
    rw [if_neg q2]
    exact q1
  · show (if H b = none then H' b else F b) = H' b
    rw [if_pos hb]
theorem x_listEnum {t : TA} (h : EvL K t ρ [.tup ds] ρ1) (hl : ds.length ≤ 100000) : EvX K (tListEnum K t) ρ (.lst (en ds)) ρ1 := fun Fb Hb F H σ I Q q =>
  h Fb Hb F H σ I _ fun vs F1 H1 I1 e1 h1 => by
    obtain ⟨v, rfl, a, xs, rfl, h2, h3⟩ := all1 h1
    refine ⟨a, xs, rfl, Evl.ex_t I1.fh h2, by rw [h3.len]; exact hl, fun S H' ts hS ex hl lt hts hn => ?_⟩
    obtain ⟨F', g, hF⟩ := Gw.all I1.fh ex
    refine q _ F' H' (I1.grow g) (e1.trans g.ff) ⟨S, ts.map .ref, rfl, by rw [hF S hS]; exact hl, DaAll.of_get (by rw [List.length_map, lt, en_len, h3.len]) fun j v d k1 k2 => ?_⟩
    rw [List.getElem?_map] at k1
    cases k3 : ts[j]? with
    | none => rw [k3] at k1; cases k1
    | some t =>
      rw [k3] at k1
      obtain rfl : V.ref t = v := Option.some.inj k1
      obtain ⟨x, k4, k5⟩ := hts j t k3
      obtain ⟨d', k6, rfl⟩ := en_get k2
      obtain ⟨y, k7, k8⟩ := h3.get k6
      rw [k4] at k7
      obtain rfl : x = y := Option.some.inj k7
      have ht : t ∈ ts := List.mem_of_getElem? k3
      exact ⟨t, _, rfl, Evl.st_of (by rw [hF t (hn t ht)]; exact k5), .cons rfl (.cons (k8.mono g.ff) .nil)⟩
end
/-! == of data -/
section
variable {K : PySem.W.Frag}
mutual
def tp : Dt → PyData
  | .non => .none
  | .bl b => .bool b
  | .int i => .int i
  | .str x => .str x
  | .lst ds => .list (tpAll ds)
  | .tup ds => .tuple (tpAll ds)
  | .ins _ _ _ => .none
  | .ty _ => .none
def tpAll : List Dt → List PyData
  | [] => []
  | d :: ds => tp d :: tpAll ds
end
mutual
/-- plain data of codes that are characters, nested at most n deep -/
def Pl : Nat → Dt → Prop
  | _, .non => True
  | _, .bl _ => True
  | _, .int _ => True
  | _, .str x => PyData.strOk x = true
  | 0, .lst _ => False
  | 0, .tup _ => False
  | n + 1, .lst ds => PlAll n ds
  | n + 1, .tup ds => PlAll n ds
  | _, .ins _ _ _ => False
  | _, .ty _ => False
def PlAll : Nat → List Dt → Prop
  | _, [] => True
  | n, d :: ds => Pl n d ∧ PlAll n ds
end
theorem PlAll.of {n : Nat} : ∀ {ds : List Dt}, (∀ d ∈ ds, Pl n d) → PlAll n ds
  | [], _ => by unfold PlAll; trivial
  | d :: ds, h => by
    unfold PlAll
    exact ⟨h d List.mem_cons_self, PlAll.of fun e he => h e (List.mem_cons_of_mem _ he)⟩
mutual
theorem dp_of {H : Hp} : ∀ (n : Nat) (d : Dt) (v : V), Pl n d → Da K H v d → Dp K H v (tp d) ∧ (tp d).canLay0 = true ∧ (tp d).depth ≤ n
  | _, .non, v, _, h => by
    rw [show v = V.non from h]
    unfold tp
    exact ⟨.non, rfl, by simp [PyData.depth]⟩
  | _, .bl b, v, _, h => by
    rw [show v = V.bl b from h]
    unfold tp
    exact ⟨.bl b, rfl, by simp [PyData.depth]⟩
  | _, .int i, v, _, h => by
    rw [show v = V.int i from h]
    unfold tp
    exact ⟨.int i, rfl, by simp [PyData.depth]⟩
  | _, .str x, v, p, h => by
    rw [show v = V.str x from h]
    unfold tp
    unfold Pl at p
    exact ⟨.str x, by unfold PyData.canLay0; exact p, by simp [PyData.depth]⟩
  | 0, .lst ds, v, p, h => (by unfold Pl at p; exact p.elim)
  | 0, .tup ds, v, p, h => (by unfold Pl at p; exact p.elim)
  | n + 1, .lst ds, v, p, h => by
    obtain ⟨a, xs, rfl, h2, h3⟩ := h
    unfold Pl at p
    obtain ⟨q1, q2, q3⟩ := dpAll_of n ds xs p h3
    unfold tp
    refine ⟨.lst (Evl.sq_of h2) q1, by unfold PyData.canLay0; exact q2, ?_⟩
    unfold PyData.depth
    exact Nat.succ_le_succ q3
  | n + 1, .tup ds, v, p, h => by
    obtain ⟨a, xs, rfl, h2, h3⟩ := h
    unfold Pl at p
    obtain ⟨q1, q2, q3⟩ := dpAll_of n ds xs p h3
    unfold tp
    refine ⟨.tup h2 q1, by unfold PyData.canLay0; exact q2, ?_⟩
    unfold PyData.depth
    exact Nat.succ_le_succ q3
  | _, .ins _ _ _, v, p, h => (by unfold Pl at p; exact p.elim)
  | _, .ty _, v, p, h => (by unfold Pl at p; exact p.elim)
theorem dpAll_of {H : Hp} : ∀ (n : Nat) (ds : List Dt) (vs : List V), PlAll n ds → DaAll K H vs ds → DpAll K H vs (tpAll ds) ∧ PyData.canLayAll0 (tpAll ds) = true ∧ PyData.depthAll (tpAll ds) ≤ n
  | _, [], vs, _, h => by
    rw [show vs = [] from h]
    unfold tpAll
    exact ⟨.nil, by unfold PyData.canLayAll0; rfl, by unfold PyData.depthAll; exact Nat.zero_le _⟩
  | n, d :: ds, _, p, h => by
    obtain ⟨v, r, rfl, h1, h2⟩ := h
    unfold PlAll at p
    obtain ⟨q1, q2, q3⟩ := dp_of n d v p.1 h1
    obtain ⟨k1, k2, k3⟩ := dpAll_of n ds r p.2 h2
    unfold tpAll
    refine ⟨.cons q1 k1, by unfold PyData.canLayAll0; rw [q2, k2]; rfl, ?_⟩
    unfold PyData.depthAll
    exact Nat.max_le.mpr ⟨q3, k3⟩
end
theorem dp_sh {H : Hp} {n : Nat} {d : Dt} {v : V} (hn : n ≤ 64) (p : Pl n d) (h : Da K H v d) : Dp K H v (tp d) ∧ SeqAt.shaped (tp d) = true := by
  obtain ⟨q1, q2, q3⟩ := dp_of n d v p h
  refine ⟨q1, ?_⟩
  unfold SeqAt.shaped
  rw [q2]
  simp
  omega
theorem o_eqDD {n m : Nat} {d1 d2 : Dt} {b : Bool} (p1 : Pl n d1) (p2 : Pl m d2) (e : PyData.eqv (tp d1) (tp d2) = b) (hn : n ≤ 64 := by decide) (hm : m ≤ 64 := by decide) : OpD K (rEqD K) d1 d2 (.bl b) := fun F H x y ex hx hy Q q => by
  obtain ⟨a1, a2⟩ := dp_sh hn p1 (hx.mono ex)
  obtain ⟨b1, b2⟩ := dp_sh hm p2 (hy.mono ex)
  refine ⟨_, _, a1, b1, a2, b2, ?_⟩
  rw [e]
  exact q _ F H (Gw.refl ex) rfl
theorem o_neDD {n m : Nat} {d1 d2 : Dt} {b : Bool} (p1 : Pl n d1) (p2 : Pl m d2) (e : PyData.eqv (tp d1) (tp d2) = b) (hn : n ≤ 64 := by decide) (hm : m ≤ 64 := by decide) : OpD K (rNeD K) d1 d2 (.bl (!b)) := fun F H x y ex hx hy Q q => by
  obtain ⟨a1, a2⟩ := dp_sh hn p1 (hx.mono ex)
  obtain ⟨b1, b2⟩ := dp_sh hm p2 (hy.mono ex)
  refine ⟨_, _, a1, b1, a2, b2, ?_⟩
  rw [e]
  exact q _ F H (Gw.refl ex) rfl
mutual
theorem canL : ∀ (n : Nat) (d : Dt), Pl n d → (tp d).canLay0 = true
  | _, .non, _ => rfl
  | _, .bl b, _ => rfl
  | _, .int i, _ => rfl
  | _, .str x, p => by unfold Pl at p; unfold tp PyData.canLay0; exact p
  | 0, .lst ds, p => (by unfold Pl at p; exact p.elim)
  | 0, .tup ds, p => (by unfold Pl at p; exact p.elim)
  | n + 1, .lst ds, p => by unfold Pl at p; unfold tp PyData.canLay0; exact canLA n ds p
  | n + 1, .tup ds, p => by unfold Pl at p; unfold tp PyData.canLay0; exact canLA n ds p
  | _, .ins _ _ _, p => (by unfold Pl at p; exact p.elim)
  | _, .ty _, p => (by unfold Pl at p; exact p.elim)
theorem canLA : ∀ (n : Nat) (ds : List Dt), PlAll n ds → PyData.canLayAll0 (tpAll ds) = true
  | _, [], _ => rfl
  | n, d :: ds, p => by
    unfold PlAll at p
    unfold tpAll PyData.canLayAll0
    rw [canL n d p.1, canLA n ds p.2]
    rfl
end
theorem o_eqS {n : Nat} {d : Dt} (p : Pl n d) (hn : n ≤ 64 := by decide) : OpD K (rEqD K) d d (.bl true) := o_eqDD p p (SeqAt.eqv_refl _ (canL n d p)) hn hn
theorem o_neS {n : Nat} {d : Dt} (p : Pl n d) (hn : n ≤ 64 := by decide) : OpD K (rNeD K) d d (.bl false) := o_neDD (b := true) p p (SeqAt.eqv_refl _ (canL n d p)) hn hn
theorem eqv_ints : ∀ (is js : List Int), PyData.eqvAll (tpAll (is.map Dt.int)) (tpAll (js.map Dt.int)) = decide (is = js)
  | [], [] => rfl
  | [], j :: js => by
    unfold tpAll PyData.eqvAll
    simp [tpAll]
  | i :: is, [] => by
    simp [tpAll, PyData.eqvAll]
  | i :: is, j :: js => by
    show PyData.eqvAll (tp (.int i) :: tpAll (is.map Dt.int)) (tp (.int j) :: tpAll (js.map Dt.int)) = _
    rw [PyData.eqvAll, eqv_ints is js]
    have e : PyData.eqv (tp (.int i)) (tp (.int j)) = (i == j) := by
      unfold tp PyData.eqv
      rfl
    rw [e]
    by_cases h : i = j
    · simp [h]
    · simp [h]
theorem pl_ints (is : List Int) : Pl 1 (.lst (is.map Dt.int)) := by
  unfold Pl
  exact PlAll.of fun d hd => by
    obtain ⟨i, _, rfl⟩ := List.mem_map.mp hd
    unfold Pl
    trivial
theorem eqv_lints (is js : List Int) : PyData.eqv (tp (.lst (is.map Dt.int))) (tp (.lst (js.map Dt.int))) = decide (is = js) := by
  rw [tp, tp, PyData.eqv]
  exact eqv_ints is js
theorem o_eqL {is js : List Int} : OpD K (rEqD K) (.lst (is.map Dt.int)) (.lst (js.map Dt.int)) (.bl (decide (is = js))) := o_eqDD (pl_ints is) (pl_ints js) (eqv_lints is js)
theorem o_neL {is js : List Int} : OpD K (rNeD K) (.lst (is.map Dt.int)) (.lst (js.map Dt.int)) (.bl (!decide (is = js))) := o_neDD (pl_ints is) (pl_ints js) (eqv_lints is js)
theorem o_neT0 {n : Nat} {ds : List Dt} (p : Pl n (.tup ds)) (hn : n ≤ 64 := by decide) : OpD K (rNeD K) (.tup ds) (.tup []) (.bl (!ds.isEmpty)) := by
  refine o_neDD (m := 1) p (by unfold Pl PlAll; trivial) ?_ hn
  rw [tp, tp, PyData.eqv]
  cases ds with
  | nil => rfl
  | cons d ds => simp [tpAll, PyData.eqvAll]
end
end Gr
set_option maxHeartbeats 4000000
/-! sorted(set(list of ints)) -/
namespace Gr
open PySem PySem.Spec PyProof.Rows L2
section
variable {P : Program} {w : World} {A : Around} {E : Value → Shared → Prop} {s : Shared}
set_option maxHeartbeats 3200000 in
theorem call_set_lstI {l : Addr} {items : Array Value} (ns : List Int) {Q : Value → Shared → Prop} (hh : A.handled = none) (hl : s.heap.IsList l items) (hit : IntsAre items.toList ns) (hb : ns.length + 1 < scanBound)
    (h : ∀ (h' : Heap) (tk c : Nat), SetR w h' s.heap.objs.size (fun j => decide (j ∈ ns)) c → c ≤ ns.length → (∀ b o, s.heap.get? b = some o → h'.get? b = some o) → Q (.ref s.heap.objs.size) { s with heap := h', toks := tk }) :
    wpAny (model P w) A (call (.type "set") [.ref l]) Q E s := by
  have hisz : items.size = ns.length := by
    have q := IntsAre.length hit
    rw [Array.length_toList] at q
    exact q
  obtain ⟨c, tl, hmro⟩ := F.called_set.mro
  have hmade := F.called_set.made
  have hsub := F.called_set.sub
  refine wpAny_call (codeAny_of_tree ?_)
  show wpAny _ _ (callAny (.type "set") _) _ _ _
  refine wpAny_pure ⟨Code.quiet_builtin _ (by decide +kernel), codeAny_builtin F.entry_type_call ?_⟩
  rw [Around.under_plain (weight_type_call_type "set" [.ref l] []) rfl]
  have h1 := F.called_set.notType
  have h2 := F.called_set.canCreate
  have hct := F.typeCall_set_1 (.ref l)
  repeat (any_goals (first | assumption | wp_step))

  refine codeAny_mono (code_set_led1 (.ref l) (E := E) (Q₁ := fun obj s₁ => obj = .ref s.heap.objs.size ∧ s₁ = { s with heap := s.heap.push { cls := .type "set", dict := none, data := .set #[] 0 (.fresh 0 0 (!w.params.followText "set-order")) } }) ⟨rfl, rfl⟩) fun r s₁ hr => ?_
  cases r with
  | error e => exact hr
  | ok fl =>
    cases fl with
    | ret obj =>
      obtain ⟨rfl, rfl⟩ := hr
      have hS : (s.heap.push { cls := .type "set", dict := none, data := .set #[] 0 (.fresh 0 0 (!w.params.followText "set-order")) }).get? s.heap.objs.size = some { cls := .type "set", dict := none, data := .set #[] 0 (.fresh 0 0 (!w.params.followText "set-order")) } := Heap.get?_push_size _ rfl
      have hT : Shared.TypeIs { s with heap := s.heap.push { cls := .type "set", dict := none, data := .set #[] 0 (.fresh 0 0 (!w.params.followText "set-order")) } } (.ref s.heap.objs.size) "set" := ⟨_, hS, rfl⟩
      have hli := F.called_set.init.lookup
      have hbi := F.called_set.init.bind (.ref s.heap.objs.size)
      repeat (any_goals (first | assumption | wp_step))

      refine codeAny_mono (codeAny_call_builtin (R := wants (fun r s₂ => r = .none ∧ ∃ h' tk c, s₂ = { s with heap := h', toks := tk } ∧ SetR w h' s.heap.objs.size (fun j => decide (j ∈ ns)) c ∧ c ≤ ns.length ∧
          (∀ b o, s.heap.get? b = some o → h'.get? b = some o)) E) F.called_set.init.plain F.entry_set_init (check_set_init_1 hT ?_)) fun r₂ s₂ hr₂ => ?_
      · obtain ⟨ol, hol, hcl, nl, hdl⟩ := hl
        obtain ⟨ocls, odict, odata, oslots⟩ := ol
        simp only at hcl hdl
        subst hcl; subst hdl
        have hol' : (s.heap.push { cls := .type "set", dict := none, data := .set #[] 0 (.fresh 0 0 (!w.params.followText "set-order")) }).get? l = some { cls := .type "list", dict := odict, data := .seq items nl, slots := oslots } := Heap.get?_push_of_some _ hol
        have hsls := F.sub_list_set
        have hslf := F.sub_list_frozenset
        have hne : (Value.type "list" == Value.type "dict") = false := by decide
        have hl1 : (s.heap.push { cls := .type "set", dict := none, data := .set #[] 0 (.fresh 0 0 (!w.params.followText "set-order")) }).IsList l items := ⟨_, hol', rfl, nl, rfl⟩
        unfold Builtin.«set.__init__» noKeywords Builtin.Frozenset.updateFrom
        generalize hPI : pyIter = PI
        wp_walk
        subst hPI

        refine wpAny_pyIter_list hl1 ?_
        refine wpAny_bind (wpAny_runValue ?_)
        have hlS : l < s.heap.objs.size := Heap.lt_size hol
        have hh3 : A.in1.in1.in1.handled = none := by simp [hh]
        have hz1 : (s.heap.push { cls := .type "set", dict := none, data := .set #[] 0 (.fresh 0 0 (!w.params.followText "set-order")) }).objs.size = s.heap.objs.size + 1 := Heap.size_push ..
        have hneI : l ≠ (s.heap.push { cls := .type "set", dict := none, data := .set #[] 0 (.fresh 0 0 (!w.params.followText "set-order")) }).objs.size := by
          rw [Heap.size_push]; exact Nat.ne_of_lt (Nat.lt_succ_of_lt hlS)
        have hSf : s.heap.objs.size ∉ [(s.heap.push { cls := .type "set", dict := none, data := .set #[] 0 (.fresh 0 0 (!w.params.followText "set-order")) }).objs.size, l] := by
          rw [Heap.size_push]; simp only [List.mem_cons, List.mem_singleton, List.not_mem_nil, or_false, not_or]
          exact ⟨Nat.ne_of_lt (Nat.lt_succ_self _), Nat.ne_of_gt hlS⟩
        have hval : ∀ (i : Nat) (v : Value), items[i]? = some v → ∃ k t, ns[i]? = some k ∧ v = .int k t := fun i v hv => by
          have hi : i < ns.length := by rw [← hisz]; exact (Array.getElem?_eq_some_iff.mp hv).1
          obtain ⟨t, e⟩ := PyProof.Rows.IntsAre.int_at hit i v (by rw [Array.getElem?_toList]; exact hv)
          refine ⟨ns[i], t, List.getElem?_eq_getElem hi, ?_⟩
          rw [e, List.getD_eq_getElem?_getD, List.getElem?_eq_getElem hi] <;> rfl
        refine set_update_ints ((Walks.list hh3 _ l hneI items).toS) s.heap.objs.size
          hSf ns hisz hb hval (items.size - 0) 0 _ (by omega) (Nat.zero_le _)
          ⟨⟨_, Heap.get?_push_size _ rfl, rfl, rfl⟩, (hl1.push _)⟩ ?hS0 ?hR
        case hS0 =>
          have hget : ((s.heap.push { cls := .type "set", dict := none, data := .set #[] 0 (.fresh 0 0 (!w.params.followText "set-order")) }).push { cls := .type "list_iterator", data := .fields #[.ref l, .int 0 0] }).get? s.heap.objs.size
              = some { cls := .type "set", dict := none, data := .set #[] 0 (.fresh 0 0 (!w.params.followText "set-order")) } := Heap.get?_push_of_some _ hS
          exact ⟨0, Nat.le_refl 0, setR_new_at hget⟩
        case hR =>
          intro s' c' hm hc' hS'
          obtain ⟨h', g2, d', tk', os'⟩ := s'
          have eg : g2 = s.gens := hm.gens
          have ed : d' = s.drawn := hm.drawn
          have eo : os' = s.os := hm.os
          subst eg; subst ed; subst eo
          show wpAny _ _ _ _ _ _
          refine wpAny_pure ?_
          show wpAny _ _ (ret Value.none) _ _ _
          rw [hisz] at hc'
          refine wpAny_pure ⟨rfl, h', tk', c', rfl, hS', hc', fun b o e => ?_⟩
          have hb0 : b < s.heap.objs.size := Heap.lt_size e
          have hb1 : b ≠ s.heap.objs.size := Nat.ne_of_lt hb0
          have hb2 : b ≠ (s.heap.push { cls := .type "set", dict := none, data := .set #[] 0 (.fresh 0 0 (!w.params.followText "set-order")) }).objs.size := by
            rw [Heap.size_push]; exact Nat.ne_of_lt (Nat.lt_succ_of_lt hb0)
          exact hm.heap b o (by simp only [List.mem_cons, List.mem_singleton, List.not_mem_nil, or_false, not_or]; exact ⟨hb1, hb2⟩) (Heap.get?_push_of_some _ (Heap.get?_push_of_some _ e))

      · cases r₂ with
        | error e => exact hr₂
        | ok fl₂ =>
          cases fl₂ with
          | ret r =>
            obtain ⟨rfl, h', tk, c', rfl, hS', hc', hk'⟩ := hr₂
            repeat (any_goals (first | assumption | wp_step))
            exact h _ _ _ hS' hc' hk'
          | _ => exact hr₂.elim
    | _ => exact hr.elim

end
def tSortedSet (K : PySem.W.Frag) (ta : TE) : TE := fun σ H Q => ta σ H fun x H1 => ∃ (l : Addr) (ns : List Int), x = .ref l ∧ SqL K H1 l (ns.map V.int) ∧ ns.length < 60 ∧ ∀ (ms : List Int) (p : Addr), ms.Pairwise (· < ·) → (∀ k, k ∈ ms ↔ k ∈ ns) → H1 p = none → Q (.ref p) (upd H1 p (.lst (ms.map V.int)))
theorem pe_sortedSet {X : Cx} {a : Expr} {ta : TE} {p p2 q pos : Pos} (hc : X.calm = true) (hg : Gl X "sorted") (hm : X.mg "sorted" = none) (hg2 : Gl X "set") (hm2 : X.mg "set" = none) (ha : PE X a ta)
    (na : starEach [a] X.env = (false, eval a X.env) :: starEach [] X.env := by rfl) : PE X (.Call (.Name "sorted" p) [.Call (.Name "set" p2) [a] [] q] [] pos) (tSortedSet X.K ta) := by
  refine ⟨fun pins s σ H Q I h => ?_⟩
  refine Call_ (ld_blt I hg hm (u := .builtin "sorted") (by decide +kernel) ?_)
  refine PyProof.Rows.callWith_builtin1 (PyProof.Rows.args_cons ?_ rfl) rfl rfl
  refine Call_ (ld_blt I hg2 hm2 PyProof.Rows.boot_set ?_)
  refine PyProof.Rows.callWith_type1 (PyProof.Rows.args_cons (thn (ha.run pins s σ H _ I h) fun v s1 ⟨x, H1, I1, r1, q1⟩ => PyProof.Rows.args_nil ?_) na) na rfl
  obtain ⟨l, ns, rfl, hq, hl, q1⟩ := q1
  cases r1
  obtain ⟨its, r, pl, hz⟩ := I1.list hq
  refine call_set_lstI ns (I1.ok.hd hc) pl.isList (by simpa using r.ints) (by unfold scanBound; omega) fun h' tk c hS hc2 hk => PyProof.Rows.args_nil ?_
  have I2 : Inv X pins σ H1 { s1 with heap := h', toks := tk } := I1.kept hk
  have hS2 : SetR X.w (Shared.heap { s1 with heap := h', toks := tk }) s1.heap.objs.size (fun j => decide (j ∈ ns)) c := hS
  generalize { s1 with heap := h', toks := tk } = s2 at I2 hS2
  refine sorted_set hS2 (I2.ok.hd hc) (by omega) fun s' p out c' ms k g o hp hg hi hs hm hl2 => ?_
  have hlen : (ms.map V.int).length ≤ sizeLine := by rw [List.length_map, hl2, sizeLine_eq]; omega
  have hn : H1 p = none := I2.hok.fresh hp
  have J : Inv X pins σ (upd H1 p (.lst (ms.map V.int))) { s2 with heap := s'.heap, gens := s'.gens, drawn := s'.drawn, toks := s'.toks } :=
    I2.call (ch := []) (Un.laid k hp hn) (I2.hok.laid k hp ⟨hlen, out.toList, c', vals_of_ints hi, hg⟩) (by rw [g]; exact I2.bare) (fun _ z => nomatch z)
  have e : s' = { s2 with heap := s'.heap, gens := s'.gens, drawn := s'.drawn, toks := s'.toks } := by
    cases s'
    cases s2
    cases o
    rfl
  rw [e]
  exact ⟨.ref p, _, J, rfl, q1 ms p hs (fun k => by rw [hm k]; simp) hn⟩
theorem x_sortedSet {K : PySem.W.Frag} {ρ ρ1 : Env} {te : TE} {ns ms : List Int} (h : EvX K te ρ (.lst (ns.map Dt.int)) ρ1) (hl : ns.length < 60) (h1 : ms.Pairwise (· < ·)) (h2 : ∀ k, k ∈ ms ↔ k ∈ ns) : EvX K (tSortedSet K te) ρ (.lst (ms.map Dt.int)) ρ1 := fun Fb Hb F H σ I Q q =>
  h Fb Hb F H σ I _ fun v F1 H1 I1 e1 k1 => by
    obtain ⟨a, xs, rfl, k2, k3⟩ := k1
    rw [k3.ints] at k2
    refine ⟨a, ns, rfl, Evl.sq_of (I1.fh a _ k2), hl, fun ms' p g1 g2 hp => ?_⟩
    have e : ms' = ms := by
      have nd : ∀ {l : List Int}, l.Pairwise (· < ·) → l.Nodup := fun h => h.imp fun h => by omega
      have pm : ms'.Perm ms := (List.perm_ext_iff_of_nodup (nd g1) (nd h1)).mpr fun k => by rw [g2 k, h2 k]
      exact pm.eq_of_pairwise (fun a b _ _ h1 h2 => by omega) g1 h1
    subst e
    have g := Gw.new (o := .lst (ms'.map V.int)) I1.fh hp
    exact q _ _ _ (I1.grow g) (e1.trans g.ff) ⟨p, _, rfl, upd_same, DaAll.of_ints ms'⟩
end Gr
/-! [e for x in xs for y in ys] -/
namespace Gr
open PySem PySem.Spec PyProof.Rows L2
section
variable {K : PySem.W.Frag} {ρ ρ1 ρ2 : Env} {ds es fs : List Dt} {d : Dt} {te : TE}
theorem wipe_idem (vs : List Nat) (σ : L2.St) : wipe (wipe σ vs) vs = wipe σ vs := by
  have : ∀ (us : List Nat) (s : L2.St), (∀ u ∈ us, u ∈ vs) → wipe (wipe s us) vs = wipe s vs := by
    intro us
    induction us with
    | nil => intro s _; rfl
    | cons u us ih =>
      intro s hu
      show wipe ((wipe s us).set u none) vs = wipe s vs
      rw [wipe_set (hu u List.mem_cons_self)]
      exact ih s fun u' h' => hu u' (List.mem_cons_of_mem _ h')
  exact this vs σ fun _ h => h
theorem Iv.out {Fb Hb F H : Hp} {σ : L2.St} (I : Iv K Fb Hb F H σ ρ) {p : Addr} {o : HO} (h : Hb p = some o) (j : Nat) (t : Sl) (hj : ρ[j]? = some t) : p ∉ t.adr := fun hz => by
  have := ((I.res j t hj).2.1 p hz).2
  rw [h] at this
  cases this
/-- the list at D grows -/
theorem Iv.push {Fb Hb F H : Hp} {σ : L2.St} (I : Iv K Fb Hb F H σ ρ) {D : Addr} {o : HO} (s2 : F D = none) (f2 : Hb D = none) (hn : ∀ (j : Nat) t, ρ[j]? = some t → D ∉ t.adr) : Iv K Fb Hb F (upd H D o) σ ρ :=
  ⟨⟨I.gw.ff, fun a o e => by
      rw [upd_ne (fun z => by rw [z, s2] at e; cases e)]
      exact I.gw.fh a o e, fun a o e => by
      rw [upd_ne (fun z => by rw [z, f2] at e; cases e)]
      exact I.gw.hh a o e, I.gw.no⟩, I.len, I.val, fun j s hj => by
    obtain ⟨h1, h2, h3⟩ := I.res j s hj
    exact ⟨h1, h2, Sl.holds_mono h3 (Evl.Ex.refl _) fun a z o q => by rw [upd_ne (fun z2 => hn j s hj (by rw [← z2]; exact z))]; exact q⟩, I.apart⟩
theorem lc2_run {α β : Type} {wi wi1 : TI} {g g1 : TG} {tt tt1 : TT} {vs vs1 : List Nat} (xs : List α) (emb : α → Dt) (ys : α → List β) (emb1 : α → β → Dt) (f : α → β → Dt) (hi : EvI K wi ρ (xs.map emb) ρ1) (hl : (xs.flatMap fun x => (ys x).map (f x)).length ≤ 90000)
    (step : ∀ x ∈ xs, ∃ ρ3 js, EvG K g (wipeE ρ1 vs) (emb x) ρ3 js ∧ (∀ j ∈ js, j ∈ vs) ∧ Like ρ1 ρ3 ρ1 ∧ EvB K tt ρ3 true ρ3 ∧ EvI K wi1 ρ3 ((ys x).map (emb1 x)) ρ3 ∧
      ∀ y ∈ ys x, ∃ ρ4 js1, EvG K g1 (wipeE ρ3 vs1) (emb1 x y) ρ4 js1 ∧ (∀ j ∈ js1, j ∈ vs1) ∧ Like ρ3 ρ4 ρ3 ∧ EvB K tt1 ρ4 true ρ4 ∧ EvX K te ρ4 (f x y) ρ4) :
    EvN K (tLc2 wi g tt wi1 g1 tt1 te vs vs1) ρ (xs.flatMap fun x => (ys x).map (f x)) ρ1 := fun Fb Hb F H σ I Q q =>
  hi Fb Hb F H σ I _ fun J F1 H1 I1 e1 wk D hD => by
    obtain ⟨f1, f2, f3⟩ := I1.fresh hD
    have I0 : Iv K Fb Hb F1 (upd H1 D (.lst [])) σ ρ1 := I1.newOwn hD
    refine ⟨fun i m H2 => m = xs.length - i ∧ i ≤ xs.length ∧ ∃ F2 acc, Iv K Fb Hb F2 H2 σ ρ1 ∧ Evl.Ex F1 F2 ∧ H2 D = some (.lst acc) ∧ F2 D = none ∧ DaAll K F2 acc ((xs.take i).flatMap fun x => (ys x).map (f x)), ⟨xs.length, by simp, Nat.zero_le _, F1, [], I0, Evl.Ex.refl _, upd_same, f1, rfl⟩, ?_⟩
    rintro i m H2 ⟨rfl, hle, F2, acc, I2, e2, hd2, hf, ha⟩
    obtain ⟨w1, w2⟩ := wk F2 H2 e2 I2.fh
    by_cases hlt : i < xs.length
    · have hx : (xs.map emb)[i]? = some (emb xs[i]) := by rw [List.getElem?_map, List.getElem?_eq_getElem hlt]; rfl
      obtain ⟨v1, v2⟩ := w1 i _ hx
      refine .inr ⟨v1, fun H3 => ∃ F3 acc', Iv K Fb Hb F3 H3 σ ρ1 ∧ Evl.Ex F1 F3 ∧ H3 D = some (.lst acc') ∧ F3 D = none ∧ DaAll K F3 acc' ((xs.take (i + 1)).flatMap fun x => (ys x).map (f x)), fun H3 ⟨F3, acc', r1, r2, r3, r4, r5⟩ => ⟨xs.length - (i + 1), by omega, rfl, hlt, F3, acc', r1, r2, r3, r4, r5⟩, fun x H3 hy => ?_⟩
      obtain ⟨F3, g3, k3⟩ := v2 x H3 hy
      obtain ⟨ρ3, js, hg, hjs, lk3, ht, hi1, step1⟩ := step xs[i] (List.getElem_mem hlt)
      have I3 : Iv K Fb Hb F3 H3 σ ρ1 := I2.grow g3
      have d3 : H3 D = some (.lst acc) := g3.hh D _ hd2
      have n3 : F3 D = none := g3.no D hf (by rw [hd2]; simp)
      obtain ⟨Hb', J3, jb, jret⟩ := I3.rebase
      have hbD : Hb' D = some (.lst acc) := jb D _ d3 f3
      have stay : ∀ F' H' σ' ρ', Iv K F3 Hb' F' H' σ' ρ' → H' D = some (.lst acc) ∧ F' D = none := fun F' H' σ' ρ' J => ⟨J.gw.hh D _ hbD, J.gw.no D n3 (by rw [hbD]; simp)⟩
      refine hg F3 Hb' F3 H3 (wipe σ vs) x (J3.wipe vs) k3 _ fun F4 H4 σ4 J4 e4 w4 => ⟨by rw [w4 vs hjs, wipe_idem], ?_⟩
      refine ht F3 Hb' F4 H4 σ4 J4 _ fun F5 H5 J5 e5 => ?_
      rw [if_pos rfl]
      refine hi1 F3 Hb' F5 H5 σ4 J5 _ fun W F6 H6 J6 e6 wk1 => ?_
      obtain ⟨s1, s2⟩ := stay _ _ _ _ J6
      have hn3 : ∀ (j : Nat) t, ρ3[j]? = some t → D ∉ t.adr := J6.out hbD
      have e36 := e4.trans (e5.trans e6)
      refine ⟨fun j k H7 => k = (ys xs[i]).length - j ∧ j ≤ (ys xs[i]).length ∧ ∃ F7 acc7, Iv K Fb Hb F7 H7 σ4 ρ3 ∧ Evl.Ex F6 F7 ∧ H7 D = some (.lst acc7) ∧ F7 D = none ∧ DaAll K F7 acc7 (((xs.take i).flatMap fun x => (ys x).map (f x)) ++ ((ys xs[i]).take j).map (f xs[i])), ⟨(ys xs[i]).length, by simp, Nat.zero_le _, F6, acc, jret _ _ _ _ J6, Evl.Ex.refl _, s1, s2, by simpa using ha.mono (g3.ff.trans e36)⟩, ?_⟩
      rintro j k H7 ⟨rfl, hjle, F7, acc7, I7, e7, hd7, hf7, ha7⟩
      obtain ⟨y1, y2⟩ := wk1 F7 H7 e7 I7.fh
      have tk : xs.take (i + 1) = xs.take i ++ [xs[i]] := by rw [List.take_add_one, List.getElem?_eq_getElem hlt]; rfl
      by_cases hjlt : j < (ys xs[i]).length
      · have hyx : ((ys xs[i]).map (emb1 xs[i]))[j]? = some (emb1 xs[i] (ys xs[i])[j]) := by rw [List.getElem?_map, List.getElem?_eq_getElem hjlt]; rfl
        obtain ⟨u1, u2⟩ := y1 j _ hyx
        refine .inr ⟨u1, fun H8 => ∃ F8 acc8, Iv K Fb Hb F8 H8 σ4 ρ3 ∧ Evl.Ex F6 F8 ∧ H8 D = some (.lst acc8) ∧ F8 D = none ∧ DaAll K F8 acc8 (((xs.take i).flatMap fun x => (ys x).map (f x)) ++ ((ys xs[i]).take (j + 1)).map (f xs[i])), fun H8 ⟨F8, acc8, r1, r2, r3, r4, r5⟩ => ⟨(ys xs[i]).length - (j + 1), by omega, rfl, hjlt, F8, acc8, r1, r2, r3, r4, r5⟩, fun z H8 hz => ?_⟩
        obtain ⟨F8, g8, k8⟩ := u2 z H8 hz
        obtain ⟨ρ4, js1, hg1, hjs1, lk4, ht1, he⟩ := step1 (ys xs[i])[j] (List.getElem_mem hjlt)
        have I8 : Iv K Fb Hb F8 H8 σ4 ρ3 := I7.grow g8
        have d8 : H8 D = some (.lst acc7) := g8.hh D _ hd7
        have n8 : F8 D = none := g8.no D hf7 (by rw [hd7]; simp)
        obtain ⟨Hb8, J8, jb8, jret8⟩ := I8.rebase
        have hbD8 : Hb8 D = some (.lst acc7) := jb8 D _ d8 hn3
        refine hg1 F8 Hb8 F8 H8 (wipe σ4 vs1) z (J8.wipe vs1) k8 _ fun F9 H9 σ9 J9 e9 w9 => ⟨by rw [w9 vs1 hjs1, wipe_idem], ?_⟩
        refine ht1 F8 Hb8 F9 H9 σ9 J9 _ fun F10 H10 J10 e10 => ?_
        rw [if_pos rfl]
        refine he F8 Hb8 F10 H10 σ9 J10 _ fun y F11 H11 J11 e11 k11 => ?_
        have st1 : H11 D = some (.lst acc7) := J11.gw.hh D _ hbD8
        have st2 : F11 D = none := J11.gw.no D n8 (by rw [hbD8]; simp)
        have eall := e9.trans (e10.trans e11)
        have I12 : Iv K Fb Hb F11 H11 σ4 ρ3 := I8.backL (jret8 F11 H11 σ9 ρ4 J11) eall lk4
        have tkj : (ys xs[i]).take (j + 1) = (ys xs[i]).take j ++ [(ys xs[i])[j]] := by rw [List.take_add_one, List.getElem?_eq_getElem hjlt]; rfl
        have hlen : (((xs.take i).flatMap fun x => (ys x).map (f x)) ++ ((ys xs[i]).take j).map (f xs[i])).length < 90001 := by
          have e : xs = xs.take (i + 1) ++ xs.drop (i + 1) := (List.take_append_drop _ _).symm
          rw [e, tk, List.flatMap_append, List.flatMap_append, List.length_append, List.length_append] at hl
          rw [List.length_append, List.length_map, List.length_take]
          have : ([xs[i]].flatMap fun x => (ys x).map (f x)).length = (ys xs[i]).length := by simp
          rw [this] at hl
          omega
        refine ⟨acc7, st1, Evl.sz_lt (by rw [ha7.len]; omega), F11, acc7 ++ [y], I12.push st2 f2 hn3, e7.trans (g8.ff.trans eall), upd_same, st2, ?_⟩
        rw [tkj, List.map_append, ← List.append_assoc]
        exact (ha7.mono (g8.ff.trans eall)).append (.cons k11 .nil)
      · have e : j = (ys xs[i]).length := by omega
        subst e
        rw [List.length_map] at y2
        rw [List.take_length] at ha7
        refine .inl ⟨y2, F7, acc7, I3.backL I7 (e36.trans e7) lk3, e2.trans (g3.ff.trans (e36.trans e7)), hd7, hf7, ?_⟩
        rw [tk, List.flatMap_append]
        simpa using ha7
    · have e : i = xs.length := by omega
      subst e
      rw [List.length_map] at w2
      rw [List.take_length] at ha
      exact .inl ⟨w2, q D acc F2 H2 I2 (e1.trans e2) hf f2 f3 hd2 ha⟩
end
end Gr
/-! dicts of one's own: of ints, of lists -/
namespace Gr
open PySem PySem.Spec PyProof.Rows L2
theorem putK_same {kvs : List (Key × V)} {k : Key} {x v : V} (h : valV kvs k = some x) : (putK kvs k v).length = kvs.length := by
  unfold putK
  rw [valV_any, h]
  simp
/-- a dict of ints at a -/
def dI (a : Addr) (m : Int → Option Int) : Rsc where
  as := [a]
  v := .ref a
  R := fun _ _ H => ∃ kvs, H a = some (.dK kvs) ∧ kvs.length ≤ 90000 ∧ ∀ k, valV kvs (.inl k) = (m k).map V.int
  mono := fun ⟨kvs, h1, h2⟩ _ k => ⟨kvs, k a List.mem_cons_self _ h1, h2⟩
  there := fun ⟨kvs, h1, _⟩ b hb => by
    rw [List.mem_singleton.mp hb]
    exact ⟨_, h1⟩
/-- a dict of lists at a: keys and the lists' addresses ks, what they hold c -/
def dL (a : Addr) (ks : List (Nat × Addr)) (c : Nat → List Dt) : Rsc where
  as := a :: ks.map (·.2)
  v := .ref a
  R := fun K F H => (∃ kvs, H a = some (.dK kvs) ∧ ∀ p ∈ ks, valV kvs (.inl (p.1 : Int)) = some (.ref p.2)) ∧ ∀ p ∈ ks, ∃ xs, H p.2 = some (.lst xs) ∧ DaAll K F xs (c p.1)
  mono := fun ⟨⟨kvs, h1, h2⟩, h3⟩ e k => ⟨⟨kvs, k a List.mem_cons_self _ h1, h2⟩, fun p hp => by
    obtain ⟨xs, g1, g2⟩ := h3 p hp
    exact ⟨xs, k p.2 (List.mem_cons_of_mem _ (List.mem_map_of_mem hp)) _ g1, g2.mono e⟩⟩
  there := fun ⟨⟨kvs, h1, _⟩, h3⟩ b hb => by
    rcases List.mem_cons.mp hb with e | hb
    · rw [e]; exact ⟨_, h1⟩
    · obtain ⟨p, hp, rfl⟩ := List.mem_map.mp hb
      obtain ⟨xs, g1, _⟩ := h3 p hp
      exact ⟨_, g1⟩
theorem Like.adr' {ρ ρ' ρ'' : Env} (l : Like ρ ρ' ρ'') (i : Nat) (s : Sl) (hs : ρ''[i]? = some s) (a : Addr) (ha : a ∈ s.adr) : ∃ (j : Nat) (t : Sl), ρ'[j]? = some t ∧ a ∈ t.adr := by
  obtain ⟨_, _, h3⟩ := l.spec
  rcases h3 i s hs with ⟨q, _, _⟩ | ⟨_, j, q2⟩
  · rw [q] at ha; cases ha
  · exact ⟨j, s, q2, ha⟩
section
variable {K : PySem.W.Frag} {ρ ρ1 ρ2 : Env} {ds es fs : List Dt} {d : Dt} {te : TE} {E : De}
/-- d = {k: v for x in xs}, ints -/
theorem s_dcI {α : Type} {i : Nat} {wi : TI} {g : TG} {tt : TT} {tk tv : TE} {vs : List Nat} (xs : List α) (emb : α → Dt) (key : α → Int) (v : Int → Int) (hi : EvI K wi ρ (xs.map emb) ρ) (hl : xs.length ≤ 80000)
    (step : ∀ x ∈ xs, ∃ ρ3 js, EvG K g (wipeE ρ vs) (emb x) ρ3 js ∧ (∀ j ∈ js, j ∈ vs) ∧ Like ρ ρ3 ρ ∧ EvB K tt ρ3 true ρ3 ∧ EvX K tk ρ3 (.int (key x)) ρ3 ∧ EvX K tv ρ3 (.int (v (key x))) ρ3)
    (q : ∀ a, E.nx (ρ.set i (.res (dI a fun k => if k ∈ xs.map key then some (v k) else none)))) : EvS K (tAsg (tDc wi g tt tk tv vs) (gName i)) E ρ := fun Fb Hb F H σ I D n1 _ _ _ =>
  hi Fb Hb F H σ I _ fun J F1 H1 I1 e1 wk Dp hD => by
    obtain ⟨f1, f2, f3⟩ := I1.fresh hD
    have I0 : Iv K Fb Hb F1 (upd H1 Dp (.dK [])) σ ρ := I1.newOwn hD
    refine ⟨fun j m H2 => m = xs.length - j ∧ j ≤ xs.length ∧ ∃ F2 kvs, Iv K Fb Hb F2 H2 σ ρ ∧ Evl.Ex F1 F2 ∧ H2 Dp = some (.dK kvs) ∧ F2 Dp = none ∧ kvs.length ≤ j ∧ ∀ k, valV kvs (.inl k) = (if k ∈ (xs.take j).map key then some (v k) else none).map V.int, ⟨xs.length, by simp, Nat.zero_le _, F1, [], I0, Evl.Ex.refl _, upd_same, f1, Nat.le_refl _, fun k => by simp [valV_nil]⟩, ?_⟩
    rintro j m H2 ⟨rfl, hle, F2, kvs, I2, e2, hd2, hf, hlen, hm⟩
    obtain ⟨w1, w2⟩ := wk F2 H2 e2 I2.fh
    by_cases hlt : j < xs.length
    · have hx : (xs.map emb)[j]? = some (emb xs[j]) := by rw [List.getElem?_map, List.getElem?_eq_getElem hlt]; rfl
      obtain ⟨v1, v2⟩ := w1 j _ hx
      refine .inr ⟨v1, fun H3 => ∃ F3 kvs3, Iv K Fb Hb F3 H3 σ ρ ∧ Evl.Ex F1 F3 ∧ H3 Dp = some (.dK kvs3) ∧ F3 Dp = none ∧ kvs3.length ≤ j + 1 ∧ ∀ k, valV kvs3 (.inl k) = (if k ∈ (xs.take (j + 1)).map key then some (v k) else none).map V.int, fun H3 ⟨F3, kvs3, r1, r2, r3, r4, r5, r6⟩ => ⟨xs.length - (j + 1), by omega, rfl, hlt, F3, kvs3, r1, r2, r3, r4, r5, r6⟩, fun x H3 hy => ?_⟩
      obtain ⟨F3, g3, k3⟩ := v2 x H3 hy
      obtain ⟨ρ3, js, hg, hjs, lk3, ht, hk, hv⟩ := step xs[j] (List.getElem_mem hlt)
      have I3 : Iv K Fb Hb F3 H3 σ ρ := I2.grow g3
      have d3 : H3 Dp = some (.dK kvs) := g3.hh Dp _ hd2
      have n3 : F3 Dp = none := g3.no Dp hf (by rw [hd2]; simp)
      obtain ⟨Hb', J3, jb, jret⟩ := I3.rebase
      have hbD : Hb' Dp = some (.dK kvs) := jb Dp _ d3 f3
      refine hg F3 Hb' F3 H3 (wipe σ vs) x (J3.wipe vs) k3 _ fun F4 H4 σ4 J4 e4 w4 => ⟨by rw [w4 vs hjs, wipe_idem], ?_⟩
      refine ht F3 Hb' F4 H4 σ4 J4 _ fun F5 H5 J5 e5 => ?_
      rw [if_pos rfl]
      refine hk F3 Hb' F5 H5 σ4 J5 _ fun y F6 H6 J6 e6 k6 => hv F3 Hb' F6 H6 σ4 J6 _ fun z F7 H7 J7 e7 k7 => ?_
      have st1 : H7 Dp = some (.dK kvs) := J7.gw.hh Dp _ hbD
      have st2 : F7 Dp = none := J7.gw.no Dp n3 (by rw [hbD]; simp)
      have eall := e4.trans (e5.trans (e6.trans e7))
      have I8 : Iv K Fb Hb F7 H7 σ ρ := I3.backL (jret F7 H7 σ4 ρ3 J7) eall lk3
      have tkj : xs.take (j + 1) = xs.take j ++ [xs[j]] := by rw [List.take_add_one, List.getElem?_eq_getElem hlt]; rfl
      refine ⟨kvs, .inl (key xs[j]), k6, st1, Evl.sz_lt (by omega), F7, _, I8.push st2 f2 f3, e2.trans (g3.ff.trans eall), upd_same, st2, Nat.le_trans (length_putK _ _ _) (by omega), fun k => ?_⟩
      rw [valV_put, show z = V.int (v (key xs[j])) from k7, tkj, hm k]
      by_cases e : k = key xs[j]
      · subst e
        rw [if_pos rfl, if_pos (List.mem_map.mpr ⟨xs[j], List.mem_append_right _ List.mem_cons_self, rfl⟩)]
        rfl
      · have e2 : ¬ (Sum.inl k : Key) = .inl (key xs[j]) := fun h => e (Sum.inl.inj h)
        rw [if_neg e2, List.map_append]
        by_cases hh : k ∈ (xs.take j).map key
        · rw [if_pos hh, if_pos (List.mem_append_left _ hh)]
        · have hh2 : k ∉ (xs.take j).map key ++ [xs[j]].map key := fun h => (List.mem_append.mp h).elim hh fun h => e (List.mem_singleton.mp h)
          rw [if_neg hh, if_neg hh2]
    · have e : j = xs.length := by omega
      subst e
      rw [List.length_map] at w2
      rw [List.take_length] at hm
      refine .inl ⟨w2, n1 _ F2 H2 _ (q Dp) (I2.put (fun d h => by cases h) (fun w h => by cases h; rfl) (fun a ha => by
        rw [List.mem_singleton.mp ha]
        exact ⟨hf, f2⟩) ⟨kvs, hd2, by omega, hm⟩ fun j' t hj a ha => by
        rw [List.mem_singleton.mp ha]
        exact f3 j' t hj) (e1.trans e2)⟩
/-- d[k] -/
theorem x_dgI {i : Nat} {a : Addr} {m : Int → Option Int} {ty : TE} {k x : Int} (hi : ρ[i]? = some (.res (dI a m))) (hk : EvX K ty ρ (.int k) ρ) (hm : m k = some x) : EvX K (tDGet (tVar i) ty) ρ (.int x) ρ := fun Fb Hb F H σ I Q q => by
  refine ⟨_, (I.res i _ hi).1 _ rfl, hk Fb Hb F H σ I _ fun y F1 H1 I1 e1 k1 => ?_⟩
  obtain ⟨_, _, kvs, h1, h2, h3⟩ := I1.res i _ hi
  rw [show y = V.int k from k1]
  refine ⟨a, .int x, rfl, ?_, q _ F1 H1 I1 e1 rfl⟩
  have := DGet.k (k := .inl k) h1
  rw [h3 k, hm] at this
  exact this
/-- d[k] op= v, ints -/
theorem s_daugI {i : Nat} {a : Addr} {m : Int → Option Int} {ty tv : TE} {rd : R2} {k x y z : Int} (hi : ρ[i]? = some (.res (dI a m))) (hk : EvX K ty ρ (.int k) ρ) (hv : EvX K tv ρ (.int y) ρ) (hm : m k = some x)
    (hr : ∀ H Q, Q (.int z) H → rd (.int x) (.int y) H Q) (q : E.nx (ρ.set i (.res (dI a fun j => if j = k then some z else m j)))) : EvS K (sDAug (tVar i) ty tv rd) E ρ := fun Fb Hb F H σ I D n1 _ _ _ => by
  refine ⟨_, (I.res i _ hi).1 _ rfl, hk Fb Hb F H σ I _ fun u F1 H1 I1 e1 k1 => ?_⟩
  obtain ⟨_, _, kvs, h1, h2, h3⟩ := I1.res i _ hi
  rw [show u = V.int k from k1]
  have hg := DGet.k (k := .inl k) h1
  rw [h3 k, hm] at hg
  refine ⟨a, .int x, rfl, hg, hv Fb Hb F1 H1 σ I1 _ fun w F2 H2 I2 e2 k2 => ?_⟩
  rw [show w = V.int y from k2]
  refine hr H2 _ ?_
  obtain ⟨_, hn, kvs2, g1, g2, g3⟩ := I2.res i _ hi
  have hs : valV kvs2 (.inl k) = some (.int x) := by rw [g3 k, hm]; rfl
  refine ⟨_, DPut.k (k := .inl k) g1 (Evl.sz_lt (by omega)), n1 _ F2 _ σ q (I2.changed hi rfl rfl (fun d h => by cases h) (Evl.Ex.refl _) (fun b o e => ?_) (fun b o hb e => ?_) (fun _ _ h _ => h) (fun b hb => (hn b hb).1) ⟨_, upd_same, by rw [putK_same hs]; exact g2, fun j => ?_⟩) (e1.trans e2)⟩
  · rw [upd_ne (fun z => by
      have := (hn a List.mem_cons_self).1
      rw [z, this] at e
      cases e)]
    exact I2.fh b o e
  · rw [upd_ne (fun z => hb (by rw [z]; exact List.mem_cons_self))]
    exact e
  · rw [valV_put, g3 j]
    by_cases e : j = k
    · subst e
      simp
    · have e2 : ¬ (Sum.inl j : Key) = .inl k := fun h => e (Sum.inl.inj h)
      rw [if_neg e2]
      show _ = Option.map V.int (if j = k then some z else m j)
      rw [if_neg e]
/-- d = {k: [..] for x in xs}: each a new list -/
theorem s_dcL {α : Type} {i : Nat} {wi : TI} {g : TG} {tt : TT} {tk tv : TE} {vs : List Nat} (xs : List α) (emb : α → Dt) (key : α → Nat) (c : Nat → List Dt) (hi : EvI K wi ρ (xs.map emb) ρ) (hl : xs.length ≤ 80000)
    (step : ∀ x ∈ xs, ∃ ρ3 js, EvG K g (wipeE ρ vs) (emb x) ρ3 js ∧ (∀ j ∈ js, j ∈ vs) ∧ Like ρ ρ3 ρ ∧ EvB K tt ρ3 true ρ3 ∧ EvX K tk ρ3 (.int (key x : Nat)) ρ3 ∧ EvN K tv ρ3 (c (key x)) ρ3)
    (q : ∀ a ks, (a :: ks.map (·.2)).Nodup → (ks.map (·.1)).Nodup → (∀ x ∈ xs, key x ∈ ks.map (·.1)) → E.nx (ρ.set i (.res (dL a ks c)))) : EvS K (tAsg (tDc wi g tt tk tv vs) (gName i)) E ρ := fun Fb Hb F H σ I D n1 _ _ _ =>
  hi Fb Hb F H σ I _ fun J F1 H1 I1 e1 wk Dp hD => by
    obtain ⟨f1, f2, f3⟩ := I1.fresh hD
    have I0 : Iv K Fb Hb F1 (upd H1 Dp (.dK [])) σ ρ := I1.newOwn hD
    -- what is one's own
    let S : List (Nat × Addr) → Hp → Hp → Prop := fun ks F H => (Dp :: ks.map (·.2)).Nodup ∧ (ks.map (·.1)).Nodup ∧ (∀ a ∈ Dp :: ks.map (·.2), F a = none ∧ Hb a = none ∧ ∀ (j : Nat) t, ρ[j]? = some t → a ∉ t.adr) ∧ ∀ p ∈ ks, ∃ us, H p.2 = some (.lst us) ∧ DaAll K F us (c p.1)
    refine ⟨fun j m H2 => m = xs.length - j ∧ j ≤ xs.length ∧ ∃ F2 kvs ks, Iv K Fb Hb F2 H2 σ ρ ∧ Evl.Ex F1 F2 ∧ H2 Dp = some (.dK kvs) ∧ kvs.length ≤ j ∧ S ks F2 H2 ∧ (∀ p ∈ ks, valV kvs (.inl (p.1 : Int)) = some (.ref p.2)) ∧ ∀ x ∈ xs.take j, key x ∈ ks.map (·.1),
      ⟨xs.length, by simp, Nat.zero_le _, F1, [], [], I0, Evl.Ex.refl _, upd_same, Nat.le_refl _, ⟨by simp, by simp, fun a ha => by rw [List.mem_singleton.mp (show a ∈ [Dp] from ha)]; exact ⟨f1, f2, f3⟩, fun p hp => by cases hp⟩, fun p hp => (by cases hp), fun x hx => by rw [List.take_zero] at hx; cases hx⟩, ?_⟩
    rintro j m H2 ⟨rfl, hle, F2, kvs, ks, I2, e2, hd2, hlen, ⟨nd1, nd2, own, lis⟩, hm, hks⟩
    obtain ⟨w1, w2⟩ := wk F2 H2 e2 I2.fh
    by_cases hlt : j < xs.length
    · have hx : (xs.map emb)[j]? = some (emb xs[j]) := by rw [List.getElem?_map, List.getElem?_eq_getElem hlt]; rfl
      obtain ⟨v1, v2⟩ := w1 j _ hx
      refine .inr ⟨v1, fun H3 => ∃ F3 kvs3 ks3, Iv K Fb Hb F3 H3 σ ρ ∧ Evl.Ex F1 F3 ∧ H3 Dp = some (.dK kvs3) ∧ kvs3.length ≤ j + 1 ∧ S ks3 F3 H3 ∧ (∀ p ∈ ks3, valV kvs3 (.inl (p.1 : Int)) = some (.ref p.2)) ∧ ∀ x ∈ xs.take (j + 1), key x ∈ ks3.map (·.1), fun H3 ⟨F3, kvs3, ks3, r1, r2, r3, r4, r5, r6, r7⟩ => ⟨xs.length - (j + 1), by omega, rfl, hlt, F3, kvs3, ks3, r1, r2, r3, r4, r5, r6, r7⟩, fun x H3 hy => ?_⟩
      obtain ⟨F3, g3, k3⟩ := v2 x H3 hy
      obtain ⟨ρ3, js, hg, hjs, lk3, ht, hk, hv⟩ := step xs[j] (List.getElem_mem hlt)
      have I3 : Iv K Fb Hb F3 H3 σ ρ := I2.grow g3
      have there : ∀ a ∈ Dp :: ks.map (·.2), ∃ o, H2 a = some o := fun a ha => by
        rcases List.mem_cons.mp ha with e | ha
        · rw [e]; exact ⟨_, hd2⟩
        · obtain ⟨p, hp, rfl⟩ := List.mem_map.mp ha
          obtain ⟨us, g1, _⟩ := lis p hp
          exact ⟨_, g1⟩
      have n3 : ∀ a ∈ Dp :: ks.map (·.2), F3 a = none := fun a ha => by
        obtain ⟨o, ho⟩ := there a ha
        exact g3.no a (own a ha).1 (by rw [ho]; simp)
      obtain ⟨Hb', J3, jb, jret⟩ := I3.rebase
      have hbD : ∀ a ∈ Dp :: ks.map (·.2), ∀ o, H2 a = some o → Hb' a = some o := fun a ha o ho => jb a _ (g3.hh a _ ho) (own a ha).2.2
      refine hg F3 Hb' F3 H3 (wipe σ vs) x (J3.wipe vs) k3 _ fun F4 H4 σ4 J4 e4 w4 => ⟨by rw [w4 vs hjs, wipe_idem], ?_⟩
      refine ht F3 Hb' F4 H4 σ4 J4 _ fun F5 H5 J5 e5 => ?_
      rw [if_pos rfl]
      refine hk F3 Hb' F5 H5 σ4 J5 _ fun y F6 H6 J6 e6 k6 => hv F3 Hb' F6 H6 σ4 J6 _ fun p us F7 H7 J7 e7 p1 p2 p3 p4 k7 => ?_
      have st1 : ∀ a ∈ Dp :: ks.map (·.2), ∀ o, H2 a = some o → H7 a = some o := fun a ha o ho => J7.gw.hh a _ (hbD a ha o ho)
      have st2 : ∀ a ∈ Dp :: ks.map (·.2), F7 a = none := fun a ha => by
        obtain ⟨o, ho⟩ := there a ha
        exact J7.gw.no a (n3 a ha) (by rw [hbD a ha o ho]; simp)
      have pn : p ∉ Dp :: ks.map (·.2) := fun hp => by
        obtain ⟨o, ho⟩ := there p hp
        rw [hbD p hp o ho] at p2
        cases p2
      have eall := e4.trans (e5.trans (e6.trans e7))
      have I8 : Iv K Fb Hb F7 H7 σ ρ := I3.backL (jret F7 H7 σ4 ρ3 J7) eall lk3
      have h3p : H3 p = none := by
        cases q2 : H3 p with
        | none => rfl
        | some o =>
          by_cases hh : ∀ (j : Nat) t, ρ[j]? = some t → p ∉ t.adr
          · rw [jb p o q2 hh] at p2
            cases p2
          · exfalso
            apply hh
            intro j' t hj hz
            obtain ⟨k, u, hk, hu⟩ := Like.adr' lk3 j' t hj p hz
            exact p3 k u hk hu
      have hbp : Hb p = none := by
        cases q2 : Hb p with
        | none => rfl
        | some o =>
          rw [I3.gw.hh p o q2] at h3p
          cases h3p
      have np : ∀ (j : Nat) t, ρ[j]? = some t → p ∉ t.adr := fun j' t hj hz => by
        obtain ⟨k, u, hk, hu⟩ := Like.adr' lk3 j' t hj p hz
        exact p3 k u hk hu
      have tkj : xs.take (j + 1) = xs.take j ++ [xs[j]] := by rw [List.take_add_one, List.getElem?_eq_getElem hlt]; rfl
      have pD : p ≠ Dp := fun e => pn (by rw [e]; exact List.mem_cons_self)
      have f7D := st2 Dp List.mem_cons_self
      refine ⟨kvs, .inl (key xs[j] : Nat), k6, st1 Dp List.mem_cons_self _ hd2, Evl.sz_lt (by omega), F7, _, (ks.filter fun q => decide (q.1 ≠ key xs[j])) ++ [(key xs[j], p)], I8.push f7D f2 f3, e2.trans (g3.ff.trans eall), upd_same, Nat.le_trans (length_putK _ _ _) (by omega), ⟨?_, ?_, fun a ha => ?_, fun q hq => ?_⟩, fun q hq => ?_, fun z hz => ?_⟩
      · rw [List.map_append]
        have sub : ((ks.filter fun q => decide (q.1 ≠ key xs[j])).map (·.2)).Sublist (ks.map (·.2)) := List.filter_sublist.map _
        obtain ⟨k1, k2⟩ := List.nodup_cons.mp nd1
        refine List.nodup_cons.mpr ⟨fun h => ?_, List.nodup_append.mpr ⟨k2.sublist sub, by simp, fun a ha b hb => ?_⟩⟩
        · rcases List.mem_append.mp h with h | h
          · exact k1 (sub.subset h)
          · exact pD (List.mem_singleton.mp h).symm
        · rw [List.mem_singleton.mp hb]
          exact fun e => pn (by rw [← (show a = p from e)]; exact List.mem_cons_of_mem _ (sub.subset ha))
      · rw [List.map_append]
        refine List.nodup_append.mpr ⟨nd2.sublist (List.filter_sublist.map _), by simp, fun a ha b hb => ?_⟩
        rw [List.mem_singleton.mp hb]
        obtain ⟨q, hq, rfl⟩ := List.mem_map.mp ha
        exact of_decide_eq_true (List.mem_filter.mp hq).2
      · have hold : ∀ a ∈ Dp :: ks.map (·.2), F7 a = none ∧ Hb a = none ∧ ∀ (j : Nat) t, ρ[j]? = some t → a ∉ t.adr := fun a ha => ⟨st2 a ha, (own a ha).2⟩
        rcases List.mem_cons.mp ha with e | ha
        · exact hold a (by rw [e]; exact List.mem_cons_self)
        · rw [List.map_append] at ha
          rcases List.mem_append.mp ha with ha | ha
          · obtain ⟨q, hq, e⟩ := List.mem_map.mp ha
            exact hold a (List.mem_cons_of_mem _ (List.mem_map.mpr ⟨q, (List.mem_filter.mp hq).1, e⟩))
          · rw [List.mem_singleton.mp ha]
            exact ⟨p1, hbp, np⟩
      · rcases List.mem_append.mp hq with hq | hq
        · have hq' := (List.mem_filter.mp hq).1
          obtain ⟨us', g1, g2⟩ := lis q hq'
          have hm2 : q.2 ∈ Dp :: ks.map (·.2) := List.mem_cons_of_mem _ (List.mem_map_of_mem hq')
          have nq : q.2 ≠ Dp := fun e => (List.nodup_cons.mp nd1).1 (by rw [← e]; exact List.mem_map_of_mem hq')
          exact ⟨us', by rw [upd_ne nq]; exact st1 _ hm2 _ g1, g2.mono (g3.ff.trans eall)⟩
        · rw [List.mem_singleton.mp hq]
          exact ⟨us, by rw [upd_ne pD]; exact p4, k7⟩
      · rw [valV_put]
        rcases List.mem_append.mp hq with hq | hq
        · obtain ⟨h1, h2⟩ := List.mem_filter.mp hq
          have ne := of_decide_eq_true h2
          rw [if_neg (fun e => ne (by have := Sum.inl.inj e; omega))]
          exact hm q h1
        · rw [List.mem_singleton.mp hq, if_pos rfl]
      · rw [List.map_append]
        by_cases ez : key z = key xs[j]
        · rw [ez]
          exact List.mem_append_right _ List.mem_cons_self
        · rw [tkj] at hz
          rcases List.mem_append.mp hz with hz | hz
          · obtain ⟨q, hq, e⟩ := List.mem_map.mp (hks z hz)
            exact List.mem_append_left _ (List.mem_map.mpr ⟨q, List.mem_filter.mpr ⟨hq, decide_eq_true (by rw [e]; exact ez)⟩, e⟩)
          · exact absurd (congrArg key (List.mem_singleton.mp hz)) ez
    · have e : j = xs.length := by omega
      subst e
      rw [List.length_map] at w2
      rw [List.take_length] at hks
      refine .inl ⟨w2, n1 _ F2 H2 _ (q Dp ks nd1 nd2 hks) (I2.put (fun d h => by cases h) (fun w h => by cases h; rfl) (fun a ha => ⟨(own a ha).1, (own a ha).2.1⟩) ⟨⟨kvs, hd2, hm⟩, lis⟩ fun j' t hj a ha => (own a ha).2.2 j' t hj) (e1.trans e2)⟩
end
end Gr
namespace Gr
open PySem PySem.Spec PyProof.Rows L2
section
variable {K : PySem.W.Frag} {ρ : Env} {d : Dt} {E : De}
theorem pos_uniq {ks : List (Nat × Addr)} (h : (ks.map (·.2)).Nodup) {p q : Nat × Addr} (hp : p ∈ ks) (hq : q ∈ ks) (e : p.2 = q.2) : p = q := by
  induction ks with
  | nil => cases hp
  | cons r ks ih =>
    obtain ⟨h1, h2⟩ := List.nodup_cons.mp h
    rcases List.mem_cons.mp hp with e1 | hp'
    · rcases List.mem_cons.mp hq with e2 | hq'
      · rw [e1, e2]
      · exact (h1 (List.mem_map.mpr ⟨q, hq', by rw [← e1]; exact e.symm⟩)).elim
    · rcases List.mem_cons.mp hq with e2 | hq'
      · exact (h1 (List.mem_map.mpr ⟨p, hp', by rw [← e2]; exact e⟩)).elim
      · exact ih h2 hp' hq'
/-- d[k].pop(0) -/
theorem x_popL {i : Nat} {a : Addr} {ks : List (Nat × Addr)} {c : Nat → List Dt} {ty : TE} {k : Nat} {rest : List Dt} (hi : ρ[i]? = some (.res (dL a ks c))) (hk : EvX K ty ρ (.int (k : Nat)) ρ) (nd : (a :: ks.map (·.2)).Nodup) (hm : k ∈ ks.map (·.1)) (hc : c k = d :: rest) :
    EvX K (tBM K "list" rPopAt (tDGet (tVar i) ty) (tCons (tC (.int 0)) tNil)) ρ d (ρ.set i (.res (dL a ks fun j => if j = k then rest else c j))) := fun Fb Hb F H σ I Q q => by
  refine ⟨_, (I.res i _ hi).1 _ rfl, hk Fb Hb F H σ I _ fun u F1 H1 I1 e1 k1 => ?_⟩
  obtain ⟨_, hn, ⟨kvs, h1, h2⟩, h3⟩ := I1.res i _ hi
  rw [show u = V.int (k : Nat) from k1]
  obtain ⟨⟨k', b⟩, hp, rfl⟩ := List.mem_map.mp hm
  have hg := DGet.k (k := .inl (k' : Int)) h1
  rw [h2 _ hp] at hg
  obtain ⟨xs, g1, g2⟩ := h3 _ hp
  rw [hc] at g2
  obtain ⟨v, r, rfl, g3, g4⟩ := g2
  obtain ⟨nd1, nd2⟩ := List.nodup_cons.mp nd
  refine ⟨a, .ref b, rfl, hg, .inl ⟨rfl, _, Evl.sq_of g1⟩, ?_⟩
  refine ⟨b, v :: r, 0, 0, v, rfl, rfl, g1, by decide, by decide, by simp [seqIndex?], rfl, ?_⟩
  have bm : b ∈ ks.map (·.2) := List.mem_map_of_mem (f := fun p : Nat × Addr => p.2) hp
  have ba : b ≠ a := fun e => nd1 (by rw [← e]; exact bm)
  refine q v F1 _ (I1.changed hi rfl rfl (fun d h => by cases h) (Evl.Ex.refl _) (fun x o e => ?_) (fun x o hx e => ?_) (fun _ _ h _ => h) (fun x hx => (hn x hx).1) ⟨⟨kvs, ?_, h2⟩, fun p hpm => ?_⟩) e1 g3
  · rw [upd_ne (fun z => by
      have := (hn b (List.mem_cons_of_mem _ bm)).1
      rw [z, this] at e
      cases e)]
    exact I1.fh x o e
  · rw [upd_ne (fun z => hx (by rw [z]; exact List.mem_cons_of_mem _ bm))]
    exact e
  · rw [upd_ne (Ne.symm ba)]
    exact h1
  · by_cases e : p.2 = b
    · have := pos_uniq nd2 hpm hp e
      subst this
      refine ⟨r, upd_same, ?_⟩
      show DaAll K F1 r (if k' = k' then rest else c k')
      rw [if_pos rfl]
      exact g4
    · obtain ⟨xs, z1, z2⟩ := h3 p hpm
      refine ⟨xs, by rw [upd_ne e]; exact z1, ?_⟩
      have nk : p.1 ≠ k' := fun e2 => by
        have a1 := h2 p hpm
        have a2 := h2 _ hp
        rw [e2] at a1
        rw [a1] at a2
        exact e (V.ref.inj (Option.some.inj a2))
      show DaAll K F1 xs (if p.1 = k' then rest else c p.1)
      rw [if_neg nk]
      exact z2
end
end Gr
/-! objects made: __init__ -/
namespace Gr
open PySem PySem.Spec PyProof.Rows L2
section
variable {K : PySem.W.Frag} {ρ ρ1 ρ2 : Env} {ds es fs : List Dt} {d : Dt} {te : TE} {E : De}
theorem putF_new {f : Str} {v : V} : ∀ {ns : List Str} {vs : List V}, ns.contains f = false → vs.length = ns.length → putF f v (ns.zip vs) = (ns ++ [f]).zip (vs ++ [v])
  | [], [], _, _ => rfl
  | n :: ns, u :: vs, h, hl => by
    rw [List.contains_cons, Bool.or_eq_false_iff] at h
    have ne : n ≠ f := fun e => by
      have := h.1
      rw [e] at this
      simp at this
    show (if n = f then (n, v) :: ns.zip vs else (n, u) :: putF f v (ns.zip vs)) = _
    rw [if_neg ne, putF_new h.2 (by simpa using hl)]
    rfl
  | [], _ :: _, _, hl => by cases hl
  | _ :: _, [], _, hl => by cases hl
/-- an object of one's own, as it is being made -/
def oB (x C dx : Addr) (ns : List Str) (ds : List Dt) : Rsc where
  as := [x]
  v := .ref x
  R := fun K F H => ∃ vs, H x = some (.ins C dx (ns.zip vs)) ∧ vs.length = ns.length ∧ DaAll K F vs ds
  mono := fun ⟨vs, h1, h2, h3⟩ e k => ⟨vs, k x List.mem_cons_self _ h1, h2, h3.mono e⟩
  there := fun ⟨vs, h1, _⟩ b hb => by
    rw [List.mem_singleton.mp hb]
    exact ⟨_, h1⟩
theorem s_fldB {x C dx : Addr} {ns : List Str} {f : Str} {i : Nat} (h : EvX K te ρ d ρ) (hi : ρ[i]? = some (.res (oB x C dx ns ds))) (hc : Cls K C) (hn : NoAttr K C f) (hf : ns.contains f = false) (hl : ns.length < 900) (q : E.nx (ρ.set i (.res (oB x C dx (ns ++ [f]) (ds ++ [d]))))) : EvS K (sFld K (tVar i) te f) E ρ := fun Fb Hb F H σ I D n1 _ _ _ =>
  h Fb Hb F H σ I _ fun v F1 H1 I1 e1 k1 => by
    obtain ⟨g1, g2, vs, g3, g4, g5⟩ := I1.res i _ hi
    refine ⟨_, g1 _ rfl, x, C, dx, _, rfl, g3, hc, hn, by rw [List.length_zip, g4, Nat.min_self]; omega, n1 _ F1 _ σ q ?_ e1⟩
    have fx : F1 x = none := (g2 x List.mem_cons_self).1
    refine I1.changed hi rfl rfl (fun _ z => by cases z) (Evl.Ex.refl _) (fun a o e => ?_) (fun a o ne e => ?_) (fun _ _ z _ => z) (fun a z => (g2 a z).1) ⟨vs ++ [v], ?_, by simp [g4], g5.append (.cons k1 .nil)⟩
    · rw [upd_ne (fun z => by rw [z, fx] at e; cases e)]
      exact I1.gw.fh a o e
    · rw [upd_ne (fun z => ne (by rw [z]; exact List.mem_cons_self))]
      exact e
    · rw [upd_same, putF_new hf g4]
/-- self.f = [] at last: a Pecking -/
theorem s_fldP {x C dx : Addr} {i : Nat} {here : Dt} (h : EvN K te ρ [] ρ) (hi : ρ[i]? = some (.res (oB x C dx ["here"] [here]))) (hc : Cls K C) (hn : NoAttr K C "so_far") (q : ∀ l, E.nx (ρ.set i (.pk x C dx l here []))) : EvS K (sFld K (tVar i) te "so_far") E ρ := fun Fb Hb F H σ I D n1 _ _ _ =>
  h Fb Hb F H σ I _ fun p xs F1 H1 I1 e1 p1 p2 p3 p4 k1 => by
    obtain ⟨g1, g2, vs, g3, g4, g5⟩ := I1.res i _ hi
    obtain ⟨vh, r, rfl, g6, g7⟩ := g5
    obtain rfl : r = [] := g7
    have fx := g2 x List.mem_cons_self
    have eσ : σ.set i (some (.ref x)) = σ := by
      refine List.ext_getElem? fun j => ?_
      rw [List.getElem?_set]
      split
      · rename_i e
        subst e
        rw [if_pos (List.getElem?_eq_some_iff.mp (g1 _ rfl)).1]
        exact (g1 _ rfl).symm
      · rfl
    have ix : i < ρ.length := (List.getElem?_eq_some_iff.mp hi).1
    have I2 : Iv K Fb Hb F1 H1 σ (ρ.set i .no) := eσ ▸ I1.setNo (some (.ref x))
    have out : ∀ (j : Nat) t, (ρ.set i .no)[j]? = some t → x ∉ t.adr := fun j t hj hz => by
      rcases set_get hj with ⟨_, q, _⟩ | ⟨ne, q⟩
      · subst q; cases hz
      · exact I1.apart i j _ t ne hi q x List.mem_cons_self hz
    have I3 := I2.push (o := .ins C dx [("here", vh), ("so_far", .ref p)]) fx.1 fx.2 out
    have hpx : p ≠ x := fun e => by rw [e, g3] at p4; cases p4
    have I4 := I3.put (i := i) (o := some (.ref x)) (s := .pk x C dx p here []) (fun d h => by cases h) (fun w h => by cases h; rfl) (fun a ha => by
      rcases List.mem_cons.mp ha with e | ha
      · rw [e]; exact fx
      · rw [List.mem_singleton.mp ha]; exact ⟨p1, p2⟩) ⟨vh, xs, upd_same, by rw [upd_ne hpx]; exact p4, g6, k1⟩ fun j t hj a ha => by
      rcases List.mem_cons.mp ha with e | ha
      · rw [e]; exact out j t hj
      · rw [List.mem_singleton.mp ha]
        rcases set_get hj with ⟨_, q, _⟩ | ⟨ne, q⟩
        · subst q
          exact fun z => by cases z
        · exact p3 j t q
    rw [eσ, List.set_set] at I4
    exact ⟨_, g1 _ rfl, x, C, dx, _, rfl, g3, hc, hn, by show 1 < 1000; decide, n1 _ F1 _ σ (q p) I4 e1⟩
/-- an __init__: its first argument a new object -/
def spT (K : PySem.W.Frag) (R : Addr → Addr → Addr → List Dt → (Sl → Prop) → Prop) : Sp := fun vs H Q _ => ∃ (F : Hp) (x C dx : Addr) (ws : List V) (ds : List Dt) (P : Sl → Prop), vs = .ref x :: ws ∧ R x C dx ds P ∧ H x = some (.ins C dx []) ∧ F x = none ∧ Evl.Ex F H ∧ DaAll K F ws ds ∧
  ∀ s' F' H', P s' → s'.at_ = some (.ref x) → (∀ a ∈ s'.adr, a = x ∨ H a = none) → (∀ a ∈ s'.adr, F' a = none) → s'.holds K F' H' → Gw F (er H [x]) F' H' → Q .non H'
theorem iv_start1 {F H : Hp} {n0 : Str} {N : List Str} {v0 : V} {ws : List V} {s : Sl} (a1 : s.at_ = some v0) (fs : ∀ a ∈ s.adr, F a = none) (hs : s.holds K F H) (e : Evl.Ex F H) (hd : DaAll K F ws ds) : Iv K F (er H s.adr) F H (L2.start (n0 :: N) (v0 :: ws)) (s :: envOf N ds) := by
  have es : Evl.Ex (er H s.adr) H := fun a o h => by
    by_cases z : a ∈ s.adr
    · rw [er_in z] at h; cases h
    · rw [er_out z] at h; exact h
  have I0 := iv_start (N := N) e hd
  have st : L2.start (n0 :: N) (v0 :: ws) = some v0 :: L2.start N ws := by
    unfold L2.start
    simp
  rw [st]
  refine ⟨⟨Evl.Ex.refl _, e, es, fun _ h _ => h⟩, congrArg (· + 1) I0.len, fun i d hi => ?_, fun i t hi => ?_, fun i j t u ne hi hj => ?_⟩
  · cases i with
    | zero =>
      have z : s = .val d := by simpa using hi
      exact absurd z (nv_of a1 d)
    | succ i => exact I0.val i d (by simpa using hi)
  · cases i with
    | zero =>
      have z : s = t := by simpa using hi
      subst z
      exact ⟨fun v w => by rw [a1] at w; cases w; rfl, fun a w => ⟨fs a w, er_in w⟩, hs⟩
    | succ i =>
      obtain ⟨h1, h2, h3, _⟩ := env_val (N := N) (ds := ds) (i := i) (s := t) (by simpa using hi)
      exact ⟨fun v z => (by rw [h2] at z; cases z), fun a z => (by rw [h1] at z; cases z), h3 K F H⟩
  · cases i with
    | zero =>
      cases j with
      | zero => exact absurd rfl ne
      | succ j =>
        rw [(env_val (N := N) (ds := ds) (i := j) (s := u) (by simpa using hj)).1]
        exact fun a _ z => by cases z
    | succ i =>
      rw [(env_val (N := N) (ds := ds) (i := i) (s := t) (by simpa using hi)).1]
      exact fun a z => by cases z
theorem body_T {R : Addr → Addr → Addr → List Dt → (Sl → Prop) → Prop} {ts : TS} {n0 : Str} {N : List Str} (hb : ∀ x C dx ds P, R x C dx ds P → EvS K ts { nx := fun ρ => ∃ (i : Nat) (s' : Sl), ρ[i]? = some s' ∧ P s' ∧ s'.at_ = some (.ref x), rt := fun _ _ => False } (.res (oB x C dx [] []) :: envOf N ds)) {vs : List V} {H : Hp} {Q : VK} {X : XK} (h : spT K R vs H Q X) :
    ts { nx := fun _ H' => Q .non H', rt := Q } (L2.start (n0 :: N) vs) H := by
  obtain ⟨F, x, C, dx, ws, ds, P, rfl, hR, hx, fx, e, hd, q⟩ := h
  have J := iv_start1 (K := K) (n0 := n0) (N := N) (s := .res (oB x C dx [] [])) (v0 := .ref x) rfl (fun a ha => by rw [List.mem_singleton.mp ha]; exact fx) ⟨[], hx, rfl, rfl⟩ e hd
  refine hb x C dx ds P hR F _ F H _ J _ (fun ρ' F' H' σ' hn I' e' => ?_) (fun d ρ' v F' H' σ' hr I' e' hv => hr.elim) (fun _ _ _ _ x => x.elim) (fun _ _ _ _ x => x.elim)
  obtain ⟨i, s', hi, hp, ha⟩ := hn
  obtain ⟨_, h2, h3⟩ := I'.res i s' hi
  refine q s' F' H' hp ha (fun a z => ?_) (fun a z => (h2 a z).1) h3 I'.gw
  by_cases k : a = x
  · exact .inl k
  · have := (h2 a z).2
    exact .inr ((er_out (fun w => k (List.mem_singleton.mp w))).symm.trans this)
theorem len_T {R : Addr → Addr → Addr → List Dt → (Sl → Prop) → Prop} {n : Nat} (hn : ∀ x C dx ds P, R x C dx ds P → ds.length = n) {vs : List V} {H : Hp} {Q : VK} {X : XK} (h : spT K R vs H Q X) : vs.length = n + 1 := by
  obtain ⟨F, x, C, dx, ws, ds, P, rfl, hR, _, _, e, hd, q⟩ := h
  rw [List.length_cons, hd.len, hn x C dx ds P hR]
theorem mk_step {Fb Hb F1 H1 : Hp} {σ : L2.St} (I1 : Iv K Fb Hb F1 H1 σ ρ) {x dx C : Addr} (hx : H1 x = none) (hdx : H1 dx = none) (hne : dx ≠ x) :
    Iv K Fb Hb F1 (upd (upd H1 dx (.own x)) x (.ins C dx [])) σ ρ := (I1.newOwn hdx).newOwn (by rw [upd_ne (Ne.symm hne)]; exact hx)
/-- C(..), a frozen object -/
theorem x_make {R : Addr → Addr → Addr → List Dt → (Sl → Prop) → Prop} {C : Addr} {X : XK} {t : TA} {ns : List Str} (h : EvL K t ρ ds ρ1) (hR : ∀ x dx, R x C dx ds fun s' => s' = .res (oB x C dx ns es)) : EvX K (tMake C (spT K R) [] X t) ρ (.ins C ns es) ρ1 := fun Fb Hb F H σ I Q q =>
  h Fb Hb F H σ I _ fun vs F1 H1 I1 e1 h1 x dx hx hdx hne => by
    show spT K R (.ref x :: (vs ++ [])) _ _ X
    rw [List.append_nil]
    obtain ⟨f1, f2, f3⟩ := I1.fresh hx
    have I2 := mk_step (C := C) I1 hx hdx hne
    refine ⟨F1, x, C, dx, vs, ds, _, rfl, hR x dx, upd_same, f1, I2.fh, h1, fun s' F' H' hp ha hs hn hh g => ⟨rfl, ?_⟩⟩
    subst hp
    obtain ⟨us, k1, k2, k3⟩ := hh
    have fx := hn x List.mem_cons_self
    have ex : Evl.Ex F' (upd F' x (.ins C dx (ns.zip us))) := Evl.Ex.new fx
    have g2 : Gw F1 H1 (upd F' x (.ins C dx (ns.zip us))) H' := ⟨g.ff.trans ex, fun a o e => by
        by_cases z : a = x
        · subst z
          rw [upd_same] at e
          rw [k1, e]
        · rw [upd_ne z] at e
          exact g.fh a o e, fun a o e => by
        have z : a ≠ x := fun z => by rw [z, hx] at e; cases e
        have z2 : a ≠ dx := fun z => by rw [z, hdx] at e; cases e
        exact g.hh a o ((er_out (fun w => z (List.mem_singleton.mp w))).trans (by rw [upd_ne z, upd_ne z2]; exact e)), fun a m1 m2 => by
        have z : a ≠ x := fun z => m2 (by rw [z]; exact hx)
        have z2 : a ≠ dx := fun z => m2 (by rw [z]; exact hdx)
        rw [upd_ne z]
        refine g.no a m1 ?_
        rw [er_out (fun w => z (List.mem_singleton.mp w)), upd_ne z, upd_ne z2]
        exact m2⟩
    exact q _ _ H' (I1.grow g2) (e1.trans g2.ff) ⟨x, dx, us, rfl, upd_same, k2, k3.mono ex⟩
/-- x = C(..), a Pecking of one's own -/
theorem s_makeP {R : Addr → Addr → Addr → List Dt → (Sl → Prop) → Prop} {C : Addr} {X : XK} {t : TA} {i : Nat} {P : Addr → Addr → Sl → Prop} (h : EvL K t ρ ds ρ1) (hR : ∀ x dx, R x C dx ds (P x dx)) (q : ∀ x dx s', P x dx s' → E.nx (ρ1.set i s')) : EvS K (tAsg (tMake C (spT K R) [] X t) (gName i)) E ρ := fun Fb Hb F H σ I D n1 _ _ _ =>
  h Fb Hb F H σ I _ fun vs F1 H1 I1 e1 h1 x dx hx hdx hne => by
    show spT K R (.ref x :: (vs ++ [])) _ _ X
    rw [List.append_nil]
    obtain ⟨f1, f2, f3⟩ := I1.fresh hx
    have I2 := mk_step (C := C) I1 hx hdx hne
    refine ⟨F1, x, C, dx, vs, ds, _, rfl, hR x dx, upd_same, f1, I2.fh, h1, fun s' F' H' hp ha hs hn hh g => ⟨rfl, ?_⟩⟩
    have g2 : Gw F1 H1 F' H' := ⟨g.ff, g.fh, fun a o e => by
        have z : a ≠ x := fun z => by rw [z, hx] at e; cases e
        have z2 : a ≠ dx := fun z => by rw [z, hdx] at e; cases e
        exact g.hh a o ((er_out (fun w => z (List.mem_singleton.mp w))).trans (by rw [upd_ne z, upd_ne z2]; exact e)), fun a m1 m2 => by
        have z : a ≠ x := fun z => m2 (by rw [z]; exact hx)
        have z2 : a ≠ dx := fun z => m2 (by rw [z]; exact hdx)
        refine g.no a m1 ?_
        rw [er_out (fun w => z (List.mem_singleton.mp w)), upd_ne z, upd_ne z2]
        exact m2⟩
    have I3 := I1.grow g2
    have fr : ∀ a ∈ s'.adr, H1 a = none := fun a ha => by
      rcases hs a ha with z | z
      · rw [z]; exact hx
      · by_cases z2 : a = x
        · rw [z2]; exact hx
        · rw [upd_ne z2] at z
          by_cases z3 : a = dx
          · rw [z3]; exact hdx
          · rw [upd_ne z3] at z
            exact z
    exact n1 _ F' H' _ (q x dx s' hp) (I3.put (fun d h => absurd h (nv_of ha d)) (fun w h => by rw [ha] at h; cases h; rfl) (fun a z => ⟨hn a z, (I1.fresh (fr a z)).2.1⟩) hh fun j u hj a z => (I1.fresh (fr a z)).2.2 j u hj) (e1.trans g2.ff)
end
end Gr
namespace Gr
open PySem PySem.Spec PyProof.Rows L2
section
variable {X : Cx} {pos : Pos}
theorem pe_cM {k j n m : Nat} {x : Str} {sp : Sp} {p : Pos} {e : Expr} {es : List Expr} {kws : List Keyword} {ks : List Str} {t tk : TA} (c : CalN X.prog X.w X.K X.mg X.base k x n ks sp) (hr : Room j X.A) (hk : k ≤ j) (hg : Gl X x) (ha : PA X (e :: es) t) (hkw : PK X kws tk) (hm : ks.length = m := by rfl)
    (hall : (backToKw pos (keywordEach kws X.env)).all (·.1.isSome) = true := by rfl) (hks : (backToKw pos (keywordEach kws X.env)).filterMap (·.1) = ks := by rfl)
    (hdb : (x == ("__debug__" : Str)) = false := by decide) (he : starEach (e :: es) X.env = (false, eval e X.env) :: starEach es X.env := by rfl)
    (hpl : ((backTo pos (starEach (e :: es) X.env)).any (·.1) || (backToKw pos (keywordEach kws X.env)).any (·.1.isNone)) = false := by rfl) : PE X (.Call (.Name x p) (e :: es) kws pos) (tCallN n m sp catV C8.E0 t tk) := by
  subst hm
  exact pe_cN c hr hk hg ha hkw hall hks hdb he hpl
end
end Gr
/-! sorted(list of alike data that is ascending) -/
namespace Gr
open PySem PySem.Spec PyProof.Rows L2 PySem.W
def rSortedN (K : PySem.W.Frag) : List V → Hp → VK → Prop := fun vs H Q => ∃ (a : Addr) (xs : List V) (ds : List PyData), vs = [V.ref a] ∧ SqL K H a xs ∧ DpAll K H xs ds ∧ AllAlike ds ∧ Sortable ds ∧ ds.length ≤ 100000 ∧ (∀ d ∈ ds, d.depth ≤ 50) ∧ ds.Pairwise (fun a b => dataLt b a = false) ∧ ∀ p, H p = none → Q (.ref p) (upd H p (.lst xs))
theorem dpLen {K : PySem.W.Frag} {H : Hp} : ∀ {xs : List V} {ds : List PyData}, DpAll K H xs ds → xs.length = ds.length
  | _, _, .nil => rfl
  | _, _, .cons _ t => congrArg (· + 1) (dpLen t)
theorem each_of {X : Cx} {pins : List (Addr × Obj)} {σ : L2.St} {H : Hp} {s : Shared} (I : Inv X pins σ H s) : ∀ {xs : List V} {us : List Value} {ds : List PyData}, Vals xs us → DpAll X.K H xs ds →
    EachIs (fun u (b : V × PyData) => L2.RelV b.1 u) us (xs.zip ds) ∧ EachIs (fun u (b : V × PyData) => ∃ as, Reads s.heap u b.2 as) us (xs.zip ds)
  | [], _, _, .nil, .nil => ⟨.nil, .nil⟩
  | x :: xs, u :: us, d :: ds, .cons r t, .cons h k => ⟨.cons r (each_of I t k).1, .cons (Dp.reads I d x u h r) (each_of I t k).2⟩
theorem vals_each {ds : List PyData} : ∀ {us : List Value} {bs : List (V × PyData)}, EachIs (fun u (b : V × PyData) => L2.RelV b.1 u) us bs → Vals (bs.map (·.1)) us
  | _, _, .nil => .nil
  | _, _, .cons r t => .cons r (vals_each (ds := ds) t)
theorem zip_snd {xs : List V} {ds : List PyData} (h : xs.length = ds.length) : (xs.zip ds).map (·.2) = ds := by
  rw [show (fun p : V × PyData => p.2) = Prod.snd from rfl, List.map_snd_zip (by omega)]
theorem zip_fst {xs : List V} {ds : List PyData} (h : xs.length = ds.length) : (xs.zip ds).map (·.1) = xs := by
  rw [show (fun p : V × PyData => p.1) = Prod.fst from rfl, List.map_fst_zip (by omega)]
theorem cr_sortedN {X : Cx} (hu : X.A.units + 64 < cLine) : CallR X (.builtin "sorted") (rSortedN X.K) := by
  intro pins s σ H vs us Q I r h
  obtain ⟨a, xs, ds, rfl, hs, hd, hal, hk, hl, hdp, hpw, q⟩ := h
  obtain ⟨its, rv, pl, hz⟩ := I.list hs
  rw [Vals.ref1 r]
  have hlen := dpLen hd
  obtain ⟨e1, e2⟩ := each_of I rv hd
  have es : (xs.zip ds).map (·.2) = ds := zip_snd hlen
  refine sorted_data (bs := xs.zip ds) (enc := fun b => b.2) pl.isList e1 e2 (by rw [es]; exact hal) (by rw [es]; exact hk) (by rw [List.length_zip]; have := sz hl; omega) (fun b hb => ?_) fun out ho eo => ?_
  · have hm : b.2 ∈ ds := by rw [← es]; exact List.mem_map_of_mem hb
    have := hdp _ hm
    omega
  · have sorted : (xs.zip ds).mergeSort (dataLe false fun b => b.2) = xs.zip ds := by
      apply List.mergeSort_of_pairwise
      have : ((xs.zip ds).map (·.2)).Pairwise (fun a b => dataLt b a = false) := by rw [es]; exact hpw
      rw [List.pairwise_map] at this
      refine this.imp fun {a b} h => ?_
      show (!dataLt b.2 a.2) = true
      rw [h]
      rfl
    rw [sorted] at eo
    have vo := vals_each (ds := ds) eo
    rw [zip_fst hlen] at vo
    obtain ⟨ep, he'⟩ := PyProof.Rows.sortedAll_at s.heap its out.toArray
    exact ⟨.ref _, upd H (s.heap.objs.size + 1) (.lst xs), I.laid (t' := s.toks) (fun _ _ => PyProof.Rows.sortedAll_old) (Nat.le_succ _) ⟨hz, out, ep, vo, he'⟩, rfl, q _ (I.hok.fresh (Nat.le_succ _))⟩
section
variable {K : PySem.W.Frag}
theorem depth_mem : ∀ {ds : List PyData} {d : PyData}, d ∈ ds → d.depth ≤ PyData.depthAll ds
  | x :: xs, d, h => by
    unfold PyData.depthAll
    rcases List.mem_cons.mp h with rfl | h
    · exact Nat.le_max_left _ _
    · exact Nat.le_trans (depth_mem h) (Nat.le_max_right _ _)
theorem tpAll_map : ∀ (ds : List Dt), tpAll ds = ds.map tp
  | [] => rfl
  | d :: ds => by
    rw [tpAll, tpAll_map ds]
    rfl
theorem c_sortedN {n : Nat} {ds : List Dt} (p : ∀ d ∈ ds, Pl n d) (hn : n ≤ 50) (hl : ds.length ≤ 100000) (hal : ∀ a ∈ ds, ∀ b ∈ ds, alike (tp a) (tp b) = true) (hk : ∀ d ∈ ds, ∃ x r, tp d = .tuple (x :: r)) (hs : ds.Pairwise fun a b => dataLt (tp b) (tp a) = false) : CbD K (rSortedN K) [.lst ds] (.lst ds) := fun F H xs e h Q q => by
  obtain ⟨v, rfl, a, us, rfl, h2, h3⟩ := all1 h
  obtain ⟨k1, k2, k3⟩ := dpAll_of n ds us (PlAll.of p) (h3.mono e)
  rw [tpAll_map] at k1 k3
  refine ⟨a, us, ds.map tp, rfl, Evl.sq_of (e a _ h2), k1, fun x hx y hy => ?_, .inl fun x hx => ?_, by rw [List.length_map]; exact hl, fun x hx => ?_, ?_, fun p hp => ?_⟩
  · obtain ⟨d1, m1, rfl⟩ := List.mem_map.mp hx
    obtain ⟨d2, m2, rfl⟩ := List.mem_map.mp hy
    exact hal d1 m1 d2 m2
  · obtain ⟨d1, m1, rfl⟩ := List.mem_map.mp hx
    exact hk d1 m1
  · exact Nat.le_trans (depth_mem hx) (Nat.le_trans k3 hn)
  · rw [List.pairwise_map]
    exact hs
  · have g := Gw.new (o := .lst us) e hp
    exact q _ _ _ g ⟨p, us, rfl, upd_same, h3.mono g.ff⟩
end
end Gr
namespace Gr
open PySem PySem.Spec PyProof.Rows L2
section
variable {K : PySem.W.Frag} {ρ ρ1 ρ2 : Env} {ds es fs rs : List Dt} {d : Dt} {te : TE} {E : De}
/-- a def that hands back a new list -/
def spN (K : PySem.W.Frag) (R : List Dt → List Dt → Prop) : Sp := fun vs H Q _ => ∃ (F : Hp) (ds rs : List Dt), R ds rs ∧ Evl.Ex F H ∧ DaAll K F vs ds ∧ ∀ p xs F' H', Gw F H F' H' → F' p = none → H p = none → H' p = some (.lst xs) → DaAll K F' xs rs → Q (.ref p) H'
theorem n_call {R : List Dt → List Dt → Prop} {X : XK} {t : TA} (h : EvL K t ρ ds ρ1) (hR : R ds rs) : EvN K (tCall (spN K R) [] X t) ρ rs ρ1 := fun Fb Hb F H σ I Q q =>
  h Fb Hb F H σ I _ fun vs F1 H1 I1 e1 h1 => by
    show spN K R (vs ++ []) H1 Q X
    rw [List.append_nil]
    refine ⟨F1, ds, rs, hR, I1.fh, h1, fun p xs F2 H2 g p1 p2 p3 k => ?_⟩
    obtain ⟨f1, f2, f3⟩ := I1.fresh p2
    exact q p xs F2 H2 (I1.grow g) (e1.trans g.ff) p1 f2 f3 p3 k
/-- its body: a statement, then return -/
theorem body_N {R : List Dt → List Dt → Prop} {ts : TS} {N : List Str} (hb : ∀ ds rs, R ds rs → ∃ ρ1 ρ2, EvS K ts { nx := fun ρ => ρ = ρ1, rt := fun _ _ => False } (envOf N ds) ∧ EvN K te ρ1 rs ρ2) {vs : List V} {H : Hp} {Q : VK} {X : XK} (h : spN K R vs H Q X) :
    (tSeq ts (tRet te)) { nx := fun _ H' => Q .non H', rt := Q } (L2.start N vs) H := by
  obtain ⟨F, ds, rs, hR, e, hd, q⟩ := h
  obtain ⟨ρ1, ρ2, h1, h2⟩ := hb ds rs hR
  refine h1 F H F H _ (iv_start e hd) _ (fun ρ' F' H' σ' hn I' e' => ?_) (fun d ρ' v F' H' σ' hr _ _ _ => hr.elim) (fun _ _ _ _ x => x.elim) (fun _ _ _ _ x => x.elim)
  subst hn
  exact h2 F H F' H' σ' I' _ fun p xs F2 H2 I2 e2 p1 p2 p3 p4 k => q p xs F2 H2 I2.gw p1 p2 p4 k
theorem len_N {R : List Dt → List Dt → Prop} {n : Nat} (hn : ∀ ds r, R ds r → ds.length = n) {vs : List V} {H : Hp} {Q : VK} {X : XK} (h : spN K R vs H Q X) : vs.length = n := by
  obtain ⟨F, ds, r, hR, e, hd, q⟩ := h
  rw [hd.len]
  exact hn ds r hR
/-- a def called with one default filled up -/
theorem x_callD {R : List Dt → Dt → Prop} {X : XK} {t : TA} {u : V} {du : Dt} (h : EvL K t ρ ds ρ1) (hu : ∀ F, Da K F u du) (hR : R (ds ++ [du]) d) : EvX K (tCall (spD K R) [u] X t) ρ d ρ1 := fun Fb Hb F H σ I Q q =>
  h Fb Hb F H σ I _ fun vs F1 H1 I1 e1 h1 => ⟨F1, ds ++ [du], d, hR, I1.fh, h1.append (.cons (hu F1) .nil), fun v F2 H2 g h2 => q v F2 H2 (I1.grow g) (e1.trans g.ff) h2⟩
end
end Gr
/-! a list of lists of one's own -/
namespace Gr
open PySem PySem.Spec PyProof.Rows L2
def mD (a : Addr) (bs : List Addr) (m : List (List Dt)) : Rsc where
  as := a :: bs
  v := .ref a
  R := fun K F H => H a = some (.lst (bs.map .ref)) ∧ bs.length = m.length ∧ ∀ (i : Nat) b ds, bs[i]? = some b → m[i]? = some ds → ∃ xs, H b = some (.lst xs) ∧ DaAll K F xs ds
  mono := fun ⟨h1, h2, h3⟩ e k => ⟨k a List.mem_cons_self _ h1, h2, fun i b ds hb hd => by
    obtain ⟨xs, g1, g2⟩ := h3 i b ds hb hd
    exact ⟨xs, k b (List.mem_cons_of_mem _ (List.mem_of_getElem? hb)) _ g1, g2.mono e⟩⟩
  there := fun ⟨h1, h2, h3⟩ b hb => by
    rcases List.mem_cons.mp hb with e | hb
    · rw [e]; exact ⟨_, h1⟩
    · obtain ⟨i, hi, rfl⟩ := List.getElem_of_mem hb
      obtain ⟨xs, g1, _⟩ := h3 i _ _ (List.getElem?_eq_getElem hi) (List.getElem?_eq_getElem (by omega))
      exact ⟨_, g1⟩
section
variable {K : PySem.W.Frag} {ρ ρ1 ρ2 : Env} {ds es fs : List Dt} {d : Dt} {te : TE} {E : De}
theorem s_mat {α : Type} {i : Nat} {wi : TI} {g : TG} {vs : List Nat} (xs : List α) (emb : α → Dt) (row : α → List Dt) (hi : EvI K wi ρ (xs.map emb) ρ) (hl : xs.length ≤ 80000)
    (step : ∀ x ∈ xs, ∃ ρ3 js, EvG K g (wipeE ρ vs) (emb x) ρ3 js ∧ (∀ j ∈ js, j ∈ vs) ∧ Like ρ ρ3 ρ ∧ EvN K te ρ3 (row x) ρ3)
    (q : ∀ a bs, (a :: bs).Nodup → E.nx (ρ.set i (.res (mD a bs (xs.map row))))) : EvS K (tAsg (tLc wi g tYes te vs) (gName i)) E ρ := fun Fb Hb F H σ I D n1 _ _ _ =>
  hi Fb Hb F H σ I _ fun J F1 H1 I1 e1 wk Dp hD => by
    obtain ⟨f1, f2, f3⟩ := I1.fresh hD
    have I0 : Iv K Fb Hb F1 (upd H1 Dp (.lst [])) σ ρ := I1.newOwn hD
    let S : List Addr → List (List Dt) → Hp → Hp → Prop := fun bs m F H => (Dp :: bs).Nodup ∧ (∀ a ∈ Dp :: bs, F a = none ∧ Hb a = none ∧ ∀ (j : Nat) t, ρ[j]? = some t → a ∉ t.adr) ∧ bs.length = m.length ∧ ∀ (i : Nat) b ds, bs[i]? = some b → m[i]? = some ds → ∃ us, H b = some (.lst us) ∧ DaAll K F us ds
    refine ⟨fun j m H2 => m = xs.length - j ∧ j ≤ xs.length ∧ ∃ F2 bs, Iv K Fb Hb F2 H2 σ ρ ∧ Evl.Ex F1 F2 ∧ H2 Dp = some (.lst (bs.map .ref)) ∧ S bs ((xs.take j).map row) F2 H2,
      ⟨xs.length, by simp, Nat.zero_le _, F1, [], I0, Evl.Ex.refl _, upd_same, by simp, fun a ha => by rw [List.mem_singleton.mp (show a ∈ [Dp] from ha)]; exact ⟨f1, f2, f3⟩, by simp, fun i b ds hb => by simp at hb⟩, ?_⟩
    rintro j m H2 ⟨rfl, hle, F2, bs, I2, e2, hd2, nd1, own, hlen, lis⟩
    obtain ⟨w1, w2⟩ := wk F2 H2 e2 I2.fh
    by_cases hlt : j < xs.length
    · have hx : (xs.map emb)[j]? = some (emb xs[j]) := by rw [List.getElem?_map, List.getElem?_eq_getElem hlt]; rfl
      obtain ⟨v1, v2⟩ := w1 j _ hx
      refine .inr ⟨v1, fun H3 => ∃ F3 bs3, Iv K Fb Hb F3 H3 σ ρ ∧ Evl.Ex F1 F3 ∧ H3 Dp = some (.lst (bs3.map .ref)) ∧ S bs3 ((xs.take (j + 1)).map row) F3 H3, fun H3 ⟨F3, bs3, r1, r2, r3, r4⟩ => ⟨xs.length - (j + 1), by omega, rfl, hlt, F3, bs3, r1, r2, r3, r4⟩, fun x H3 hy => ?_⟩
      obtain ⟨F3, g3, k3⟩ := v2 x H3 hy
      obtain ⟨ρ3, js, hg, hjs, lk3, hv⟩ := step xs[j] (List.getElem_mem hlt)
      have I3 : Iv K Fb Hb F3 H3 σ ρ := I2.grow g3
      have there : ∀ a ∈ Dp :: bs, ∃ o, H2 a = some o := fun a ha => by
        rcases List.mem_cons.mp ha with e | ha
        · rw [e]; exact ⟨_, hd2⟩
        · obtain ⟨i, hi, rfl⟩ := List.getElem_of_mem ha
          obtain ⟨us, g1, _⟩ := lis i _ _ (List.getElem?_eq_getElem hi) (List.getElem?_eq_getElem (by omega))
          exact ⟨_, g1⟩
      have n3 : ∀ a ∈ Dp :: bs, F3 a = none := fun a ha => by
        obtain ⟨o, ho⟩ := there a ha
        exact g3.no a (own a ha).1 (by rw [ho]; simp)
      obtain ⟨Hb', J3, jb, jret⟩ := I3.rebase
      have hbD : ∀ a ∈ Dp :: bs, ∀ o, H2 a = some o → Hb' a = some o := fun a ha o ho => jb a _ (g3.hh a _ ho) (own a ha).2.2
      refine hg F3 Hb' F3 H3 (wipe σ vs) x (J3.wipe vs) k3 _ fun F4 H4 σ4 J4 e4 w4 => ⟨by rw [w4 vs hjs, wipe_idem], ?_⟩
      refine b_yes (K := K) F3 Hb' F4 H4 σ4 J4 _ fun F5 H5 J5 e5 => ?_
      rw [if_pos rfl]
      refine hv F3 Hb' F5 H5 σ4 J5 _ fun p us F7 H7 J7 e7 p1 p2 p3 p4 k7 => ?_
      have st1 : ∀ a ∈ Dp :: bs, ∀ o, H2 a = some o → H7 a = some o := fun a ha o ho => J7.gw.hh a _ (hbD a ha o ho)
      have st2 : ∀ a ∈ Dp :: bs, F7 a = none := fun a ha => by
        obtain ⟨o, ho⟩ := there a ha
        exact J7.gw.no a (n3 a ha) (by rw [hbD a ha o ho]; simp)
      have pn : p ∉ Dp :: bs := fun hp => by
        obtain ⟨o, ho⟩ := there p hp
        rw [hbD p hp o ho] at p2
        cases p2
      have eall := e4.trans (e5.trans e7)
      have I8 : Iv K Fb Hb F7 H7 σ ρ := I3.backL (jret F7 H7 σ4 ρ3 J7) eall lk3
      have np : ∀ (j : Nat) t, ρ[j]? = some t → p ∉ t.adr := fun j' t hj hz => by
        obtain ⟨k, u, hk, hu⟩ := Like.adr' lk3 j' t hj p hz
        exact p3 k u hk hu
      have h3p : H3 p = none := by
        cases q2 : H3 p with
        | none => rfl
        | some o =>
          rw [jb p o q2 np] at p2
          cases p2
      have hbp : Hb p = none := by
        cases q2 : Hb p with
        | none => rfl
        | some o =>
          rw [I3.gw.hh p o q2] at h3p
          cases h3p
      have tkj : xs.take (j + 1) = xs.take j ++ [xs[j]] := by rw [List.take_add_one, List.getElem?_eq_getElem hlt]; rfl
      have pD : p ≠ Dp := fun e => pn (by rw [e]; exact List.mem_cons_self)
      have f7D := st2 Dp List.mem_cons_self
      have bl : bs.length = j := by rw [hlen, List.length_map, List.length_take]; omega
      refine ⟨bs.map .ref, st1 Dp List.mem_cons_self _ hd2, Evl.sz_lt (by rw [List.length_map]; omega), F7, bs ++ [p], I8.push f7D f2 f3, e2.trans (g3.ff.trans eall), by rw [upd_same, List.map_append]; rfl, ?_, fun a ha => ?_, ?_, fun i b ds hb hd => ?_⟩
      · obtain ⟨k1, k2⟩ := List.nodup_cons.mp nd1
        refine List.nodup_cons.mpr ⟨fun h => ?_, List.nodup_append.mpr ⟨k2, by simp, fun a ha b hb => ?_⟩⟩
        · rcases List.mem_append.mp h with h | h
          · exact k1 h
          · exact pD (List.mem_singleton.mp h).symm
        · rw [List.mem_singleton.mp hb]
          exact fun e => pn (by rw [← (show a = p from e)]; exact List.mem_cons_of_mem _ ha)
      · have hold : ∀ a ∈ Dp :: bs, F7 a = none ∧ Hb a = none ∧ ∀ (j : Nat) t, ρ[j]? = some t → a ∉ t.adr := fun a ha => ⟨st2 a ha, (own a ha).2⟩
        rcases List.mem_cons.mp ha with e | ha
        · exact hold a (by rw [e]; exact List.mem_cons_self)
        · rcases List.mem_append.mp ha with ha | ha
          · exact hold a (List.mem_cons_of_mem _ ha)
          · rw [List.mem_singleton.mp ha]
            exact ⟨p1, hbp, np⟩
      · rw [tkj, List.map_append, List.length_append, List.length_append, hlen]
        rfl
      · rw [tkj, List.map_append] at hd
        by_cases hib : i < bs.length
        · rw [List.getElem?_append_left hib] at hb
          rw [List.getElem?_append_left (by rw [← hlen]; exact hib)] at hd
          obtain ⟨us', g1, g2⟩ := lis i b ds hb hd
          have hm2 : b ∈ Dp :: bs := List.mem_cons_of_mem _ (List.mem_of_getElem? hb)
          have nq : b ≠ Dp := fun e => (List.nodup_cons.mp nd1).1 (by rw [← e]; exact List.mem_of_getElem? hb)
          exact ⟨us', by rw [upd_ne nq]; exact st1 _ hm2 _ g1, g2.mono (g3.ff.trans eall)⟩
        · rw [List.getElem?_append_right (by omega)] at hb
          rw [List.getElem?_append_right (by rw [← hlen]; omega)] at hd
          have z : i - bs.length = 0 := by
            have := (List.getElem?_eq_some_iff.mp hb).1
            simp at this
            omega
          rw [z] at hb
          rw [← hlen, z] at hd
          have eb : p = b := Option.some.inj hb
          have ed : row xs[j] = ds := Option.some.inj hd
          rw [← eb, ← ed]
          exact ⟨us, by rw [upd_ne pD]; exact p4, k7⟩
    · have e : j = xs.length := by omega
      subst e
      rw [List.length_map] at w2
      rw [List.take_length] at hlen lis
      exact .inl ⟨w2, n1 _ F2 H2 _ (q Dp bs nd1) (I2.put (fun d h => by cases h) (fun w h => by cases h; rfl) (fun a ha => ⟨(own a ha).1, (own a ha).2.1⟩) ⟨hd2, hlen, lis⟩ fun j' t hj a ha => (own a ha).2.2 j' t hj) (e1.trans e2)⟩
theorem nd_ix {α : Type} {l : List α} (h : l.Nodup) {i j : Nat} {x : α} (a : l[i]? = some x) (b : l[j]? = some x) : i = j := by
  obtain ⟨h1, e1⟩ := List.getElem?_eq_some_iff.mp a
  obtain ⟨h2, e2⟩ := List.getElem?_eq_some_iff.mp b
  exact (List.getElem_inj h).mp (e1.trans e2.symm)
/-- m[j][k] = d -/
theorem g_mat {i j k : Nat} {a : Addr} {bs : List Addr} {m : List (List Dt)} {row : List Dt} {tj tk : TE} (hi : ρ[i]? = some (.res (mD a bs m))) (nd : (a :: bs).Nodup) (hj : EvX K tj ρ (.int (j : Nat)) ρ) (hk : EvX K tk ρ (.int (k : Nat)) ρ) (hm : m[j]? = some row) (hl : k < row.length) :
    EvG K (gSub (tOp (rIxL K) (tVar i) tj) tk rSetL) ρ d (ρ.set i (.res (mD a bs (m.set j (row.set k d))))) [] := fun Fb Hb F H σ v I hd kk q => by
  refine ⟨_, (I.res i _ hi).1 _ rfl, hj Fb Hb F H σ I _ fun u F1 H1 I1 e1 k1 => ?_⟩
  obtain ⟨_, hn, h1, h2, h3⟩ := I1.res i _ hi
  rw [show u = V.int (j : Nat) from k1]
  have hjb : j < bs.length := by rw [h2]; exact (List.getElem?_eq_some_iff.mp hm).1
  have hb := List.getElem?_eq_getElem hjb
  refine ⟨a, bs.map .ref, j, .ref bs[j], rfl, rfl, Evl.sq_of h1, atI_n (by rw [List.getElem?_map, hb]; rfl), hk Fb Hb F1 H1 σ I1 _ fun w F2 H2 I2 e2 k2 => ?_⟩
  rw [show w = V.int (k : Nat) from k2]
  obtain ⟨_, hn, h1, h2, h3⟩ := I2.res i _ hi
  obtain ⟨xs, g1, g2⟩ := h3 j _ _ hb hm
  have hx : k < xs.length := by rw [g2.len]; exact hl
  obtain ⟨nd1, nd2⟩ := List.nodup_cons.mp nd
  have bm : bs[j] ∈ bs := List.getElem_mem hjb
  have ba : bs[j] ≠ a := fun e => nd1 (by rw [← e]; exact bm)
  refine ⟨bs[j], xs, k, k, rfl, rfl, g1, Evl.ixN_nat hx, q F2 _ σ (I2.changed hi rfl rfl (fun d h => by cases h) (Evl.Ex.refl _) (fun x o e => ?_) (fun x o hx e => ?_) (fun _ _ h _ => h) (fun x hx => (hn x hx).1) ⟨?_, by rw [List.length_set]; exact h2, fun i' b' ds' hb' hd' => ?_⟩) (e1.trans e2) fun _ _ => rfl⟩
  · rw [upd_ne (fun z => by
      have := (hn bs[j] (List.mem_cons_of_mem _ bm)).1
      rw [z, this] at e
      cases e)]
    exact I2.fh x o e
  · rw [upd_ne (fun z => hx (by rw [z]; exact List.mem_cons_of_mem _ bm))]
    exact e
  · rw [upd_ne (Ne.symm ba)]
    exact h1
  · by_cases e : i' = j
    · subst e
      rw [hb] at hb'
      obtain rfl := Option.some.inj hb'
      have hmj : i' < m.length := (List.getElem?_eq_some_iff.mp hm).1
      rw [List.getElem?_set, if_pos rfl, if_pos hmj] at hd'
      obtain rfl := Option.some.inj hd'
      exact ⟨_, upd_same, g2.set k (hd.mono (e1.trans e2))⟩
    · rw [List.getElem?_set, if_neg (Ne.symm e)] at hd'
      obtain ⟨ys, z1, z2⟩ := h3 i' b' ds' hb' hd'
      refine ⟨ys, ?_, z2⟩
      rw [upd_ne (fun z => e (nd_ix nd2 hb' (by rw [z]; exact hb)))]
      exact z1
/-- return m -/
theorem s_retMat {i : Nat} {a : Addr} {bs : List Addr} {m : List (List Dt)} (hi : ρ[i]? = some (.res (mD a bs m))) (q : E.rt (.lst (m.map .lst)) (ρ.set i .no)) : EvS K (tRet (tVar i)) E ρ := fun Fb Hb F H σ I D _ n2 _ _ => by
  classical
  obtain ⟨g1, hn, h1, h2, h3⟩ := I.res i _ hi
  refine ⟨_, g1 _ rfl, ?_⟩
  let F' : Hp := fun b => if b ∈ a :: bs then H b else F b
  have e1 : Evl.Ex F F' := fun b o e => by
    show (if b ∈ a :: bs then H b else F b) = some o
    rw [if_neg (fun z => by rw [(hn b z).1] at e; cases e)]
    exact e
  have iσ : i < σ.length := (List.getElem?_eq_some_iff.mp (g1 _ rfl)).1
  have I2 : Iv K Fb Hb F H σ (ρ.set i .no) := by
    have := I.setNo (i := i) (σ[i]'iσ)
    rwa [List.set_getElem_self] at this
  have out : ∀ (j : Nat) t, (ρ.set i .no)[j]? = some t → ∀ b ∈ t.adr, b ∉ a :: bs := fun j t hj b hb hz => by
    rcases set_get hj with ⟨_, q, _⟩ | ⟨ne, q⟩
    · subst q; cases hb
    · exact I.apart i j _ t ne hi q b hz hb
  have I3 : Iv K Fb Hb F' H σ (ρ.set i .no) :=
    ⟨⟨I2.gw.ff.trans e1, fun b o e => by
        replace e : (if b ∈ a :: bs then H b else F b) = some o := e
        split at e
        · exact e
        · exact I2.gw.fh b o e, I2.gw.hh, fun b f1 f2 => by
        show (if b ∈ a :: bs then H b else F b) = none
        rw [if_neg (show ¬ b ∈ a :: bs from fun z => f2 (hn b z).2)]
        exact I2.gw.no b f1 f2⟩, I2.len, fun j e hj => by
      obtain ⟨v, k1, k2⟩ := I2.val j e hj
      exact ⟨v, k1, k2.mono e1⟩, fun j t hj => by
      obtain ⟨k1, k2, k3⟩ := I2.res j t hj
      exact ⟨k1, fun b z => ⟨(if_neg (out j t hj b z)).trans (k2 b z).1, (k2 b z).2⟩, Sl.holds_mono k3 e1 fun _ _ _ q => q⟩, I2.apart⟩
  refine n2 _ _ _ F' H σ q I3 e1 ⟨a, bs.map .ref, rfl, (if_pos List.mem_cons_self).trans h1, DaAll.of_get (by simp [h2]) fun j v d hv hd => ?_⟩
  rw [List.getElem?_map] at hv hd
  cases eb : bs[j]? with
  | none => rw [eb] at hv; cases hv
  | some b =>
    cases em : m[j]? with
    | none => rw [em] at hd; cases hd
    | some ds =>
      rw [eb] at hv
      rw [em] at hd
      obtain rfl : V.ref b = v := Option.some.inj hv
      obtain rfl : Dt.lst ds = d := Option.some.inj hd
      obtain ⟨xs, z1, z2⟩ := h3 j b ds eb em
      exact ⟨b, xs, rfl, (if_pos (List.mem_cons_of_mem _ (List.mem_of_getElem? eb))).trans z1, z2.mono e1⟩
theorem flat_rep {α : Type} (a : α) : ∀ n : Nat, (List.replicate n [a]).flatten = List.replicate n a
  | 0 => rfl
  | n + 1 => by
    rw [List.replicate_succ, List.flatten_cons, flat_rep a n, List.replicate_succ]
    rfl
/-- [0] * n -/
theorem n_rep {i n : Nat} (hi : ρ[i]? = some (.val (.int (n : Nat)))) (hn : n ≤ 1000) : EvN K (tOp rRep (tLst (tCons (tC (.int 0)) tNil)) (tVar i)) ρ (List.replicate n (.int 0)) ρ := fun Fb Hb F H σ I Q q =>
  n_lst (l_cons x_int l_nil) (by decide) Fb Hb F H σ I _ fun p xs F1 H1 I1 e1 p1 p2 p3 p4 k1 => by
    obtain ⟨v, h1, h2⟩ := I1.val i _ hi
    rw [show v = V.int (n : Nat) from h2] at h1
    refine ⟨_, h1, p, n, xs, rfl, rfl, p4, by omega, by omega, ?_, fun l hl => ?_⟩
    · rw [k1.len]
      have := sz (n := 1000) (by decide)
      simp
      omega
    · obtain ⟨v0, r, rfl, a1, a2⟩ := k1
      obtain rfl : r = [] := a2
      rw [show v0 = V.int 0 from a1]
      obtain ⟨f1, f2, f3⟩ := I1.fresh hl
      have e : (List.replicate (n : Int).toNat [V.int 0]).flatten = (List.replicate n (0 : Int)).map V.int := by
        rw [Int.toNat_natCast, flat_rep, List.map_replicate]
      rw [e]
      refine q l _ F1 _ (I1.newOwn hl) e1 f1 f2 f3 upd_same ?_
      have := DaAll.of_ints (K := K) (H := F1) (List.replicate n (0 : Int))
      rw [show (List.replicate n (0 : Int)).map Dt.int = List.replicate n (.int 0) from List.map_replicate] at this
      exact this
end
end Gr
/-! what each def is worth, told by data -/
namespace Gr
open PySem L2
abbrev Sg := Stg Str
/-! ### data of the plain things -/
def iD (n : Nat) : Dt := .int (n : Int)
def iL (l : List Nat) : Dt := .lst (l.map iD)
def iLL (m : List (List Nat)) : Dt := .lst (m.map iL)
def gD (g : Nat × Str) : Dt := .tup [iD g.1, .str g.2]
def hD (h : List (Nat × Str)) : Dt := .tup (h.map gD)
def sD (st : Sg) : Dt := .tup (st.map hD)
def wD (l : List Str) : Dt := .tup (l.map .str)
def pD (p : Nat × Nat) : Dt := .tup [iD p.1, iD p.2]
def pL (n : Nat) : Dt := .lst ((pairs n).map pD)
/-- few doves, few grudges, words that can be laid -/
structure Okf (st : Sg) : Prop where
  okn : Okn st.length st
  one : 1 ≤ st.length
  six : st.length ≤ 6
  nine : grudges st ≤ 9
  words : ∀ d, ∀ g ∈ hp st d, PyData.strOk g.2 = true
/-- the heap of one who is there -/
def There (st : Sg) (d : Nat) : Prop := d < st.length
section
variable (K : PySem.W.Frag)
def R_is_number (ds : List Dt) (r : Dt) : Prop := ∃ i : Int, ds = [.int i] ∧ r = .bl true
def R_as_heap (ds : List Dt) (r : Dt) : Prop := ∃ h : List (Nat × Str), h.length ≤ 100 ∧ ds = [hD h] ∧ r = hD h
def R_as_standing (ds : List Dt) (r : Dt) : Prop := ∃ st : Sg, Okf st ∧ ds = [sD st] ∧ r = sD st
def R_is_there (ds : List Dt) (r : Dt) : Prop := ∃ (st : Sg) (d : Nat), d < st.length ∧ ds = [sD st, iD d] ∧ r = .bl true
def R_look_dove (ds : List Dt) (r : Dt) : Prop := ∃ (st : Sg) (d : Nat), d < st.length ∧ ds = [sD st, iD d] ∧ r = .non
def R_held (ds : List Dt) (r : Dt) : Prop := ∃ (st : Sg) (a b : Nat), Okf st ∧ a < st.length ∧ b < st.length ∧ ds = [sD st, iD a, iD b] ∧ r = wD (held st a b)
def R_grudges_in (ds : List Dt) (r : Dt) : Prop := ∃ st : Sg, Okf st ∧ ds = [sD st] ∧ r = iD (grudges st)
def R_line (ds : List Dt) (r : Dt) : Prop := ∃ (st : Sg) (a b : Nat), Okf st ∧ a < st.length ∧ b < st.length ∧ ds = [sD st, iD a, iD b] ∧ r = wD (line st a b)
def R_cut (ds : List Dt) (r : Dt) : Prop := ∃ (st : Sg) (a b : Nat), Okf st ∧ a < st.length ∧ b < st.length ∧ ds = [sD st, iD a, iD b] ∧ r = iD (cut st a b)
def R_pairs_of (ds : List Dt) (r : Dt) : Prop := ∃ st : Sg, Okf st ∧ ds = [sD st] ∧ r = pL st.length
def R_first_apart (ds : List Dt) (r : Dt) : Prop := ∃ w : List Str, w.length ≤ 100 ∧ ds = [wD w, wD w] ∧ r = .non
def R_look_same (ds : List Dt) (r : Dt) : Prop := ∃ s t : Sg, s.length = t.length ∧ ds = [sD s, sD t] ∧ r = .non
/-- two standings whose lines are alike -/
structure Alk (s t : Sg) : Prop where
  ok1 : Okf s
  ok2 : Okf t
  len : s.length = t.length
  lines : ∀ a b, line s a b = line t a b
def R_first_unlike (ds : List Dt) (r : Dt) : Prop := ∃ s t : Sg, Alk s t ∧ ds = [sD s, sD t] ∧ r = .non
def R_sleepers_grudges (ds : List Dt) (r : Dt) : Prop := ∃ h : List (Nat × Str), h.length ≤ 100 ∧ ds = [hD h, .tup []] ∧ r = .lst []
def R_still_of (ds : List Dt) (r : Dt) : Prop := ∃ (s t : Sg) (d : Nat), Okf s ∧ Okf t ∧ d < s.length ∧ d < t.length ∧ ds = [sD s, sD t, iD d, .tup []] ∧ r = .int 0
def zs (n : Nat) : Dt := .tup (List.replicate n (.int 0))
def R_still (ds : List Dt) (r : Dt) : Prop := ∃ (s t : Sg), Alk s t ∧ ds = [sD s, sD t, .tup []] ∧ r = zs s.length
def R_alk0 (ds : List Dt) (r : Dt) : Prop := ∃ (s t : Sg), Alk s t ∧ ds = [sD s, sD t, .tup []] ∧ r = .non
def R_look_lines (ds : List Dt) (r : Dt) : Prop := ∃ (s t : Sg), Alk s t ∧ ds = [sD s, sD t] ∧ r = .non
def R_rows_given (ds : List Dt) (r : Dt) : Prop := ∃ (s : Sg), Okf s ∧ ds = [sD s, zs s.length, .tup []] ∧ r = .lst (List.replicate s.length (.lst []))
def R_rows_got (ds : List Dt) (r : Dt) : Prop := ∃ (s t rows : Dt), ds = [s, rows, .tup [], t] ∧ r = .lst []
def R_waits_in (ds : List Dt) (r : Dt) : Prop := ∃ (n : Nat), n ≤ 6 ∧ ds = [.lst (List.replicate n (.lst []))] ∧ r = .lst []
def R_alkL (ds : List Dt) (r : Dt) : Prop := ∃ (s t : Sg), Alk s t ∧ ds = [sD s, sD t, .tup []] ∧ r = .lst []
def R_look_few (ds : List Dt) (r : Dt) : Prop := ∃ st : Sg, Okf st ∧ ds = [sD st] ∧ r = .non
def R_shuffles (ds : List Dt) (r : Dt) : Prop := ∃ l : List Nat, l.length ≤ 10 ∧ l.sum ≤ 9 ∧ ds = [iL l] ∧ r = iD (multi l)
def R_all_cuts (ds : List Dt) (r : Dt) : Prop := ∃ l : List Nat, l.length ≤ 15 ∧ l.sum ≤ 9 ∧ ds = [iL l] ∧ r = iLL (allCuts l)
/-- Shares as it's made -/
def shD (C : Addr) (st : Sg) : Dt := .ins C ["own_standing", "pairs", "lengths"] [sD st, pL st.length, iL (lensM st.length (line st))]
def R_sizes (C : Addr) (ds : List Dt) (r : Dt) : Prop := ∃ (st : Sg) (c : List Nat), Okf st ∧ Fits c (lensM st.length (line st)) ∧ ds = [shD C st, iL c] ∧ r = iLL (szM st.length (lensM st.length (line st)) c)
def R_heaps (C : Addr) (ds : List Dt) (r : Dt) : Prop := ∃ (st : Sg) (rows : List (List Nat)), Okf st ∧ rows.length = st.length ∧ (∀ d, ∀ b, (rows.getD d []).count b ≤ (line st d b).length) ∧ (∀ d, ∀ b ∈ rows.getD d [], b < st.length) ∧ ds = [shD C st, iLL rows] ∧ r = sD (heapsM (line st) rows)
def R_ways_of (ds : List Dt) (r : Dt) : Prop := ∃ m : List (List Nat), m.length ≤ 6 ∧ (∀ l ∈ m, l.length ≤ 6) ∧ (m.map List.sum).sum ≤ 9 ∧ ds = [iLL m] ∧ r = iD (waysN m)
def R_how_many (ds : List Dt) (r : Dt) : Prop := ∃ st : Sg, Okf st ∧ ds = [sD st] ∧ r = iD (hmM st.length (line st))
def R_nth_shuffle (ds : List Dt) (r : Dt) : Prop := ∃ (l : List Nat) (n : Nat), l.length ≤ 6 ∧ l.sum ≤ 9 ∧ n < multi l ∧ ds = [iL l, iD n] ∧ r = iL (nthS l.sum l n)
def R_number_in (ds : List Dt) (r : Dt) : Prop := ∃ (l a : List Nat), l.length ≤ 6 ∧ l.sum ≤ 9 ∧ (∀ i, a.count i = l.getD i 0) ∧ (∀ i ∈ a, i < l.length) ∧ ds = [iL l, iL a] ∧ r = iD (numS l a)
def R_rows_of (ds : List Dt) (r : Dt) : Prop := ∃ (m : List (List Nat)) (n : Nat), m.length ≤ 6 ∧ (∀ l ∈ m, l.length ≤ 6) ∧ (m.map List.sum).sum ≤ 9 ∧ n < waysN m ∧ ds = [iLL m, iD n] ∧ r = iLL (rowsN m n)
def R_nth (ds : List Dt) (r : Dt) : Prop := ∃ (st : Sg) (k : Nat), Okf st ∧ k < hmM st.length (line st) ∧ ds = [sD st, iD k] ∧ r = sD (nthM st.length (line st) k)
def R_number_of (ds : List Dt) (r : Dt) : Prop := ∃ (s t : Sg), Alk s t ∧ ds = [sD s, sD t] ∧ r = iD (nofM s.length (line s) t)
def R_gone_over (ds : List Dt) (r : Dt) : Prop := ∃ (st : Sg) (d : Nat), Okf st ∧ d < st.length ∧ hp st d ≠ [] ∧ ds = [sD st, iD d] ∧ r = sD (peckM st d)
def R_order_of (ds : List Dt) (r : Dt) : Prop := ds = [.lst [], .lst []] ∧ r = .lst []
def R_parted (ds : List Dt) (r : Dt) : Prop := ∃ (s t : Sg) (d : Nat), Alk s t ∧ d < s.length ∧ ds = [sD s, sD t, iD d, .int 0] ∧ r = .tup [iL (partM s t d).1, iL (partM s t d).2]
def R_abouts_of (ds : List Dt) (r : Dt) : Prop := ∃ h : List (Nat × Str), h.length ≤ 100 ∧ ds = [hD h] ∧ r = iL (abouts h)
def R_Shares_init (C0 : Addr) (x C dx : Addr) (ds : List Dt) (P : Sl → Prop) : Prop := C = C0 ∧ ∃ st : Sg, Okf st ∧ ds = [sD st] ∧ P = fun s' => s' = .res (oB x C dx ["own_standing", "pairs", "lengths"] [sD st, pL st.length, iL (lensM st.length (line st))])
def R_Pecking_init (C0 : Addr) (x C dx : Addr) (ds : List Dt) (P : Sl → Prop) : Prop := C = C0 ∧ ∃ st : Sg, Okf st ∧ ds = [sD st] ∧ P = fun s' => ∃ l, s' = .pk x C dx l (sD st) []
/-! a Pecking: where it stands, its row -/
def pkS (C : Addr) (x dx l : Addr) (st : Sg) (row : List Nat) : Sl := .pk x C dx l (sD st) (row.map iD)
def R_peck (C : Addr) (s : Sl) (ds : List Dt) (r : Dt) (s' : Sl) : Prop := ∃ (x dx l : Addr) (st : Sg) (row : List Nat) (d : Nat) (g : Nat × Str), Okf st ∧ d < st.length ∧ (hp st d).getLast? = some g ∧ row.length ≤ 1000 ∧ s = pkS C x dx l st row ∧ ds = [iD d] ∧ r = iD g.1 ∧ s' = pkS C x dx l (peckM st d) (row ++ [d])
def R_taken_off (C : Addr) (s : Sl) (ds : List Dt) (r : Dt) (s' : Sl) : Prop := ∃ (x dx l : Addr) (st : Sg) (row : List Nat) (d low : Nat) (st' : Sg), Okf st ∧ d < st.length ∧ run st (rowTake st d low) = some st' ∧ low ≤ (hp st d).length ∧ row.length ≤ 900 ∧ s = pkS C x dx l st row ∧ ds = [iD d, iD low] ∧ r = iL ((abouts (hp st d)).drop low) ∧ s' = pkS C x dx l st' (row ++ rowTake st d low)
def R_shuffled (C : Addr) (s : Sl) (ds : List Dt) (r : Dt) (s' : Sl) : Prop := ∃ (x dx l : Addr) (st : Sg) (row : List Nat) (d low : Nat) (ab : List Nat) (st' : Sg), Okf st ∧ d < st.length ∧ run st (rowTake st d low ++ ab) = some st' ∧ low ≤ (hp st d).length ∧ row.length ≤ 800 ∧ ab.length ≤ 20 ∧ s = pkS C x dx l st row ∧ ds = [iD d, iD low, iL ab] ∧ r = .non ∧ s' = pkS C x dx l st' (row ++ (rowTake st d low ++ ab))
/-- doves with the place 0 -/
def lowsD (n : Nat) : Dt := .lst ((List.range n).map fun d => .tup [iD d, .int 0])
def R_lead_awake (C : Addr) (s : Sl) (ds : List Dt) (r : Dt) (s' : Sl) : Prop := ∃ (x dx l : Addr) (st t : Sg), Alk st t ∧ s = pkS C x dx l st [] ∧ ds = [sD t, lowsD st.length] ∧ r = .non ∧ s' = pkS C x dx l t (leadM st t)
def R_between (ds : List Dt) (r : Dt) : Prop := ∃ (s t : Sg), Alk s t ∧ ds = [sD s, sD t, .tup []] ∧ r = .tup [.str "row", iL (leadM s t)]
end
end Gr
/-! the law's own defs by data -/
namespace Gr
open PySem L2
/-- the box that draws -/
abbrev Bx := Nat × Nat × Nat
def bxL (b : Bx) : List Dt := [iD b.1, iD b.2.1, iD b.2.2]
def bxS (p : Addr) (b : Bx) : Sl := .own p (bxL b)
/-- so many draws may have been -/
def BxOk (n : Nat) (b : Bx) : Prop := b.2.1 < 4000000000000000000 ∧ b.2.2 ≤ n
def mixA (b : Bx) : Nat := (b.2.1 + 1442695040888963407 * (b.2.2 + 1)) % 2305843009213693951
def mixB (b : Bx) : Nat := (mixA b * mixA b + 39373 * (b.2.2 + 1) + 7) % 2305843009213693921
def mixC (b : Bx) : Nat := (mixB b * (mixB b / 65536 + 3) + (b.2.2 + 1)) % 2305843009213693907
def takeM (b : Bx) (m : Nat) : Nat × Bx :=
  if 0 < b.1 then (b.1 % m, (b.1 / m, b.2.1, b.2.2)) else (mixC b / 1048576 % m, (b.1, b.2.1, b.2.2 + 1))
theorem takeM_ok {n : Nat} {b : Bx} (h : BxOk n b) (m : Nat) : BxOk (n + 1) (takeM b m).2 := by
  obtain ⟨h1, h2⟩ := h
  unfold takeM BxOk
  split
  · exact ⟨h1, by simp; omega⟩
  · exact ⟨h1, by simp; omega⟩
theorem takeM_lt (b : Bx) {m : Nat} (h : 0 < m) : (takeM b m).1 < m := by
  unfold takeM
  split
  · exact Nat.mod_lt _ h
  · exact Nat.mod_lt _ h
def W8 : List Str := ["a", "b", "a", "b", "ab", "ba", "c", "zzzzzz"]
/-- one grudge drawn -/
def turnM (n : Nat) (x : Sg × Bx) : Sg × Bx :=
  let t1 := takeM x.2 n
  let t2 := takeM t1.2 (n - 1)
  let t3 := takeM t2.2 8
  (x.1.set t1.1 (hp x.1 t1.1 ++ [((t1.1 + 1 + t2.1) % n, W8.getD t3.1 "")]), t3.2)
def manyM (b : Bx) : Nat := 1 + (takeM b 6).1
def turnsM (b : Bx) : Nat × Bx := if 1 < manyM b then takeM (takeM b 6).2 10 else (0, (takeM b 6).2)
def roomM (b : Bx) : Sg × Bx := Nat.repeat (turnM (manyM b)) (turnsM b).1 (List.replicate (manyM b) [], (turnsM b).2)
/-- ascending, each once -/
def ins1 (k : Nat) : List Nat → List Nat
  | [] => [k]
  | x :: r => if k < x then k :: x :: r else if k = x then x :: r else x :: ins1 k r
def sort1 (l : List Nat) : List Nat := l.foldr ins1 []
def someM (t a b : Nat) : List Nat := sort1 ([0, t - 1, a, b] ++ [0, t - 1, a, b].map fun k => min (t - 1) (k + 1))
def totM (b : Bx) : Nat := hmM (roomM b).1.length (line (roomM b).1)
def rightM (b : Bx) : Bx :=
  let a1 := takeM (roomM b).2 (totM b)
  let a2 := takeM a1.2 (totM b)
  let n := (someM (totM b) a1.1 a2.1).length
  (takeM (takeM a2.2 n).2 n).2
def boxM (c : Int) (k : Nat) : Bx := (if 1000000000000000000 ≤ c.natAbs then c.natAbs else 0, (c % 2305843009213693951).toNat + 15485863 * k + 11, 0)
/-- the cells: all from the third on folded into the first two -/
def foldC (rest : List Int) (k : Nat) (c : List Int) : List Int := match rest with
  | [] => c
  | x :: r => foldC r (k + 1) (c.set (k % 2) (c.getD (k % 2) 0 + x * ((k : Int) + 2)))
def cellsM (s : List Int) : List Int := foldC ((s.take 63).drop 2) 0 (if s.take 2 = [] then [0] else s.take 2)
section
def R_law_box (ds rs : List Dt) : Prop := ∃ (cs : List Int) (k : Nat) (c : Int), cs[k]? = some c ∧ k < 2 ∧ ds = [.lst (cs.map .int), iD k] ∧ rs = bxL (boxM c k)
def R_law_take (s : Sl) (ds : List Dt) (r : Dt) (s' : Sl) : Prop := ∃ (p : Addr) (b : Bx) (m : Nat), BxOk 1000000 b ∧ 0 < m ∧ m < 1073741824 ∧ s = bxS p b ∧ ds = [iD m] ∧ r = iD (takeM b m).1 ∧ s' = bxS p (takeM b m).2
/-- the script: a list that is read, whosever it is -/
def scR (a : Addr) (ns : List Int) : Rsc where
  as := []
  v := .ref a
  R := fun K F _ => SqL K F a (ns.map V.int)
  mono := fun h e _ => Evl.ex_l e h
  there := fun _ b hb => by cases hb
def R_law_cells (s : Sl) (ds : List Dt) (r : Dt) (s' : Sl) : Prop := ∃ (a : Addr) (ns : List Int), ns.length ≤ 63 ∧ s = .res (scR a ns) ∧ ds = [.int 2] ∧ r = .lst ((cellsM ns).map .int) ∧ s' = .res (scR a ns)
def R_law_of (s : Sl) (ds : List Dt) (r : Dt) (s' : Sl) : Prop := ∃ (p : Addr) (b : Bx) (es : List Dt), BxOk 1000000 b ∧ 0 < es.length ∧ es.length ≤ 1000 ∧ s = bxS p b ∧ ds = [.lst es] ∧ es[(takeM b es.length).1]? = some r ∧ s' = bxS p (takeM b es.length).2
def R_law_word (s : Sl) (ds : List Dt) (r : Dt) (s' : Sl) : Prop := ∃ (p : Addr) (b : Bx), BxOk 1000000 b ∧ s = bxS p b ∧ ds = [] ∧ r = .str (W8.getD (takeM b 8).1 "") ∧ s' = bxS p (takeM b 8).2
def R_law_room (s : Sl) (ds : List Dt) (r : Dt) (s' : Sl) : Prop := ∃ (p : Addr) (b : Bx), BxOk 1000 b ∧ s = bxS p b ∧ ds = [.int 6, .int 9] ∧ r = sD (roomM b).1 ∧ s' = bxS p (roomM b).2
def R_law_peck (ds : List Dt) (r : Dt) : Prop := R_gone_over ds r
def R_law_can (ds : List Dt) (r : Dt) : Prop := ∃ st : Sg, Okf st ∧ ds = [sD st, .lst []] ∧ r = iL ((List.range st.length).filter fun d => decide (hp st d ≠ []))
def R_law_behind (ds : List Dt) (r : Dt) : Prop := ∃ (s t : Sg) (row : List Nat), Okf s ∧ run s row = some t ∧ row.length ≤ 1000 ∧ ds = [sD s, iL row, .lst []] ∧ r = sD t
def R_law_held (ds : List Dt) (r : Dt) : Prop := R_held ds r
def R_law_line (ds : List Dt) (r : Dt) : Prop := R_line ds r
def R_law_pairs (ds : List Dt) (r : Dt) : Prop := R_pairs_of ds r
def R_law_lines_apart (ds : List Dt) (r : Dt) : Prop := ∃ s t : Sg, Alk s t ∧ ds = [sD s, sD t] ∧ r = .non
def keyD (st : Sg) : Dt := .tup [iL (dueM st.length st), iLL (st.map abouts)]
def R_law_key (ds : List Dt) (r : Dt) : Prop := ∃ st : Sg, Okf st ∧ ds = [sD st] ∧ r = keyD st
def R_law_right (s : Sl) (ds : List Dt) (r : Dt) (s' : Sl) : Prop := ∃ (p : Addr) (b : Bx), BxOk 10 b ∧ s = bxS p b ∧ ds = [] ∧ r = .bl true ∧ s' = bxS p (rightM b)
def R_law (s : Sl) (ds : List Dt) (r : Dt) (s' : Sl) : Prop := ∃ (a : Addr) (ns : List Int), ns.length ≤ 63 ∧ s = .res (scR a ns) ∧ ds = [] ∧ r = .bl true ∧ s' = .res (scR a ns)
end
end Gr
set_option maxHeartbeats 4000000
/-! sets of nested tuples, no two alike -/
namespace Gr
open PySem PySem.Spec PyProof.Rows L2
/-! ### what a search asks of a key -/
/-- a question of which the answer is told, and nothing else comes of it -/
def Says (P : Program) (w : World) (m : Sem Bool) (s : Shared) (R : Bool → Prop) : Prop := ∀ (A : Around) (E : Value → Shared → Prop) (Q : Bool → Shared → Prop), (∀ b, R b → Q b s) → wpAny (model P w) A m Q E s
section
variable {P : Program} {w : World} {s : Shared}
theorem Says.pure {b : Bool} {m : Sem Bool} {R : Bool → Prop} (e : m = Pure.pure b) (h : R b) : Says P w m s R := fun A E Q q => by
  rw [e]
  exact wpAny_pure (q b h)
theorem says_cls {a : Addr} {o : Obj} {vs : Array Value} {n m : Nat} (ho : s.heap.get? a = some o) (hc : o.cls = .type "tuple") (hd : o.data = .seq vs m) (hq : ∀ v ∈ vs.toList, Says P w (ofAClassStatement n v) s (· = false)) : Says P w (ofAClassStatement (n + 1) (.ref a)) s (· = false) := fun A E Q q => by
  have hT : s.TypeIs (.ref a) "tuple" := ⟨o, ho, hc⟩
  unfold ofAClassStatement
  refine wpAny_bind (wpAny_typeOf hT ?_)
  dsimp only
  have e : (("tuple" : String) == "tuple") = true := by decide
  simp only [e, if_true, Bool.not_true, Bool.false_eq_true, if_false]
  try refine wpAny_bind (wpAny_pure ?_)
  try simp only [Bool.not_true, Bool.false_eq_true, if_false]
  show wpAny _ _ (seqItems? (.ref a) >>= _) _ _ s
  refine wpAny_bind (wpAny_seqItems ho hd ?_)
  dsimp only
  refine wpAny_bind ?_
  show wpAny _ _ (forIn vs _ _) _ _ s
  rw [← Array.forIn_toList]
  refine wpAny_forIn_list _ (fun rest r s' => r.1 = none ∧ s' = s ∧ ∀ v ∈ rest, v ∈ vs.toList) _ ?_ ?_ _ _ ⟨rfl, rfl, fun _ h => h⟩
  · rintro v rest r s' ⟨hr, rfl, hall⟩
    refine wpAny_bind (hq v (hall v List.mem_cons_self) _ _ _ fun b hb => ?_)
    subst hb
    simp only [Bool.false_eq_true, if_false]
    exact wpAny_pure ⟨rfl, rfl, fun u hu' => hall u (List.mem_cons_of_mem _ hu')⟩
  · rintro ⟨r1, r2⟩ s' ⟨hr, rfl, _⟩
    simp only at hr
    subst hr
    exact wpAny_pure (q _ rfl)
theorem says_hash {a : Addr} {o : Obj} {vs : Array Value} {n m : Nat} (ho : s.heap.get? a = some o) (hc : o.cls = .type "tuple") (hd : o.data = .seq vs m) (hq : ∀ v ∈ vs.toList, Says P w (hashByValue n v) s fun _ => True) : Says P w (hashByValue (n + 1) (.ref a)) s fun _ => True := fun A E Q q => by
  have hT : s.TypeIs (.ref a) "tuple" := ⟨o, ho, hc⟩
  unfold hashByValue
  refine wpAny_bind (wpAny_specialOf hT F.slot_tuple_hash.lookup ?_)
  show wpAny _ _ (seqItems? (.ref a) >>= _) _ _ s
  refine wpAny_bind (wpAny_seqItems ho hd ?_)
  refine wpAny_bind ?_
  show wpAny _ _ (forIn vs _ _) _ _ s
  rw [← Array.forIn_toList]
  refine wpAny_forIn_list _ (fun rest r s' => r.1 = none ∧ s' = s ∧ ∀ v ∈ rest, v ∈ vs.toList) _ ?_ ?_ _ _ ⟨rfl, rfl, fun _ h => h⟩
  · rintro v rest r s' ⟨hr, rfl, hall⟩
    refine wpAny_bind (hq v (hall v List.mem_cons_self) _ _ _ fun b _ => ?_)
    cases b with
    | true =>
      simp only [Bool.not_true, Bool.false_eq_true, if_false]
      exact wpAny_pure ⟨rfl, rfl, fun u hu' => hall u (List.mem_cons_of_mem _ hu')⟩
    | false =>
      simp only [Bool.not_false, if_true]
      exact wpAny_pure (wpAny_pure (q _ trivial))
  · rintro ⟨r1, r2⟩ s' ⟨hr, rfl, _⟩
    simp only at hr
    subst hr
    exact wpAny_pure (q _ trivial)
mutual
theorem cls_key : ∀ (k : NestedKey) (v : Value) (n : Nat), NestedIs s.heap k v → k.depth ≤ n → Says P w (ofAClassStatement n v) s (· = false)
  | .none, _, n, x, _ => by cases x; exact .pure (by cases n <;> rfl) rfl
  | .num i, _, n, x, _ => by cases x <;> exact .pure (by cases n <;> rfl) rfl
  | .text y, _, n, x, _ => by cases x; exact .pure (by cases n <;> rfl) rfl
  | .tup ks, _, n, x, hn => by
    cases x with
    | tup hg hc hd hk =>
      simp only [NestedKey.depth] at hn
      cases n with
      | zero => omega
      | succ n => exact says_cls hg hc hd (cls_keys ks _ n hk (by omega))
theorem cls_keys : ∀ (ks : List NestedKey) (vs : List Value) (n : Nat), NestedAll s.heap ks vs → NestedKey.depthAll ks ≤ n → ∀ v ∈ vs, Says P w (ofAClassStatement n v) s (· = false)
  | [], _, n, x, _, v, hv => by cases x; cases hv
  | k :: ks, _, n, x, hn, v, hv => by
    cases x with
    | cons x1 x2 =>
      simp only [NestedKey.depthAll] at hn
      rcases List.mem_cons.mp hv with e | hv
      · rw [e]; exact cls_key k _ n x1 (by omega)
      · exact cls_keys ks _ n x2 (by omega) v hv
end
mutual
theorem hash_key : ∀ (k : NestedKey) (v : Value) (n : Nat), NestedIs s.heap k v → k.depth ≤ n → Says P w (hashByValue n v) s fun _ => True
  | .none, _, n, x, _ => by cases x; exact .pure (by cases n <;> rfl) trivial
  | .num i, _, n, x, _ => by cases x <;> exact .pure (by cases n <;> rfl) trivial
  | .text y, _, n, x, _ => by cases x; exact .pure (by cases n <;> rfl) trivial
  | .tup ks, _, n, x, hn => by
    cases x with
    | tup hg hc hd hk =>
      simp only [NestedKey.depth] at hn
      cases n with
      | zero => omega
      | succ n => exact says_hash hg hc hd (hash_keys ks _ n hk (by omega))
theorem hash_keys : ∀ (ks : List NestedKey) (vs : List Value) (n : Nat), NestedAll s.heap ks vs → NestedKey.depthAll ks ≤ n → ∀ v ∈ vs, Says P w (hashByValue n v) s fun _ => True
  | [], _, n, x, _, v, hv => by cases x; cases hv
  | k :: ks, _, n, x, hn, v, hv => by
    cases x with
    | cons x1 x2 =>
      simp only [NestedKey.depthAll] at hn
      rcases List.mem_cons.mp hv with e | hv
      · rw [e]; exact hash_key k _ n x1 (by omega)
      · exact hash_keys ks _ n x2 (by omega) v hv
end
end
/-- the tuple at a is the key k -/
abbrev IsN (h : Heap) (k : NestedKey) (a : Addr) : Prop := NestedIs h k (.ref a) ∧ k.depth ≤ 8
section
variable {P : Program} {w : World} {A : Around} {E : Value → Shared → Prop} {s : Shared}
theorem seen_key {k : NestedKey} {b : Addr} {Q : Bool → Shared → Prop} (hk : IsN s.heap k b) {ys : List Value} (hy : ∀ y ∈ ys, ∃ k' c, y = Value.ref c ∧ IsN s.heap k' c) (h : Q false s) :
    wpAny (model P w) A (searchCouldBeSeen (.ref b) ys) Q E s := by
  unfold searchCouldBeSeen
  refine wpAny_bind ?_
  refine wpAny_forIn_list _ (fun rest r s' => r.1 = none ∧ s' = s ∧ ∀ y ∈ rest, y ∈ ys) _ ?_ ?_ _ _ ⟨rfl, rfl, fun _ h => h⟩
  · rintro v rest r s' ⟨hr, rfl, hall⟩
    obtain ⟨k', c, rfl, hc⟩ := hy v (hall v List.mem_cons_self)
    have more : ∀ y ∈ rest, y ∈ ys := fun u hu' => hall u (List.mem_cons_of_mem _ hu')
    dsimp only
    by_cases hv : (b == c || (carriedByValue (.ref b) && carriedByValue (.ref c))) = true
    · refine wp_if_pos hv ?_
      exact wpAny_pure ⟨rfl, rfl, more⟩
    · refine wp_if_neg hv ?_
      refine wpAny_bind (quiet_key k _ 8 _ hk.1 hk.2 _ _ _ ?_)
      simp only [Bool.not_true, Bool.false_eq_true, if_false]
      refine wpAny_bind (quiet_key k' _ 8 _ hc.1 hc.2 _ _ _ ?_)
      simp only [Bool.not_true, Bool.false_eq_true, if_false]
      refine wpAny_bind (cls_key k _ 8 hk.1 hk.2 _ _ _ fun b hb => ?_)
      subst hb
      simp only [Bool.false_eq_true, if_false]
      refine wpAny_bind (cls_key k' _ 8 hc.1 hc.2 _ _ _ fun b hb => ?_)
      subst hb
      simp only [Bool.false_eq_true, if_false]
      exact wpAny_pure ⟨rfl, rfl, more⟩
  · rintro ⟨r1, r2⟩ s' ⟨hr, rfl, _⟩
    simp only at hr
    subst hr
    exact wpAny_pure h
end
end Gr
set_option maxHeartbeats 4000000
/-! a set's table: a nested tuple that is new is laid into it -/
namespace Gr
open PySem PySem.Spec PyProof.Rows L2
abbrev Ak := Addr × NestedKey
def rws (w : World) (L : List Ak) : List (Int × Value) := L.map fun p => (p.2.hash w, Value.ref p.1)
abbrev hsh (w : World) (L : List Ak) : List Int := L.map fun p => p.2.hash w
structure SetN (w : World) (h : Heap) (a : Addr) (L : List Ak) (es : Array (Int × Value)) (ep : Nat) (t : SetTable) : Prop where
  ob : ∃ o, h.get? a = some o ∧ o.ExactSet ∧ o.data = .set es ep t
  rows : es.toList = rws w L
  tab : TabOk t (hsh w L)
  key : ∀ p ∈ L, IsN h p.2 p.1
  room : L.length * 5 < t.mask * 3
/-- where a search stands behind c steps -/
abbrev stp (w : World) (t : SetTable) (k : NestedKey) (c : Nat) : SetTable.Probe := L2.nth t.mask (runAt t.mask (SetTable.bits (k.hash w) % (t.mask + 1)) (SetTable.bits (k.hash w))) c
section
variable {P : Program} {w : World} {A : Around} {E : Value → Shared → Prop} {s : Shared} {h : Heap} {a : Addr} {L : List Ak} {es : Array (Int × Value)} {ep : Nat} {t : SetTable}
theorem rws_len (L : List Ak) : (rws w L).length = L.length := List.length_map _
theorem size_of_rows (e : es.toList = rws w L) : es.size = L.length := by
  rw [← Array.length_toList, e, rws_len]
theorem fits_of {n : Nat} (T : TabOk t (hsh w L)) (e : es.size = L.length) (r : L.length ≤ t.mask) : t.fits es.size = true := by
  have h1 := T.sz
  rw [List.length_map] at h1
  unfold SetTable.fits SetTable.fill
  rw [T.dm, Bool.and_eq_true, beq_iff_eq, decide_eq_true_eq]
  show t.place.size = es.size ∧ t.place.size + 0 ≤ t.mask
  omega
theorem SetN.fits (R : SetN w h a L es ep t) : t.fits es.size = true := by
  have := R.room
  exact fits_of (n := 0) R.tab (size_of_rows R.rows) (by omega)
theorem rws_get (e : es.toList = rws w L) {i : Nat} {p : Ak} (h : L[i]? = some p) : es[i]? = some (p.2.hash w, Value.ref p.1) := by
  rw [← Array.getElem?_toList, e]
  unfold rws
  rw [List.getElem?_map, h]
  rfl
theorem nth_dummy (m : Nat) : ∀ (n : Nat) (p : SetTable.Probe), p.dummy = none → (L2.nth m p n).dummy = none
  | 0, _, h => h
  | n + 1, p, h => nth_dummy m n (adv m p) (by
    unfold adv
    split <;> exact h)
theorem search_new (R : SetN w s.heap a L es ep t) {x : Addr} {k : NestedKey} (hx : IsN s.heap k x) (hu : A.units + 8 < cLine) (hn : k ∉ L.map (·.2)) {K : Nat} (hKf : K < 10 * SetTable.turns t.mask)
    (hK : way t.mask (k.hash w) K ∉ t.place.toList) (hKb : ∀ c, c < K → way t.mask (k.hash w) c ∈ t.place.toList) {Q : SetFound → Shared → Prop} (hout : Q (.free (way t.mask (k.hash w) K) false) s) :
    ∀ (f c : Nat) (stand : Option SetTable.Probe), stand.getD (t.probeStart (k.hash w)) = stp w t k c → c ≤ K → K - c < f → wpAny (model P w) A (setSearchFrom a (.ref x) (k.hash w) true f stand) Q E s
  | 0, c, stand, _, _, hf => absurd hf (Nat.not_lt_zero _)
  | f + 1, c, stand, hst, hc, hf => by
    obtain ⟨o, ho, hex, hd⟩ := R.ob
    rw [setSearchFrom_succ]
    refine wpAny_bind (wpAny_setState_of ho hd R.fits ?_)
    dsimp only
    refine wp_if_neg (by unfold SetTable.gaveWay; rw [mask_odd R.tab.mok]; decide) ?_
    try refine wpAny_bind (wpAny_pure ?_)
    have sh : ∀ q, L2.nth t.mask (stp w t k c) q = stp w t k (c + q) := fun q => (nth_add t.mask c _ q).symm
    have wy : ∀ q, (L2.nth t.mask (stp w t k c) q).j = way t.mask (k.hash w) (c + q) := fun q => congrArg SetTable.Probe.j (sh q)
    rcases go_spec t R.tab.ris R.tab.dm (fun i => (es[i]?.map (·.1)).getD 0) (k.hash w) (10 * SetTable.turns t.mask) (K - c) (stp w t k c) (nth_dummy _ c _ rfl) (by omega)
      (fun q hq => by rw [wy]; exact hKb (c + q) (by omega)) (by rw [wy, show c + (K - c) = K by omega]; exact hK) with ⟨q, i, hq, hi, hh, hno, hpr⟩ | ⟨hno, hpr⟩
    · have hpr' : t.probe (fun i => (es[i]?.map (·.1)).getD 0) (k.hash w) (stand.getD (t.probeStart (k.hash w))) = some (.candidate (way t.mask (k.hash w) (c + q)) i (stp w t k (c + (q + 1)))) := by
        rw [hst, ← wy, ← sh]
        exact hpr
      rw [hpr']
      dsimp only
      rw [wy] at hi
      have hil : i < L.length := by
        have h1 : i < t.place.toList.length := (List.getElem?_eq_some_iff.mp hi).1
        have h2 := R.tab.sz
        rw [List.length_map] at h2
        rw [Array.length_toList] at h1
        omega
      obtain ⟨p, hp⟩ : ∃ p, L[i]? = some p := ⟨_, List.getElem?_eq_getElem hil⟩
      have hm : p ∈ L := List.mem_of_getElem? hp
      have hpt := R.key p hm
      have ne : p.2 ≠ k := fun z => hn (List.mem_map.mpr ⟨p, hm, z⟩)
      have rest : wpAny (model P w) A (searchRest a (.ref x) (k.hash w) true f es t (way t.mask (k.hash w) (c + q)) i (stp w t k (c + (q + 1)))) Q E s := by
        unfold searchRest
        rw [rws_get R.rows hp]
        dsimp only
        refine wpAny_bind (wpAny_holding ((nestedKind P w).eqBool hu hpt hx ?_))
        refine wpAny_bind (wpAny_setState_of ho hd R.fits ?_)
        dsimp only
        refine wp_if_neg (by simp [ne]) ?_
        try refine wpAny_bind (wpAny_pure ?_)
        rw [sameMem]
        dsimp only
        have hsl : t.slot (way t.mask (k.hash w) (c + q)) = .live i := slot_live R.tab.ris hi
        simp only [if_true, hsl, rws_get R.rows hp]
        refine wpAny_bind (wpAny_isSame_ref_self (wpAny_bind (wpAny_pure ?_)))
        simp only [if_true]
        refine wp_if_neg (by simp [ne]) ?_
        exact search_new R hx hu hn hKf hK hKb hout f (c + (q + 1)) _ rfl (by omega) (by omega)
      by_cases hl : t.led = true
      · refine wp_if_neg (by simp [hl]) ?_
        try refine wpAny_bind (wpAny_pure ?_)
        exact rest
      · refine wp_if_pos (by simp [hl]) ?_
        refine wpAny_bind (seen_key hx (fun y hy => ?_) ?_)
        · obtain ⟨e, he, ee⟩ := List.mem_map.mp hy
          have he1 : e ∈ es ∧ e.1 = k.hash w := by simpa using he
          have he2 : e ∈ es.toList := by simpa using he1.1
          rw [R.rows] at he2
          obtain ⟨p2, hp2, e2⟩ := List.mem_map.mp he2
          refine ⟨p2.2, p2.1, ?_, R.key p2 hp2⟩
          rw [← ee, ← e2]
        · refine wp_if_neg (by decide) ?_
          try refine wpAny_bind (wpAny_pure ?_)
          exact rest
    · have hpr' : t.probe (fun i => (es[i]?.map (·.1)).getD 0) (k.hash w) (stand.getD (t.probeStart (k.hash w))) = some (.empty (way t.mask (k.hash w) K) none) := by
        have e2 : way t.mask (k.hash w) K = (L2.nth t.mask (stp w t k c) (K - c)).j := by
          rw [wy, show c + (K - c) = K by omega]
        rw [hst, e2]
        exact hpr
      rw [hpr']
      dsimp only
      exact wpAny_pure hout
/-- a new one is looked for: the first empty slot of its way -/
theorem search_free (R : SetN w s.heap a L es ep t) {x : Addr} {k : NestedKey} (hx : IsN s.heap k x) (hu : A.units + 8 < cLine) (hn : k ∉ L.map (·.2)) {Q : SetFound → Shared → Prop}
    (hout : ∀ K, way t.mask (k.hash w) K ∉ t.place.toList → (∀ c, c < K → way t.mask (k.hash w) c ∈ t.place.toList) → Q (.free (way t.mask (k.hash w) K) false) s) :
    wpAny (model P w) A (setSearch a (.ref x) (k.hash w) true) Q E s := by
  have hroom := R.room
  obtain ⟨K, hKf, hK, hKb⟩ := R.tab.first (by rw [List.length_map]; omega) (k.hash w)
  have : 10 * SetTable.turns t.mask ≤ 1420 := by
    unfold SetTable.turns
    rcases R.tab.mok with e | e | e <;> omega
  unfold setSearch
  exact search_new R hx hu hn hKf hK hKb (hout K hK hKb) 100000 0 none rfl (Nat.zero_le _) (by omega)
end
end Gr
set_option maxHeartbeats 4000000
/-! a set: one more is laid in; the table grows once -/
namespace Gr
open PySem PySem.Spec PyProof.Rows L2
section
variable {P : Program} {w : World} {A : Around} {E : Value → Shared → Prop} {s : Shared} {a : Addr} {L : List Ak} {es : Array (Int × Value)} {ep : Nat} {t : SetTable}
theorem isN_same {h h' : Heap} {k : NestedKey} {a b : Addr} {o : Obj} {es : Array (Int × Value)} {ep : Nat} {t : SetTable} (hb : IsN h k b) (ho : h.get? a = some o) (hd : o.data = .set es ep t) (hs : Heap.SameBut a h h') : IsN h' k b :=
  ⟨NestedIs.at (fun c ob vs n hc hv => (hs.2 c fun e => by
    subst e
    rw [ho] at hc
    cases hc
    rw [hd] at hv
    cases hv).trans hc) k _ hb.1, hb.2⟩
theorem isN_keep {h h' : Heap} {k : NestedKey} {b : Addr} (x : IsN h k b) (hk : ∀ c o, h.get? c = some o → h'.get? c = some o) : IsN h' k b :=
  ⟨NestedIs.at (fun c ob vs n hc _ => hk c ob hc) k _ x.1, x.2⟩
theorem rws_put (L : List Ak) (p : Nat) (x : Addr) (k : NestedKey) : rws w (L.take p ++ (x, k) :: L.drop p) = (rws w L).take p ++ (k.hash w, Value.ref x) :: (rws w L).drop p := by
  unfold rws
  rw [List.map_append, List.map_cons, List.map_take, List.map_drop]
/-- the rows in another order -/
theorem rows_order (L : List Ak) (es : Array (Int × Value)) (order : Array Nat) (hr : es.toList = rws w L) (hp : order.toList.Perm (List.range L.length)) :
    ∃ L2, (order.filterMap (es[·]?)).toList = rws w L2 ∧ L2.Perm L ∧ hsh w L2 = order.toList.map fun i => (es.map (·.1)).getD i 0 := by
  have hsz := size_of_rows hr
  have go : ∀ l : List Nat, (∀ i ∈ l, i < L.length) → l.filterMap (fun i => es[i]?) = rws w (l.filterMap fun i => L[i]?) ∧ hsh w (l.filterMap fun i => L[i]?) = l.map fun i => (es.map (·.1)).getD i 0 := by
    intro l
    induction l with
    | nil => intro _; exact ⟨rfl, rfl⟩
    | cons i l ih =>
      intro hl
      have hi := hl i List.mem_cons_self
      obtain ⟨e1, e2⟩ := ih fun j hj => hl j (List.mem_cons_of_mem _ hj)
      have g := rws_get hr (List.getElem?_eq_getElem hi)
      rw [List.filterMap_cons_some g, List.filterMap_cons_some (List.getElem?_eq_getElem hi), e1]
      refine ⟨rfl, ?_⟩
      have e5 : (es.map (·.1))[i]? = some ((L[i]).2.hash w) := by rw [Array.getElem?_map, g] <;> rfl
      rw [List.map_cons, ← e2]
      have e4 : (es.map (·.1)).getD i 0 = (L[i]).2.hash w := by simp [Array.getD_eq_getD_getElem?, e5]
      rw [e4]
      rfl
  obtain ⟨e1, e2⟩ := go order.toList fun i hi => List.mem_range.mp (hp.mem_iff.mp hi)
  refine ⟨_, by first | (rw [Array.toList_filterMap]; exact e1) | simpa using e1, ?_, e2⟩
  have all : ∀ n, n ≤ L.length → (List.range n).filterMap (fun i => L[i]?) = L.take n := by
    intro n
    induction n with
    | zero => intro _; rfl
    | succ n ih =>
      intro hn
      rw [List.range_succ, List.filterMap_append, ih (Nat.le_of_lt hn), List.take_succ, List.getElem?_eq_getElem hn, List.filterMap_cons_some (List.getElem?_eq_getElem hn)]
      rfl
  have h1 := hp.filterMap fun i => L[i]?
  rw [all L.length (Nat.le_refl _), List.take_length] at h1
  exact h1
/-- all laid anew, into 32 places -/
theorem relay_32 {o : Obj} (ho : s.heap.get? a = some o) (hex : o.ExactSet) (hd : o.data = .set es ep t) (hrows : es.toList = rws w L) (T : TabOk t (hsh w L)) (hfl : L.length ≤ t.mask)
    (key : ∀ p ∈ L, IsN s.heap p.2 p.1) {wanted : Nat} (hw : SetTable.sizeAbove wanted = 32) (hn : L.length * 5 < 31 * 3) {Q : Unit → Shared → Prop}
    (hQ : ∀ h' L' es' ep' t', Heap.SameBut a s.heap h' → SetN w h' a L' es' ep' t' → L'.Perm L → Q () { s with heap := h' }) : wpAny (model P w) A (setRelay a wanted) Q E s := by
  have hsl := size_of_rows hrows
  obtain ⟨t', order, e, hp, T2, em, _, _, _⟩ := relaid_ok t (hs := es.map (·.1)) (wanted := wanted) (M := 31) (by rw [hw]) (.inr (.inl rfl)) (by rw [Array.size_map, hsl]; omega)
  rw [Array.size_map, hsl] at hp
  obtain ⟨L2, r1, r2, r3⟩ := rows_order L es order hrows hp
  rw [← r3] at T2
  have hs2 : (order.filterMap (es[·]?)).size = es.size := by rw [size_of_rows r1, r2.length_eq, hsl]
  rw [setRelay_eq]
  refine wpAny_bind (wpAny_setState_of ho hd (fits_of (n := 0) T hsl hfl) ?_)
  dsimp only
  refine wp_if_neg (by rw [sizeLine_eq]; omega) ?_
  try refine wpAny_bind (wpAny_pure ?_)
  rw [e]
  dsimp only
  refine wpAny_bind ?_
  refine wp_if_neg (by rw [hs2]; simp) ?_
  try refine wpAny_bind (wpAny_pure ?_)
  refine wpAny_pure ?_
  dsimp only
  refine wpAny_storeSet_of ho hd ?_ (by rw [hs2, hsl, sizeLine_eq]; omega)
  have sb : Heap.SameBut a s.heap (s.heap.update a (Obj.putSet (order.filterMap (es[·]?)) t')) := Heap.SameBut.update ..
  refine hQ _ L2 (order.filterMap (es[·]?)) (ep + 1) t' sb ⟨⟨_, store_at ho hd, ⟨hex.1, hex.2.1, hex.2.2⟩, rfl⟩, r1, T2, fun p hpm => isN_same (key p (r2.mem_iff.mp hpm)) ho hd sb, ?_⟩ r2
  rw [r2.length_eq, em]
  exact hn
theorem add_new (R : SetN w s.heap a L es ep t) {x : Addr} {k : NestedKey} (hx : IsN s.heap k x) (hu : A.units + 8 < cLine) (hn : k ∉ L.map (·.2)) (hfew : L.length < 16) {Q : Bool → Shared → Prop}
    (hQ : ∀ b h' L' es' ep' t', Heap.SameBut a s.heap h' → SetN w h' a L' es' ep' t' → L'.Perm ((x, k) :: L) → Q b { s with heap := h' }) :
    wpAny (model P w) A (setAddHashed a (.ref x) (k.hash w)) Q E s := by
  obtain ⟨o, ho, hex, hd⟩ := R.ob
  have hsl := size_of_rows R.rows
  have hroom := R.room
  unfold setAddHashed
  refine wpAny_holding ?_
  rw [show (100000 : Nat) = 99999 + 1 from rfl, setAddHashedIn_succ]
  refine wpAny_bind (wpAny_setState_of ho hd R.fits ?_)
  dsimp only
  refine wp_if_neg (by simp [byScan, Value.scannable]) ?_
  try refine wpAny_bind (wpAny_pure ?_)
  refine wpAny_bind (search_free R hx hu hn fun K hK hb => ?_)
  dsimp only
  refine wpAny_bind (wpAny_setState_of ho hd R.fits ?_)
  dsimp only
  obtain ⟨q1, q2, q3, q4, _, _, _, _, q9⟩ := R.tab.put hK hb
  generalize hpt : t.put (way t.mask (k.hash w) K) = pt at q1 q3 q4 q9 ⊢
  obtain ⟨t1, p⟩ := pt
  dsimp only at q1 q3 q4 q9 ⊢
  have hin : (SetTable.insertAt es p (k.hash w, Value.ref x)).toList = rws w (L.take p ++ (x, k) :: L.drop p) := by
    rw [SetTable.toList_insertAt, rws_put, R.rows]
  rw [← q1] at q2 q3
  have pm : (L.take p ++ (x, k) :: L.drop p).Perm ((x, k) :: L) := L2.put_perm L p (x, k)
  have hlen : (L.take p ++ (x, k) :: L.drop p).length = L.length + 1 := pm.length_eq
  have hhs : hsh w (L.take p ++ (x, k) :: L.drop p) = (hsh w L).take p ++ k.hash w :: (hsh w L).drop p := by
    unfold hsh
    rw [List.map_append, List.map_cons, List.map_take, List.map_drop]
  rw [← hhs] at q3
  have hes := size_of_rows hin
  rw [hlen] at hes
  generalize SetTable.insertAt es p (k.hash w, Value.ref x) = es1 at hin hes ⊢
  generalize L.take p ++ (x, k) :: L.drop p = L1 at pm hlen q3 hin
  have go : ∀ t2 : SetTable, TabOk t2 (hsh w L1) → t2.mask = t.mask → t2.fill = L.length + 1 → wpAny (model P w) A (do
      storeSet a es1 t2
      if !false && t2.tooFull then setRelay a (SetTable.grown (es.size + 1))
      return true) Q E s := fun t2 T2 em ef => by
    refine wpAny_bind (wpAny_storeSet_of ho hd ?_ (by rw [hes, sizeLine_eq]; omega))
    have sb : Heap.SameBut a s.heap (s.heap.update a (Obj.putSet es1 t2)) := Heap.SameBut.update ..
    have ho1 := store_at (es' := es1) (t' := t2) ho hd
    generalize s.heap.update a (Obj.putSet es1 t2) = h1 at sb ho1 ⊢
    have key1 : ∀ p ∈ L1, IsN h1 p.2 p.1 := fun p hp => by
      rcases List.mem_cons.mp (pm.mem_iff.mp hp) with e | hp
      · rw [e]; exact isN_same hx ho hd sb
      · exact isN_same (R.key p hp) ho hd sb
    by_cases hf : t2.tooFull = true
    · have hfull : (L.length + 1) * 5 ≥ t2.mask * 3 := by
        have h := hf
        unfold SetTable.tooFull at h
        rw [decide_eq_true_eq, ef] at h
        exact h
      have four : L.length = 4 ∧ t.mask = 7 := by
        rcases R.tab.mok with e | e | e <;> rw [em, e] at hfull <;> rw [e] at hroom <;> omega
      first
        | (refine wpAny_bind ?_; refine wp_if_pos (by simp [hf]) ?_)
        | (refine wp_if_pos (by simp [hf]) ?_; refine wpAny_bind ?_)
      refine relay_32 (s := { s with heap := h1 }) ho1 ⟨hex.1, hex.2.1, hex.2.2⟩ rfl hin T2 (by rw [hlen, em]; omega) key1 (by rw [hsl, four.1]; exact size_20) (by rw [hlen]; omega) ?_
      intro h2 L2 es2 ep2 t3 sb2 R2 pm2
      exact wpAny_pure (hQ true h2 L2 es2 ep2 t3 (sb.trans sb2) R2 (pm2.trans pm))
    · first
        | refine wp_if_neg (by simp [hf]) ?_
        | (refine wpAny_bind ?_; refine wp_if_neg (by simp [hf]) ?_; refine wpAny_pure ?_)
      refine wpAny_pure (hQ true h1 L1 es1 (ep + 1) t2 sb ⟨⟨_, ho1, ⟨hex.1, hex.2.1, hex.2.2⟩, rfl⟩, hin, T2, key1, ?_⟩ pm)
      have h := hf
      unfold SetTable.tooFull at h
      rw [decide_eq_true_eq, ef] at h
      rw [hlen]
      omega
  have ef1 : t1.fill = L.length + 1 := by rw [q9, List.length_map]
  by_cases hpl : t1.plain = true
  · first
      | (refine wpAny_bind ?_; refine wp_if_pos hpl ?_; refine hash_key k _ 8 hx.1 hx.2 _ _ _ fun b _ => ?_)
      | refine wp_if_pos hpl (wpAny_bind (hash_key k _ 8 hx.1 hx.2 _ _ _ fun b _ => ?_))
    cases b with
    | true => exact go t1 q3 q4 ef1
    | false => exact go { t1 with plain := false } ⟨q3.ris, q3.dm, q3.sz, q3.mok, q3.bd, q3.reach⟩ q4 ef1
  · first
      | (refine wpAny_bind ?_; refine wp_if_neg hpl ?_; refine wpAny_pure ?_)
      | refine wp_if_neg hpl (wpAny_bind (wpAny_pure ?_))
    exact go t1 q3 q4 ef1
end
end Gr
/-! keys of standings rise -/
namespace Gr
open PySem PySem.Spec PyProof.Rows L2 PySem.W
def nl (a : List Nat) : PyData := .list (a.map fun n => .int (n : Nat))
def nll (m : List (List Nat)) : PyData := .list (m.map nl)
theorem tp_iL (a : List Nat) : tp (iL a) = nl a := by
  unfold iL tp nl
  rw [tpAll_map, List.map_map]
  rfl
theorem tp_iLL (m : List (List Nat)) : tp (iLL m) = nll m := by
  unfold iLL tp nll
  rw [tpAll_map, List.map_map]
  congr 1
  refine List.map_congr_left fun a _ => ?_
  exact tp_iL a
theorem tp_key (st : Sg) : tp (keyD st) = .tuple [nl (dueM st.length st), nll (st.map abouts)] := by
  unfold keyD tp
  unfold tpAll
  unfold tpAll
  unfold tpAll
  rw [tp_iL, tp_iLL]
theorem nl_inj {a b : List Nat} (h : keyToks (nl a) = keyToks (nl b)) : dataLt (nl a) (nl b) = false := by
  unfold dataLt
  rw [h]
  exact lex_irrefl _
theorem alike_nlA : ∀ (a b : List Nat), alikeAll (a.map fun n => PyData.int (n : Nat)) (b.map fun n => PyData.int (n : Nat)) = true
  | [], _ => by simp [alikeAll]
  | _ :: _, [] => by simp [alikeAll]
  | x :: a, y :: b => by
    rw [List.map_cons, List.map_cons, alikeAll, alike_nlA a b]
    simp [alike]
theorem alike_nl (a b : List Nat) : alike (nl a) (nl b) = true := by
  unfold nl
  rw [alike]
  exact alike_nlA a b
theorem alike_nllA : ∀ (a b : List (List Nat)), alikeAll (a.map nl) (b.map nl) = true
  | [], _ => by simp [alikeAll]
  | _ :: _, [] => by simp [alikeAll]
  | x :: a, y :: b => by
    rw [List.map_cons, List.map_cons, alikeAll, alike_nllA a b, alike_nl]
    rfl
theorem alike_nll (a b : List (List Nat)) : alike (nll a) (nll b) = true := by
  unfold nll
  rw [alike]
  exact alike_nllA a b
/-- what is less is not alike -/
theorem eqv_less {x y : PyData} (h : alike x y = true) (l : dataLt x y = true) : PyData.eqv x y = false := by
  cases e : PyData.eqv x y with
  | false => rfl
  | true =>
    have := (toks_eqv x y h).1 e
    unfold dataLt at l
    rw [this, lex_irrefl] at l
    cases l
theorem lt_nl : ∀ (a b : List Nat), Lx a b → rowLt (a.map fun n => PyData.int (n : Nat)) (b.map fun n => PyData.int (n : Nat)) = true
  | [], _, h => h.elim
  | _ :: _, [], h => h.elim
  | x :: a, y :: b, h => by
    unfold rowLt
    rw [List.map_cons, List.map_cons, dataLt_cons (by simp [alike]), dataLt_int]
    rcases h with h | ⟨rfl, h⟩
    · rw [if_neg (by simp [PyData.eqv]; omega)]
      exact decide_eq_true (by omega)
    · rw [if_pos (by simp [PyData.eqv])]
      exact lt_nl a b h
theorem lt_nl1 {a b : List Nat} (h : Lx a b) : dataLt (nl a) (nl b) = true := by
  unfold nl
  rw [dataLt_list]
  exact lt_nl a b h
theorem lt_nll : ∀ (a b : List (List Nat)), LxR a b → rowLt (a.map nl) (b.map nl) = true
  | [], _, h => h.elim
  | _ :: _, [], h => h.elim
  | x :: a, y :: b, h => by
    unfold rowLt
    rw [List.map_cons, List.map_cons, dataLt_cons (alike_nl x y)]
    rcases h with h | ⟨rfl, h⟩
    · rw [eqv_less (alike_nl x y) (lt_nl1 h), if_neg (by decide)]
      exact lt_nl1 h
    · by_cases e : PyData.eqv (nl x) (nl x) = true
      · rw [if_pos e]
        exact lt_nll a b h
      · exfalso
        apply e
        have : ∀ l : List Nat, PyData.eqvAll (l.map fun n => PyData.int (n : Nat)) (l.map fun n => PyData.int (n : Nat)) = true := by
          intro l
          induction l with
          | nil => simp [PyData.eqvAll]
          | cons z l ih => rw [List.map_cons, eqv_all_cons, ih]; simp [PyData.eqv]
        unfold nl
        rw [PyData.eqv]
        exact this x
theorem lt_nll1 {a b : List (List Nat)} (h : LxR a b) : dataLt (nll a) (nll b) = true := by
  unfold nll
  rw [dataLt_list]
  exact lt_nll a b h
theorem key_less {s t : Sg} (hl : s.length = t.length) (h : KeyLt s.length s t) : dataLt (tp (keyD s)) (tp (keyD t)) = true := by
  rw [tp_key, tp_key, ← hl, dataLt_pair (alike_nl _ _) (alike_nll _ _)]
  rcases h with h | ⟨e, h⟩
  · rw [eqv_less (alike_nl _ _) (lt_nl1 h), if_neg (by decide)]
    exact lt_nl1 h
  · rw [e]
    split
    · rw [eqv_less (alike_nll _ _) (lt_nll1 h), if_neg (by decide)]
      exact lt_nll1 h
    · next q =>
      exfalso
      apply q
      have : ∀ l : List Nat, PyData.eqvAll (l.map fun n => PyData.int (n : Nat)) (l.map fun n => PyData.int (n : Nat)) = true := by
        intro l
        induction l with
        | nil => simp [PyData.eqvAll]
        | cons z l ih => rw [List.map_cons, eqv_all_cons, ih]; simp [PyData.eqv]
      unfold nl
      rw [PyData.eqv]
      exact this _
theorem less_asym {x y : PyData} (h : dataLt x y = true) : dataLt y x = false := by
  cases e : dataLt y x with
  | false => rfl
  | true =>
    have := lex_trans _ _ _ h e
    rw [lex_irrefl] at this
    cases this
theorem alike_key (s t : Sg) : alike (tp (keyD s)) (tp (keyD t)) = true := by
  rw [tp_key, tp_key, alike, alikeAll, alike_nl, alikeAll, alike_nll]
  simp [alikeAll]
theorem pl_iL (a : List Nat) : Pl 1 (iL a) := by
  have := pl_ints (a.map fun n : Nat => (n : Int))
  rw [List.map_map] at this
  exact this
theorem pl_key (st : Sg) : Pl 3 (keyD st) := by
  unfold keyD Pl
  refine PlAll.of fun d hd => ?_
  rcases List.mem_cons.mp hd with rfl | hd
  · have := pl_iL (dueM st.length st)
    unfold iL at this ⊢
    unfold Pl at this ⊢
    refine PlAll.of fun d hd => ?_
    obtain ⟨n, _, rfl⟩ := List.mem_map.mp hd
    unfold iD Pl
    trivial
  · rw [List.mem_singleton.mp hd]
    unfold iLL Pl
    refine PlAll.of fun d hd => ?_
    obtain ⟨l, _, rfl⟩ := List.mem_map.mp hd
    exact pl_iL l
end Gr
set_option maxHeartbeats 4000000
/-! set(list of nested tuples, no two alike) -/
namespace Gr
open PySem PySem.Spec PyProof.Rows L2
theorem nat_next {α : Type} {l : List α} {i : Nat} {x : α} (h : l[i]? = some x) : l.take (i + 1) = l.take i ++ [x] := by
  rw [List.take_succ, h]
  rfl
section
variable {P : Program} {w : World} {A : Around} {E : Value → Shared → Prop} {s : Shared}
theorem SetN.keep {h h' : Heap} {a : Addr} {L : List Ak} {es : Array (Int × Value)} {ep : Nat} {t : SetTable} (R : SetN w h a L es ep t) (ha : ∀ o, h.get? a = some o → h'.get? a = some o) (ht : ∀ p ∈ L, IsN h' p.2 p.1) : SetN w h' a L es ep t := by
  obtain ⟨o, ho, r⟩ := R.ob
  exact ⟨⟨o, ha o ho, r⟩, R.rows, R.tab, ht, R.room⟩
theorem setN_bare {h : Heap} {a : Addr} {b : Bool} (ho : h.get? a = some { cls := .type "set", dict := none, data := .set #[] 0 (.fresh 0 0 b) }) : SetN w h a [] #[] 0 (.fresh 0 0 b) where
  ob := ⟨_, ho, ⟨rfl, rfl, rfl⟩, rfl⟩
  rows := rfl
  tab := ⟨List.Pairwise.nil, rfl, rfl, .inl rfl, fun x hx => (by cases hx), fun i h j hi => (by simp at hi)⟩
  key := fun p hp => (by cases hp)
  room := by
    show 0 * 5 < 7 * 3
    decide
theorem upd_keys {I : Addr} {fp wr : List Addr} {G : Array GenState → Array GenState → Prop} {n : Nat} {Pv : Nat → Value → Prop} {St : Nat → Shared → Prop} {R : Result → Shared → Prop}
    (W : WalksS P w A.in1 I fp wr G n Pv St) (S : Addr) (hSf : S ∉ fp) (ks : List Ak) (hn : n = ks.length) (nd : (ks.map (·.2)).Nodup) (hfew : ks.length ≤ 16) (hval : ∀ i v, Pv i v → ∃ p, ks[i]? = some p ∧ v = .ref p.1)
    (h0 : Heap) (hk : ∀ p ∈ ks, IsN h0 p.2 p.1) (hS0 : h0.get? S = none) (hw0 : ∀ b ∈ wr, h0.get? b = none) (hu : A.in1.units + 8 < cLine) :
    ∀ (k i : Nat) (s : Shared), n - i = k → i ≤ n → St i s → (∀ b o, h0.get? b = some o → s.heap.get? b = some o) → (∃ L es ep t, SetN w s.heap S L es ep t ∧ L.Perm (ks.take i)) →
      (∀ s' L es ep t, Moved (S :: wr) G s s' → SetN w s'.heap S L es ep t → L.Perm ks → (∀ b o, h0.get? b = some o → s'.heap.get? b = some o) → R (.ok (.ret .none)) s') →
      codeAny (model P w) A (.builtin "set.update.loop" ⟨[.ref S, .ref I], []⟩) R s := by
  have hSw : S ∉ wr := fun h => hSf (W.sub _ h)
  have hsub : ∀ b ∈ wr, b ∈ S :: wr := fun b hb => List.mem_cons_of_mem _ hb
  have keepM : ∀ {s s' : Shared}, Moved wr G s s' → (∀ b o, h0.get? b = some o → s.heap.get? b = some o) → ∀ b o, h0.get? b = some o → s'.heap.get? b = some o := fun hm hkp b o e =>
    hm.heap b o (fun hb => by rw [hw0 b hb] at e; cases e) (hkp b o e)
  have sub : ∀ {i : Nat} {L : List Ak}, L.Perm (ks.take i) → ∀ p ∈ L, p ∈ ks := fun g p hp => List.mem_of_mem_take (g.mem_iff.mp hp)
  intro k
  induction k with
  | zero =>
    intro i s hk' hi hst hkp ⟨L, es, ep, t, hS, g⟩ hR
    have hin : i = n := by omega
    subst hin
    refine codeAny_builtin F.entry_set_update_loop ?_
    rw [Around.under_plainId F.plain_set_update_loop _]
    show wpAny _ A.in1 (pyNext (.ref I) >>= _) _ _ s
    refine wpAny_bind (W.done s _ _ hst fun s' hm => ?_)
    show wpAny _ A.in1 (ret Value.none) _ _ s'
    have hkp' := keepM hm hkp
    refine wpAny_pure (hR s' L es ep t (hm.mono hsub) (hS.keep (fun o e => hm.heap S o hSw e) fun p hp => isN_keep (hk p (sub g p hp)) hkp') ?_ hkp')
    rw [hn, List.take_length] at g
    exact g
  | succ k ih =>
    intro i s hk' hi hst hkp ⟨L, es, ep, t, hS, g⟩ hR
    have hlt : i < n := by omega
    refine codeAny_builtin F.entry_set_update_loop ?_
    rw [Around.under_plainId F.plain_set_update_loop _]
    show wpAny _ A.in1 (pyNext (.ref I) >>= _) _ _ s
    refine wpAny_bind (W.item i s _ _ hlt hst fun v s' hP hst' hm => ?_)
    obtain ⟨p, hp, rfl⟩ := hval i v hP
    have hkp' := keepM hm hkp
    have hS' : SetN w s'.heap S L es ep t := hS.keep (fun o e => hm.heap S o hSw e) fun q hq => isN_keep (hk q (sub g q hq)) hkp'
    have hx : IsN s'.heap p.2 p.1 := isN_keep (hk p (List.mem_of_getElem? hp)) hkp'
    have new : p.2 ∉ L.map (·.2) := fun z => by
      have z2 : p.2 ∈ (ks.take i).map (·.2) := ((g.map (·.2)).mem_iff).mp z
      have e : ks.take (i + 1) = ks.take i ++ [p] := nat_next hp
      have d : ((ks.take (i + 1)).map (·.2)).Nodup := nd.sublist ((List.take_sublist _ _).map _)
      rw [e, List.map_append] at d
      exact (List.nodup_append.mp d).2.2 _ z2 _ List.mem_cons_self rfl
    have Ll : L.length < 16 := by
      have h1 := g.length_eq
      rw [List.length_take] at h1
      omega
    show wpAny _ A.in1 (holding [Value.ref p.1] (setAdd S (.ref p.1)) >>= _) _ _ s'
    refine wpAny_bind (wpAny_holding ?_)
    unfold setAdd
    refine wpAny_holding ?_
    refine wpAny_bind (pyHash_key p.2 _ _ _ _ hx.1 (by have := hx.2; omega) ?_)
    refine add_new (s := { s' with toks := s'.toks + p.2.draws }) hS' hx hu new Ll fun b h' L' es' ep' t' hsb hS2 pm => ?_
    have g' : L'.Perm (ks.take (i + 1)) := by
      rw [nat_next hp]
      exact (pm.trans (g.cons p)).trans (List.perm_append_singleton p _).symm
    have hkp2 : ∀ b o, h0.get? b = some o → h'.get? b = some o := fun b o e => (hsb.2 b (fun z => by rw [z, hS0] at e; cases e)).trans (hkp' b o e)
    refine wpAny_pure ⟨plainId_quiet F.plain_set_update_loop _, ih (i + 1) _ (by omega) hlt (W.frame _ s' _ _ hst' (Nat.le_add_right _ _) fun b hb o e => ?_) hkp2 ⟨L', es', ep', t', hS2, g'⟩ fun s'' L2 es2 ep2 t2 hm'' hS'' g'' hkp'' => ?_⟩
    · rw [hsb.2 b (fun h : b = S => hSf (by rw [← h]; exact hb))]; exact e
    · refine hR s'' L2 es2 ep2 t2 (Moved.trans W.gtrans ((hm.mono hsub).then_heap (Nat.le_add_right _ _) fun b o hb e => ?_) hm'') hS'' g'' hkp''
      rw [hsb.2 b (fun h : b = S => hb (by rw [h]; exact List.mem_cons_self))]; exact e
/-- set(l) -/
theorem call_set_keys {l : Addr} {items : Array Value} (ks : List Ak) {Q : Value → Shared → Prop} (hh : A.handled = none) (hl : s.heap.IsList l items) (hit : items.toList = ks.map fun p => Value.ref p.1)
    (hk : ∀ p ∈ ks, IsN s.heap p.2 p.1) (nd : (ks.map (·.2)).Nodup) (hfew : ks.length ≤ 16) (hu : A.units + 24 < cLine)
    (h : ∀ (h' : Heap) (tk : Nat) L es ep t, SetN w h' s.heap.objs.size L es ep t → L.Perm ks → (∀ b o, s.heap.get? b = some o → h'.get? b = some o) → Q (.ref s.heap.objs.size) { s with heap := h', toks := tk }) :
    wpAny (model P w) A (call (.type "set") [.ref l]) Q E s := by
  have hisz : items.size = ks.length := by
    have q := congrArg List.length hit
    rw [Array.length_toList, List.length_map] at q
    exact q
  obtain ⟨c, tl, hmro⟩ := F.called_set.mro
  have hmade := F.called_set.made
  have hsub := F.called_set.sub
  refine wpAny_call (codeAny_of_tree ?_)
  show wpAny _ _ (callAny (.type "set") _) _ _ _
  refine wpAny_pure ⟨Code.quiet_builtin _ (by decide +kernel), codeAny_builtin F.entry_type_call ?_⟩
  rw [Around.under_plain (weight_type_call_type "set" [.ref l] []) rfl]
  have h1 := F.called_set.notType
  have h2 := F.called_set.canCreate
  have hct := F.typeCall_set_1 (.ref l)
  repeat (any_goals (first | assumption | wp_step))

  generalize hB : (!w.params.followText "set-order") = B
  refine codeAny_mono (code_set_led1 (.ref l) (E := E) (Q₁ := fun obj s₁ => obj = .ref s.heap.objs.size ∧ s₁ = { s with heap := s.heap.push { cls := .type "set", dict := none, data := .set #[] 0 (.fresh 0 0 B) } }) ⟨rfl, by rw [hB]⟩) fun r s₁ hr => ?_
  cases r with
  | error e => exact hr
  | ok fl =>
    cases fl with
    | ret obj =>
      obtain ⟨rfl, rfl⟩ := hr
      have hS : (s.heap.push { cls := .type "set", dict := none, data := .set #[] 0 (.fresh 0 0 B) }).get? s.heap.objs.size = some { cls := .type "set", dict := none, data := .set #[] 0 (.fresh 0 0 B) } := Heap.get?_push_size _ rfl
      have hT : Shared.TypeIs { s with heap := s.heap.push { cls := .type "set", dict := none, data := .set #[] 0 (.fresh 0 0 B) } } (.ref s.heap.objs.size) "set" := ⟨_, hS, rfl⟩
      have hli := F.called_set.init.lookup
      have hbi := F.called_set.init.bind (.ref s.heap.objs.size)
      repeat (any_goals (first | assumption | wp_step))

      refine codeAny_mono (codeAny_call_builtin (R := wants (fun r s₂ => r = .none ∧ ∃ h' tk L es ep t, s₂ = { s with heap := h', toks := tk } ∧ SetN w h' s.heap.objs.size L es ep t ∧ L.Perm ks ∧
          (∀ b o, s.heap.get? b = some o → h'.get? b = some o)) E) F.called_set.init.plain F.entry_set_init (check_set_init_1 hT ?_)) fun r₂ s₂ hr₂ => ?_
      · obtain ⟨ol, hol, hcl, nl, hdl⟩ := hl
        obtain ⟨ocls, odict, odata, oslots⟩ := ol
        simp only at hcl hdl
        subst hcl; subst hdl
        have hol' : (s.heap.push { cls := .type "set", dict := none, data := .set #[] 0 (.fresh 0 0 B) }).get? l = some { cls := .type "list", dict := odict, data := .seq items nl, slots := oslots } := Heap.get?_push_of_some _ hol
        have hsls := F.sub_list_set
        have hslf := F.sub_list_frozenset
        have hne : (Value.type "list" == Value.type "dict") = false := by decide
        have hl1 : (s.heap.push { cls := .type "set", dict := none, data := .set #[] 0 (.fresh 0 0 B) }).IsList l items := ⟨_, hol', rfl, nl, rfl⟩
        unfold Builtin.«set.__init__» noKeywords Builtin.Frozenset.updateFrom
        generalize hPI : pyIter = PI
        wp_walk
        subst hPI

        refine wpAny_pyIter_list hl1 ?_
        refine wpAny_bind (wpAny_runValue ?_)
        have hlS : l < s.heap.objs.size := Heap.lt_size hol
        have hh3 : A.in1.in1.in1.handled = none := by simp [hh]
        have hz1 : (s.heap.push { cls := .type "set", dict := none, data := .set #[] 0 (.fresh 0 0 B) }).objs.size = s.heap.objs.size + 1 := Heap.size_push ..
        have hneI : l ≠ (s.heap.push { cls := .type "set", dict := none, data := .set #[] 0 (.fresh 0 0 B) }).objs.size := by
          rw [Heap.size_push]; exact Nat.ne_of_lt (Nat.lt_succ_of_lt hlS)
        have hSf : s.heap.objs.size ∉ [(s.heap.push { cls := .type "set", dict := none, data := .set #[] 0 (.fresh 0 0 B) }).objs.size, l] := by
          rw [Heap.size_push]; simp only [List.mem_cons, List.mem_singleton, List.not_mem_nil, or_false, not_or]
          exact ⟨Nat.ne_of_lt (Nat.lt_succ_self _), Nat.ne_of_gt hlS⟩
        have hval : ∀ (i : Nat) (v : Value), items[i]? = some v → ∃ p, ks[i]? = some p ∧ v = .ref p.1 := fun i v hv => by
          have q : items.toList[i]? = some v := by rw [Array.getElem?_toList]; exact hv
          rw [hit, List.getElem?_map] at q
          obtain ⟨p, hp, e⟩ := Option.map_eq_some_iff.mp q
          exact ⟨p, hp, e.symm⟩
        have none_of : ∀ b, s.heap.objs.size ≤ b → s.heap.get? b = none := fun b hb => by
          cases q : s.heap.get? b with
          | none => rfl
          | some o => exact absurd (Nat.lt_of_lt_of_le (Heap.lt_size q) hb) (Nat.lt_irrefl _)
        refine upd_keys ((Walks.list hh3 _ l hneI items).toS) s.heap.objs.size
          hSf ks hisz nd hfew hval s.heap hk (none_of _ (Nat.le_refl _)) (fun b hb => none_of b (by
            rw [List.mem_singleton.mp hb, Heap.size_push]
            exact Nat.le_succ _)) (by simp only [Around.in1_units]; omega) (items.size - 0) 0 _ (by omega) (Nat.zero_le _)
          ⟨⟨_, Heap.get?_push_size _ rfl, rfl, rfl⟩, (hl1.push _)⟩ (fun b o e => Heap.get?_push_of_some _ (Heap.get?_push_of_some _ e)) ?hS0 ?hR
        case hS0 =>
          have hget : ((s.heap.push { cls := .type "set", dict := none, data := .set #[] 0 (.fresh 0 0 B) }).push { cls := .type "list_iterator", data := .fields #[.ref l, .int 0 0] }).get? s.heap.objs.size
              = some { cls := .type "set", dict := none, data := .set #[] 0 (.fresh 0 0 B) } := Heap.get?_push_of_some _ hS
          exact ⟨[], #[], 0, _, setN_bare hget, List.Perm.refl _⟩
        case hR =>
          intro s' L es ep t hm hS' g' hkp
          obtain ⟨h', g2, d', tk', os'⟩ := s'
          have eg : g2 = s.gens := hm.gens
          have ed : d' = s.drawn := hm.drawn
          have eo : os' = s.os := hm.os
          subst eg; subst ed; subst eo
          show wpAny _ _ _ _ _ _
          refine wpAny_pure ?_
          show wpAny _ _ (ret Value.none) _ _ _
          exact wpAny_pure ⟨rfl, h', tk', L, es, ep, t, rfl, hS', g', hkp⟩

      · cases r₂ with
        | error e => exact hr₂
        | ok fl₂ =>
          cases fl₂ with
          | ret r =>
            obtain ⟨rfl, h', tk, L, es, ep, t, rfl, hS', g', hk'⟩ := hr₂
            repeat (any_goals (first | assumption | wp_step))
            exact h _ _ _ _ _ _ hS' g' hk'
          | _ => exact hr₂.elim
    | _ => exact hr.elim
end
end Gr
/-! len(set(list of nested tuples, no two alike)) -/
namespace Gr
open PySem PySem.Spec PyProof.Rows L2 PySem.W
mutual
/-- a datum as a key -/
def dk : PyData → NestedKey
  | .none => .none
  | .bool b => .num (if b = true then 1 else 0)
  | .int i => .num i
  | .str x => .text x
  | .list _ => .none
  | .tuple xs => .tup (dkAll xs)
  | .dict _ => .none
def dkAll : List PyData → List NestedKey
  | [] => []
  | d :: ds => dk d :: dkAll ds
end
mutual
/-- nothing in it but what may be a key -/
def hbl : PyData → Bool
  | .list _ => false
  | .dict _ => false
  | .tuple xs => hblAll xs
  | .none => true
  | .bool _ => true
  | .int _ => true
  | .str _ => true
def hblAll : List PyData → Bool
  | [] => true
  | d :: ds => hbl d && hblAll ds
end
mutual
theorem reads_key {h : Heap} : ∀ (d : PyData) (v : Value) (as : List Addr), hbl d = true → Reads h v d as → NestedIs h (dk d) v ∧ (dk d).depth ≤ d.depth
  | .none, _, _, _, r => by cases r; unfold dk; exact ⟨.none, Nat.zero_le _⟩
  | .bool b, _, _, _, r => by cases r; unfold dk; exact ⟨.bool rfl, Nat.zero_le _⟩
  | .int i, _, _, _, r => by cases r; unfold dk; exact ⟨.int _ _, Nat.zero_le _⟩
  | .str x, _, _, _, r => by cases r; unfold dk; exact ⟨.text _ _, Nat.zero_le _⟩
  | .list _, _, _, q, _ => by unfold hbl at q; cases q
  | .dict _, _, _, q, _ => by unfold hbl at q; cases q
  | .tuple xs, _, _, q, r => by
    unfold hbl at q
    cases r with
    | tuple h1 h2 h3 h4 =>
      obtain ⟨k1, k2⟩ := reads_keys xs _ _ q h4
      unfold dk
      exact ⟨.tup h1 h2 h3 k1, by unfold NestedKey.depth PyData.depth; omega⟩
theorem reads_keys {h : Heap} : ∀ (ds : List PyData) (vs : List Value) (as : List Addr), hblAll ds = true → ReadsAll h vs ds as → NestedAll h (dkAll ds) vs ∧ NestedKey.depthAll (dkAll ds) ≤ PyData.depthAll ds
  | [], _, _, _, r => by cases r; unfold dkAll; exact ⟨.nil, Nat.zero_le _⟩
  | d :: ds, _, _, q, r => by
    unfold hblAll at q
    rw [Bool.and_eq_true] at q
    cases r with
    | cons h1 h2 =>
      obtain ⟨a1, a2⟩ := reads_key d _ _ q.1 h1
      obtain ⟨b1, b2⟩ := reads_keys ds _ _ q.2 h2
      unfold dkAll
      exact ⟨.cons a1 b1, by unfold NestedKey.depthAll PyData.depthAll; omega⟩
end
/-- a tuple that may be a key -/
def Kd (d : PyData) : Prop := (∃ xs, d = .tuple xs) ∧ hbl d = true ∧ d.depth ≤ 8
section
variable {X : Cx} {pins : List (Addr × Obj)} {σ : L2.St} {H : Hp} {s : Shared}
theorem keys_of (I : Inv X pins σ H s) : ∀ {xs : List V} {us : List Value} {ds : List PyData}, Vals xs us → DpAll X.K H xs ds → (∀ d ∈ ds, Kd d) →
    ∃ ks : List Ak, us = ks.map (fun p => Value.ref p.1) ∧ ks.map (·.2) = ds.map dk ∧ ∀ p ∈ ks, IsN s.heap p.2 p.1
  | [], _, _, .nil, .nil, _ => ⟨[], rfl, rfl, fun p hp => by cases hp⟩
  | x :: xs, u :: us, d :: ds, .cons r t, .cons h k, q => by
    obtain ⟨ks, e1, e2, e3⟩ := keys_of I t k fun d hd => q d (List.mem_cons_of_mem _ hd)
    obtain ⟨as, rd⟩ := Dp.reads I d x u h r
    obtain ⟨⟨zs, rfl⟩, q2, q3⟩ := q d List.mem_cons_self
    obtain ⟨n1, n2⟩ := reads_key _ _ _ q2 rd
    cases rd with
    | @tuple a _ _ _ _ _ _ _ _ _ =>
      refine ⟨(a, dk (.tuple zs)) :: ks, by rw [e1]; rfl, by rw [List.map_cons, e2]; rfl, fun p hp => ?_⟩
      rcases List.mem_cons.mp hp with rfl | hp
      · exact ⟨n1, Nat.le_trans n2 q3⟩
      · exact e3 p hp
end
def tLenSetN (K : PySem.W.Frag) (ta : TE) : TE := fun σ H Q => ta σ H fun x H1 => ∃ (l : Addr) (xs : List V) (ds : List PyData), x = .ref l ∧ SqL K H1 l xs ∧ DpAll K H1 xs ds ∧ (∀ d ∈ ds, Kd d) ∧ (ds.map dk).Nodup ∧ ds.length ≤ 16 ∧ Q (.int ds.length) H1
theorem pe_lenSetN {X : Cx} {a : Expr} {ta : TE} {p p2 q pos : Pos} (hc : X.calm = true) (hu : X.A.units + 64 < cLine) (hg : Gl X "len") (hm : X.mg "len" = none) (hg2 : Gl X "set") (hm2 : X.mg "set" = none) (ha : PE X a ta)
    (na : starEach [a] X.env = (false, eval a X.env) :: starEach [] X.env := by rfl) : PE X (.Call (.Name "len" p) [.Call (.Name "set" p2) [a] [] q] [] pos) (tLenSetN X.K ta) := by
  refine ⟨fun pins s σ H Q I h => ?_⟩
  refine Call_ (ld_blt I hg hm PySem.boot_len ?_)
  refine PyProof.Rows.callWith_builtin1 (PyProof.Rows.args_cons ?_ rfl) rfl rfl
  refine Call_ (ld_blt I hg2 hm2 PyProof.Rows.boot_set ?_)
  refine PyProof.Rows.callWith_type1 (PyProof.Rows.args_cons (thn (ha.run pins s σ H _ I h) fun v s1 ⟨x, H1, I1, r1, q1⟩ => PyProof.Rows.args_nil ?_) na) na rfl
  obtain ⟨l, xs, ds, rfl, hq, hd, hk, nd, hl, q1⟩ := q1
  cases r1
  obtain ⟨its, rv, pl, hz⟩ := I1.list hq
  obtain ⟨ks, e1, e2, e3⟩ := keys_of I1 rv hd hk
  have kl : ks.length = ds.length := by
    have := congrArg List.length e2
    rw [List.length_map, List.length_map] at this
    exact this
  refine call_set_keys ks (I1.ok.hd hc) pl.isList (by simpa using e1) e3 (by rw [e2]; exact nd) (by omega) (by omega) fun h' tk L es ep t hS pm hkp => ?_
  refine PyProof.Rows.args_nil ?_
  obtain ⟨o, ho, hex, ho2⟩ := hS.ob
  have I2 : Inv X pins σ H1 { s1 with heap := h', toks := tk } := I1.kept hkp
  have sz1 : es.size = ds.length := by rw [size_of_rows hS.rows, pm.length_eq, kl]
  refine call_len_set ho hex ho2 hS.fits (by rw [sz1]; omega) ⟨.int ds.length, H1, I2.tok _, ⟨_, by rw [sz1]⟩, q1⟩
theorem x_lenSetN {K : PySem.W.Frag} {ρ ρ1 : Env} {te : TE} {n : Nat} {ds : List Dt} (h : EvX K te ρ (.lst ds) ρ1) (p : ∀ d ∈ ds, Pl n d) (hn : n ≤ 8) (hk : ∀ d ∈ ds, (∃ xs, tp d = .tuple xs) ∧ hbl (tp d) = true) (nd : (ds.map fun d => dk (tp d)).Nodup) (hl : ds.length ≤ 16) : EvX K (tLenSetN K te) ρ (iD ds.length) ρ1 := fun Fb Hb F H σ I Q q =>
  h Fb Hb F H σ I _ fun v F1 H1 I1 e1 k1 => by
    obtain ⟨a, xs, rfl, k2, k3⟩ := k1
    obtain ⟨g1, g2, g3⟩ := dpAll_of n ds xs (PlAll.of p) (k3.mono I1.fh)
    rw [tpAll_map] at g1 g3
    refine ⟨a, xs, ds.map tp, rfl, Evl.sq_of (I1.fh a _ k2), g1, fun d hd => ?_, ?_, by rw [List.length_map]; exact hl, ?_⟩
    · obtain ⟨e, he, rfl⟩ := List.mem_map.mp hd
      exact ⟨(hk e he).1, (hk e he).2, Nat.le_trans (depth_mem hd) (Nat.le_trans g3 hn)⟩
    · rw [List.map_map]
      exact nd
    · rw [List.length_map]
      exact q _ F1 H1 I1 e1 rfl
/-! standings as keys -/
theorem dkAll_map : ∀ l : List PyData, dkAll l = l.map dk
  | [] => rfl
  | d :: l => by
    unfold dkAll
    rw [dkAll_map l]
    rfl
theorem hblAll_of : ∀ l : List PyData, (∀ d ∈ l, hbl d = true) → hblAll l = true
  | [], _ => by unfold hblAll; rfl
  | d :: l, h => by
    unfold hblAll
    rw [h d List.mem_cons_self, hblAll_of l fun e he => h e (List.mem_cons_of_mem _ he)]
    rfl
def gK (g : Nat × Str) : NestedKey := .tup [.num (g.1 : Nat), .text g.2]
def hK (h : List (Nat × Str)) : NestedKey := .tup (h.map gK)
def sK (st : Sg) : NestedKey := .tup (st.map hK)
theorem tp_g (g : Nat × Str) : tp (gD g) = .tuple [.int (g.1 : Nat), .str g.2] := by
  unfold gD tp tpAll tpAll tpAll iD tp
  rfl
theorem tp_h (h : List (Nat × Str)) : tp (hD h) = .tuple (h.map fun g => .tuple [.int (g.1 : Nat), .str g.2]) := by
  unfold hD tp
  rw [tpAll_map, List.map_map]
  congr 1
theorem tp_s (st : Sg) : tp (sD st) = .tuple (st.map fun h => .tuple (h.map fun g => .tuple [.int (g.1 : Nat), .str g.2])) := by
  unfold sD tp
  rw [tpAll_map, List.map_map]
  congr 1
  refine List.map_congr_left fun h _ => tp_h h
theorem dk_s (st : Sg) : dk (tp (sD st)) = sK st := by
  rw [tp_s]
  unfold dk sK
  rw [dkAll_map, List.map_map]
  congr 1
  refine List.map_congr_left fun h _ => ?_
  show dk (.tuple _) = hK h
  unfold dk hK
  rw [dkAll_map, List.map_map]
  congr 1
theorem gK_inj {a b : Nat × Str} (h : gK a = gK b) : a = b := by
  unfold gK at h
  injection h with h
  injection h with h1 h2
  injection h2 with h2
  injection h1 with h1
  injection h2 with h2
  exact Prod.ext (by omega) h2
theorem map_inj {α β : Type} {f : α → β} (hf : ∀ a b, f a = f b → a = b) : ∀ {l m : List α}, l.map f = m.map f → l = m
  | [], [], _ => rfl
  | [], _ :: _, h => by simp at h
  | _ :: _, [], h => by simp at h
  | a :: l, b :: m, h => by
    rw [List.map_cons, List.map_cons] at h
    injection h with h1 h2
    rw [hf a b h1, map_inj hf h2]
theorem hK_inj {a b : List (Nat × Str)} (h : hK a = hK b) : a = b := by
  unfold hK at h
  injection h with h
  exact map_inj (fun _ _ => gK_inj) h
theorem sK_inj {a b : Sg} (h : sK a = sK b) : a = b := by
  unfold sK at h
  injection h with h
  exact map_inj (fun _ _ => hK_inj) h
theorem hbl_s (st : Sg) : hbl (tp (sD st)) = true := by
  rw [tp_s]
  unfold hbl
  refine hblAll_of _ fun d hd => ?_
  obtain ⟨h, _, rfl⟩ := List.mem_map.mp hd
  unfold hbl
  refine hblAll_of _ fun d hd => ?_
  obtain ⟨g, _, rfl⟩ := List.mem_map.mp hd
  unfold hbl hblAll hblAll hblAll hbl
  rfl
theorem pl_h {h : List (Nat × Str)} (hw : ∀ g ∈ h, PyData.strOk g.2 = true) : Pl 2 (hD h) := by
  unfold hD Pl
  refine PlAll.of fun d hd => ?_
  obtain ⟨g, hg, rfl⟩ := List.mem_map.mp hd
  unfold gD iD Pl PlAll
  refine ⟨by unfold Pl; trivial, ?_⟩
  unfold PlAll
  exact ⟨by unfold Pl; exact hw g hg, by unfold PlAll; trivial⟩
theorem pl_s {st : Sg} (hw : ∀ d, ∀ g ∈ hp st d, PyData.strOk g.2 = true) : Pl 3 (sD st) := by
  unfold sD Pl
  refine PlAll.of fun d hd => ?_
  obtain ⟨h, hh, rfl⟩ := List.mem_map.mp hd
  obtain ⟨i, hi, e⟩ := List.getElem_of_mem hh
  refine pl_h fun g hg => hw i g ?_
  unfold hp
  rw [List.getD_eq_getElem?_getD, List.getElem?_eq_getElem hi, e]
  exact hg
theorem len_rooms {K : PySem.W.Frag} {ρ ρ1 : Env} {te : TE} {rooms : List Sg} (h : EvX K te ρ (.lst (rooms.map sD)) ρ1) (hw : ∀ st ∈ rooms, ∀ d, ∀ g ∈ hp st d, PyData.strOk g.2 = true) (nd : rooms.Nodup) (hl : rooms.length ≤ 16) : EvX K (tLenSetN K te) ρ (iD rooms.length) ρ1 := by
  have e : (rooms.map sD).length = rooms.length := List.length_map _
  have := x_lenSetN (n := 3) h (fun d hd => by
    obtain ⟨st, hs, rfl⟩ := List.mem_map.mp hd
    exact pl_s (hw st hs)) (by decide) (fun d hd => by
    obtain ⟨st, hs, rfl⟩ := List.mem_map.mp hd
    exact ⟨⟨_, tp_s st⟩, hbl_s st⟩) (by
    rw [List.map_map]
    have e : ((fun d => dk (tp d)) ∘ sD) = sK := by
      funext st
      exact dk_s st
    rw [e]
    unfold List.Nodup
    rw [List.pairwise_map]
    exact nd.imp fun {a b} ne q => ne (sK_inj q)) (by rw [e]; exact hl)
  rw [e] at this
  exact this
end Gr
/-! the text by places; what stands behind its top -/
namespace Gr
open PySem L2
abbrev PW : Program := PySem.Challenge.pw_grudgecote_k76_whole_each_number_a_stand
def topS (i : Nat) : Stmt := PW.main.body.getD i (.Pass ⟨0, 0, 0, 0⟩)
abbrev s_is_number : Stmt := topS 7
abbrev N_is_number : List Str := ["thing"]
theorem sc_is_number : FnScope N_is_number ["thing"] (defScope s_is_number) := ⟨rfl, rfl, rfl, by decide +kernel, rfl, by decide +kernel, by decide +kernel⟩
abbrev s_as_heap : Stmt := topS 8
abbrev N_as_heap : List Str := ["heap", "about", "word"]
theorem sc_as_heap : FnScope N_as_heap ["heap"] (defScope s_as_heap) := ⟨rfl, rfl, rfl, by decide +kernel, rfl, by decide +kernel, by decide +kernel⟩
abbrev s_as_standing : Stmt := topS 9
abbrev N_as_standing : List Str := ["standing", "heap"]
theorem sc_as_standing : FnScope N_as_standing ["standing"] (defScope s_as_standing) := ⟨rfl, rfl, rfl, by decide +kernel, rfl, by decide +kernel, by decide +kernel⟩
abbrev s_is_there : Stmt := topS 10
abbrev N_is_there : List Str := ["standing", "dove"]
theorem sc_is_there : FnScope N_is_there ["standing", "dove"] (defScope s_is_there) := ⟨rfl, rfl, rfl, by decide +kernel, rfl, by decide +kernel, by decide +kernel⟩
abbrev s_look_dove : Stmt := topS 11
abbrev N_look_dove : List Str := ["standing", "dove"]
theorem sc_look_dove : FnScope N_look_dove ["standing", "dove"] (defScope s_look_dove) := ⟨rfl, rfl, rfl, by decide +kernel, rfl, by decide +kernel, by decide +kernel⟩
abbrev s_held : Stmt := topS 12
abbrev N_held : List Str := ["standing", "dove", "about", "its", "word"]
theorem sc_held : FnScope N_held ["standing", "dove", "about"] (defScope s_held) := ⟨rfl, rfl, rfl, by decide +kernel, rfl, by decide +kernel, by decide +kernel⟩
abbrev s_grudges_in : Stmt := topS 13
abbrev N_grudges_in : List Str := ["standing", "heap"]
theorem sc_grudges_in : FnScope N_grudges_in ["standing"] (defScope s_grudges_in) := ⟨rfl, rfl, rfl, by decide +kernel, rfl, by decide +kernel, by decide +kernel⟩
abbrev s_line : Stmt := topS 15
abbrev N_line : List Str := ["standing", "one", "other"]
theorem sc_line : FnScope N_line ["standing", "one", "other"] (defScope s_line) := ⟨rfl, rfl, rfl, by decide +kernel, rfl, by decide +kernel, by decide +kernel⟩
abbrev s_cut : Stmt := topS 16
abbrev N_cut : List Str := ["standing", "one", "other"]
theorem sc_cut : FnScope N_cut ["standing", "one", "other"] (defScope s_cut) := ⟨rfl, rfl, rfl, by decide +kernel, rfl, by decide +kernel, by decide +kernel⟩
abbrev s_pairs_of : Stmt := topS 17
abbrev N_pairs_of : List Str := ["standing", "many", "one", "other"]
theorem sc_pairs_of : FnScope N_pairs_of ["standing"] (defScope s_pairs_of) := ⟨rfl, rfl, rfl, by decide +kernel, rfl, by decide +kernel, by decide +kernel⟩
abbrev s_first_apart : Stmt := topS 18
abbrev N_first_apart : List Str := ["words", "others", "place", "word", "other"]
theorem sc_first_apart : FnScope N_first_apart ["words", "others"] (defScope s_first_apart) := ⟨rfl, rfl, rfl, by decide +kernel, rfl, by decide +kernel, by decide +kernel⟩
abbrev s_look_same : Stmt := topS 19
abbrev N_look_same : List Str := ["one", "other"]
theorem sc_look_same : FnScope N_look_same ["one", "other"] (defScope s_look_same) := ⟨rfl, rfl, rfl, by decide +kernel, rfl, by decide +kernel, by decide +kernel⟩
abbrev s_first_unlike : Stmt := topS 20
abbrev N_first_unlike : List Str := ["one", "other", "mine", "its", "place"]
theorem sc_first_unlike : FnScope N_first_unlike ["one", "other"] (defScope s_first_unlike) := ⟨rfl, rfl, rfl, by decide +kernel, rfl, by decide +kernel, by decide +kernel⟩
abbrev s_sleepers_grudges : Stmt := topS 22
abbrev N_sleepers_grudges : List Str := ["heap", "asleep", "place", "about", "word"]
theorem sc_sleepers_grudges : FnScope N_sleepers_grudges ["heap", "asleep"] (defScope s_sleepers_grudges) := ⟨rfl, rfl, rfl, by decide +kernel, rfl, by decide +kernel, by decide +kernel⟩
abbrev s_still_of : Stmt := topS 23
abbrev N_still_of : List Str := ["one", "other", "dove", "asleep", "many", "places"]
theorem sc_still_of : FnScope N_still_of ["one", "other", "dove", "asleep"] (defScope s_still_of) := ⟨rfl, rfl, rfl, by decide +kernel, rfl, by decide +kernel, by decide +kernel⟩
abbrev s_still : Stmt := topS 24
abbrev N_still : List Str := ["one", "other", "asleep", "dove"]
theorem sc_still : FnScope N_still ["one", "other", "asleep"] (defScope s_still) := ⟨rfl, rfl, rfl, by decide +kernel, rfl, by decide +kernel, by decide +kernel⟩
abbrev s_first_moved : Stmt := topS 25
abbrev N_first_moved : List Str := ["one", "other", "asleep", "dove", "many", "place"]
theorem sc_first_moved : FnScope N_first_moved ["one", "other", "asleep"] (defScope s_first_moved) := ⟨rfl, rfl, rfl, by decide +kernel, rfl, by decide +kernel, by decide +kernel⟩
abbrev s_look_lines : Stmt := topS 27
abbrev N_look_lines : List Str := ["one", "other", "unlike"]
theorem sc_look_lines : FnScope N_look_lines ["one", "other"] (defScope s_look_lines) := ⟨rfl, rfl, rfl, by decide +kernel, rfl, by decide +kernel, by decide +kernel⟩
abbrev s_look_still : Stmt := topS 28
abbrev N_look_still : List Str := ["one", "other", "asleep", "moved"]
theorem sc_look_still : FnScope N_look_still ["one", "other", "asleep"] (defScope s_look_still) := ⟨rfl, rfl, rfl, by decide +kernel, rfl, by decide +kernel, by decide +kernel⟩
abbrev s_rows_given : Stmt := topS 30
abbrev N_rows_given : List Str := ["one", "lows", "asleep", "found", "dove", "low", "places", "place"]
theorem sc_rows_given : FnScope N_rows_given ["one", "lows", "asleep"] (defScope s_rows_given) := ⟨rfl, rfl, rfl, by decide +kernel, rfl, by decide +kernel, by decide +kernel⟩
abbrev s_rows_got : Stmt := topS 31
abbrev N_rows_got : List Str := ["one", "rows", "asleep", "heaps", "found", "sleeper", "left", "row", "giving", "about", "word"]
theorem sc_rows_got : FnScope N_rows_got ["one", "rows", "asleep", "heaps"] (defScope s_rows_got) := ⟨rfl, rfl, rfl, by decide +kernel, rfl, by decide +kernel, by decide +kernel⟩
abbrev s_waits_in : Stmt := topS 32
abbrev N_waits_in : List Str := ["rows", "row", "ahead", "later"]
theorem sc_waits_in : FnScope N_waits_in ["rows"] (defScope s_waits_in) := ⟨rfl, rfl, rfl, by decide +kernel, rfl, by decide +kernel, by decide +kernel⟩
abbrev s_givings : Stmt := topS 33
abbrev N_givings : List Str := ["one", "other", "asleep", "rows", "row", "giving"]
theorem sc_givings : FnScope N_givings ["one", "other", "asleep"] (defScope s_givings) := ⟨rfl, rfl, rfl, by decide +kernel, rfl, by decide +kernel, by decide +kernel⟩
abbrev s_waits : Stmt := topS 34
abbrev N_waits : List Str := ["one", "other", "asleep", "rows"]
theorem sc_waits : FnScope N_waits ["one", "other", "asleep"] (defScope s_waits) := ⟨rfl, rfl, rfl, by decide +kernel, rfl, by decide +kernel, by decide +kernel⟩
abbrev s_look_few : Stmt := topS 37
abbrev N_look_few : List Str := ["standing", "many"]
theorem sc_look_few : FnScope N_look_few ["standing"] (defScope s_look_few) := ⟨rfl, rfl, rfl, by decide +kernel, rfl, by decide +kernel, by decide +kernel⟩
abbrev s_shuffles : Stmt := topS 38
abbrev N_shuffles : List Str := ["sizes", "size", "ways", "total", "k"]
theorem sc_shuffles : FnScope N_shuffles ["sizes"] (defScope s_shuffles) := ⟨rfl, rfl, rfl, by decide +kernel, rfl, by decide +kernel, by decide +kernel⟩
abbrev s_all_cuts : Stmt := topS 39
abbrev N_all_cuts : List Str := ["lengths", "found", "length", "cuts", "place"]
theorem sc_all_cuts : FnScope N_all_cuts ["lengths"] (defScope s_all_cuts) := ⟨rfl, rfl, rfl, by decide +kernel, rfl, by decide +kernel, by decide +kernel⟩
abbrev s_Shares_init : Stmt := inClass (topS 40) 0
abbrev N_Shares_init : List Str := ["self", "standing", "one", "other"]
theorem sc_Shares_init : FnScope N_Shares_init ["self", "standing"] (defScope s_Shares_init) := ⟨rfl, rfl, rfl, by decide +kernel, rfl, by decide +kernel, by decide +kernel⟩
abbrev s_Shares_sizes : Stmt := inClass (topS 40) 1
abbrev N_Shares_sizes : List Str := ["self", "cuts", "many", "found", "length", "place", "dove", "one", "other"]
theorem sc_Shares_sizes : FnScope N_Shares_sizes ["self", "cuts"] (defScope s_Shares_sizes) := ⟨rfl, rfl, rfl, by decide +kernel, rfl, by decide +kernel, by decide +kernel⟩
abbrev s_Shares_heaps : Stmt := inClass (topS 40) 2
abbrev N_Shares_heaps : List Str := ["self", "rows", "found", "dove", "abouts", "words", "about"]
theorem sc_Shares_heaps : FnScope N_Shares_heaps ["self", "rows"] (defScope s_Shares_heaps) := ⟨rfl, rfl, rfl, by decide +kernel, rfl, by decide +kernel, by decide +kernel⟩
abbrev s_ways_of : Stmt := topS 41
abbrev N_ways_of : List Str := ["sizes", "ways", "mine"]
theorem sc_ways_of : FnScope N_ways_of ["sizes"] (defScope s_ways_of) := ⟨rfl, rfl, rfl, by decide +kernel, rfl, by decide +kernel, by decide +kernel⟩
abbrev s_how_many : Stmt := topS 42
abbrev N_how_many : List Str := ["standing", "shares", "cuts"]
theorem sc_how_many : FnScope N_how_many ["standing"] (defScope s_how_many) := ⟨rfl, rfl, rfl, by decide +kernel, rfl, by decide +kernel, by decide +kernel⟩
abbrev s_nth_shuffle : Stmt := topS 43
abbrev N_nth_shuffle : List Str := ["sizes", "number", "left", "found", "about", "size", "ways"]
theorem sc_nth_shuffle : FnScope N_nth_shuffle ["sizes", "number"] (defScope s_nth_shuffle) := ⟨rfl, rfl, rfl, by decide +kernel, rfl, by decide +kernel, by decide +kernel⟩
abbrev s_number_in : Stmt := topS 44
abbrev N_number_in : List Str := ["sizes", "abouts", "about", "left", "found", "lower"]
theorem sc_number_in : FnScope N_number_in ["sizes", "abouts"] (defScope s_number_in) := ⟨rfl, rfl, rfl, by decide +kernel, rfl, by decide +kernel, by decide +kernel⟩
abbrev s_rows_of : Stmt := topS 45
abbrev N_rows_of : List Str := ["sizes", "number", "found", "left", "dove", "mine", "place"]
theorem sc_rows_of : FnScope N_rows_of ["sizes", "number"] (defScope s_rows_of) := ⟨rfl, rfl, rfl, by decide +kernel, rfl, by decide +kernel, by decide +kernel⟩
abbrev s_nth : Stmt := topS 46
abbrev N_nth : List Str := ["standing", "number", "cuts", "shares", "left", "sizes"]
theorem sc_nth : FnScope N_nth ["standing", "number"] (defScope s_nth) := ⟨rfl, rfl, rfl, by decide +kernel, rfl, by decide +kernel, by decide +kernel⟩
abbrev s_number_of : Stmt := topS 47
abbrev N_number_of : List Str := ["standing", "other", "due", "cuts", "shares", "found", "sizes", "inside", "dove", "mine", "one", "its", "about", "word"]
theorem sc_number_of : FnScope N_number_of ["standing", "other"] (defScope s_number_of) := ⟨rfl, rfl, rfl, by decide +kernel, rfl, by decide +kernel, by decide +kernel⟩
abbrev s_gone_over : Stmt := topS 49
abbrev N_gone_over : List Str := ["standing", "dove", "found", "about", "word"]
theorem sc_gone_over : FnScope N_gone_over ["standing", "dove"] (defScope s_gone_over) := ⟨rfl, rfl, rfl, by decide +kernel, rfl, by decide +kernel, by decide +kernel⟩
abbrev s_Pecking_init : Stmt := inClass (topS 53) 0
abbrev N_Pecking_init : List Str := ["self", "standing"]
theorem sc_Pecking_init : FnScope N_Pecking_init ["self", "standing"] (defScope s_Pecking_init) := ⟨rfl, rfl, rfl, by decide +kernel, rfl, by decide +kernel, by decide +kernel⟩
abbrev s_Pecking_peck : Stmt := inClass (topS 53) 1
abbrev N_Pecking_peck : List Str := ["self", "dove", "about"]
theorem sc_Pecking_peck : FnScope N_Pecking_peck ["self", "dove"] (defScope s_Pecking_peck) := ⟨rfl, rfl, rfl, by decide +kernel, rfl, by decide +kernel, by decide +kernel⟩
abbrev s_Pecking_taken_off : Stmt := inClass (topS 53) 2
abbrev N_Pecking_taken_off : List Str := ["self", "dove", "low", "got", "turn"]
theorem sc_Pecking_taken_off : FnScope N_Pecking_taken_off ["self", "dove", "low"] (defScope s_Pecking_taken_off) := ⟨rfl, rfl, rfl, by decide +kernel, rfl, by decide +kernel, by decide +kernel⟩
abbrev s_Pecking_shuffled : Stmt := inClass (topS 53) 4
abbrev N_Pecking_shuffled : List Str := ["self", "dove", "low", "abouts", "about"]
theorem sc_Pecking_shuffled : FnScope N_Pecking_shuffled ["self", "dove", "low", "abouts"] (defScope s_Pecking_shuffled) := ⟨rfl, rfl, rfl, by decide +kernel, rfl, by decide +kernel, by decide +kernel⟩
abbrev s_order_of : Stmt := topS 54
abbrev N_order_of : List Str := ["some", "bars", "fine", "found", "left", "giving", "later", "ahead"]
theorem sc_order_of : FnScope N_order_of ["some", "bars"] (defScope s_order_of) := ⟨rfl, rfl, rfl, by decide +kernel, rfl, by decide +kernel, by decide +kernel⟩
abbrev s_parted : Stmt := topS 56
abbrev N_parted : List Str := ["here", "other", "dove", "low", "over", "stays", "goes", "about", "word"]
theorem sc_parted : FnScope N_parted ["here", "other", "dove", "low"] (defScope s_parted) := ⟨rfl, rfl, rfl, by decide +kernel, rfl, by decide +kernel, by decide +kernel⟩
abbrev s_abouts_of : Stmt := topS 57
abbrev N_abouts_of : List Str := ["heap", "about", "word"]
theorem sc_abouts_of : FnScope N_abouts_of ["heap"] (defScope s_abouts_of) := ⟨rfl, rfl, rfl, by decide +kernel, rfl, by decide +kernel, by decide +kernel⟩
abbrev s_lead_awake : Stmt := topS 58
abbrev N_lead_awake : List Str := ["pecking", "other", "lows", "dove", "low", "due", "stays", "goes"]
theorem sc_lead_awake : FnScope N_lead_awake ["pecking", "other", "lows"] (defScope s_lead_awake) := ⟨rfl, rfl, rfl, by decide +kernel, rfl, by decide +kernel, by decide +kernel⟩
abbrev s_barred_by : Stmt := topS 59
abbrev N_barred_by : List Str := ["one", "other", "asleep", "error"]
theorem sc_barred_by : FnScope N_barred_by ["one", "other", "asleep"] (defScope s_barred_by) := ⟨rfl, rfl, rfl, by decide +kernel, rfl, by decide +kernel, by decide +kernel⟩
abbrev s_between : Stmt := topS 60
abbrev N_between : List Str := ["one", "other", "asleep", "what", "order", "pecking", "lows", "some", "bars", "dove", "place", "low", "giving"]
theorem sc_between : FnScope N_between ["one", "other", "asleep"] (defScope s_between) := ⟨rfl, rfl, rfl, by decide +kernel, rfl, by decide +kernel, by decide +kernel⟩
abbrev s_law_box : Stmt := topS 62
abbrev N_law_box : List Str := ["_law_cells_here", "_law_k", "_law_cell"]
theorem sc_law_box : FnScope N_law_box ["_law_cells_here", "_law_k"] (defScope s_law_box) := ⟨rfl, rfl, rfl, by decide +kernel, rfl, by decide +kernel, by decide +kernel⟩
abbrev s_law_take : Stmt := topS 63
abbrev N_law_take : List Str := ["_law_box_here", "_law_many", "_law_blend", "_law_found"]
theorem sc_law_take : FnScope N_law_take ["_law_box_here", "_law_many"] (defScope s_law_take) := ⟨rfl, rfl, rfl, by decide +kernel, rfl, by decide +kernel, by decide +kernel⟩
abbrev s_law_cells : Stmt := topS 64
abbrev N_law_cells : List Str := ["_law_script", "_law_utmost", "_law_cells_here", "_law_k", "_law_cell"]
theorem sc_law_cells : FnScope N_law_cells ["_law_script", "_law_utmost"] (defScope s_law_cells) := ⟨rfl, rfl, rfl, by decide +kernel, rfl, by decide +kernel, by decide +kernel⟩
abbrev s_law_of : Stmt := topS 65
abbrev N_law_of : List Str := ["_law_box_here", "_law_some"]
theorem sc_law_of : FnScope N_law_of ["_law_box_here", "_law_some"] (defScope s_law_of) := ⟨rfl, rfl, rfl, by decide +kernel, rfl, by decide +kernel, by decide +kernel⟩
abbrev s_law_word : Stmt := topS 66
abbrev N_law_word : List Str := ["_law_box_here"]
theorem sc_law_word : FnScope N_law_word ["_law_box_here"] (defScope s_law_word) := ⟨rfl, rfl, rfl, by decide +kernel, rfl, by decide +kernel, by decide +kernel⟩
abbrev s_law_room : Stmt := topS 67
abbrev N_law_room : List Str := ["_law_box_here", "_law_birds", "_law_most", "_law_many", "_law_heaps", "_law_turn", "_law_bird", "_law_whom"]
theorem sc_law_room : FnScope N_law_room ["_law_box_here", "_law_birds", "_law_most"] (defScope s_law_room) := ⟨rfl, rfl, rfl, by decide +kernel, rfl, by decide +kernel, by decide +kernel⟩
abbrev s_law_peck : Stmt := topS 68
abbrev N_law_peck : List Str := ["_law_room_here", "_law_bird", "_law_heaps", "_law_whom", "_law_word_here"]
theorem sc_law_peck : FnScope N_law_peck ["_law_room_here", "_law_bird"] (defScope s_law_peck) := ⟨rfl, rfl, rfl, by decide +kernel, rfl, by decide +kernel, by decide +kernel⟩
abbrev s_law_can : Stmt := topS 69
abbrev N_law_can : List Str := ["_law_room_here", "_law_dozing", "_law_bird", "_law_heap"]
theorem sc_law_can : FnScope N_law_can ["_law_room_here", "_law_dozing"] (defScope s_law_can) := ⟨rfl, rfl, rfl, by decide +kernel, rfl, by decide +kernel, by decide +kernel⟩
abbrev s_law_behind : Stmt := topS 70
abbrev N_law_behind : List Str := ["_law_room_here", "_law_pecks", "_law_dozing", "_law_bird"]
theorem sc_law_behind : FnScope N_law_behind ["_law_room_here", "_law_pecks", "_law_dozing"] (defScope s_law_behind) := ⟨rfl, rfl, rfl, by decide +kernel, rfl, by decide +kernel, by decide +kernel⟩
abbrev s_law_held : Stmt := topS 71
abbrev N_law_held : List Str := ["_law_room_here", "_law_mine", "_law_its", "_law_whom", "_law_word_here"]
theorem sc_law_held : FnScope N_law_held ["_law_room_here", "_law_mine", "_law_its"] (defScope s_law_held) := ⟨rfl, rfl, rfl, by decide +kernel, rfl, by decide +kernel, by decide +kernel⟩
abbrev s_law_line : Stmt := topS 72
abbrev N_law_line : List Str := ["_law_room_here", "_law_mine", "_law_its"]
theorem sc_law_line : FnScope N_law_line ["_law_room_here", "_law_mine", "_law_its"] (defScope s_law_line) := ⟨rfl, rfl, rfl, by decide +kernel, rfl, by decide +kernel, by decide +kernel⟩
abbrev s_law_pairs : Stmt := topS 73
abbrev N_law_pairs : List Str := ["_law_room_here", "_law_found", "_law_mine", "_law_its"]
theorem sc_law_pairs : FnScope N_law_pairs ["_law_room_here"] (defScope s_law_pairs) := ⟨rfl, rfl, rfl, by decide +kernel, rfl, by decide +kernel, by decide +kernel⟩
abbrev s_law_lines_apart : Stmt := topS 74
abbrev N_law_lines_apart : List Str := ["_law_room_here", "_law_there", "_law_mine", "_law_its", "_law_place", "_law_words", "_law_others"]
theorem sc_law_lines_apart : FnScope N_law_lines_apart ["_law_room_here", "_law_there"] (defScope s_law_lines_apart) := ⟨rfl, rfl, rfl, by decide +kernel, rfl, by decide +kernel, by decide +kernel⟩
abbrev s_law_key : Stmt := topS 75
abbrev N_law_key : List Str := ["_law_coop", "_law_cuts", "_law_mine", "_law_its", "_law_heap", "_law_whom", "_law_word_here"]
theorem sc_law_key : FnScope N_law_key ["_law_coop"] (defScope s_law_key) := ⟨rfl, rfl, rfl, by decide +kernel, rfl, by decide +kernel, by decide +kernel⟩
abbrev s_law_right : Stmt := topS 76
abbrev N_law_right : List Str := ["_law_box_here", "_law_turn", "_law_coop", "_law_total", "_law_some", "_law_rooms", "_law_keys", "_law_told_now", "_law_k", "_law_its", "_law_there", "_law_again"]
theorem sc_law_right : FnScope N_law_right ["_law_box_here"] (defScope s_law_right) := ⟨rfl, rfl, rfl, by decide +kernel, rfl, by decide +kernel, by decide +kernel⟩
abbrev s_law : Stmt := topS 77
abbrev N_law : List Str := ["_law_script", "_law_cells_here", "_law_k"]
theorem sc_law : FnScope N_law ["_law_script"] (defScope s_law) := ⟨rfl, rfl, rfl, by decide +kernel, rfl, by decide +kernel, by decide +kernel⟩
/-- a def as it stands behind the top -/
abbrev FnT (K : PySem.W.Frag) (x qual : Str) (st : Stmt) (kws : List (Str × V)) (f : Addr) (fd : FuncData) : Prop := FunD K x qual (defArgs st) (defBody st) (defScope st) [] kws f fd
/-- what the walk leans on -/
structure Txt (K : PySem.W.Frag) (mg : Str → Option Value) (CS CP CB : Addr) : Prop where
  d_is_number : ∃ f fd, FnT K "is_number" "is_number" s_is_number [] f fd ∧ mg "is_number" = some (.ref f)
  d_as_heap : ∃ f fd, FnT K "as_heap" "as_heap" s_as_heap [] f fd ∧ mg "as_heap" = some (.ref f)
  d_as_standing : ∃ f fd, FnT K "as_standing" "as_standing" s_as_standing [] f fd ∧ mg "as_standing" = some (.ref f)
  d_is_there : ∃ f fd, FnT K "is_there" "is_there" s_is_there [] f fd ∧ mg "is_there" = some (.ref f)
  d_look_dove : ∃ f fd, FnT K "look_dove" "look_dove" s_look_dove [] f fd ∧ mg "look_dove" = some (.ref f)
  d_held : ∃ f fd, FnT K "held" "held" s_held [] f fd ∧ mg "held" = some (.ref f)
  d_grudges_in : ∃ f fd, FnT K "grudges_in" "grudges_in" s_grudges_in [] f fd ∧ mg "grudges_in" = some (.ref f)
  d_line : ∃ f fd, FnT K "line" "line" s_line [] f fd ∧ mg "line" = some (.ref f)
  d_cut : ∃ f fd, FnT K "cut" "cut" s_cut [] f fd ∧ mg "cut" = some (.ref f)
  d_pairs_of : ∃ f fd, FnT K "pairs_of" "pairs_of" s_pairs_of [] f fd ∧ mg "pairs_of" = some (.ref f)
  d_first_apart : ∃ f fd, FnT K "first_apart" "first_apart" s_first_apart [] f fd ∧ mg "first_apart" = some (.ref f)
  d_look_same : ∃ f fd, FnT K "look_same" "look_same" s_look_same [] f fd ∧ mg "look_same" = some (.ref f)
  d_first_unlike : ∃ f fd, FnT K "first_unlike" "first_unlike" s_first_unlike [] f fd ∧ mg "first_unlike" = some (.ref f)
  d_sleepers_grudges : ∃ f fd, FnT K "sleepers_grudges" "sleepers_grudges" s_sleepers_grudges [] f fd ∧ mg "sleepers_grudges" = some (.ref f)
  d_still_of : ∃ f fd, FnT K "still_of" "still_of" s_still_of [] f fd ∧ mg "still_of" = some (.ref f)
  d_still : ∃ f fd, FnT K "still" "still" s_still [] f fd ∧ mg "still" = some (.ref f)
  d_first_moved : ∃ f fd, FnT K "first_moved" "first_moved" s_first_moved [] f fd ∧ mg "first_moved" = some (.ref f)
  d_look_lines : ∃ f fd, FnT K "look_lines" "look_lines" s_look_lines [] f fd ∧ mg "look_lines" = some (.ref f)
  d_look_still : ∃ f fd, FnT K "look_still" "look_still" s_look_still [] f fd ∧ mg "look_still" = some (.ref f)
  d_rows_given : ∃ f fd, FnT K "rows_given" "rows_given" s_rows_given [] f fd ∧ mg "rows_given" = some (.ref f)
  d_rows_got : ∃ f fd, FnT K "rows_got" "rows_got" s_rows_got [] f fd ∧ mg "rows_got" = some (.ref f)
  d_waits_in : ∃ f fd, FnT K "waits_in" "waits_in" s_waits_in [] f fd ∧ mg "waits_in" = some (.ref f)
  d_givings : ∃ f fd, FnT K "givings" "givings" s_givings [] f fd ∧ mg "givings" = some (.ref f)
  d_waits : ∃ f fd, FnT K "waits" "waits" s_waits [] f fd ∧ mg "waits" = some (.ref f)
  d_look_few : ∃ f fd, FnT K "look_few" "look_few" s_look_few [] f fd ∧ mg "look_few" = some (.ref f)
  d_shuffles : ∃ f fd, FnT K "shuffles" "shuffles" s_shuffles [] f fd ∧ mg "shuffles" = some (.ref f)
  d_all_cuts : ∃ f fd, FnT K "all_cuts" "all_cuts" s_all_cuts [] f fd ∧ mg "all_cuts" = some (.ref f)
  d_Shares_init : ∃ f fd, FnT K "__init__" "Shares.__init__" s_Shares_init [] f fd ∧ Mk K CS f
  d_Shares_sizes : ∃ f fd, FnT K "sizes" "Shares.sizes" s_Shares_sizes [] f fd ∧ Meth K CS "sizes" f
  d_Shares_heaps : ∃ f fd, FnT K "heaps" "Shares.heaps" s_Shares_heaps [] f fd ∧ Meth K CS "heaps" f
  d_ways_of : ∃ f fd, FnT K "ways_of" "ways_of" s_ways_of [] f fd ∧ mg "ways_of" = some (.ref f)
  d_how_many : ∃ f fd, FnT K "how_many" "how_many" s_how_many [] f fd ∧ mg "how_many" = some (.ref f)
  d_nth_shuffle : ∃ f fd, FnT K "nth_shuffle" "nth_shuffle" s_nth_shuffle [] f fd ∧ mg "nth_shuffle" = some (.ref f)
  d_number_in : ∃ f fd, FnT K "number_in" "number_in" s_number_in [] f fd ∧ mg "number_in" = some (.ref f)
  d_rows_of : ∃ f fd, FnT K "rows_of" "rows_of" s_rows_of [] f fd ∧ mg "rows_of" = some (.ref f)
  d_nth : ∃ f fd, FnT K "nth" "nth" s_nth [] f fd ∧ mg "nth" = some (.ref f)
  d_number_of : ∃ f fd, FnT K "number_of" "number_of" s_number_of [] f fd ∧ mg "number_of" = some (.ref f)
  d_gone_over : ∃ f fd, FnT K "gone_over" "gone_over" s_gone_over [] f fd ∧ mg "gone_over" = some (.ref f)
  d_Pecking_init : ∃ f fd, FnT K "__init__" "Pecking.__init__" s_Pecking_init [] f fd ∧ Mk K CP f
  d_Pecking_peck : ∃ f fd, FnT K "peck" "Pecking.peck" s_Pecking_peck [] f fd ∧ Meth K CP "peck" f
  d_Pecking_taken_off : ∃ f fd, FnT K "taken_off" "Pecking.taken_off" s_Pecking_taken_off [] f fd ∧ Meth K CP "taken_off" f
  d_Pecking_shuffled : ∃ f fd, FnT K "shuffled" "Pecking.shuffled" s_Pecking_shuffled [] f fd ∧ Meth K CP "shuffled" f
  d_order_of : ∃ f fd, FnT K "order_of" "order_of" s_order_of [] f fd ∧ mg "order_of" = some (.ref f)
  d_parted : ∃ f fd, FnT K "parted" "parted" s_parted [] f fd ∧ mg "parted" = some (.ref f)
  d_abouts_of : ∃ f fd, FnT K "abouts_of" "abouts_of" s_abouts_of [] f fd ∧ mg "abouts_of" = some (.ref f)
  d_lead_awake : ∃ f fd, FnT K "lead_awake" "lead_awake" s_lead_awake [] f fd ∧ mg "lead_awake" = some (.ref f)
  d_barred_by : ∃ f fd, FnT K "barred_by" "barred_by" s_barred_by [] f fd ∧ mg "barred_by" = some (.ref f)
  d_between : ∃ f fd, FnT K "between" "between" s_between [] f fd ∧ mg "between" = some (.ref f)
  d_law_box : ∃ f fd, FnT K "_law_box" "_law_box" s_law_box [] f fd ∧ mg "_law_box" = some (.ref f)
  d_law_take : ∃ f fd, FnT K "_law_take" "_law_take" s_law_take [] f fd ∧ mg "_law_take" = some (.ref f)
  d_law_cells : ∃ f fd, FnT K "_law_cells" "_law_cells" s_law_cells [] f fd ∧ mg "_law_cells" = some (.ref f)
  d_law_of : ∃ f fd, FnT K "_law_of" "_law_of" s_law_of [] f fd ∧ mg "_law_of" = some (.ref f)
  d_law_word : ∃ f fd, FnT K "_law_word" "_law_word" s_law_word [] f fd ∧ mg "_law_word" = some (.ref f)
  d_law_room : ∃ f fd, FnT K "_law_room" "_law_room" s_law_room [] f fd ∧ mg "_law_room" = some (.ref f)
  d_law_peck : ∃ f fd, FnT K "_law_peck" "_law_peck" s_law_peck [] f fd ∧ mg "_law_peck" = some (.ref f)
  d_law_can : ∃ f fd, FnT K "_law_can" "_law_can" s_law_can [] f fd ∧ mg "_law_can" = some (.ref f)
  d_law_behind : ∃ f fd, FnT K "_law_behind" "_law_behind" s_law_behind [] f fd ∧ mg "_law_behind" = some (.ref f)
  d_law_held : ∃ f fd, FnT K "_law_held" "_law_held" s_law_held [] f fd ∧ mg "_law_held" = some (.ref f)
  d_law_line : ∃ f fd, FnT K "_law_line" "_law_line" s_law_line [] f fd ∧ mg "_law_line" = some (.ref f)
  d_law_pairs : ∃ f fd, FnT K "_law_pairs" "_law_pairs" s_law_pairs [] f fd ∧ mg "_law_pairs" = some (.ref f)
  d_law_lines_apart : ∃ f fd, FnT K "_law_lines_apart" "_law_lines_apart" s_law_lines_apart [] f fd ∧ mg "_law_lines_apart" = some (.ref f)
  d_law_key : ∃ f fd, FnT K "_law_key" "_law_key" s_law_key [] f fd ∧ mg "_law_key" = some (.ref f)
  d_law_right : ∃ f fd, FnT K "_law_right" "_law_right" s_law_right [] f fd ∧ mg "_law_right" = some (.ref f)
  d_law : ∃ f fd, FnT K "law" "law" s_law [] f fd ∧ mg "law" = some (.ref f)
  k_between : ∃ (e : Addr) (f : Addr) (fd : FuncData), FnT K "between" "between" s_between [("asleep", V.ref e)] f fd ∧ mg "between" = some (.ref f) ∧ ∀ H, SqT K H e []
  c_CS : mg "Shares" = some (.ref CS)
  c_CP : mg "Pecking" = some (.ref CP)
  l_CS : Cls K CS
  l_CP : Cls K CP
  n_own_standing : NoAttr K CS "own_standing"
  n_pairs : NoAttr K CS "pairs"
  n_lengths : NoAttr K CS "lengths"
  n_here : NoAttr K CP "here"
  n_so_far : NoAttr K CP "so_far"
  c_CB : mg "Barred" = some (.ref CB)
  g_MOST_GRUDGES : ∃ u, mg "MOST_GRUDGES" = some u ∧ RelV (.int 10) u
  g_ROW : ∃ u, mg "ROW" = some u ∧ RelV (.str "row") u
  g_RING : ∃ u, mg "RING" = some u ∧ RelV (.str "ring") u
  b_len : mg "len" = none
  b_sum : mg "sum" = none
  b_all : mg "all" = none
  b_tuple : mg "tuple" = none
  b_list : mg "list" = none
  b_abs : mg "abs" = none
  b_max : mg "max" = none
  b_min : mg "min" = none
  b_int : mg "int" = none
  b_bool : mg "bool" = none
  b_isinstance : mg "isinstance" = none
  b_divmod : mg "divmod" = none
  b_sorted : mg "sorted" = none
  b_set : mg "set" = none
  b_range : mg "range" = none
  b_enumerate : mg "enumerate" = none
  b_zip : mg "zip" = none
abbrev sp_is_number (K : PySem.W.Frag) : Sp := spD K R_is_number
abbrev sp_as_heap (K : PySem.W.Frag) : Sp := spD K R_as_heap
abbrev sp_as_standing (K : PySem.W.Frag) : Sp := spD K R_as_standing
abbrev sp_is_there (K : PySem.W.Frag) : Sp := spD K R_is_there
abbrev sp_look_dove (K : PySem.W.Frag) : Sp := spD K R_look_dove
abbrev sp_held (K : PySem.W.Frag) : Sp := spD K R_held
abbrev sp_grudges_in (K : PySem.W.Frag) : Sp := spD K R_grudges_in
abbrev sp_line (K : PySem.W.Frag) : Sp := spD K R_line
abbrev sp_cut (K : PySem.W.Frag) : Sp := spD K R_cut
abbrev sp_pairs_of (K : PySem.W.Frag) : Sp := spD K R_pairs_of
abbrev sp_first_apart (K : PySem.W.Frag) : Sp := spD K R_first_apart
abbrev sp_look_same (K : PySem.W.Frag) : Sp := spD K R_look_same
abbrev sp_first_unlike (K : PySem.W.Frag) : Sp := spD K R_first_unlike
abbrev sp_sleepers_grudges (K : PySem.W.Frag) : Sp := spD K R_sleepers_grudges
abbrev sp_still_of (K : PySem.W.Frag) : Sp := spD K R_still_of
abbrev sp_still (K : PySem.W.Frag) : Sp := spD K R_still
abbrev sp_first_moved (K : PySem.W.Frag) : Sp := spD K R_alk0
abbrev sp_look_lines (K : PySem.W.Frag) : Sp := spD K R_look_lines
abbrev sp_look_still (K : PySem.W.Frag) : Sp := spD K R_alk0
abbrev sp_rows_given (K : PySem.W.Frag) : Sp := spD K R_rows_given
abbrev sp_rows_got (K : PySem.W.Frag) : Sp := spD K R_rows_got
abbrev sp_waits_in (K : PySem.W.Frag) : Sp := spD K R_waits_in
abbrev sp_givings (K : PySem.W.Frag) : Sp := spD K R_alkL
abbrev sp_waits (K : PySem.W.Frag) : Sp := spD K R_alkL
abbrev sp_look_few (K : PySem.W.Frag) : Sp := spD K R_look_few
abbrev sp_shuffles (K : PySem.W.Frag) : Sp := spD K R_shuffles
abbrev sp_all_cuts (K : PySem.W.Frag) : Sp := spD K R_all_cuts
abbrev sp_Shares_init (K : PySem.W.Frag) (C : Addr) : Sp := spT K (R_Shares_init C)
abbrev sp_Shares_sizes (K : PySem.W.Frag) (C : Addr) : Sp := spD K (R_sizes C)
abbrev sp_Shares_heaps (K : PySem.W.Frag) (C : Addr) : Sp := spD K (R_heaps C)
abbrev sp_ways_of (K : PySem.W.Frag) : Sp := spD K R_ways_of
abbrev sp_how_many (K : PySem.W.Frag) : Sp := spD K R_how_many
abbrev sp_nth_shuffle (K : PySem.W.Frag) : Sp := spD K R_nth_shuffle
abbrev sp_number_in (K : PySem.W.Frag) : Sp := spD K R_number_in
abbrev sp_rows_of (K : PySem.W.Frag) : Sp := spD K R_rows_of
abbrev sp_nth (K : PySem.W.Frag) : Sp := spD K R_nth
abbrev sp_number_of (K : PySem.W.Frag) : Sp := spD K R_number_of
abbrev sp_gone_over (K : PySem.W.Frag) : Sp := spD K R_gone_over
abbrev sp_Pecking_init (K : PySem.W.Frag) (C : Addr) : Sp := spT K (R_Pecking_init C)
abbrev sp_Pecking_peck (K : PySem.W.Frag) (C : Addr) : Sp := spS K (R_peck C)
abbrev sp_Pecking_taken_off (K : PySem.W.Frag) (C : Addr) : Sp := spS K (R_taken_off C)
abbrev sp_Pecking_shuffled (K : PySem.W.Frag) (C : Addr) : Sp := spS K (R_shuffled C)
abbrev sp_order_of (K : PySem.W.Frag) : Sp := spD K R_order_of
abbrev sp_parted (K : PySem.W.Frag) : Sp := spD K R_parted
abbrev sp_abouts_of (K : PySem.W.Frag) : Sp := spD K R_abouts_of
abbrev sp_lead_awake (K : PySem.W.Frag) (C : Addr) : Sp := spS K (R_lead_awake C)
abbrev sp_barred_by (K : PySem.W.Frag) : Sp := spD K R_alk0
abbrev sp_between (K : PySem.W.Frag) : Sp := spD K R_between
abbrev sp_law_box (K : PySem.W.Frag) : Sp := spN K R_law_box
abbrev sp_law_take (K : PySem.W.Frag) : Sp := spS K R_law_take
abbrev sp_law_cells (K : PySem.W.Frag) : Sp := spS K R_law_cells
abbrev sp_law_of (K : PySem.W.Frag) : Sp := spS K R_law_of
abbrev sp_law_word (K : PySem.W.Frag) : Sp := spS K R_law_word
abbrev sp_law_room (K : PySem.W.Frag) : Sp := spS K R_law_room
abbrev sp_law_peck (K : PySem.W.Frag) : Sp := spD K R_law_peck
abbrev sp_law_can (K : PySem.W.Frag) : Sp := spD K R_law_can
abbrev sp_law_behind (K : PySem.W.Frag) : Sp := spD K R_law_behind
abbrev sp_law_held (K : PySem.W.Frag) : Sp := spD K R_law_held
abbrev sp_law_line (K : PySem.W.Frag) : Sp := spD K R_law_line
abbrev sp_law_pairs (K : PySem.W.Frag) : Sp := spD K R_law_pairs
abbrev sp_law_lines_apart (K : PySem.W.Frag) : Sp := spD K R_law_lines_apart
abbrev sp_law_key (K : PySem.W.Frag) : Sp := spD K R_law_key
abbrev sp_law_right (K : PySem.W.Frag) : Sp := spS K R_law_right
abbrev sp_law (K : PySem.W.Frag) : Sp := spS K R_law
end Gr
set_option maxHeartbeats 4000000
namespace Gr
open PySem PySem.Spec PyProof.Rows L2
def t_is_number (K : PySem.W.Frag) (CS CP : Addr) : TS :=
  (tRet (tAndV (tCB (rIsi K) (tCons (tVar 0) (tCons (tC (.ty "int")) tNil))) (tNotV (tCB (rIsi K) (tCons (tVar 0) (tCons (tC (.ty "bool")) tNil))))))
theorem c_is_number {P : Program} {w : World} {K : PySem.W.Frag} {mg : Str → Option Value} {base : Heap} {CS CP CB : Addr} (T : Txt K mg CS CP CB)
  
  (Ho : ∀ ds r, R_is_number ds r → ds.length = 1)
  (Hb : ∀ ds r, R_is_number ds r → EvS K (t_is_number K CS CP) { nx := fun _ => r = .non, rt := fun d _ => d = r } (envOf N_is_number ds)) :
  C8.Cal P w K mg base 1 "is_number" (sp_is_number K) [] := by
  obtain ⟨f, fd, FD, hm⟩ := T.d_is_number
  refine ⟨f, fd, ["thing"], [], FD.ok sc_is_number (fun vs H Q E h => len_D Ho h) (fun cdv A outer s H vs Q E hr h => ⟨t_is_number K CS CP, PSs.nox ?_, body_D Hb h⟩), hm, FD.kp, FD.bindsN fun _ _ _ _ _ _ us hl => match us, hl with | [_], _ => rfl, .nil⟩
  have nd := sc_is_number.nd
  exact (pss_one (ps_ret (pe_and (pe_callB call_isi (by rfl) T.b_isinstance (by decide +kernel) (pa_cons (pv 0) (pa_cons (pe_bltn (by rfl) T.b_int (by decide +kernel) rfl) pa_nil))) (pe_one (pe_not (pe_callB call_isi (by rfl) T.b_isinstance (by decide +kernel) (pa_cons (pv 0) (pa_cons (pe_bltn (by rfl) T.b_bool (by decide +kernel) rfl) pa_nil))))))))
def t_as_heap (K : PySem.W.Frag) (CS CP : Addr) : TS :=
  (tRet (tCB (cTuple K) (tCons (tLc (iTup K (tVar 0)) (gTup K 2 (gCons (gName 1) (gCons (gName 2) gNil))) tYes (tTup (tCons (tVar 1) (tCons (tVar 2) tNil))) [1, 2]) tNil)))
theorem c_as_heap {P : Program} {w : World} {K : PySem.W.Frag} {mg : Str → Option Value} {base : Heap} {CS CP CB : Addr} (T : Txt K mg CS CP CB)
  
  (Ho : ∀ ds r, R_as_heap ds r → ds.length = 1)
  (Hb : ∀ ds r, R_as_heap ds r → EvS K (t_as_heap K CS CP) { nx := fun _ => r = .non, rt := fun d _ => d = r } (envOf N_as_heap ds)) :
  C8.Cal P w K mg base 1 "as_heap" (sp_as_heap K) [] := by
  obtain ⟨f, fd, FD, hm⟩ := T.d_as_heap
  refine ⟨f, fd, ["heap"], [], FD.ok sc_as_heap (fun vs H Q E h => len_D Ho h) (fun cdv A outer s H vs Q E hr h => ⟨t_as_heap K CS CP, PSs.nox ?_, body_D Hb h⟩), hm, FD.kp, FD.bindsN fun _ _ _ _ _ _ us hl => match us, hl with | [_], _ => rfl, .nil⟩
  have nd := sc_as_heap.nd
  exact (pss_one (ps_ret (pe_callTy call_tuple_of (by rfl) T.b_tuple (by decide +kernel) (pa_cons (pe_lc (own := [("about", 1), ("word", 2)]) rfl nd (pi_tup (pv 0)) (blkOk_by (N := N_as_heap) (sc := (defScope s_as_heap)) (by decide +kernel)) (fun _ _ _ _ _ => (pg_tup rfl (pgs_cons (pg_nm 1 nd) (pgs_cons (pg_nm 2 nd) pgs_nil)))) (fun _ _ _ _ _ => pts_nil) (fun _ _ _ _ _ => (pe_tup (pa_cons (pv 1) (pa_cons (pv 2) pa_nil))))) pa_nil))))
def t_as_standing (K : PySem.W.Frag) (CS CP : Addr) : TS :=
  (tRet (tCB (cTuple K) (tCons (tLc (iTup K (tVar 0)) (gName 1) tYes (tCall (sp_as_heap K) [] C8.E0 (tCons (tVar 1) tNil)) [1]) tNil)))
theorem c_as_standing {P : Program} {w : World} {K : PySem.W.Frag} {mg : Str → Option Value} {base : Heap} {CS CP CB : Addr} (T : Txt K mg CS CP CB)
  (c_as_heap : C8.Cal P w K mg base 1 "as_heap" (sp_as_heap K) [])
  (Ho : ∀ ds r, R_as_standing ds r → ds.length = 1)
  (Hb : ∀ ds r, R_as_standing ds r → EvS K (t_as_standing K CS CP) { nx := fun _ => r = .non, rt := fun d _ => d = r } (envOf N_as_standing ds)) :
  C8.Cal P w K mg base 2 "as_standing" (sp_as_standing K) [] := by
  obtain ⟨f, fd, FD, hm⟩ := T.d_as_standing
  refine ⟨f, fd, ["standing"], [], FD.ok sc_as_standing (fun vs H Q E h => len_D Ho h) (fun cdv A outer s H vs Q E hr h => ⟨t_as_standing K CS CP, PSs.nox ?_, body_D Hb h⟩), hm, FD.kp, FD.bindsN fun _ _ _ _ _ _ us hl => match us, hl with | [_], _ => rfl, .nil⟩
  have nd := sc_as_standing.nd
  exact (pss_one (ps_ret (pe_callTy call_tuple_of (by rfl) T.b_tuple (by decide +kernel) (pa_cons (pe_lc (own := [("heap", 1)]) rfl nd (pi_tup (pv 0)) (blkOk_by (N := N_as_standing) (sc := (defScope s_as_standing)) (by decide +kernel)) (fun _ _ _ _ _ => (pg_nm 1 nd)) (fun _ _ _ _ _ => pts_nil) (fun _ _ _ _ _ => (C8.pe_c c_as_heap hr (by decide) (by rfl) (pa_cons (pv 1) pa_nil)))) pa_nil))))
def t_is_there (K : PySem.W.Frag) (CS CP : Addr) : TS :=
  (tRet (tAndV (tCall (sp_is_number K) [] C8.E0 (tCons (tVar 1) tNil)) (tChain (rI0 fun i j => .bl (decide (i ≤ j))) (rI0 fun i j => .bl (decide (i < j))) (tC (.int 0)) (tVar 1) (tCB (cLen K) (tCons (tVar 0) tNil)))))
theorem c_is_there {P : Program} {w : World} {K : PySem.W.Frag} {mg : Str → Option Value} {base : Heap} {CS CP CB : Addr} (T : Txt K mg CS CP CB)
  (c_is_number : C8.Cal P w K mg base 1 "is_number" (sp_is_number K) [])
  (Ho : ∀ ds r, R_is_there ds r → ds.length = 2)
  (Hb : ∀ ds r, R_is_there ds r → EvS K (t_is_there K CS CP) { nx := fun _ => r = .non, rt := fun d _ => d = r } (envOf N_is_there ds)) :
  C8.Cal P w K mg base 2 "is_there" (sp_is_there K) [] := by
  obtain ⟨f, fd, FD, hm⟩ := T.d_is_there
  refine ⟨f, fd, ["standing", "dove"], [], FD.ok sc_is_there (fun vs H Q E h => len_D Ho h) (fun cdv A outer s H vs Q E hr h => ⟨t_is_there K CS CP, PSs.nox ?_, body_D Hb h⟩), hm, FD.kp, FD.bindsN fun _ _ _ _ _ _ us hl => match us, hl with | [_, _], _ => rfl, .nil⟩
  have nd := sc_is_there.nd
  exact (pss_one (ps_ret (pe_and (C8.pe_c c_is_number hr (by decide) (by rfl) (pa_cons (pv 1) pa_nil)) (pe_one (pe_chain op_le op_lt pe_int (pv 1) (pe_callB call_len_seq (by rfl) T.b_len PySem.boot_len (pa_cons (pv 0) pa_nil)))))))
def t_look_dove (K : PySem.W.Frag) (CS CP : Addr) : TS :=
  (tIfS (tNot (tB (tCall (sp_is_there K) [] C8.E0 (tCons (tVar 0) (tCons (tVar 1) tNil))))) tNever tNext)
theorem c_look_dove {P : Program} {w : World} {K : PySem.W.Frag} {mg : Str → Option Value} {base : Heap} {CS CP CB : Addr} (T : Txt K mg CS CP CB)
  (c_is_there : C8.Cal P w K mg base 2 "is_there" (sp_is_there K) [])
  (Ho : ∀ ds r, R_look_dove ds r → ds.length = 2)
  (Hb : ∀ ds r, R_look_dove ds r → EvS K (t_look_dove K CS CP) { nx := fun _ => r = .non, rt := fun d _ => d = r } (envOf N_look_dove ds)) :
  C8.Cal P w K mg base 3 "look_dove" (sp_look_dove K) [] := by
  obtain ⟨f, fd, FD, hm⟩ := T.d_look_dove
  refine ⟨f, fd, ["standing", "dove"], [], FD.ok sc_look_dove (fun vs H Q E h => len_D Ho h) (fun cdv A outer s H vs Q E hr h => ⟨t_look_dove K CS CP, PSs.nox ?_, body_D Hb h⟩), hm, FD.kp, FD.bindsN fun _ _ _ _ _ _ us hl => match us, hl with | [_, _], _ => rfl, .nil⟩
  have nd := sc_look_dove.nd
  exact (pss_one (ps_if (pt_not (pt_val (C8.pe_c c_is_there hr (by decide) (by rfl) (pa_cons (pv 0) (pa_cons (pv 1) pa_nil))))) (pss_one ps_never) pss_nil))
def t_held (K : PySem.W.Frag) (CS CP : Addr) : TS :=
  (tSeq (tDrop (tCall (sp_look_dove K) [] C8.E0 (tCons (tVar 0) (tCons (tVar 1) tNil))))
  (tSeq (tDrop (tCall (sp_look_dove K) [] C8.E0 (tCons (tVar 0) (tCons (tVar 2) tNil))))
  (tRet (tCB (cTuple K) (tCons (tLc (iTup K (tOp (rIxT K) (tVar 0) (tVar 1))) (gTup K 2 (gCons (gName 3) (gCons (gName 4) gNil))) (tTest (tOp rEq (tVar 3) (tVar 2))) (tVar 4) [3, 4]) tNil)))))
theorem c_held {P : Program} {w : World} {K : PySem.W.Frag} {mg : Str → Option Value} {base : Heap} {CS CP CB : Addr} (T : Txt K mg CS CP CB)
  (c_look_dove : C8.Cal P w K mg base 3 "look_dove" (sp_look_dove K) [])
  (Ho : ∀ ds r, R_held ds r → ds.length = 3)
  (Hb : ∀ ds r, R_held ds r → EvS K (t_held K CS CP) { nx := fun _ => r = .non, rt := fun d _ => d = r } (envOf N_held ds)) :
  C8.Cal P w K mg base 4 "held" (sp_held K) [] := by
  obtain ⟨f, fd, FD, hm⟩ := T.d_held
  refine ⟨f, fd, ["standing", "dove", "about"], [], FD.ok sc_held (fun vs H Q E h => len_D Ho h) (fun cdv A outer s H vs Q E hr h => ⟨t_held K CS CP, PSs.nox ?_, body_D Hb h⟩), hm, FD.kp, FD.bindsN fun _ _ _ _ _ _ us hl => match us, hl with | [_, _, _], _ => rfl, .nil⟩
  have nd := sc_held.nd
  exact (pss_cons (ps_expr (C8.pe_c c_look_dove hr (by decide) (by rfl) (pa_cons (pv 0) (pa_cons (pv 1) pa_nil))))
  (pss_cons (ps_expr (C8.pe_c c_look_dove hr (by decide) (by rfl) (pa_cons (pv 0) (pa_cons (pv 2) pa_nil))))
  (pss_one (ps_ret (pe_callTy call_tuple_of (by rfl) T.b_tuple (by decide +kernel) (pa_cons (pe_lc (own := [("its", 3), ("word", 4)]) rfl nd (pi_tup (pe_ix ix_tup (pv 0) (pv 1) (fun _ _ => rfl))) (blkOk_by (N := N_held) (sc := (defScope s_held)) (by decide +kernel)) (fun _ _ _ _ _ => (pg_tup rfl (pgs_cons (pg_nm 3 nd) (pgs_cons (pg_nm 4 nd) pgs_nil)))) (fun _ _ _ _ _ => (pts_one (pt_cmpR op_eq (pv 3) (pv 2) (nomark _)))) (fun _ _ _ _ _ => (pv 4))) pa_nil))))))
def t_grudges_in (K : PySem.W.Frag) (CS CP : Addr) : TS :=
  (tRet (tCB (rSum K) (tCons (tLc (iTup K (tVar 0)) (gName 1) tYes (tCB (cLen K) (tCons (tVar 1) tNil)) [1]) tNil)))
theorem c_grudges_in {P : Program} {w : World} {K : PySem.W.Frag} {mg : Str → Option Value} {base : Heap} {CS CP CB : Addr} (T : Txt K mg CS CP CB)
  
  (Ho : ∀ ds r, R_grudges_in ds r → ds.length = 1)
  (Hb : ∀ ds r, R_grudges_in ds r → EvS K (t_grudges_in K CS CP) { nx := fun _ => r = .non, rt := fun d _ => d = r } (envOf N_grudges_in ds)) :
  C8.Cal P w K mg base 1 "grudges_in" (sp_grudges_in K) [] := by
  obtain ⟨f, fd, FD, hm⟩ := T.d_grudges_in
  refine ⟨f, fd, ["standing"], [], FD.ok sc_grudges_in (fun vs H Q E h => len_D Ho h) (fun cdv A outer s H vs Q E hr h => ⟨t_grudges_in K CS CP, PSs.nox ?_, body_D Hb h⟩), hm, FD.kp, FD.bindsN fun _ _ _ _ _ _ us hl => match us, hl with | [_], _ => rfl, .nil⟩
  have nd := sc_grudges_in.nd
  exact (pss_one (ps_ret (pe_callB (cr_sum rfl) (by rfl) T.b_sum (by decide +kernel) (pa_cons (pe_lc (own := [("heap", 1)]) rfl nd (pi_tup (pv 0)) (blkOk_by (N := N_grudges_in) (sc := (defScope s_grudges_in)) (by decide +kernel)) (fun _ _ _ _ _ => (pg_nm 1 nd)) (fun _ _ _ _ _ => pts_nil) (fun _ _ _ _ _ => (pe_callB call_len_seq (by rfl) T.b_len PySem.boot_len (pa_cons (pv 1) pa_nil)))) pa_nil))))
def t_line (K : PySem.W.Frag) (CS CP : Addr) : TS :=
  (tRet (tOp (rCatA K) (tCall (sp_held K) [] C8.E0 (tCons (tVar 0) (tCons (tVar 1) (tCons (tVar 2) tNil)))) (tRevT K (tCall (sp_held K) [] C8.E0 (tCons (tVar 0) (tCons (tVar 2) (tCons (tVar 1) tNil)))))))
theorem c_line {P : Program} {w : World} {K : PySem.W.Frag} {mg : Str → Option Value} {base : Heap} {CS CP CB : Addr} (T : Txt K mg CS CP CB)
  (c_held : C8.Cal P w K mg base 4 "held" (sp_held K) [])
  (Ho : ∀ ds r, R_line ds r → ds.length = 3)
  (Hb : ∀ ds r, R_line ds r → EvS K (t_line K CS CP) { nx := fun _ => r = .non, rt := fun d _ => d = r } (envOf N_line ds)) :
  C8.Cal P w K mg base 5 "line" (sp_line K) [] := by
  obtain ⟨f, fd, FD, hm⟩ := T.d_line
  refine ⟨f, fd, ["standing", "one", "other"], [], FD.ok sc_line (fun vs H Q E h => len_D Ho h) (fun cdv A outer s H vs Q E hr h => ⟨t_line K CS CP, PSs.nox ?_, body_D Hb h⟩), hm, FD.kp, FD.bindsN fun _ _ _ _ _ _ us hl => match us, hl with | [_, _, _], _ => rfl, .nil⟩
  have nd := sc_line.nd
  exact (pss_one (ps_ret (pe_op op_catA (C8.pe_c c_held hr (by decide) (by rfl) (pa_cons (pv 0) (pa_cons (pv 1) (pa_cons (pv 2) pa_nil)))) (pe_revT (C8.pe_c c_held hr (by decide) (by rfl) (pa_cons (pv 0) (pa_cons (pv 2) (pa_cons (pv 1) pa_nil))))))))
def t_cut (K : PySem.W.Frag) (CS CP : Addr) : TS :=
  (tRet (tCB (cLen K) (tCons (tCall (sp_held K) [] C8.E0 (tCons (tVar 0) (tCons (tVar 1) (tCons (tVar 2) tNil)))) tNil)))
theorem c_cut {P : Program} {w : World} {K : PySem.W.Frag} {mg : Str → Option Value} {base : Heap} {CS CP CB : Addr} (T : Txt K mg CS CP CB)
  (c_held : C8.Cal P w K mg base 4 "held" (sp_held K) [])
  (Ho : ∀ ds r, R_cut ds r → ds.length = 3)
  (Hb : ∀ ds r, R_cut ds r → EvS K (t_cut K CS CP) { nx := fun _ => r = .non, rt := fun d _ => d = r } (envOf N_cut ds)) :
  C8.Cal P w K mg base 5 "cut" (sp_cut K) [] := by
  obtain ⟨f, fd, FD, hm⟩ := T.d_cut
  refine ⟨f, fd, ["standing", "one", "other"], [], FD.ok sc_cut (fun vs H Q E h => len_D Ho h) (fun cdv A outer s H vs Q E hr h => ⟨t_cut K CS CP, PSs.nox ?_, body_D Hb h⟩), hm, FD.kp, FD.bindsN fun _ _ _ _ _ _ us hl => match us, hl with | [_, _, _], _ => rfl, .nil⟩
  have nd := sc_cut.nd
  exact (pss_one (ps_ret (pe_callB call_len_seq (by rfl) T.b_len PySem.boot_len (pa_cons (C8.pe_c c_held hr (by decide) (by rfl) (pa_cons (pv 0) (pa_cons (pv 1) (pa_cons (pv 2) pa_nil)))) pa_nil))))
def t_pairs_of (K : PySem.W.Frag) (CS CP : Addr) : TS :=
  (tSeq (tAsg (tCB (cLen K) (tCons (tVar 0) tNil)) (gName 1))
  (tRet (tLc2 (iRng1 (tCons (tVar 1) tNil)) (gName 2) tYes (iRng2 (tCons (tOp (rI0 fun i j => .int (i + j)) (tVar 2) (tC (.int 1))) (tCons (tVar 1) tNil))) (gName 3) tYes (tTup (tCons (tVar 2) (tCons (tVar 3) tNil))) [2, 3] [3])))
theorem c_pairs_of {P : Program} {w : World} {K : PySem.W.Frag} {mg : Str → Option Value} {base : Heap} {CS CP CB : Addr} (T : Txt K mg CS CP CB)
  
  (Ho : ∀ ds r, R_pairs_of ds r → ds.length = 1)
  (Hb : ∀ ds r, R_pairs_of ds r → EvS K (t_pairs_of K CS CP) { nx := fun _ => r = .non, rt := fun d _ => d = r } (envOf N_pairs_of ds)) :
  C8.Cal P w K mg base 1 "pairs_of" (sp_pairs_of K) [] := by
  obtain ⟨f, fd, FD, hm⟩ := T.d_pairs_of
  refine ⟨f, fd, ["standing"], [], FD.ok sc_pairs_of (fun vs H Q E h => len_D Ho h) (fun cdv A outer s H vs Q E hr h => ⟨t_pairs_of K CS CP, PSs.nox ?_, body_D Hb h⟩), hm, FD.kp, FD.bindsN fun _ _ _ _ _ _ us hl => match us, hl with | [_], _ => rfl, .nil⟩
  have nd := sc_pairs_of.nd
  exact (pss_cons (ps_st 1 nd (pe_callB call_len_seq (by rfl) T.b_len PySem.boot_len (pa_cons (pv 0) pa_nil)))
  (pss_one (ps_ret (pe_lc2 (own := [("one", 2), ("other", 3)]) (vs1 := [3]) rfl nd (pi_range1 (by rfl) T.b_range (pa_cons (pv 1) pa_nil)) (blkOk_by (N := N_pairs_of) (sc := (defScope s_pairs_of)) (by decide +kernel)) (by decide) (fun _ _ _ _ _ => (pg_nm 2 nd)) (fun _ _ _ _ _ => pts_nil) (fun _ _ _ _ _ => (pi_range2 (by rfl) T.b_range (pa_cons (pe_op op_add (pv 2) pe_int) (pa_cons (pv 1) pa_nil)))) (fun _ _ _ _ _ => (pg_nm 3 nd)) (fun _ _ _ _ _ => pts_nil) (fun _ _ _ _ _ => (pe_tup (pa_cons (pv 2) (pa_cons (pv 3) pa_nil))))))))
def t_look_same (K : PySem.W.Frag) (CS CP : Addr) : TS :=
  (tIfS (tTest (tOp rNe (tCB (cLen K) (tCons (tVar 0) tNil)) (tCB (cLen K) (tCons (tVar 1) tNil)))) tNever tNext)
theorem c_look_same {P : Program} {w : World} {K : PySem.W.Frag} {mg : Str → Option Value} {base : Heap} {CS CP CB : Addr} (T : Txt K mg CS CP CB)
  
  (Ho : ∀ ds r, R_look_same ds r → ds.length = 2)
  (Hb : ∀ ds r, R_look_same ds r → EvS K (t_look_same K CS CP) { nx := fun _ => r = .non, rt := fun d _ => d = r } (envOf N_look_same ds)) :
  C8.Cal P w K mg base 1 "look_same" (sp_look_same K) [] := by
  obtain ⟨f, fd, FD, hm⟩ := T.d_look_same
  refine ⟨f, fd, ["one", "other"], [], FD.ok sc_look_same (fun vs H Q E h => len_D Ho h) (fun cdv A outer s H vs Q E hr h => ⟨t_look_same K CS CP, PSs.nox ?_, body_D Hb h⟩), hm, FD.kp, FD.bindsN fun _ _ _ _ _ _ us hl => match us, hl with | [_, _], _ => rfl, .nil⟩
  have nd := sc_look_same.nd
  exact (pss_one (ps_if (pt_cmpR op_ne (pe_callB call_len_seq (by rfl) T.b_len PySem.boot_len (pa_cons (pv 0) pa_nil)) (pe_callB call_len_seq (by rfl) T.b_len PySem.boot_len (pa_cons (pv 1) pa_nil)) (nomark _)) (pss_one ps_never) pss_nil))
end Gr
set_option maxHeartbeats 4000000
namespace Gr
open PySem PySem.Spec PyProof.Rows L2
def t_first_apart (K : PySem.W.Frag) (CS CP : Addr) : TS :=
  (tSeq (tFor (iEnumZip K (tCons (tVar 0) (tCons (tVar 1) tNil))) (gTup K 2 (gCons (gName 2) (gCons (gTup K 2 (gCons (gName 3) (gCons (gName 4) gNil))) gNil))) (tIfS (tTest (tOp rNe (tVar 3) (tVar 4))) (tRet (tVar 2)) tNext))
  (tRet (tIf (tTest (tOp rEq (tCB (cLen K) (tCons (tVar 0) tNil)) (tCB (cLen K) (tCons (tVar 1) tNil)))) (tC .non) (tCB cMin2 (tCons (tCB (cLen K) (tCons (tVar 0) tNil)) (tCons (tCB (cLen K) (tCons (tVar 1) tNil)) tNil))))))
theorem c_first_apart {P : Program} {w : World} {K : PySem.W.Frag} {mg : Str → Option Value} {base : Heap} {CS CP CB : Addr} (T : Txt K mg CS CP CB)
  
  (Ho : ∀ ds r, R_first_apart ds r → ds.length = 2)
  (Hb : ∀ ds r, R_first_apart ds r → EvS K (t_first_apart K CS CP) { nx := fun _ => r = .non, rt := fun d _ => d = r } (envOf N_first_apart ds)) :
  C8.Cal P w K mg base 1 "first_apart" (sp_first_apart K) [] := by
  obtain ⟨f, fd, FD, hm⟩ := T.d_first_apart
  refine ⟨f, fd, ["words", "others"], [], FD.ok sc_first_apart (fun vs H Q E h => len_D Ho h) (fun cdv A outer s H vs Q E hr h => ⟨t_first_apart K CS CP, PSs.nox ?_, body_D Hb h⟩), hm, FD.kp, FD.bindsN fun _ _ _ _ _ _ us hl => match us, hl with | [_, _], _ => rfl, .nil⟩
  have nd := sc_first_apart.nd
  exact (pss_cons (ps_for PassesOwn.never rfl (pi_enumZip (by rfl) T.b_enumerate (by rfl) T.b_zip (pa_cons (pv 0) (pa_cons (pv 1) pa_nil))) (pg_tup rfl (pgs_cons (pg_nm 2 nd) (pgs_cons (pg_tup rfl (pgs_cons (pg_nm 3 nd) (pgs_cons (pg_nm 4 nd) pgs_nil))) pgs_nil))) (pss_one (ps_if (pt_cmpR op_ne (pv 3) (pv 4) (nomark _)) (pss_one (ps_ret (pv 2))) pss_nil)))
  (pss_one (ps_ret (pe_ifExp (pt_cmpR op_eq (pe_callB call_len_seq (by rfl) T.b_len PySem.boot_len (pa_cons (pv 0) pa_nil)) (pe_callB call_len_seq (by rfl) T.b_len PySem.boot_len (pa_cons (pv 1) pa_nil)) (nomark _)) pe_non (pe_callB (call_min2 rfl) (by rfl) T.b_min (by decide +kernel) (pa_cons (pe_callB call_len_seq (by rfl) T.b_len PySem.boot_len (pa_cons (pv 0) pa_nil)) (pa_cons (pe_callB call_len_seq (by rfl) T.b_len PySem.boot_len (pa_cons (pv 1) pa_nil)) pa_nil)))))))
def t_first_unlike (K : PySem.W.Frag) (CS CP : Addr) : TS :=
  (tSeq (tDrop (tCall (sp_look_same K) [] C8.E0 (tCons (tVar 0) (tCons (tVar 1) tNil))))
  (tSeq (tFor (iList K (tCall (sp_pairs_of K) [] C8.E0 (tCons (tVar 0) tNil))) (gTup K 2 (gCons (gName 2) (gCons (gName 3) gNil))) (tSeq (tAsg (tCall (sp_first_apart K) [] C8.E0 (tCons (tCall (sp_line K) [] C8.E0 (tCons (tVar 0) (tCons (tVar 2) (tCons (tVar 3) tNil)))) (tCons (tCall (sp_line K) [] C8.E0 (tCons (tVar 1) (tCons (tVar 2) (tCons (tVar 3) tNil)))) tNil))) (gName 4))
  (tIfS (tTest (tOp rNotN (tVar 4) (tC .non))) (tRet (tTup (tCons (tVar 2) (tCons (tVar 3) (tCons (tVar 4) tNil))))) tNext)))
  (tRet (tC .non))))
theorem c_first_unlike {P : Program} {w : World} {K : PySem.W.Frag} {mg : Str → Option Value} {base : Heap} {CS CP CB : Addr} (T : Txt K mg CS CP CB)
  (c_first_apart : C8.Cal P w K mg base 1 "first_apart" (sp_first_apart K) [])
  (c_line : C8.Cal P w K mg base 5 "line" (sp_line K) [])
  (c_look_same : C8.Cal P w K mg base 1 "look_same" (sp_look_same K) [])
  (c_pairs_of : C8.Cal P w K mg base 1 "pairs_of" (sp_pairs_of K) [])
  (Ho : ∀ ds r, R_first_unlike ds r → ds.length = 2)
  (Hb : ∀ ds r, R_first_unlike ds r → EvS K (t_first_unlike K CS CP) { nx := fun _ => r = .non, rt := fun d _ => d = r } (envOf N_first_unlike ds)) :
  C8.Cal P w K mg base 6 "first_unlike" (sp_first_unlike K) [] := by
  obtain ⟨f, fd, FD, hm⟩ := T.d_first_unlike
  refine ⟨f, fd, ["one", "other"], [], FD.ok sc_first_unlike (fun vs H Q E h => len_D Ho h) (fun cdv A outer s H vs Q E hr h => ⟨t_first_unlike K CS CP, PSs.nox ?_, body_D Hb h⟩), hm, FD.kp, FD.bindsN fun _ _ _ _ _ _ us hl => match us, hl with | [_, _], _ => rfl, .nil⟩
  have nd := sc_first_unlike.nd
  exact (pss_cons (ps_expr (C8.pe_c c_look_same hr (by decide) (by rfl) (pa_cons (pv 0) (pa_cons (pv 1) pa_nil))))
  (pss_cons (ps_for PassesOwn.never rfl (pi_list (C8.pe_c c_pairs_of hr (by decide) (by rfl) (pa_cons (pv 0) pa_nil))) (pg_tup rfl (pgs_cons (pg_nm 2 nd) (pgs_cons (pg_nm 3 nd) pgs_nil))) (pss_cons (ps_st 4 nd (C8.pe_c c_first_apart hr (by decide) (by rfl) (pa_cons (C8.pe_c c_line hr (by decide) (by rfl) (pa_cons (pv 0) (pa_cons (pv 2) (pa_cons (pv 3) pa_nil)))) (pa_cons (C8.pe_c c_line hr (by decide) (by rfl) (pa_cons (pv 1) (pa_cons (pv 2) (pa_cons (pv 3) pa_nil)))) pa_nil))))
  (pss_one (ps_if (pt_cmpR op_notN (pv 4) pe_non (nomark _)) (pss_one (ps_ret (pe_tup (pa_cons (pv 2) (pa_cons (pv 3) (pa_cons (pv 4) pa_nil)))))) pss_nil))))
  (pss_one (ps_ret pe_non))))
def t_sleepers_grudges (K : PySem.W.Frag) (CS CP : Addr) : TS :=
  (tRet (tLc (iEnumT K (tCons (tVar 0) tNil)) (gTup K 2 (gCons (gName 2) (gCons (gTup K 2 (gCons (gName 3) (gCons (gName 4) gNil))) gNil))) (tTest (tOp (rIn K false) (tVar 3) (tVar 1))) (tVar 2) [2, 3, 4]))
theorem c_sleepers_grudges {P : Program} {w : World} {K : PySem.W.Frag} {mg : Str → Option Value} {base : Heap} {CS CP CB : Addr} (T : Txt K mg CS CP CB)
  
  (Ho : ∀ ds r, R_sleepers_grudges ds r → ds.length = 2)
  (Hb : ∀ ds r, R_sleepers_grudges ds r → EvS K (t_sleepers_grudges K CS CP) { nx := fun _ => r = .non, rt := fun d _ => d = r } (envOf N_sleepers_grudges ds)) :
  C8.Cal P w K mg base 1 "sleepers_grudges" (sp_sleepers_grudges K) [] := by
  obtain ⟨f, fd, FD, hm⟩ := T.d_sleepers_grudges
  refine ⟨f, fd, ["heap", "asleep"], [], FD.ok sc_sleepers_grudges (fun vs H Q E h => len_D Ho h) (fun cdv A outer s H vs Q E hr h => ⟨t_sleepers_grudges K CS CP, PSs.nox ?_, body_D Hb h⟩), hm, FD.kp, FD.bindsN fun _ _ _ _ _ _ us hl => match us, hl with | [_, _], _ => rfl, .nil⟩
  have nd := sc_sleepers_grudges.nd
  exact (pss_one (ps_ret (pe_lc (own := [("place", 2), ("about", 3), ("word", 4)]) rfl nd (pi_enumT (by rfl) T.b_enumerate (pa_cons (pv 0) pa_nil)) (blkOk_by (N := N_sleepers_grudges) (sc := (defScope s_sleepers_grudges)) (by decide +kernel)) (fun _ _ _ _ _ => (pg_tup rfl (pgs_cons (pg_nm 2 nd) (pgs_cons (pg_tup rfl (pgs_cons (pg_nm 3 nd) (pgs_cons (pg_nm 4 nd) pgs_nil))) pgs_nil)))) (fun _ _ _ _ _ => (pts_one (pt_cmpR op_in_seq (pv 3) (pv 1) (by with_unfolding_all rfl)))) (fun _ _ _ _ _ => (pv 2)))))
def t_still_of (K : PySem.W.Frag) (CS CP : Addr) : TS :=
  (tSeq (tIfS (tTest (tOp (rIn K false) (tVar 2) (tVar 3))) (tRet (tCB (cLen K) (tCons (tOp (rIxT K) (tVar 0) (tVar 2)) tNil))) tNext)
  (tSeq (tAsg (tCB (cLen K) (tCons (tCall (sp_sleepers_grudges K) [] C8.E0 (tCons (tOp (rIxT K) (tVar 1) (tVar 2)) (tCons (tVar 3) tNil))) tNil)) (gName 4))
  (tSeq (tAsg (tSl (rSlL K) (tCall (sp_sleepers_grudges K) [] C8.E0 (tCons (tOp (rIxT K) (tVar 0) (tVar 2)) (tCons (tVar 3) tNil))) tNoPart (tPart (tVar 4))) (gName 5))
  (tRet (tIf (tTest (tOp (rI0 fun i j => .bl (decide (j < i))) (tCB (cLen K) (tCons (tVar 5) tNil)) (tC (.int 0)))) (tOp (rI0 fun i j => .int (i + j)) (tOp (rIxL K) (tVar 5) (tUn (rU fun i => .int (-i)) (tC (.int 1)))) (tC (.int 1))) (tC (.int 0)))))))
theorem c_still_of {P : Program} {w : World} {K : PySem.W.Frag} {mg : Str → Option Value} {base : Heap} {CS CP CB : Addr} (T : Txt K mg CS CP CB)
  (c_sleepers_grudges : C8.Cal P w K mg base 1 "sleepers_grudges" (sp_sleepers_grudges K) [])
  (Ho : ∀ ds r, R_still_of ds r → ds.length = 4)
  (Hb : ∀ ds r, R_still_of ds r → EvS K (t_still_of K CS CP) { nx := fun _ => r = .non, rt := fun d _ => d = r } (envOf N_still_of ds)) :
  C8.Cal P w K mg base 2 "still_of" (sp_still_of K) [] := by
  obtain ⟨f, fd, FD, hm⟩ := T.d_still_of
  refine ⟨f, fd, ["one", "other", "dove", "asleep"], [], FD.ok sc_still_of (fun vs H Q E h => len_D Ho h) (fun cdv A outer s H vs Q E hr h => ⟨t_still_of K CS CP, PSs.nox ?_, body_D Hb h⟩), hm, FD.kp, FD.bindsN fun _ _ _ _ _ _ us hl => match us, hl with | [_, _, _, _], _ => rfl, .nil⟩
  have nd := sc_still_of.nd
  exact (pss_cons (ps_if (pt_cmpR op_in_seq (pv 2) (pv 3) (by with_unfolding_all rfl)) (pss_one (ps_ret (pe_callB call_len_seq (by rfl) T.b_len PySem.boot_len (pa_cons (pe_ix ix_tup (pv 0) (pv 2) (fun _ _ => rfl)) pa_nil)))) pss_nil)
  (pss_cons (ps_st 4 nd (pe_callB call_len_seq (by rfl) T.b_len PySem.boot_len (pa_cons (C8.pe_c c_sleepers_grudges hr (by decide) (by rfl) (pa_cons (pe_ix ix_tup (pv 1) (pv 2) (fun _ _ => rfl)) (pa_cons (pv 3) pa_nil))) pa_nil)))
  (pss_cons (ps_st 5 nd (pe_slice sl_list (C8.pe_c c_sleepers_grudges hr (by decide) (by rfl) (pa_cons (pe_ix ix_tup (pv 0) (pv 2) (fun _ _ => rfl)) (pa_cons (pv 3) pa_nil))) po_none (po_some (pv 4))))
  (pss_one (ps_ret (pe_ifExp (pt_cmpR op_gt (pe_callB call_len_seq (by rfl) T.b_len PySem.boot_len (pa_cons (pv 5) pa_nil)) pe_int (nomark _)) (pe_op op_add (pe_ix ix_list (pv 5) (pe_un un_neg pe_int) (fun _ _ => rfl)) pe_int) pe_int))))))
def t_still (K : PySem.W.Frag) (CS CP : Addr) : TS :=
  (tSeq (tDrop (tCall (sp_look_same K) [] C8.E0 (tCons (tVar 0) (tCons (tVar 1) tNil))))
  (tRet (tCB (cTuple K) (tCons (tLc (iRng1 (tCons (tCB (cLen K) (tCons (tVar 0) tNil)) tNil)) (gName 3) tYes (tCall (sp_still_of K) [] C8.E0 (tCons (tVar 0) (tCons (tVar 1) (tCons (tVar 3) (tCons (tVar 2) tNil))))) [3]) tNil))))
theorem c_still {P : Program} {w : World} {K : PySem.W.Frag} {mg : Str → Option Value} {base : Heap} {CS CP CB : Addr} (T : Txt K mg CS CP CB)
  (c_look_same : C8.Cal P w K mg base 1 "look_same" (sp_look_same K) [])
  (c_still_of : C8.Cal P w K mg base 2 "still_of" (sp_still_of K) [])
  (Ho : ∀ ds r, R_still ds r → ds.length = 3)
  (Hb : ∀ ds r, R_still ds r → EvS K (t_still K CS CP) { nx := fun _ => r = .non, rt := fun d _ => d = r } (envOf N_still ds)) :
  CalN P w K mg base 3 "still" 2 ["asleep"] (sp_still K) := by
  obtain ⟨f, fd, FD, hm⟩ := T.d_still
  refine ⟨f, fd, ["one", "other", "asleep"], _, FD.ok sc_still (fun vs H Q E h => len_D Ho h) (fun cdv A outer s H vs Q E hr h => ⟨t_still K CS CP, PSs.nox ?_, body_D Hb h⟩), hm, FD.kp, kb_of FD fun _ _ _ _ _ _ us ws h1 h2 => match us, ws, h1, h2 with | [_, _], [_], _, _ => rfl⟩
  have nd := sc_still.nd
  exact (pss_cons (ps_expr (C8.pe_c c_look_same hr (by decide) (by rfl) (pa_cons (pv 0) (pa_cons (pv 1) pa_nil))))
  (pss_one (ps_ret (pe_callTy call_tuple_of (by rfl) T.b_tuple (by decide +kernel) (pa_cons (pe_lc (own := [("dove", 3)]) rfl nd (pi_range1 (by rfl) T.b_range (pa_cons (pe_callB call_len_seq (by rfl) T.b_len PySem.boot_len (pa_cons (pv 0) pa_nil)) pa_nil)) (blkOk_by (N := N_still) (sc := (defScope s_still)) (by decide +kernel)) (fun _ _ _ _ _ => (pg_nm 3 nd)) (fun _ _ _ _ _ => pts_nil) (fun _ _ _ _ _ => (C8.pe_c c_still_of hr (by decide) (by rfl) (pa_cons (pv 0) (pa_cons (pv 1) (pa_cons (pv 3) (pa_cons (pv 2) pa_nil))))))) pa_nil)))))
def t_first_moved (K : PySem.W.Frag) (CS CP : Addr) : TS :=
  (tSeq (tFor (iEnumT K (tCons (tCallN 2 1 (sp_still K) catV C8.E0 (tCons (tVar 0) (tCons (tVar 1) tNil)) (tCons (tVar 2) tNil)) tNil)) (gTup K 2 (gCons (gName 3) (gCons (gName 4) gNil))) (tSeq (tAsg (tCall (sp_first_apart K) [] C8.E0 (tCons (tSl (rSlA K) (tCall (sp_as_heap K) [] C8.E0 (tCons (tOp (rIxT K) (tVar 0) (tVar 3)) tNil)) tNoPart (tPart (tVar 4))) (tCons (tSl (rSlA K) (tCall (sp_as_heap K) [] C8.E0 (tCons (tOp (rIxT K) (tVar 1) (tVar 3)) tNil)) tNoPart (tPart (tVar 4))) tNil))) (gName 5))
  (tIfS (tTest (tOp rNotN (tVar 5) (tC .non))) (tRet (tTup (tCons (tVar 3) (tCons (tVar 5) tNil)))) tNext)))
  (tRet (tC .non)))
theorem c_first_moved {P : Program} {w : World} {K : PySem.W.Frag} {mg : Str → Option Value} {base : Heap} {CS CP CB : Addr} (T : Txt K mg CS CP CB)
  (c_as_heap : C8.Cal P w K mg base 1 "as_heap" (sp_as_heap K) [])
  (c_first_apart : C8.Cal P w K mg base 1 "first_apart" (sp_first_apart K) [])
  (c_still : CalN P w K mg base 3 "still" 2 ["asleep"] (sp_still K))
  (Ho : ∀ ds r, R_alk0 ds r → ds.length = 3)
  (Hb : ∀ ds r, R_alk0 ds r → EvS K (t_first_moved K CS CP) { nx := fun _ => r = .non, rt := fun d _ => d = r } (envOf N_first_moved ds)) :
  CalN P w K mg base 4 "first_moved" 2 ["asleep"] (sp_first_moved K) := by
  obtain ⟨f, fd, FD, hm⟩ := T.d_first_moved
  refine ⟨f, fd, ["one", "other", "asleep"], _, FD.ok sc_first_moved (fun vs H Q E h => len_D Ho h) (fun cdv A outer s H vs Q E hr h => ⟨t_first_moved K CS CP, PSs.nox ?_, body_D Hb h⟩), hm, FD.kp, kb_of FD fun _ _ _ _ _ _ us ws h1 h2 => match us, ws, h1, h2 with | [_, _], [_], _, _ => rfl⟩
  have nd := sc_first_moved.nd
  exact (pss_cons (ps_for PassesOwn.never rfl (pi_enumT (by rfl) T.b_enumerate (pa_cons (pe_cM c_still hr (by decide) (by rfl) (pa_cons (pv 0) (pa_cons (pv 1) pa_nil)) (pk_cons (pv 2) pk_nil)) pa_nil)) (pg_tup rfl (pgs_cons (pg_nm 3 nd) (pgs_cons (pg_nm 4 nd) pgs_nil))) (pss_cons (ps_st 5 nd (C8.pe_c c_first_apart hr (by decide) (by rfl) (pa_cons (pe_slice sl_tupA (C8.pe_c c_as_heap hr (by decide) (by rfl) (pa_cons (pe_ix ix_tup (pv 0) (pv 3) (fun _ _ => rfl)) pa_nil)) po_none (po_some (pv 4))) (pa_cons (pe_slice sl_tupA (C8.pe_c c_as_heap hr (by decide) (by rfl) (pa_cons (pe_ix ix_tup (pv 1) (pv 3) (fun _ _ => rfl)) pa_nil)) po_none (po_some (pv 4))) pa_nil))))
  (pss_one (ps_if (pt_cmpR op_notN (pv 5) pe_non (nomark _)) (pss_one (ps_ret (pe_tup (pa_cons (pv 3) (pa_cons (pv 5) pa_nil))))) pss_nil))))
  (pss_one (ps_ret pe_non)))
def t_look_lines (K : PySem.W.Frag) (CS CP : Addr) : TS :=
  (tSeq (tAsg (tCall (sp_first_unlike K) [] C8.E0 (tCons (tVar 0) (tCons (tVar 1) tNil))) (gName 2))
  (tIfS (tTest (tOp rNotN (tVar 2) (tC .non))) tNever tNext))
theorem c_look_lines {P : Program} {w : World} {K : PySem.W.Frag} {mg : Str → Option Value} {base : Heap} {CS CP CB : Addr} (T : Txt K mg CS CP CB)
  (c_first_unlike : C8.Cal P w K mg base 6 "first_unlike" (sp_first_unlike K) [])
  (Ho : ∀ ds r, R_look_lines ds r → ds.length = 2)
  (Hb : ∀ ds r, R_look_lines ds r → EvS K (t_look_lines K CS CP) { nx := fun _ => r = .non, rt := fun d _ => d = r } (envOf N_look_lines ds)) :
  C8.Cal P w K mg base 7 "look_lines" (sp_look_lines K) [] := by
  obtain ⟨f, fd, FD, hm⟩ := T.d_look_lines
  refine ⟨f, fd, ["one", "other"], [], FD.ok sc_look_lines (fun vs H Q E h => len_D Ho h) (fun cdv A outer s H vs Q E hr h => ⟨t_look_lines K CS CP, PSs.nox ?_, body_D Hb h⟩), hm, FD.kp, FD.bindsN fun _ _ _ _ _ _ us hl => match us, hl with | [_, _], _ => rfl, .nil⟩
  have nd := sc_look_lines.nd
  exact (pss_cons (ps_st 2 nd (C8.pe_c c_first_unlike hr (by decide) (by rfl) (pa_cons (pv 0) (pa_cons (pv 1) pa_nil))))
  (pss_one (ps_if (pt_cmpR op_notN (pv 2) pe_non (nomark _)) (pss_one ps_never) pss_nil)))
def t_look_still (K : PySem.W.Frag) (CS CP : Addr) : TS :=
  (tSeq (tDrop (tCall (sp_look_lines K) [] C8.E0 (tCons (tVar 0) (tCons (tVar 1) tNil))))
  (tSeq (tAsg (tCallN 2 1 (sp_first_moved K) catV C8.E0 (tCons (tVar 0) (tCons (tVar 1) tNil)) (tCons (tVar 2) tNil)) (gName 3))
  (tIfS (tTest (tOp rNotN (tVar 3) (tC .non))) tNever tNext)))
theorem c_look_still {P : Program} {w : World} {K : PySem.W.Frag} {mg : Str → Option Value} {base : Heap} {CS CP CB : Addr} (T : Txt K mg CS CP CB)
  (c_first_moved : CalN P w K mg base 4 "first_moved" 2 ["asleep"] (sp_first_moved K))
  (c_look_lines : C8.Cal P w K mg base 7 "look_lines" (sp_look_lines K) [])
  (Ho : ∀ ds r, R_alk0 ds r → ds.length = 3)
  (Hb : ∀ ds r, R_alk0 ds r → EvS K (t_look_still K CS CP) { nx := fun _ => r = .non, rt := fun d _ => d = r } (envOf N_look_still ds)) :
  C8.Cal P w K mg base 8 "look_still" (sp_look_still K) [] := by
  obtain ⟨f, fd, FD, hm⟩ := T.d_look_still
  refine ⟨f, fd, ["one", "other", "asleep"], [], FD.ok sc_look_still (fun vs H Q E h => len_D Ho h) (fun cdv A outer s H vs Q E hr h => ⟨t_look_still K CS CP, PSs.nox ?_, body_D Hb h⟩), hm, FD.kp, FD.bindsN fun _ _ _ _ _ _ us hl => match us, hl with | [_, _, _], _ => rfl, .nil⟩
  have nd := sc_look_still.nd
  exact (pss_cons (ps_expr (C8.pe_c c_look_lines hr (by decide) (by rfl) (pa_cons (pv 0) (pa_cons (pv 1) pa_nil))))
  (pss_cons (ps_st 3 nd (pe_cM c_first_moved hr (by decide) (by rfl) (pa_cons (pv 0) (pa_cons (pv 1) pa_nil)) (pk_cons (pv 2) pk_nil)))
  (pss_one (ps_if (pt_cmpR op_notN (pv 3) pe_non (nomark _)) (pss_one ps_never) pss_nil))))
def t_rows_given (K : PySem.W.Frag) (CS CP : Addr) : TS :=
  (tSeq (tAsg (tLst tNil) (gName 3))
  (tSeq (tFor (iEnumT K (tCons (tVar 1) tNil)) (gTup K 2 (gCons (gName 4) (gCons (gName 5) gNil))) (tSeq (tAsg (tLc (iList K (tRevL K (tCall (sp_sleepers_grudges K) [] C8.E0 (tCons (tOp (rIxT K) (tVar 0) (tVar 4)) (tCons (tVar 2) tNil))))) (gName 7) (tTest (tOp (rI0 fun i j => .bl (decide (j ≤ i))) (tVar 7) (tVar 5))) (tVar 7) [7]) (gName 6))
  (tIfS (tTest (tOp (rIn K true) (tVar 4) (tVar 2))) (tDrop (tBM K "list" rAppend (tVar 3) (tCons (tLc (iList K (tVar 6)) (gName 7) tYes (tTup (tCons (tVar 4) (tCons (tVar 7) tNil))) [7]) tNil))) tNext)))
  (tRet (tVar 3))))
theorem c_rows_given {P : Program} {w : World} {K : PySem.W.Frag} {mg : Str → Option Value} {base : Heap} {CS CP CB : Addr} (T : Txt K mg CS CP CB)
  (c_sleepers_grudges : C8.Cal P w K mg base 1 "sleepers_grudges" (sp_sleepers_grudges K) [])
  (Ho : ∀ ds r, R_rows_given ds r → ds.length = 3)
  (Hb : ∀ ds r, R_rows_given ds r → EvS K (t_rows_given K CS CP) { nx := fun _ => r = .non, rt := fun d _ => d = r } (envOf N_rows_given ds)) :
  C8.Cal P w K mg base 2 "rows_given" (sp_rows_given K) [] := by
  obtain ⟨f, fd, FD, hm⟩ := T.d_rows_given
  refine ⟨f, fd, ["one", "lows", "asleep"], [], FD.ok sc_rows_given (fun vs H Q E h => len_D Ho h) (fun cdv A outer s H vs Q E hr h => ⟨t_rows_given K CS CP, PSs.nox ?_, body_D Hb h⟩), hm, FD.kp, FD.bindsN fun _ _ _ _ _ _ us hl => match us, hl with | [_, _, _], _ => rfl, .nil⟩
  have nd := sc_rows_given.nd
  exact (pss_cons (ps_st 3 nd (pe_lst pa_nil))
  (pss_cons (ps_for PassesOwn.never rfl (pi_enumT (by rfl) T.b_enumerate (pa_cons (pv 1) pa_nil)) (pg_tup rfl (pgs_cons (pg_nm 4 nd) (pgs_cons (pg_nm 5 nd) pgs_nil))) (pss_cons (ps_setLc (i := 6) (own := [("place", 7)]) rfl nd rfl (by rfl) (sw_true rfl rfl rfl (by decide +kernel)) (pi_list (pe_revL (C8.pe_c c_sleepers_grudges hr (by decide) (by rfl) (pa_cons (pe_ix ix_tup (pv 0) (pv 4) (fun _ _ => rfl)) (pa_cons (pv 2) pa_nil))))) (blkOk_by (N := N_rows_given) (sc := (defScope s_rows_given)) (by decide +kernel)) (fun _ _ _ _ _ => (pg_nm 7 nd)) (fun _ _ _ _ _ => (pts_one (pt_cmpR op_ge (pv 7) (pv 5) (nomark _)))) (fun _ _ _ _ _ => (pv 7)))
  (pss_one (ps_if (pt_cmpR op_notIn_seq (pv 4) (pv 2) (by with_unfolding_all rfl)) (pss_one (ps_expr (pe_bm PySem.F.plainAttrs_list PySem.F.slot_list_append PySem.F.type_list_append mt_append (pv 3) (pa_cons (pe_lc (own := [("place", 7)]) rfl nd (pi_list (pv 6)) (blkOk_by (N := N_rows_given) (sc := (defScope s_rows_given)) (by decide +kernel)) (fun _ _ _ _ _ => (pg_nm 7 nd)) (fun _ _ _ _ _ => pts_nil) (fun _ _ _ _ _ => (pe_tup (pa_cons (pv 4) (pa_cons (pv 7) pa_nil))))) pa_nil)))) pss_nil))))
  (pss_one (ps_ret (pv 3)))))
def t_rows_got (K : PySem.W.Frag) (CS CP : Addr) : TS :=
  (tSeq (tAsg (tLst tNil) (gName 4))
  (tSeq (tFor (iTup K (tVar 2)) (gName 5) tNever)
  (tRet (tVar 4))))
theorem c_rows_got {P : Program} {w : World} {K : PySem.W.Frag} {mg : Str → Option Value} {base : Heap} {CS CP CB : Addr} (T : Txt K mg CS CP CB)
  
  (Ho : ∀ ds r, R_rows_got ds r → ds.length = 4)
  (Hb : ∀ ds r, R_rows_got ds r → EvS K (t_rows_got K CS CP) { nx := fun _ => r = .non, rt := fun d _ => d = r } (envOf N_rows_got ds)) :
  C8.Cal P w K mg base 1 "rows_got" (sp_rows_got K) [] := by
  obtain ⟨f, fd, FD, hm⟩ := T.d_rows_got
  refine ⟨f, fd, ["one", "rows", "asleep", "heaps"], [], FD.ok sc_rows_got (fun vs H Q E h => len_D Ho h) (fun cdv A outer s H vs Q E hr h => ⟨t_rows_got K CS CP, PSs.nox ?_, body_D Hb h⟩), hm, FD.kp, FD.bindsN fun _ _ _ _ _ _ us hl => match us, hl with | [_, _, _, _], _ => rfl, .nil⟩
  have nd := sc_rows_got.nd
  exact (pss_cons (ps_st 4 nd (pe_lst pa_nil))
  (pss_cons (ps_for PassesOwn.never rfl (pi_tup (pv 2)) (pg_nm 5 nd) pss_never)
  (pss_one (ps_ret (pv 4)))))
def t_waits_in (K : PySem.W.Frag) (CS CP : Addr) : TS :=
  (tRet (tLc2 (iList K (tVar 0)) (gName 1) tYes (RZ.iZipA K (tCons (tVar 1) (tCons (tSl (rSlL K) (tVar 1) (tPart (tC (.int 1))) tNoPart) tNil))) (gTup K 2 (gCons (gName 2) (gCons (gName 3) gNil))) tYes (tTup (tCons (tVar 3) (tCons (tVar 2) tNil))) [1, 2, 3] [2, 3]))
theorem c_waits_in {P : Program} {w : World} {K : PySem.W.Frag} {mg : Str → Option Value} {base : Heap} {CS CP CB : Addr} (T : Txt K mg CS CP CB)
  
  (Ho : ∀ ds r, R_waits_in ds r → ds.length = 1)
  (Hb : ∀ ds r, R_waits_in ds r → EvS K (t_waits_in K CS CP) { nx := fun _ => r = .non, rt := fun d _ => d = r } (envOf N_waits_in ds)) :
  C8.Cal P w K mg base 1 "waits_in" (sp_waits_in K) [] := by
  obtain ⟨f, fd, FD, hm⟩ := T.d_waits_in
  refine ⟨f, fd, ["rows"], [], FD.ok sc_waits_in (fun vs H Q E h => len_D Ho h) (fun cdv A outer s H vs Q E hr h => ⟨t_waits_in K CS CP, PSs.nox ?_, body_D Hb h⟩), hm, FD.kp, FD.bindsN fun _ _ _ _ _ _ us hl => match us, hl with | [_], _ => rfl, .nil⟩
  have nd := sc_waits_in.nd
  exact (pss_one (ps_ret (pe_lc2 (own := [("row", 1), ("ahead", 2), ("later", 3)]) (vs1 := [2, 3]) rfl nd (pi_list (pv 0)) (blkOk_by (N := N_waits_in) (sc := (defScope s_waits_in)) (by decide +kernel)) (by decide) (fun _ _ _ _ _ => (pg_nm 1 nd)) (fun _ _ _ _ _ => pts_nil) (fun _ _ _ _ _ => (RZ.pi_zipA (by rfl) T.b_zip (pa_cons (pv 1) (pa_cons (pe_slice sl_list (pv 1) (po_some pe_int) po_none) pa_nil)))) (fun _ _ _ _ _ => (pg_tup rfl (pgs_cons (pg_nm 2 nd) (pgs_cons (pg_nm 3 nd) pgs_nil)))) (fun _ _ _ _ _ => pts_nil) (fun _ _ _ _ _ => (pe_tup (pa_cons (pv 3) (pa_cons (pv 2) pa_nil)))))))
def t_givings (K : PySem.W.Frag) (CS CP : Addr) : TS :=
  (tSeq (tDrop (tCall (sp_look_still K) [] C8.E0 (tCons (tVar 0) (tCons (tVar 1) (tCons (tVar 2) tNil)))))
  (tSeq (tAsg (tCall (sp_rows_given K) [] C8.E0 (tCons (tVar 0) (tCons (tCallN 2 1 (sp_still K) catV C8.E0 (tCons (tVar 0) (tCons (tVar 1) tNil)) (tCons (tVar 2) tNil)) (tCons (tVar 2) tNil)))) (gName 3))
  (tRet (tCB (rSorted K) (tCons (tLc2 (iList K (tVar 3)) (gName 4) tYes (iList K (tVar 4)) (gName 5) tYes (tVar 5) [4, 5] [5]) tNil)))))
theorem c_givings {P : Program} {w : World} {K : PySem.W.Frag} {mg : Str → Option Value} {base : Heap} {CS CP CB : Addr} (T : Txt K mg CS CP CB)
  (c_look_still : C8.Cal P w K mg base 8 "look_still" (sp_look_still K) [])
  (c_rows_given : C8.Cal P w K mg base 2 "rows_given" (sp_rows_given K) [])
  (c_still : CalN P w K mg base 3 "still" 2 ["asleep"] (sp_still K))
  (Ho : ∀ ds r, R_alkL ds r → ds.length = 3)
  (Hb : ∀ ds r, R_alkL ds r → EvS K (t_givings K CS CP) { nx := fun _ => r = .non, rt := fun d _ => d = r } (envOf N_givings ds)) :
  CalN P w K mg base 9 "givings" 2 ["asleep"] (sp_givings K) := by
  obtain ⟨f, fd, FD, hm⟩ := T.d_givings
  refine ⟨f, fd, ["one", "other", "asleep"], _, FD.ok sc_givings (fun vs H Q E h => len_D Ho h) (fun cdv A outer s H vs Q E hr h => ⟨t_givings K CS CP, PSs.nox ?_, body_D Hb h⟩), hm, FD.kp, kb_of FD fun _ _ _ _ _ _ us ws h1 h2 => match us, ws, h1, h2 with | [_, _], [_], _, _ => rfl⟩
  have nd := sc_givings.nd
  exact (pss_cons (ps_expr (C8.pe_c c_look_still hr (by decide) (by rfl) (pa_cons (pv 0) (pa_cons (pv 1) (pa_cons (pv 2) pa_nil)))))
  (pss_cons (ps_st 3 nd (C8.pe_c c_rows_given hr (by decide) (by rfl) (pa_cons (pv 0) (pa_cons (pe_cM c_still hr (by decide) (by rfl) (pa_cons (pv 0) (pa_cons (pv 1) pa_nil)) (pk_cons (pv 2) pk_nil)) (pa_cons (pv 2) pa_nil)))))
  (pss_one (ps_ret (pe_callB cr_sorted (by rfl) T.b_sorted (by decide +kernel) (pa_cons (pe_lc2 (own := [("row", 4), ("giving", 5)]) (vs1 := [5]) rfl nd (pi_list (pv 3)) (blkOk_by (N := N_givings) (sc := (defScope s_givings)) (by decide +kernel)) (by decide) (fun _ _ _ _ _ => (pg_nm 4 nd)) (fun _ _ _ _ _ => pts_nil) (fun _ _ _ _ _ => (pi_list (pv 4))) (fun _ _ _ _ _ => (pg_nm 5 nd)) (fun _ _ _ _ _ => pts_nil) (fun _ _ _ _ _ => (pv 5))) pa_nil))))))
def t_waits (K : PySem.W.Frag) (CS CP : Addr) : TS :=
  (tSeq (tDrop (tCall (sp_look_still K) [] C8.E0 (tCons (tVar 0) (tCons (tVar 1) (tCons (tVar 2) tNil)))))
  (tSeq (tAsg (tCall (sp_rows_given K) [] C8.E0 (tCons (tVar 0) (tCons (tCallN 2 1 (sp_still K) catV C8.E0 (tCons (tVar 0) (tCons (tVar 1) tNil)) (tCons (tVar 2) tNil)) (tCons (tVar 2) tNil)))) (gName 3))
  (tRet (tSortedSet K (tCall (sp_waits_in K) [] C8.E0 (tCons (tOp rCat (tVar 3) (tCall (sp_rows_got K) [] C8.E0 (tCons (tVar 0) (tCons (tVar 3) (tCons (tVar 2) (tCons (tVar 1) tNil)))))) tNil))))))
theorem c_waits {P : Program} {w : World} {K : PySem.W.Frag} {mg : Str → Option Value} {base : Heap} {CS CP CB : Addr} (T : Txt K mg CS CP CB)
  (c_look_still : C8.Cal P w K mg base 8 "look_still" (sp_look_still K) [])
  (c_rows_given : C8.Cal P w K mg base 2 "rows_given" (sp_rows_given K) [])
  (c_rows_got : C8.Cal P w K mg base 1 "rows_got" (sp_rows_got K) [])
  (c_still : CalN P w K mg base 3 "still" 2 ["asleep"] (sp_still K))
  (c_waits_in : C8.Cal P w K mg base 1 "waits_in" (sp_waits_in K) [])
  (Ho : ∀ ds r, R_alkL ds r → ds.length = 3)
  (Hb : ∀ ds r, R_alkL ds r → EvS K (t_waits K CS CP) { nx := fun _ => r = .non, rt := fun d _ => d = r } (envOf N_waits ds)) :
  CalN P w K mg base 9 "waits" 2 ["asleep"] (sp_waits K) := by
  obtain ⟨f, fd, FD, hm⟩ := T.d_waits
  refine ⟨f, fd, ["one", "other", "asleep"], _, FD.ok sc_waits (fun vs H Q E h => len_D Ho h) (fun cdv A outer s H vs Q E hr h => ⟨t_waits K CS CP, PSs.nox ?_, body_D Hb h⟩), hm, FD.kp, kb_of FD fun _ _ _ _ _ _ us ws h1 h2 => match us, ws, h1, h2 with | [_, _], [_], _, _ => rfl⟩
  have nd := sc_waits.nd
  exact (pss_cons (ps_expr (C8.pe_c c_look_still hr (by decide) (by rfl) (pa_cons (pv 0) (pa_cons (pv 1) (pa_cons (pv 2) pa_nil)))))
  (pss_cons (ps_st 3 nd (C8.pe_c c_rows_given hr (by decide) (by rfl) (pa_cons (pv 0) (pa_cons (pe_cM c_still hr (by decide) (by rfl) (pa_cons (pv 0) (pa_cons (pv 1) pa_nil)) (pk_cons (pv 2) pk_nil)) (pa_cons (pv 2) pa_nil)))))
  (pss_one (ps_ret (pe_sortedSet rfl (by rfl) T.b_sorted (by rfl) T.b_set (C8.pe_c c_waits_in hr (by decide) (by rfl) (pa_cons (pe_op op_cat (pv 3) (C8.pe_c c_rows_got hr (by decide) (by rfl) (pa_cons (pv 0) (pa_cons (pv 3) (pa_cons (pv 2) (pa_cons (pv 1) pa_nil)))))) pa_nil)))))))
def t_order_of (K : PySem.W.Frag) (CS CP : Addr) : TS :=
  (tSeq (tAsg (tTup (tCons (tLst tNil) (tCons (tCB (cList K) (tCons (tVar 0) tNil)) tNil))) (gTup K 2 (gCons (gName 3) (gCons (gName 4) gNil))))
  (tSeq (tAsg (tSl (rSlL K) (tVar 4) tNoPart (tPart (tC (.int 1)))) (gName 2))
  (tSeq (tWhile (tTest (tOp (rI0 fun i j => .bl (decide (j < i))) (tCB (cLen K) (tCons (tVar 2) tNil)) (tC (.int 0)))) tNever)
  (tRet (tVar 3)))))
theorem c_order_of {P : Program} {w : World} {K : PySem.W.Frag} {mg : Str → Option Value} {base : Heap} {CS CP CB : Addr} (T : Txt K mg CS CP CB)
  
  (Ho : ∀ ds r, R_order_of ds r → ds.length = 2)
  (Hb : ∀ ds r, R_order_of ds r → EvS K (t_order_of K CS CP) { nx := fun _ => r = .non, rt := fun d _ => d = r } (envOf N_order_of ds)) :
  C8.Cal P w K mg base 1 "order_of" (sp_order_of K) [] := by
  obtain ⟨f, fd, FD, hm⟩ := T.d_order_of
  refine ⟨f, fd, ["some", "bars"], [], FD.ok sc_order_of (fun vs H Q E h => len_D Ho h) (fun cdv A outer s H vs Q E hr h => ⟨t_order_of K CS CP, PSs.nox ?_, body_D Hb h⟩), hm, FD.kp, FD.bindsN fun _ _ _ _ _ _ us hl => match us, hl with | [_, _], _ => rfl, .nil⟩
  have nd := sc_order_of.nd
  exact (pss_cons (ps_asg (pe_tup (pa_cons (pe_lst pa_nil) (pa_cons (pe_callTy call_list_of (by rfl) T.b_list (by decide +kernel) (pa_cons (pv 0) pa_nil)) pa_nil))) (pg_tup rfl (pgs_cons (pg_nm 3 nd) (pgs_cons (pg_nm 4 nd) pgs_nil))))
  (pss_cons (ps_st 2 nd (pe_slice sl_list (pv 4) po_none (po_some pe_int)))
  (pss_cons (ps_while PassesOwn.never (pt_cmpR op_gt (pe_callB call_len_seq (by rfl) T.b_len PySem.boot_len (pa_cons (pv 2) pa_nil)) pe_int (nomark _)) pss_never)
  (pss_one (ps_ret (pv 3))))))
end Gr
set_option maxHeartbeats 4000000
namespace Gr
open PySem PySem.Spec PyProof.Rows L2
def t_look_few (K : PySem.W.Frag) (CS CP : Addr) : TS :=
  (tSeq (tAsg (tCall (sp_grudges_in K) [] C8.E0 (tCons (tVar 0) tNil)) (gName 1))
  (tIfS (tTest (tOp (rI0 fun i j => .bl (decide (j < i))) (tVar 1) (tC (.int 10)))) tNever tNext))
theorem c_look_few {P : Program} {w : World} {K : PySem.W.Frag} {mg : Str → Option Value} {base : Heap} {CS CP CB : Addr} (T : Txt K mg CS CP CB)
  (c_grudges_in : C8.Cal P w K mg base 1 "grudges_in" (sp_grudges_in K) [])
  (Ho : ∀ ds r, R_look_few ds r → ds.length = 1)
  (Hb : ∀ ds r, R_look_few ds r → EvS K (t_look_few K CS CP) { nx := fun _ => r = .non, rt := fun d _ => d = r } (envOf N_look_few ds)) :
  C8.Cal P w K mg base 2 "look_few" (sp_look_few K) [] := by
  obtain ⟨f, fd, FD, hm⟩ := T.d_look_few
  refine ⟨f, fd, ["standing"], [], FD.ok sc_look_few (fun vs H Q E h => len_D Ho h) (fun cdv A outer s H vs Q E hr h => ⟨t_look_few K CS CP, PSs.nox ?_, body_D Hb h⟩), hm, FD.kp, FD.bindsN fun _ _ _ _ _ _ us hl => match us, hl with | [_], _ => rfl, .nil⟩
  have nd := sc_look_few.nd
  exact (pss_cons (ps_st 1 nd (C8.pe_c c_grudges_in hr (by decide) (by rfl) (pa_cons (pv 0) pa_nil)))
  (pss_one (ps_if (pt_cmpR op_gt (pv 1) (C8.pe_gc (by rfl) T.g_MOST_GRUDGES) (nomark _)) (pss_one ps_never) pss_nil)))
def t_shuffles (K : PySem.W.Frag) (CS CP : Addr) : TS :=
  (tSeq (tAsg (tTup (tCons (tC (.int 1)) (tCons (tC (.int 0)) tNil))) (gTup K 2 (gCons (gName 2) (gCons (gName 3) gNil))))
  (tSeq (tFor (iList K (tVar 0)) (gName 1) (tFor (iRng1 (tCons (tVar 1) tNil)) (gName 4) (tSeq (tAug 3 (tC (.int 1)) (ipI fun i j => i + j))
  (tAsg (tOp (rI CDiv fun i j => .int (i / j)) (tOp (rI CMul fun i j => .int (i * j)) (tVar 2) (tVar 3)) (tOp (rI0 fun i j => .int (i + j)) (tVar 4) (tC (.int 1)))) (gName 2)))))
  (tRet (tVar 2))))
theorem c_shuffles {P : Program} {w : World} {K : PySem.W.Frag} {mg : Str → Option Value} {base : Heap} {CS CP CB : Addr} (T : Txt K mg CS CP CB)
  
  (Ho : ∀ ds r, R_shuffles ds r → ds.length = 1)
  (Hb : ∀ ds r, R_shuffles ds r → EvS K (t_shuffles K CS CP) { nx := fun _ => r = .non, rt := fun d _ => d = r } (envOf N_shuffles ds)) :
  C8.Cal P w K mg base 1 "shuffles" (sp_shuffles K) [] := by
  obtain ⟨f, fd, FD, hm⟩ := T.d_shuffles
  refine ⟨f, fd, ["sizes"], [], FD.ok sc_shuffles (fun vs H Q E h => len_D Ho h) (fun cdv A outer s H vs Q E hr h => ⟨t_shuffles K CS CP, PSs.nox ?_, body_D Hb h⟩), hm, FD.kp, FD.bindsN fun _ _ _ _ _ _ us hl => match us, hl with | [_], _ => rfl, .nil⟩
  have nd := sc_shuffles.nd
  exact (pss_cons (ps_asg (pe_tup (pa_cons pe_int (pa_cons pe_int pa_nil))) (pg_tup rfl (pgs_cons (pg_nm 2 nd) (pgs_cons (pg_nm 3 nd) pgs_nil))))
  (pss_cons (ps_for PassesOwn.never rfl (pi_list (pv 0)) (pg_nm 1 nd) (pss_one (ps_for PassesOwn.never rfl (pi_range1 (by rfl) T.b_range (pa_cons (pv 1) pa_nil)) (pg_nm 4 nd) (pss_cons (ps_ag 3 nd pe_int ip_add)
  (pss_one (ps_st 2 nd (pe_op op_fdiv (pe_op op_mul (pv 2) (pv 3)) (pe_op op_add (pv 4) pe_int))))))))
  (pss_one (ps_ret (pv 2)))))
def t_all_cuts (K : PySem.W.Frag) (CS CP : Addr) : TS :=
  (tSeq (tAsg (tLst (tCons (tLst tNil) tNil)) (gName 1))
  (tSeq (tFor (iList K (tVar 0)) (gName 2) (tAsg (tLc2 (iList K (tVar 1)) (gName 3) tYes (iRng1 (tCons (tOp (rI0 fun i j => .int (i + j)) (tVar 2) (tC (.int 1))) tNil)) (gName 4) tYes (tOp rCat (tVar 3) (tLst (tCons (tVar 4) tNil))) [3, 4] [4]) (gName 1)))
  (tRet (tVar 1))))
theorem c_all_cuts {P : Program} {w : World} {K : PySem.W.Frag} {mg : Str → Option Value} {base : Heap} {CS CP CB : Addr} (T : Txt K mg CS CP CB)
  
  (Ho : ∀ ds r, R_all_cuts ds r → ds.length = 1)
  (Hb : ∀ ds r, R_all_cuts ds r → EvS K (t_all_cuts K CS CP) { nx := fun _ => r = .non, rt := fun d _ => d = r } (envOf N_all_cuts ds)) :
  C8.Cal P w K mg base 1 "all_cuts" (sp_all_cuts K) [] := by
  obtain ⟨f, fd, FD, hm⟩ := T.d_all_cuts
  refine ⟨f, fd, ["lengths"], [], FD.ok sc_all_cuts (fun vs H Q E h => len_D Ho h) (fun cdv A outer s H vs Q E hr h => ⟨t_all_cuts K CS CP, PSs.nox ?_, body_D Hb h⟩), hm, FD.kp, FD.bindsN fun _ _ _ _ _ _ us hl => match us, hl with | [_], _ => rfl, .nil⟩
  have nd := sc_all_cuts.nd
  exact (pss_cons (ps_st 1 nd (pe_lst (pa_cons (pe_lst pa_nil) pa_nil)))
  (pss_cons (ps_for PassesOwn.never rfl (pi_list (pv 0)) (pg_nm 2 nd) (pss_one (ps_setLc2 (i := 1) (own := [("cuts", 3), ("place", 4)]) (vs1 := [4]) rfl nd rfl (by rfl) (sw_true rfl rfl rfl (by decide +kernel)) (pi_list (pv 1)) (blkOk_by (N := N_all_cuts) (sc := (defScope s_all_cuts)) (by decide +kernel)) (by decide) (fun _ _ _ _ _ => (pg_nm 3 nd)) (fun _ _ _ _ _ => pts_nil) (fun _ _ _ _ _ => (pi_range1 (by rfl) T.b_range (pa_cons (pe_op op_add (pv 2) pe_int) pa_nil))) (fun _ _ _ _ _ => (pg_nm 4 nd)) (fun _ _ _ _ _ => pts_nil) (fun _ _ _ _ _ => (pe_op op_cat (pv 3) (pe_lst (pa_cons (pv 4) pa_nil)))))))
  (pss_one (ps_ret (pv 1)))))
def t_Shares_sizes (K : PySem.W.Frag) (CS CP : Addr) : TS :=
  (tSeq (tAsg (tCB (cLen K) (tCons (tFld K (tVar 0) "own_standing") tNil)) (gName 2))
  (tSeq (tAsg (tLc (iRng1 (tCons (tVar 2) tNil)) (gName 6) tYes (tOp rRep (tLst (tCons (tC (.int 0)) tNil)) (tVar 2)) [6]) (gName 3))
  (tSeq (tFor (iZip3 K (tCons (tFld K (tVar 0) "pairs") (tCons (tFld K (tVar 0) "lengths") (tCons (tVar 1) tNil)))) (gTup K 3 (gCons (gTup K 2 (gCons (gName 7) (gCons (gName 8) gNil))) (gCons (gName 4) (gCons (gName 5) gNil)))) (tAsg (tTup (tCons (tVar 5) (tCons (tOp (rI0 fun i j => .int (i - j)) (tVar 4) (tVar 5)) tNil))) (gTup K 2 (gCons (gSub (tOp (rIxL K) (tVar 3) (tVar 7)) (tVar 8) rSetL) (gCons (gSub (tOp (rIxL K) (tVar 3) (tVar 8)) (tVar 7) rSetL) gNil)))))
  (tRet (tVar 3)))))
theorem c_Shares_sizes {P : Program} {w : World} {K : PySem.W.Frag} {mg : Str → Option Value} {base : Heap} {CS CP CB : Addr} (T : Txt K mg CS CP CB)
  
  (Ho : ∀ ds r, (R_sizes CS) ds r → ds.length = 2)
  (Hb : ∀ ds r, (R_sizes CS) ds r → EvS K (t_Shares_sizes K CS CP) { nx := fun _ => r = .non, rt := fun d _ => d = r } (envOf N_Shares_sizes ds)) :
  C8.Met P w K mg base 1 CS "sizes" (sp_Shares_sizes K CS) [] := by
  obtain ⟨f, fd, FD, hm⟩ := T.d_Shares_sizes
  refine ⟨f, fd, ["self", "cuts"], [], T.l_CS, hm, FD.ok sc_Shares_sizes (fun vs H Q E h => len_D Ho h) (fun cdv A outer s H vs Q E hr h => ⟨t_Shares_sizes K CS CP, PSs.nox ?_, body_D Hb h⟩), FD.bindsN fun _ _ _ _ _ _ us hl => match us, hl with | [_, _], _ => rfl, .nil⟩
  have nd := sc_Shares_sizes.nd
  exact (pss_cons (ps_st 2 nd (pe_callB call_len_seq (by rfl) T.b_len PySem.boot_len (pa_cons (pe_fld (pv 0) rfl) pa_nil)))
  (pss_cons (ps_setLc (i := 3) (own := [("dove", 6)]) rfl nd rfl (by rfl) (sw_true rfl rfl rfl (by decide +kernel)) (pi_range1 (by rfl) T.b_range (pa_cons (pv 2) pa_nil)) (blkOk_by (N := N_Shares_sizes) (sc := (defScope s_Shares_sizes)) (by decide +kernel)) (fun _ _ _ _ _ => (pg_nm 6 nd)) (fun _ _ _ _ _ => pts_nil) (fun _ _ _ _ _ => (pe_op op_rep (pe_lst (pa_cons pe_int pa_nil)) (pv 2))))
  (pss_cons (ps_for PassesOwn.never rfl (pi_zip3s (by rfl) T.b_zip (pa_cons (pe_fld (pv 0) rfl) (pa_cons (pe_fld (pv 0) rfl) (pa_cons (pv 1) pa_nil)))) (pg_tup rfl (pgs_cons (pg_tup rfl (pgs_cons (pg_nm 7 nd) (pgs_cons (pg_nm 8 nd) pgs_nil))) (pgs_cons (pg_nm 4 nd) (pgs_cons (pg_nm 5 nd) pgs_nil)))) (pss_one (ps_asg (pe_tup (pa_cons (pv 5) (pa_cons (pe_op op_sub (pv 4) (pv 5)) pa_nil))) (pg_tup rfl (pgs_cons (pg_sub (pe_ix ix_list (pv 3) (pv 7) (fun _ _ => rfl)) (pv 8) set_list (fun _ => rfl)) (pgs_cons (pg_sub (pe_ix ix_list (pv 3) (pv 8) (fun _ _ => rfl)) (pv 7) set_list (fun _ => rfl)) pgs_nil))))))
  (pss_one (ps_ret (pv 3))))))
def t_Shares_heaps (K : PySem.W.Frag) (CS CP : Addr) : TS :=
  (tSeq (tAsg (tLst tNil) (gName 2))
  (tSeq (tFor (iEnum K (tCons (tVar 1) tNil)) (gTup K 2 (gCons (gName 3) (gCons (gName 4) gNil))) (tSeq (tAsg (tDc (iList K (tVar 4)) (gName 6) tYes (tVar 6) (tCB (cList K) (tCons (tCall (sp_line K) [] C8.E0 (tCons (tFld K (tVar 0) "own_standing") (tCons (tVar 3) (tCons (tVar 6) tNil)))) tNil)) [6]) (gName 5))
  (tDrop (tBM K "list" rAppend (tVar 2) (tCons (tCB (cTuple K) (tCons (tLc (iList K (tVar 4)) (gName 6) tYes (tTup (tCons (tVar 6) (tCons (tBM K "list" rPopAt (tDGet (tVar 5) (tVar 6)) (tCons (tC (.int 0)) tNil)) tNil))) [6]) tNil)) tNil)))))
  (tRet (tCB (cTuple K) (tCons (tVar 2) tNil)))))
theorem c_Shares_heaps {P : Program} {w : World} {K : PySem.W.Frag} {mg : Str → Option Value} {base : Heap} {CS CP CB : Addr} (T : Txt K mg CS CP CB)
  (c_line : C8.Cal P w K mg base 5 "line" (sp_line K) [])
  (Ho : ∀ ds r, (R_heaps CS) ds r → ds.length = 2)
  (Hb : ∀ ds r, (R_heaps CS) ds r → EvS K (t_Shares_heaps K CS CP) { nx := fun _ => r = .non, rt := fun d _ => d = r } (envOf N_Shares_heaps ds)) :
  C8.Met P w K mg base 6 CS "heaps" (sp_Shares_heaps K CS) [] := by
  obtain ⟨f, fd, FD, hm⟩ := T.d_Shares_heaps
  refine ⟨f, fd, ["self", "rows"], [], T.l_CS, hm, FD.ok sc_Shares_heaps (fun vs H Q E h => len_D Ho h) (fun cdv A outer s H vs Q E hr h => ⟨t_Shares_heaps K CS CP, PSs.nox ?_, body_D Hb h⟩), FD.bindsN fun _ _ _ _ _ _ us hl => match us, hl with | [_, _], _ => rfl, .nil⟩
  have nd := sc_Shares_heaps.nd
  exact (pss_cons (ps_st 2 nd (pe_lst pa_nil))
  (pss_cons (ps_for PassesOwn.never rfl (pi_enum (by rfl) T.b_enumerate (pa_cons (pv 1) pa_nil)) (pg_tup rfl (pgs_cons (pg_nm 3 nd) (pgs_cons (pg_nm 4 nd) pgs_nil))) (pss_cons (ps_st 5 nd (pe_dc (own := [("about", 6)]) rfl nd (pi_list (pv 4)) (blkOk_by (N := N_Shares_heaps) (sc := (defScope s_Shares_heaps)) (by decide +kernel)) (fun _ _ _ _ _ => (pg_nm 6 nd)) (fun _ _ _ _ _ => pts_nil) (fun _ _ _ _ _ => (pv 6)) (fun _ _ _ _ _ => (pe_callTy call_list_of (by rfl) T.b_list (by decide +kernel) (pa_cons (C8.pe_c c_line hr (by decide) (by rfl) (pa_cons (pe_fld (pv 0) rfl) (pa_cons (pv 3) (pa_cons (pv 6) pa_nil)))) pa_nil)))))
  (pss_one (ps_expr (pe_bm PySem.F.plainAttrs_list PySem.F.slot_list_append PySem.F.type_list_append mt_append (pv 2) (pa_cons (pe_callTy call_tuple_of (by rfl) T.b_tuple (by decide +kernel) (pa_cons (pe_lc (own := [("about", 6)]) rfl nd (pi_list (pv 4)) (blkOk_by (N := N_Shares_heaps) (sc := (defScope s_Shares_heaps)) (by decide +kernel)) (fun _ _ _ _ _ => (pg_nm 6 nd)) (fun _ _ _ _ _ => pts_nil) (fun _ _ _ _ _ => (pe_tup (pa_cons (pv 6) (pa_cons (pe_bm PySem.F.plainAttrs_list PySem.F.slot_list_pop PySem.F.type_list_pop mt_popAt (pe_dget (hu_of hr) (pv 5) (pv 6) (fun _ _ => rfl)) (pa_cons pe_int pa_nil)) pa_nil))))) pa_nil)) pa_nil))))))
  (pss_one (ps_ret (pe_callTy call_tuple_of (by rfl) T.b_tuple (by decide +kernel) (pa_cons (pv 2) pa_nil))))))
def t_ways_of (K : PySem.W.Frag) (CS CP : Addr) : TS :=
  (tSeq (tAsg (tC (.int 1)) (gName 1))
  (tSeq (tFor (iList K (tVar 0)) (gName 2) (tAug 1 (tCall (sp_shuffles K) [] C8.E0 (tCons (tVar 2) tNil)) ipMul))
  (tRet (tVar 1))))
theorem c_ways_of {P : Program} {w : World} {K : PySem.W.Frag} {mg : Str → Option Value} {base : Heap} {CS CP CB : Addr} (T : Txt K mg CS CP CB)
  (c_shuffles : C8.Cal P w K mg base 1 "shuffles" (sp_shuffles K) [])
  (Ho : ∀ ds r, R_ways_of ds r → ds.length = 1)
  (Hb : ∀ ds r, R_ways_of ds r → EvS K (t_ways_of K CS CP) { nx := fun _ => r = .non, rt := fun d _ => d = r } (envOf N_ways_of ds)) :
  C8.Cal P w K mg base 2 "ways_of" (sp_ways_of K) [] := by
  obtain ⟨f, fd, FD, hm⟩ := T.d_ways_of
  refine ⟨f, fd, ["sizes"], [], FD.ok sc_ways_of (fun vs H Q E h => len_D Ho h) (fun cdv A outer s H vs Q E hr h => ⟨t_ways_of K CS CP, PSs.nox ?_, body_D Hb h⟩), hm, FD.kp, FD.bindsN fun _ _ _ _ _ _ us hl => match us, hl with | [_], _ => rfl, .nil⟩
  have nd := sc_ways_of.nd
  exact (pss_cons (ps_st 1 nd pe_int)
  (pss_cons (ps_for PassesOwn.never rfl (pi_list (pv 0)) (pg_nm 2 nd) (pss_one (ps_ag 1 nd (C8.pe_c c_shuffles hr (by decide) (by rfl) (pa_cons (pv 2) pa_nil)) ip_mul)))
  (pss_one (ps_ret (pv 1)))))
def t_how_many (K : PySem.W.Frag) (CS CP : Addr) : TS :=
  (tSeq (tDrop (tCall (sp_look_few K) [] C8.E0 (tCons (tVar 0) tNil)))
  (tSeq (tAsg (tMake CS (sp_Shares_init K CS) [] C8.E0 (tCons (tVar 0) tNil)) (gName 1))
  (tRet (tCB (rSum K) (tCons (tLc (iList K (tCall (sp_all_cuts K) [] C8.E0 (tCons (tFld K (tVar 1) "lengths") tNil))) (gName 2) tYes (tCall (sp_ways_of K) [] C8.E0 (tCons (tMeth CS "sizes" (sp_Shares_sizes K CS) [] C8.E0 (tVar 1) (tCons (tVar 2) tNil)) tNil)) [2]) tNil)))))
theorem c_how_many {P : Program} {w : World} {K : PySem.W.Frag} {mg : Str → Option Value} {base : Heap} {CS CP CB : Addr} (T : Txt K mg CS CP CB)
  (c_Shares_init : C8.Mak P w K mg base 6 "Shares" CS (sp_Shares_init K CS) [])
  (c_Shares_sizes : C8.Met P w K mg base 1 CS "sizes" (sp_Shares_sizes K CS) [])
  (c_all_cuts : C8.Cal P w K mg base 1 "all_cuts" (sp_all_cuts K) [])
  (c_look_few : C8.Cal P w K mg base 2 "look_few" (sp_look_few K) [])
  (c_ways_of : C8.Cal P w K mg base 2 "ways_of" (sp_ways_of K) [])
  (Ho : ∀ ds r, R_how_many ds r → ds.length = 1)
  (Hb : ∀ ds r, R_how_many ds r → EvS K (t_how_many K CS CP) { nx := fun _ => r = .non, rt := fun d _ => d = r } (envOf N_how_many ds)) :
  C8.Cal P w K mg base 8 "how_many" (sp_how_many K) [] := by
  obtain ⟨f, fd, FD, hm⟩ := T.d_how_many
  refine ⟨f, fd, ["standing"], [], FD.ok sc_how_many (fun vs H Q E h => len_D Ho h) (fun cdv A outer s H vs Q E hr h => ⟨t_how_many K CS CP, PSs.nox ?_, body_D Hb h⟩), hm, FD.kp, FD.bindsN fun _ _ _ _ _ _ us hl => match us, hl with | [_], _ => rfl, .nil⟩
  have nd := sc_how_many.nd
  exact (pss_cons (ps_expr (C8.pe_c c_look_few hr (by decide) (by rfl) (pa_cons (pv 0) pa_nil)))
  (pss_cons (ps_st 1 nd (C8.pe_mk c_Shares_init hr (by decide) (by rfl) (pa_cons (pv 0) pa_nil)))
  (pss_one (ps_ret (pe_callB (cr_sum rfl) (by rfl) T.b_sum (by decide +kernel) (pa_cons (pe_lc (own := [("cuts", 2)]) rfl nd (pi_list (C8.pe_c c_all_cuts hr (by decide) (by rfl) (pa_cons (pe_fld (pv 1) rfl) pa_nil))) (blkOk_by (N := N_how_many) (sc := (defScope s_how_many)) (by decide +kernel)) (fun _ _ _ _ _ => (pg_nm 2 nd)) (fun _ _ _ _ _ => pts_nil) (fun _ _ _ _ _ => (C8.pe_c c_ways_of hr (by decide) (by rfl) (pa_cons (C8.pe_mt c_Shares_sizes hr (by decide) (pv 1) (pa_cons (pv 2) pa_nil)) pa_nil)))) pa_nil))))))
def t_nth_shuffle (K : PySem.W.Frag) (CS CP : Addr) : TS :=
  (tSeq (tPar 2 3 (tCons (tCB (cList K) (tCons (tVar 0) tNil)) (tCons (tLst tNil) tNil)))
  (tSeq (tWhile (tTest (tOp (rI0 fun i j => .bl (decide (j < i))) (tCB (rSum K) (tCons (tVar 2) tNil)) (tC (.int 0)))) (tFor (iEnum K (tCons (tCB (cList K) (tCons (tVar 2) tNil)) tNil)) (gTup K 2 (gCons (gName 4) (gCons (gName 5) gNil))) (tSeq (tAsg (tIf (tTest (tOp (rI0 fun i j => .bl (decide (j < i))) (tVar 5) (tC (.int 0)))) (tCall (sp_shuffles K) [] C8.E0 (tCons (tOp rCat (tOp rCat (tSl (rSlL K) (tVar 2) tNoPart (tPart (tVar 4))) (tLst (tCons (tOp (rI0 fun i j => .int (i - j)) (tVar 5) (tC (.int 1))) tNil))) (tSl (rSlL K) (tVar 2) (tPart (tOp (rI0 fun i j => .int (i + j)) (tVar 4) (tC (.int 1)))) tNoPart)) tNil)) (tC (.int 0))) (gName 6))
  (tSeq (tIfS (tTest (tOp (rI0 fun i j => .bl (decide (i < j))) (tVar 1) (tVar 6))) (tSeq (tDrop (tBM K "list" rAppend (tVar 3) (tCons (tVar 4) tNil)))
  (tSeq (tAugS (tVar 2) (tVar 4) (tC (.int 1)) (rIx0 K) (ipI fun i j => i - j) rSetL)
  tBreak)) tNext)
  (tAug 1 (tVar 6) (ipI fun i j => i - j))))))
  (tRet (tVar 3))))
theorem c_nth_shuffle {P : Program} {w : World} {K : PySem.W.Frag} {mg : Str → Option Value} {base : Heap} {CS CP CB : Addr} (T : Txt K mg CS CP CB)
  (c_shuffles : C8.Cal P w K mg base 1 "shuffles" (sp_shuffles K) [])
  (Ho : ∀ ds r, R_nth_shuffle ds r → ds.length = 2)
  (Hb : ∀ ds r, R_nth_shuffle ds r → EvS K (t_nth_shuffle K CS CP) { nx := fun _ => r = .non, rt := fun d _ => d = r } (envOf N_nth_shuffle ds)) :
  C8.Cal P w K mg base 2 "nth_shuffle" (sp_nth_shuffle K) [] := by
  obtain ⟨f, fd, FD, hm⟩ := T.d_nth_shuffle
  refine ⟨f, fd, ["sizes", "number"], [], FD.ok sc_nth_shuffle (fun vs H Q E h => len_D Ho h) (fun cdv A outer s H vs Q E hr h => ⟨t_nth_shuffle K CS CP, PSs.nox ?_, body_D Hb h⟩), hm, FD.kp, FD.bindsN fun _ _ _ _ _ _ us hl => match us, hl with | [_, _], _ => rfl, .nil⟩
  have nd := sc_nth_shuffle.nd
  exact (pss_cons (ps_par (i := 2) (j := 3) rfl nd rfl rfl (by decide) (by rfl) (by rfl) (pa_cons (pe_callTy call_list_of (by rfl) T.b_list (by decide +kernel) (pa_cons (pv 0) pa_nil)) (pa_cons (pe_lst pa_nil) pa_nil)) (by rfl))
  (pss_cons (ps_while PassesOwn.never (pt_cmpR op_gt (pe_callB (cr_sum rfl) (by rfl) T.b_sum (by decide +kernel) (pa_cons (pv 2) pa_nil)) pe_int (nomark _)) (pss_one (ps_for PassesOwn.never rfl (pi_enum (by rfl) T.b_enumerate (pa_cons (pe_callTy call_list_of (by rfl) T.b_list (by decide +kernel) (pa_cons (pv 2) pa_nil)) pa_nil)) (pg_tup rfl (pgs_cons (pg_nm 4 nd) (pgs_cons (pg_nm 5 nd) pgs_nil))) (pss_cons (ps_st 6 nd (pe_ifExp (pt_cmpR op_gt (pv 5) pe_int (nomark _)) (C8.pe_c c_shuffles hr (by decide) (by rfl) (pa_cons (pe_op op_cat (pe_op op_cat (pe_slice sl_list (pv 2) po_none (po_some (pv 4))) (pe_lst (pa_cons (pe_op op_sub (pv 5) pe_int) pa_nil))) (pe_slice sl_list (pv 2) (po_some (pe_op op_add (pv 4) pe_int)) po_none)) pa_nil)) pe_int))
  (pss_cons (ps_if (pt_cmpR op_lt (pv 1) (pv 6) (nomark _)) (pss_cons (ps_expr (pe_bm PySem.F.plainAttrs_list PySem.F.slot_list_append PySem.F.type_list_append mt_append (pv 3) (pa_cons (pv 4) pa_nil)))
  (pss_cons (ps_augS (pv 2) (pv 4) get_list pe_int ip_sub set_list)
  (pss_one ps_break))) pss_nil)
  (pss_one (ps_ag 1 nd (pv 6) ip_sub)))))))
  (pss_one (ps_ret (pv 3)))))
def t_number_in (K : PySem.W.Frag) (CS CP : Addr) : TS :=
  (tSeq (tPar 3 4 (tCons (tCB (cList K) (tCons (tVar 0) tNil)) (tCons (tC (.int 0)) tNil)))
  (tSeq (tFor (iList K (tVar 1)) (gName 2) (tSeq (tFor (iRng1 (tCons (tVar 2) tNil)) (gName 5) (tIfS (tTest (tOp (rI0 fun i j => .bl (decide (j < i))) (tOp (rIxL K) (tVar 3) (tVar 5)) (tC (.int 0)))) (tAug 4 (tCall (sp_shuffles K) [] C8.E0 (tCons (tOp rCat (tOp rCat (tSl (rSlL K) (tVar 3) tNoPart (tPart (tVar 5))) (tLst (tCons (tOp (rI0 fun i j => .int (i - j)) (tOp (rIxL K) (tVar 3) (tVar 5)) (tC (.int 1))) tNil))) (tSl (rSlL K) (tVar 3) (tPart (tOp (rI0 fun i j => .int (i + j)) (tVar 5) (tC (.int 1)))) tNoPart)) tNil)) (ipI fun i j => i + j)) tNext))
  (tAugS (tVar 3) (tVar 2) (tC (.int 1)) (rIx0 K) (ipI fun i j => i - j) rSetL)))
  (tRet (tVar 4))))
theorem c_number_in {P : Program} {w : World} {K : PySem.W.Frag} {mg : Str → Option Value} {base : Heap} {CS CP CB : Addr} (T : Txt K mg CS CP CB)
  (c_shuffles : C8.Cal P w K mg base 1 "shuffles" (sp_shuffles K) [])
  (Ho : ∀ ds r, R_number_in ds r → ds.length = 2)
  (Hb : ∀ ds r, R_number_in ds r → EvS K (t_number_in K CS CP) { nx := fun _ => r = .non, rt := fun d _ => d = r } (envOf N_number_in ds)) :
  C8.Cal P w K mg base 2 "number_in" (sp_number_in K) [] := by
  obtain ⟨f, fd, FD, hm⟩ := T.d_number_in
  refine ⟨f, fd, ["sizes", "abouts"], [], FD.ok sc_number_in (fun vs H Q E h => len_D Ho h) (fun cdv A outer s H vs Q E hr h => ⟨t_number_in K CS CP, PSs.nox ?_, body_D Hb h⟩), hm, FD.kp, FD.bindsN fun _ _ _ _ _ _ us hl => match us, hl with | [_, _], _ => rfl, .nil⟩
  have nd := sc_number_in.nd
  exact (pss_cons (ps_par (i := 3) (j := 4) rfl nd rfl rfl (by decide) (by rfl) (by rfl) (pa_cons (pe_callTy call_list_of (by rfl) T.b_list (by decide +kernel) (pa_cons (pv 0) pa_nil)) (pa_cons pe_int pa_nil)) (by rfl))
  (pss_cons (ps_for PassesOwn.never rfl (pi_list (pv 1)) (pg_nm 2 nd) (pss_cons (ps_for PassesOwn.never rfl (pi_range1 (by rfl) T.b_range (pa_cons (pv 2) pa_nil)) (pg_nm 5 nd) (pss_one (ps_if (pt_cmpR op_gt (pe_ix ix_list (pv 3) (pv 5) (fun _ _ => rfl)) pe_int (nomark _)) (pss_one (ps_ag 4 nd (C8.pe_c c_shuffles hr (by decide) (by rfl) (pa_cons (pe_op op_cat (pe_op op_cat (pe_slice sl_list (pv 3) po_none (po_some (pv 5))) (pe_lst (pa_cons (pe_op op_sub (pe_ix ix_list (pv 3) (pv 5) (fun _ _ => rfl)) pe_int) pa_nil))) (pe_slice sl_list (pv 3) (po_some (pe_op op_add (pv 5) pe_int)) po_none)) pa_nil)) ip_add)) pss_nil)))
  (pss_one (ps_augS (pv 3) (pv 2) get_list pe_int ip_sub set_list))))
  (pss_one (ps_ret (pv 4)))))
def t_rows_of (K : PySem.W.Frag) (CS CP : Addr) : TS :=
  (tSeq (tPar 2 3 (tCons (tLst tNil) (tCons (tVar 1) tNil)))
  (tSeq (tFor (iEnum K (tCons (tVar 0) tNil)) (gTup K 2 (gCons (gName 4) (gCons (gName 5) gNil))) (tSeq (tAsg (tCB cDivmod (tCons (tVar 3) (tCons (tCall (sp_ways_of K) [] C8.E0 (tCons (tSl (rSlL K) (tVar 0) (tPart (tOp (rI0 fun i j => .int (i + j)) (tVar 4) (tC (.int 1)))) tNoPart) tNil)) tNil))) (gTup K 2 (gCons (gName 6) (gCons (gName 3) gNil))))
  (tDrop (tBM K "list" rAppend (tVar 2) (tCons (tCall (sp_nth_shuffle K) [] C8.E0 (tCons (tVar 5) (tCons (tVar 6) tNil))) tNil)))))
  (tRet (tVar 2))))
theorem c_rows_of {P : Program} {w : World} {K : PySem.W.Frag} {mg : Str → Option Value} {base : Heap} {CS CP CB : Addr} (T : Txt K mg CS CP CB)
  (c_nth_shuffle : C8.Cal P w K mg base 2 "nth_shuffle" (sp_nth_shuffle K) [])
  (c_ways_of : C8.Cal P w K mg base 2 "ways_of" (sp_ways_of K) [])
  (Ho : ∀ ds r, R_rows_of ds r → ds.length = 2)
  (Hb : ∀ ds r, R_rows_of ds r → EvS K (t_rows_of K CS CP) { nx := fun _ => r = .non, rt := fun d _ => d = r } (envOf N_rows_of ds)) :
  C8.Cal P w K mg base 3 "rows_of" (sp_rows_of K) [] := by
  obtain ⟨f, fd, FD, hm⟩ := T.d_rows_of
  refine ⟨f, fd, ["sizes", "number"], [], FD.ok sc_rows_of (fun vs H Q E h => len_D Ho h) (fun cdv A outer s H vs Q E hr h => ⟨t_rows_of K CS CP, PSs.nox ?_, body_D Hb h⟩), hm, FD.kp, FD.bindsN fun _ _ _ _ _ _ us hl => match us, hl with | [_, _], _ => rfl, .nil⟩
  have nd := sc_rows_of.nd
  exact (pss_cons (ps_par (i := 2) (j := 3) rfl nd rfl rfl (by decide) (by rfl) (by rfl) (pa_cons (pe_lst pa_nil) (pa_cons (pv 1) pa_nil)) (by rfl))
  (pss_cons (ps_for PassesOwn.never rfl (pi_enum (by rfl) T.b_enumerate (pa_cons (pv 0) pa_nil)) (pg_tup rfl (pgs_cons (pg_nm 4 nd) (pgs_cons (pg_nm 5 nd) pgs_nil))) (pss_cons (ps_asg (pe_callB call_divmod (by rfl) T.b_divmod (by decide +kernel) (pa_cons (pv 3) (pa_cons (C8.pe_c c_ways_of hr (by decide) (by rfl) (pa_cons (pe_slice sl_list (pv 0) (po_some (pe_op op_add (pv 4) pe_int)) po_none) pa_nil)) pa_nil))) (pg_tup rfl (pgs_cons (pg_nm 6 nd) (pgs_cons (pg_nm 3 nd) pgs_nil))))
  (pss_one (ps_expr (pe_bm PySem.F.plainAttrs_list PySem.F.slot_list_append PySem.F.type_list_append mt_append (pv 2) (pa_cons (C8.pe_c c_nth_shuffle hr (by decide) (by rfl) (pa_cons (pv 5) (pa_cons (pv 6) pa_nil))) pa_nil))))))
  (pss_one (ps_ret (pv 2)))))
def t_nth (K : PySem.W.Frag) (CS CP : Addr) : TS :=
  (tSeq (tDrop (tCall (sp_look_few K) [] C8.E0 (tCons (tVar 0) tNil)))
  (tSeq (tPar 3 4 (tCons (tMake CS (sp_Shares_init K CS) [] C8.E0 (tCons (tVar 0) tNil)) (tCons (tVar 1) tNil)))
  (tSeq (tIfS (tOr (tNot (tB (tCall (sp_is_number K) [] C8.E0 (tCons (tVar 1) tNil)))) (tTest (tOp (rI0 fun i j => .bl (decide (i < j))) (tVar 1) (tC (.int 0))))) tNever tNext)
  (tSeq (tFor (iList K (tCall (sp_all_cuts K) [] C8.E0 (tCons (tFld K (tVar 3) "lengths") tNil))) (gName 2) (tSeq (tAsg (tMeth CS "sizes" (sp_Shares_sizes K CS) [] C8.E0 (tVar 3) (tCons (tVar 2) tNil)) (gName 5))
  (tSeq (tIfS (tTest (tOp (rI0 fun i j => .bl (decide (i < j))) (tVar 4) (tCall (sp_ways_of K) [] C8.E0 (tCons (tVar 5) tNil)))) (tRet (tMeth CS "heaps" (sp_Shares_heaps K CS) [] C8.E0 (tVar 3) (tCons (tCall (sp_rows_of K) [] C8.E0 (tCons (tVar 5) (tCons (tVar 4) tNil))) tNil))) tNext)
  (tAug 4 (tCall (sp_ways_of K) [] C8.E0 (tCons (tVar 5) tNil)) (ipI fun i j => i - j)))))
  tNever))))
theorem c_nth {P : Program} {w : World} {K : PySem.W.Frag} {mg : Str → Option Value} {base : Heap} {CS CP CB : Addr} (T : Txt K mg CS CP CB)
  (c_Shares_init : C8.Mak P w K mg base 6 "Shares" CS (sp_Shares_init K CS) [])
  (c_Shares_heaps : C8.Met P w K mg base 6 CS "heaps" (sp_Shares_heaps K CS) [])
  (c_Shares_sizes : C8.Met P w K mg base 1 CS "sizes" (sp_Shares_sizes K CS) [])
  (c_all_cuts : C8.Cal P w K mg base 1 "all_cuts" (sp_all_cuts K) [])
  (c_is_number : C8.Cal P w K mg base 1 "is_number" (sp_is_number K) [])
  (c_look_few : C8.Cal P w K mg base 2 "look_few" (sp_look_few K) [])
  (c_rows_of : C8.Cal P w K mg base 3 "rows_of" (sp_rows_of K) [])
  (c_ways_of : C8.Cal P w K mg base 2 "ways_of" (sp_ways_of K) [])
  (Ho : ∀ ds r, R_nth ds r → ds.length = 2)
  (Hb : ∀ ds r, R_nth ds r → EvS K (t_nth K CS CP) { nx := fun _ => r = .non, rt := fun d _ => d = r } (envOf N_nth ds)) :
  C8.Cal P w K mg base 8 "nth" (sp_nth K) [] := by
  obtain ⟨f, fd, FD, hm⟩ := T.d_nth
  refine ⟨f, fd, ["standing", "number"], [], FD.ok sc_nth (fun vs H Q E h => len_D Ho h) (fun cdv A outer s H vs Q E hr h => ⟨t_nth K CS CP, PSs.nox ?_, body_D Hb h⟩), hm, FD.kp, FD.bindsN fun _ _ _ _ _ _ us hl => match us, hl with | [_, _], _ => rfl, .nil⟩
  have nd := sc_nth.nd
  exact (pss_cons (ps_expr (C8.pe_c c_look_few hr (by decide) (by rfl) (pa_cons (pv 0) pa_nil)))
  (pss_cons (ps_par (i := 3) (j := 4) rfl nd rfl rfl (by decide) (by rfl) (by rfl) (pa_cons (C8.pe_mk c_Shares_init hr (by decide) (by rfl) (pa_cons (pv 0) pa_nil)) (pa_cons (pv 1) pa_nil)) (by rfl))
  (pss_cons (ps_if (PW.pt (pw_or (pt_not (pt_val (C8.pe_c c_is_number hr (by decide) (by rfl) (pa_cons (pv 1) pa_nil)))) (pw_or1 (pt_cmpR op_lt (pv 1) pe_int (nomark _))))) (pss_one ps_never) pss_nil)
  (pss_cons (ps_for PassesOwn.never rfl (pi_list (C8.pe_c c_all_cuts hr (by decide) (by rfl) (pa_cons (pe_fld (pv 3) rfl) pa_nil))) (pg_nm 2 nd) (pss_cons (ps_st 5 nd (C8.pe_mt c_Shares_sizes hr (by decide) (pv 3) (pa_cons (pv 2) pa_nil)))
  (pss_cons (ps_if (pt_cmpR op_lt (pv 4) (C8.pe_c c_ways_of hr (by decide) (by rfl) (pa_cons (pv 5) pa_nil)) (nomark _)) (pss_one (ps_ret (C8.pe_mt c_Shares_heaps hr (by decide) (pv 3) (pa_cons (C8.pe_c c_rows_of hr (by decide) (by rfl) (pa_cons (pv 5) (pa_cons (pv 4) pa_nil))) pa_nil)))) pss_nil)
  (pss_one (ps_ag 4 nd (C8.pe_c c_ways_of hr (by decide) (by rfl) (pa_cons (pv 5) pa_nil)) ip_sub)))))
  (pss_one ps_never)))))
def t_number_of (K : PySem.W.Frag) (CS CP : Addr) : TS :=
  (tSeq (tDrop (tCall (sp_look_same K) [] C8.E0 (tCons (tVar 0) (tCons (tVar 1) tNil))))
  (tSeq (tDrop (tCall (sp_look_few K) [] C8.E0 (tCons (tVar 0) tNil)))
  (tSeq (tDrop (tCall (sp_look_lines K) [] C8.E0 (tCons (tVar 0) (tCons (tVar 1) tNil))))
  (tSeq (tPar 4 5 (tCons (tMake CS (sp_Shares_init K CS) [] C8.E0 (tCons (tVar 0) tNil)) (tCons (tC (.int 0)) tNil)))
  (tSeq (tAsg (tLc (iList K (tFld K (tVar 4) "pairs")) (gTup K 2 (gCons (gName 10) (gCons (gName 11) gNil))) tYes (tCall (sp_cut K) [] C8.E0 (tCons (tVar 1) (tCons (tVar 10) (tCons (tVar 11) tNil)))) [10, 11]) (gName 2))
  (tSeq (tFor (iList K (tCall (sp_all_cuts K) [] C8.E0 (tCons (tFld K (tVar 4) "lengths") tNil))) (gName 3) (tSeq (tIfS (tTest (tOp (rEqD K) (tVar 3) (tVar 2))) tBreak tNext)
  (tAug 5 (tCall (sp_ways_of K) [] C8.E0 (tCons (tMeth CS "sizes" (sp_Shares_sizes K CS) [] C8.E0 (tVar 4) (tCons (tVar 3) tNil)) tNil)) (ipI fun i j => i + j))))
  (tSeq (tPar 6 7 (tCons (tMeth CS "sizes" (sp_Shares_sizes K CS) [] C8.E0 (tVar 4) (tCons (tVar 2) tNil)) (tCons (tC (.int 0)) tNil)))
  (tSeq (tFor (iEnum K (tCons (tVar 6) tNil)) (gTup K 2 (gCons (gName 8) (gCons (gName 9) gNil))) (tAsg (tOp (rI0 fun i j => .int (i + j)) (tOp (rI CMul fun i j => .int (i * j)) (tVar 7) (tCall (sp_shuffles K) [] C8.E0 (tCons (tVar 9) tNil))) (tCall (sp_number_in K) [] C8.E0 (tCons (tVar 9) (tCons (tLc (iTup K (tOp (rIxT K) (tVar 1) (tVar 8))) (gTup K 2 (gCons (gName 12) (gCons (gName 13) gNil))) tYes (tVar 12) [12, 13]) tNil)))) (gName 7)))
  (tRet (tOp (rI0 fun i j => .int (i + j)) (tVar 5) (tVar 7)))))))))))
theorem c_number_of {P : Program} {w : World} {K : PySem.W.Frag} {mg : Str → Option Value} {base : Heap} {CS CP CB : Addr} (T : Txt K mg CS CP CB)
  (c_Shares_init : C8.Mak P w K mg base 6 "Shares" CS (sp_Shares_init K CS) [])
  (c_Shares_sizes : C8.Met P w K mg base 1 CS "sizes" (sp_Shares_sizes K CS) [])
  (c_all_cuts : C8.Cal P w K mg base 1 "all_cuts" (sp_all_cuts K) [])
  (c_cut : C8.Cal P w K mg base 5 "cut" (sp_cut K) [])
  (c_look_few : C8.Cal P w K mg base 2 "look_few" (sp_look_few K) [])
  (c_look_lines : C8.Cal P w K mg base 7 "look_lines" (sp_look_lines K) [])
  (c_look_same : C8.Cal P w K mg base 1 "look_same" (sp_look_same K) [])
  (c_number_in : C8.Cal P w K mg base 2 "number_in" (sp_number_in K) [])
  (c_shuffles : C8.Cal P w K mg base 1 "shuffles" (sp_shuffles K) [])
  (c_ways_of : C8.Cal P w K mg base 2 "ways_of" (sp_ways_of K) [])
  (Ho : ∀ ds r, R_number_of ds r → ds.length = 2)
  (Hb : ∀ ds r, R_number_of ds r → EvS K (t_number_of K CS CP) { nx := fun _ => r = .non, rt := fun d _ => d = r } (envOf N_number_of ds)) :
  C8.Cal P w K mg base 8 "number_of" (sp_number_of K) [] := by
  obtain ⟨f, fd, FD, hm⟩ := T.d_number_of
  refine ⟨f, fd, ["standing", "other"], [], FD.ok sc_number_of (fun vs H Q E h => len_D Ho h) (fun cdv A outer s H vs Q E hr h => ⟨t_number_of K CS CP, PSs.nox ?_, body_D Hb h⟩), hm, FD.kp, FD.bindsN fun _ _ _ _ _ _ us hl => match us, hl with | [_, _], _ => rfl, .nil⟩
  have nd := sc_number_of.nd
  exact (pss_cons (ps_expr (C8.pe_c c_look_same hr (by decide) (by rfl) (pa_cons (pv 0) (pa_cons (pv 1) pa_nil))))
  (pss_cons (ps_expr (C8.pe_c c_look_few hr (by decide) (by rfl) (pa_cons (pv 0) pa_nil)))
  (pss_cons (ps_expr (C8.pe_c c_look_lines hr (by decide) (by rfl) (pa_cons (pv 0) (pa_cons (pv 1) pa_nil))))
  (pss_cons (ps_par (i := 4) (j := 5) rfl nd rfl rfl (by decide) (by rfl) (by rfl) (pa_cons (C8.pe_mk c_Shares_init hr (by decide) (by rfl) (pa_cons (pv 0) pa_nil)) (pa_cons pe_int pa_nil)) (by rfl))
  (pss_cons (ps_setLc (i := 2) (own := [("one", 10), ("its", 11)]) rfl nd rfl (by rfl) (sw_true rfl rfl rfl (by decide +kernel)) (pi_list (pe_fld (pv 4) rfl)) (blkOk_by (N := N_number_of) (sc := (defScope s_number_of)) (by decide +kernel)) (fun _ _ _ _ _ => (pg_tup rfl (pgs_cons (pg_nm 10 nd) (pgs_cons (pg_nm 11 nd) pgs_nil)))) (fun _ _ _ _ _ => pts_nil) (fun _ _ _ _ _ => (C8.pe_c c_cut hr (by decide) (by rfl) (pa_cons (pv 1) (pa_cons (pv 10) (pa_cons (pv 11) pa_nil))))))
  (pss_cons (ps_for PassesOwn.never rfl (pi_list (C8.pe_c c_all_cuts hr (by decide) (by rfl) (pa_cons (pe_fld (pv 4) rfl) pa_nil))) (pg_nm 3 nd) (pss_cons (ps_if (pt_cmpR (op_eqD hr.units) (pv 3) (pv 2) (nomark _)) (pss_one ps_break) pss_nil)
  (pss_one (ps_ag 5 nd (C8.pe_c c_ways_of hr (by decide) (by rfl) (pa_cons (C8.pe_mt c_Shares_sizes hr (by decide) (pv 4) (pa_cons (pv 3) pa_nil)) pa_nil)) ip_add))))
  (pss_cons (ps_par (i := 6) (j := 7) rfl nd rfl rfl (by decide) (by rfl) (by rfl) (pa_cons (C8.pe_mt c_Shares_sizes hr (by decide) (pv 4) (pa_cons (pv 2) pa_nil)) (pa_cons pe_int pa_nil)) (by rfl))
  (pss_cons (ps_for PassesOwn.never rfl (pi_enum (by rfl) T.b_enumerate (pa_cons (pv 6) pa_nil)) (pg_tup rfl (pgs_cons (pg_nm 8 nd) (pgs_cons (pg_nm 9 nd) pgs_nil))) (pss_one (ps_st 7 nd (pe_op op_add (pe_op op_mul (pv 7) (C8.pe_c c_shuffles hr (by decide) (by rfl) (pa_cons (pv 9) pa_nil))) (C8.pe_c c_number_in hr (by decide) (by rfl) (pa_cons (pv 9) (pa_cons (pe_lc (own := [("about", 12), ("word", 13)]) rfl nd (pi_tup (pe_ix ix_tup (pv 1) (pv 8) (fun _ _ => rfl))) (blkOk_by (N := N_number_of) (sc := (defScope s_number_of)) (by decide +kernel)) (fun _ _ _ _ _ => (pg_tup rfl (pgs_cons (pg_nm 12 nd) (pgs_cons (pg_nm 13 nd) pgs_nil)))) (fun _ _ _ _ _ => pts_nil) (fun _ _ _ _ _ => (pv 12))) pa_nil)))))))
  (pss_one (ps_ret (pe_op op_add (pv 5) (pv 7))))))))))))
end Gr
set_option maxHeartbeats 4000000
namespace Gr
open PySem PySem.Spec PyProof.Rows L2
def t_Shares_init (K : PySem.W.Frag) (CS CP : Addr) : TS :=
  (tSeq (sFld K (tVar 0) (tVar 1) "own_standing")
  (tSeq (sFld K (tVar 0) (tCall (sp_pairs_of K) [] C8.E0 (tCons (tVar 1) tNil)) "pairs")
  (sFld K (tVar 0) (tLc (iList K (tFld K (tVar 0) "pairs")) (gTup K 2 (gCons (gName 2) (gCons (gName 3) gNil))) tYes (tCB (cLen K) (tCons (tCall (sp_line K) [] C8.E0 (tCons (tVar 1) (tCons (tVar 2) (tCons (tVar 3) tNil)))) tNil)) [2, 3]) "lengths")))
theorem c_Shares_init {P : Program} {w : World} {K : PySem.W.Frag} {mg : Str → Option Value} {base : Heap} {CS CP CB : Addr} (T : Txt K mg CS CP CB)
  (c_line : C8.Cal P w K mg base 5 "line" (sp_line K) [])
  (c_pairs_of : C8.Cal P w K mg base 1 "pairs_of" (sp_pairs_of K) [])
  (Ho : ∀ x C dx ds P, (R_Shares_init CS) x C dx ds P → ds.length = 1)
  (Hb : ∀ x C dx ds P, (R_Shares_init CS) x C dx ds P → EvS K (t_Shares_init K CS CP) { nx := fun ρ => ∃ (i : Nat) (s' : Sl), ρ[i]? = some s' ∧ P s' ∧ s'.at_ = some (.ref x), rt := fun _ _ => False } (.res (oB x C dx [] []) :: envOf N_Shares_init.tail ds)) :
  C8.Mak P w K mg base 6 "Shares" CS (sp_Shares_init K CS) [] := by
  obtain ⟨f, fd, FD, hm⟩ := T.d_Shares_init
  refine ⟨f, fd, ["self", "standing"], [], hm, FD.ok sc_Shares_init (fun vs H Q E h => len_T Ho h) (fun cdv A outer s H vs Q E hr h => ⟨t_Shares_init K CS CP, PSs.nox ?_, body_T Hb h⟩), T.c_CS, FD.bindsN fun _ _ _ _ _ _ us hl => match us, hl with | [_, _], _ => rfl, .nil⟩
  have nd := sc_Shares_init.nd
  exact (pss_cons (ps_fld (pv 0) (pv 1) rfl)
  (pss_cons (ps_fld (pv 0) (C8.pe_c c_pairs_of hr (by decide) (by rfl) (pa_cons (pv 1) pa_nil)) rfl)
  (pss_one (ps_fld (pv 0) (pe_lc (own := [("one", 2), ("other", 3)]) rfl nd (pi_list (pe_fld (pv 0) rfl)) (blkOk_by (N := N_Shares_init) (sc := (defScope s_Shares_init)) (by decide +kernel)) (fun _ _ _ _ _ => (pg_tup rfl (pgs_cons (pg_nm 2 nd) (pgs_cons (pg_nm 3 nd) pgs_nil)))) (fun _ _ _ _ _ => pts_nil) (fun _ _ _ _ _ => (pe_callB call_len_seq (by rfl) T.b_len PySem.boot_len (pa_cons (C8.pe_c c_line hr (by decide) (by rfl) (pa_cons (pv 1) (pa_cons (pv 2) (pa_cons (pv 3) pa_nil)))) pa_nil)))) rfl))))
def t_Pecking_init (K : PySem.W.Frag) (CS CP : Addr) : TS :=
  (tSeq (sFld K (tVar 0) (tCall (sp_as_standing K) [] C8.E0 (tCons (tVar 1) tNil)) "here")
  (sFld K (tVar 0) (tLst tNil) "so_far"))
theorem c_Pecking_init {P : Program} {w : World} {K : PySem.W.Frag} {mg : Str → Option Value} {base : Heap} {CS CP CB : Addr} (T : Txt K mg CS CP CB)
  (c_as_standing : C8.Cal P w K mg base 2 "as_standing" (sp_as_standing K) [])
  (Ho : ∀ x C dx ds P, (R_Pecking_init CP) x C dx ds P → ds.length = 1)
  (Hb : ∀ x C dx ds P, (R_Pecking_init CP) x C dx ds P → EvS K (t_Pecking_init K CS CP) { nx := fun ρ => ∃ (i : Nat) (s' : Sl), ρ[i]? = some s' ∧ P s' ∧ s'.at_ = some (.ref x), rt := fun _ _ => False } (.res (oB x C dx [] []) :: envOf N_Pecking_init.tail ds)) :
  C8.Mak P w K mg base 3 "Pecking" CP (sp_Pecking_init K CP) [] := by
  obtain ⟨f, fd, FD, hm⟩ := T.d_Pecking_init
  refine ⟨f, fd, ["self", "standing"], [], hm, FD.ok sc_Pecking_init (fun vs H Q E h => len_T Ho h) (fun cdv A outer s H vs Q E hr h => ⟨t_Pecking_init K CS CP, PSs.nox ?_, body_T Hb h⟩), T.c_CP, FD.bindsN fun _ _ _ _ _ _ us hl => match us, hl with | [_, _], _ => rfl, .nil⟩
  have nd := sc_Pecking_init.nd
  exact (pss_cons (ps_fld (pv 0) (C8.pe_c c_as_standing hr (by decide) (by rfl) (pa_cons (pv 1) pa_nil)) rfl)
  (pss_one (ps_fld (pv 0) (pe_lst pa_nil) rfl)))
def t_barred_by (K : PySem.W.Frag) (CS CP : Addr) : TS :=
  (tSeq (tDrop (tCallN 2 1 (sp_givings K) catV C8.E0 (tCons (tVar 0) (tCons (tVar 1) tNil)) (tCons (tVar 2) tNil)))
  (tRet (tC .non)))
theorem c_barred_by {P : Program} {w : World} {K : PySem.W.Frag} {mg : Str → Option Value} {base : Heap} {CS CP CB : Addr} (T : Txt K mg CS CP CB)
  (c_givings : CalN P w K mg base 9 "givings" 2 ["asleep"] (sp_givings K))
  (Ho : ∀ ds r, R_alk0 ds r → ds.length = 3)
  (Hb : ∀ ds r, R_alk0 ds r → EvS K (t_barred_by K CS CP) { nx := fun _ => r = .non, rt := fun d _ => d = r } (envOf N_barred_by ds)) :
  C8.Cal P w K mg base 10 "barred_by" (sp_barred_by K) [] := by
  obtain ⟨f, fd, FD, hm⟩ := T.d_barred_by
  refine ⟨f, fd, ["one", "other", "asleep"], [], FD.ok sc_barred_by (fun vs H Q E h => len_D Ho h) (fun cdv A outer s H vs Q E hr h => ⟨t_barred_by K CS CP, PSs.nox ?_, body_D Hb h⟩), hm, FD.kp, FD.bindsN fun _ _ _ _ _ _ us hl => match us, hl with | [_, _, _], _ => rfl, .nil⟩
  have nd := sc_barred_by.nd
  exact (pss_cons (ps_try_thru0 (pss_one (ps_expr (pe_cM c_givings hr (by decide) (by rfl) (pa_cons (pv 0) (pa_cons (pv 1) pa_nil)) (pk_cons (pv 2) pk_nil)))))
  (pss_one (ps_ret pe_non)))
def t_gone_over (K : PySem.W.Frag) (CS CP : Addr) : TS :=
  (tSeq (tAsg (tOp (rIxT K) (tOp (rIxT K) (tVar 0) (tVar 1)) (tUn (rU fun i => .int (-i)) (tC (.int 1)))) (gTup K 2 (gCons (gName 3) (gCons (gName 4) gNil))))
  (tSeq (tAsg (tCB (cList K) (tCons (tVar 0) tNil)) (gName 2))
  (tSeq (tAsg (tSl (rSlA K) (tOp (rIxT K) (tVar 0) (tVar 1)) tNoPart (tPart (tUn (rU fun i => .int (-i)) (tC (.int 1))))) (gSub (tVar 2) (tVar 1) rSetL))
  (tSeq (tAsg (tOp (rCatA K) (tOp (rIxT K) (tVar 0) (tVar 3)) (tTup (tCons (tTup (tCons (tVar 1) (tCons (tVar 4) tNil))) tNil))) (gSub (tVar 2) (tVar 3) rSetL))
  (tRet (tCB (cTuple K) (tCons (tVar 2) tNil)))))))
theorem c_gone_over {P : Program} {w : World} {K : PySem.W.Frag} {mg : Str → Option Value} {base : Heap} {CS CP CB : Addr} (T : Txt K mg CS CP CB)
  
  (Ho : ∀ ds r, R_gone_over ds r → ds.length = 2)
  (Hb : ∀ ds r, R_gone_over ds r → EvS K (t_gone_over K CS CP) { nx := fun _ => r = .non, rt := fun d _ => d = r } (envOf N_gone_over ds)) :
  C8.Cal P w K mg base 1 "gone_over" (sp_gone_over K) [] := by
  obtain ⟨f, fd, FD, hm⟩ := T.d_gone_over
  refine ⟨f, fd, ["standing", "dove"], [], FD.ok sc_gone_over (fun vs H Q E h => len_D Ho h) (fun cdv A outer s H vs Q E hr h => ⟨t_gone_over K CS CP, PSs.nox ?_, body_D Hb h⟩), hm, FD.kp, FD.bindsN fun _ _ _ _ _ _ us hl => match us, hl with | [_, _], _ => rfl, .nil⟩
  have nd := sc_gone_over.nd
  exact (pss_cons (ps_asg (pe_ix ix_tup (pe_ix ix_tup (pv 0) (pv 1) (fun _ _ => rfl)) (pe_un un_neg pe_int) (fun _ _ => rfl)) (pg_tup rfl (pgs_cons (pg_nm 3 nd) (pgs_cons (pg_nm 4 nd) pgs_nil))))
  (pss_cons (ps_st 2 nd (pe_callTy call_list_of (by rfl) T.b_list (by decide +kernel) (pa_cons (pv 0) pa_nil)))
  (pss_cons (ps_asg (pe_slice sl_tupA (pe_ix ix_tup (pv 0) (pv 1) (fun _ _ => rfl)) po_none (po_some (pe_un un_neg pe_int))) (pg_sub (pv 2) (pv 1) set_list (fun _ => rfl)))
  (pss_cons (ps_asg (pe_op op_catA (pe_ix ix_tup (pv 0) (pv 3) (fun _ _ => rfl)) (pe_tup (pa_cons (pe_tup (pa_cons (pv 1) (pa_cons (pv 4) pa_nil))) pa_nil))) (pg_sub (pv 2) (pv 3) set_list (fun _ => rfl)))
  (pss_one (ps_ret (pe_callTy call_tuple_of (by rfl) T.b_tuple (by decide +kernel) (pa_cons (pv 2) pa_nil))))))))
def t_abouts_of (K : PySem.W.Frag) (CS CP : Addr) : TS :=
  (tRet (tLc (iTup K (tVar 0)) (gTup K 2 (gCons (gName 1) (gCons (gName 2) gNil))) tYes (tVar 1) [1, 2]))
theorem c_abouts_of {P : Program} {w : World} {K : PySem.W.Frag} {mg : Str → Option Value} {base : Heap} {CS CP CB : Addr} (T : Txt K mg CS CP CB)
  
  (Ho : ∀ ds r, R_abouts_of ds r → ds.length = 1)
  (Hb : ∀ ds r, R_abouts_of ds r → EvS K (t_abouts_of K CS CP) { nx := fun _ => r = .non, rt := fun d _ => d = r } (envOf N_abouts_of ds)) :
  C8.Cal P w K mg base 1 "abouts_of" (sp_abouts_of K) [] := by
  obtain ⟨f, fd, FD, hm⟩ := T.d_abouts_of
  refine ⟨f, fd, ["heap"], [], FD.ok sc_abouts_of (fun vs H Q E h => len_D Ho h) (fun cdv A outer s H vs Q E hr h => ⟨t_abouts_of K CS CP, PSs.nox ?_, body_D Hb h⟩), hm, FD.kp, FD.bindsN fun _ _ _ _ _ _ us hl => match us, hl with | [_], _ => rfl, .nil⟩
  have nd := sc_abouts_of.nd
  exact (pss_one (ps_ret (pe_lc (own := [("about", 1), ("word", 2)]) rfl nd (pi_tup (pv 0)) (blkOk_by (N := N_abouts_of) (sc := (defScope s_abouts_of)) (by decide +kernel)) (fun _ _ _ _ _ => (pg_tup rfl (pgs_cons (pg_nm 1 nd) (pgs_cons (pg_nm 2 nd) pgs_nil)))) (fun _ _ _ _ _ => pts_nil) (fun _ _ _ _ _ => (pv 1)))))
def t_parted (K : PySem.W.Frag) (CS CP : Addr) : TS :=
  (tSeq (tAsg (tDc (iTup K (tSl (rSlA K) (tOp (rIxT K) (tVar 0) (tVar 2)) (tPart (tVar 3)) tNoPart)) (gTup K 2 (gCons (gName 7) (gCons (gName 8) gNil))) tYes (tVar 7) (tOp (rI0 fun i j => .int (i - j)) (tCall (sp_cut K) [] C8.E0 (tCons (tVar 0) (tCons (tVar 2) (tCons (tVar 7) tNil)))) (tCall (sp_cut K) [] C8.E0 (tCons (tVar 1) (tCons (tVar 2) (tCons (tVar 7) tNil))))) [7, 8]) (gName 4))
  (tSeq (tPar 5 6 (tCons (tLst tNil) (tCons (tLst tNil) tNil)))
  (tSeq (tFor (iTup K (tRevT K (tSl (rSlA K) (tOp (rIxT K) (tVar 0) (tVar 2)) (tPart (tVar 3)) tNoPart))) (gTup K 2 (gCons (gName 7) (gCons (gName 8) gNil))) (tIfS (tTest (tOp (rI0 fun i j => .bl (decide (j < i))) (tDGet (tVar 4) (tVar 7)) (tC (.int 0)))) (tSeq (sDAug (tVar 4) (tVar 7) (tC (.int 1)) rSub)
  (tDrop (tBM K "list" rAppend (tVar 6) (tCons (tVar 7) tNil)))) (tDrop (tBM K "list" rAppend (tVar 5) (tCons (tVar 7) tNil)))))
  (tRet (tTup (tCons (tRevL K (tVar 5)) (tCons (tRevL K (tVar 6)) tNil)))))))
theorem c_parted {P : Program} {w : World} {K : PySem.W.Frag} {mg : Str → Option Value} {base : Heap} {CS CP CB : Addr} (T : Txt K mg CS CP CB)
  (c_cut : C8.Cal P w K mg base 5 "cut" (sp_cut K) [])
  (Ho : ∀ ds r, R_parted ds r → ds.length = 4)
  (Hb : ∀ ds r, R_parted ds r → EvS K (t_parted K CS CP) { nx := fun _ => r = .non, rt := fun d _ => d = r } (envOf N_parted ds)) :
  C8.Cal P w K mg base 6 "parted" (sp_parted K) [] := by
  obtain ⟨f, fd, FD, hm⟩ := T.d_parted
  refine ⟨f, fd, ["here", "other", "dove", "low"], [], FD.ok sc_parted (fun vs H Q E h => len_D Ho h) (fun cdv A outer s H vs Q E hr h => ⟨t_parted K CS CP, PSs.nox ?_, body_D Hb h⟩), hm, FD.kp, FD.bindsN fun _ _ _ _ _ _ us hl => match us, hl with | [_, _, _, _], _ => rfl, .nil⟩
  have nd := sc_parted.nd
  exact (pss_cons (ps_setDc (i := 4) (own := [("about", 7), ("word", 8)]) rfl nd rfl (by rfl) (sw_trueD rfl rfl rfl (by decide +kernel)) (pi_tup (pe_slice sl_tupA (pe_ix ix_tup (pv 0) (pv 2) (fun _ _ => rfl)) (po_some (pv 3)) po_none)) (blkOk_by (N := N_parted) (sc := (defScope s_parted)) (by decide +kernel)) (fun _ _ _ _ _ => (pg_tup rfl (pgs_cons (pg_nm 7 nd) (pgs_cons (pg_nm 8 nd) pgs_nil)))) (fun _ _ _ _ _ => pts_nil) (fun _ _ _ _ _ => (pv 7)) (fun _ _ _ _ _ => (pe_op op_sub (C8.pe_c c_cut hr (by decide) (by rfl) (pa_cons (pv 0) (pa_cons (pv 2) (pa_cons (pv 7) pa_nil)))) (C8.pe_c c_cut hr (by decide) (by rfl) (pa_cons (pv 1) (pa_cons (pv 2) (pa_cons (pv 7) pa_nil)))))) (fun _ => rfl))
  (pss_cons (ps_par (i := 5) (j := 6) rfl nd rfl rfl (by decide) (by rfl) (by rfl) (pa_cons (pe_lst pa_nil) (pa_cons (pe_lst pa_nil) pa_nil)) (by rfl))
  (pss_cons (ps_for PassesOwn.never rfl (pi_tup (pe_revT (pe_slice sl_tupA (pe_ix ix_tup (pv 0) (pv 2) (fun _ _ => rfl)) (po_some (pv 3)) po_none))) (pg_tup rfl (pgs_cons (pg_nm 7 nd) (pgs_cons (pg_nm 8 nd) pgs_nil))) (pss_one (ps_if (pt_cmpR op_gt (pe_dget (hu_of hr) (pv 4) (pv 7) (fun _ _ => rfl)) pe_int (nomark _)) (pss_cons (ps_daug (hu_of hr) (pv 4) (pv 7) pe_int in_sub (fun _ _ _ => rfl))
  (pss_one (ps_expr (pe_bm PySem.F.plainAttrs_list PySem.F.slot_list_append PySem.F.type_list_append mt_append (pv 6) (pa_cons (pv 7) pa_nil))))) (pss_one (ps_expr (pe_bm PySem.F.plainAttrs_list PySem.F.slot_list_append PySem.F.type_list_append mt_append (pv 5) (pa_cons (pv 7) pa_nil)))))))
  (pss_one (ps_ret (pe_tup (pa_cons (pe_revL (pv 5)) (pa_cons (pe_revL (pv 6)) pa_nil))))))))
def t_Pecking_peck (K : PySem.W.Frag) (CS CP : Addr) : TS :=
  (tSeq (tAsg (tOp (rIxT K) (tOp (rIxT K) (tOp (rIxT K) (tFld K (tVar 0) "here") (tVar 1)) (tUn (rU fun i => .int (-i)) (tC (.int 1)))) (tC (.int 0))) (gName 2))
  (tSeq (sFld K (tVar 0) (tCall (sp_gone_over K) [] C8.E0 (tCons (tFld K (tVar 0) "here") (tCons (tVar 1) tNil))) "here")
  (tSeq (tDrop (tBM K "list" rAppend (tFld K (tVar 0) "so_far") (tCons (tVar 1) tNil)))
  (tRet (tVar 2)))))
theorem c_Pecking_peck {P : Program} {w : World} {K : PySem.W.Frag} {mg : Str → Option Value} {base : Heap} {CS CP CB : Addr} (T : Txt K mg CS CP CB)
  (c_gone_over : C8.Cal P w K mg base 1 "gone_over" (sp_gone_over K) [])
  (Ho : ∀ s ds r s', (R_peck CP) s ds r s' → ds.length = 1)
  (Hb : ∀ s ds r s', (R_peck CP) s ds r s' → EvS K (t_Pecking_peck K CS CP) { nx := fun ρ => r = .non ∧ ∃ i : Nat, ρ[i]? = some s', rt := fun d ρ => d = r ∧ ∃ i : Nat, ρ[i]? = some s' } (s :: envOf N_Pecking_peck.tail ds)) :
  C8.Met P w K mg base 2 CP "peck" (sp_Pecking_peck K CP) [] := by
  obtain ⟨f, fd, FD, hm⟩ := T.d_Pecking_peck
  refine ⟨f, fd, ["self", "dove"], [], T.l_CP, hm, FD.ok sc_Pecking_peck (fun vs H Q E h => len_S Ho h) (fun cdv A outer s H vs Q E hr h => ⟨t_Pecking_peck K CS CP, PSs.nox ?_, body_S Hb h⟩), FD.bindsN fun _ _ _ _ _ _ us hl => match us, hl with | [_, _], _ => rfl, .nil⟩
  have nd := sc_Pecking_peck.nd
  exact (pss_cons (ps_st 2 nd (pe_ix ix_tup (pe_ix ix_tup (pe_ix ix_tup (pe_fld (pv 0) rfl) (pv 1) (fun _ _ => rfl)) (pe_un un_neg pe_int) (fun _ _ => rfl)) pe_int (fun _ _ => rfl)))
  (pss_cons (ps_fld (pv 0) (C8.pe_c c_gone_over hr (by decide) (by rfl) (pa_cons (pe_fld (pv 0) rfl) (pa_cons (pv 1) pa_nil))) rfl)
  (pss_cons (ps_expr (pe_bm PySem.F.plainAttrs_list PySem.F.slot_list_append PySem.F.type_list_append mt_append (pe_fld (pv 0) rfl) (pa_cons (pv 1) pa_nil)))
  (pss_one (ps_ret (pv 2))))))
def t_Pecking_taken_off (K : PySem.W.Frag) (CS CP : Addr) : TS :=
  (tSeq (tAsg (tLc (iRng1 (tCons (tOp (rI0 fun i j => .int (i - j)) (tCB (cLen K) (tCons (tOp (rIxT K) (tFld K (tVar 0) "here") (tVar 1)) tNil)) (tVar 2)) tNil)) (gName 4) tYes (tMeth CP "peck" (sp_Pecking_peck K CP) [] C8.E0 (tVar 0) (tCons (tVar 1) tNil)) [4]) (gName 3))
  (tRet (tRevL K (tVar 3))))
theorem c_Pecking_taken_off {P : Program} {w : World} {K : PySem.W.Frag} {mg : Str → Option Value} {base : Heap} {CS CP CB : Addr} (T : Txt K mg CS CP CB)
  (c_Pecking_peck : C8.Met P w K mg base 2 CP "peck" (sp_Pecking_peck K CP) [])
  (Ho : ∀ s ds r s', (R_taken_off CP) s ds r s' → ds.length = 2)
  (Hb : ∀ s ds r s', (R_taken_off CP) s ds r s' → EvS K (t_Pecking_taken_off K CS CP) { nx := fun ρ => r = .non ∧ ∃ i : Nat, ρ[i]? = some s', rt := fun d ρ => d = r ∧ ∃ i : Nat, ρ[i]? = some s' } (s :: envOf N_Pecking_taken_off.tail ds)) :
  C8.Met P w K mg base 3 CP "taken_off" (sp_Pecking_taken_off K CP) [] := by
  obtain ⟨f, fd, FD, hm⟩ := T.d_Pecking_taken_off
  refine ⟨f, fd, ["self", "dove", "low"], [], T.l_CP, hm, FD.ok sc_Pecking_taken_off (fun vs H Q E h => len_S Ho h) (fun cdv A outer s H vs Q E hr h => ⟨t_Pecking_taken_off K CS CP, PSs.nox ?_, body_S Hb h⟩), FD.bindsN fun _ _ _ _ _ _ us hl => match us, hl with | [_, _, _], _ => rfl, .nil⟩
  have nd := sc_Pecking_taken_off.nd
  exact (pss_cons (ps_setLc (i := 3) (own := [("turn", 4)]) rfl nd rfl (by rfl) (sw_true rfl rfl rfl (by decide +kernel)) (pi_range1 (by rfl) T.b_range (pa_cons (pe_op op_sub (pe_callB call_len_seq (by rfl) T.b_len PySem.boot_len (pa_cons (pe_ix ix_tup (pe_fld (pv 0) rfl) (pv 1) (fun _ _ => rfl)) pa_nil)) (pv 2)) pa_nil)) (blkOk_by (N := N_Pecking_taken_off) (sc := (defScope s_Pecking_taken_off)) (by decide +kernel)) (fun _ _ _ _ _ => (pg_nm 4 nd)) (fun _ _ _ _ _ => pts_nil) (fun _ _ _ _ _ => (C8.pe_mt c_Pecking_peck hr (by decide) (pv 0) (pa_cons (pv 1) pa_nil))))
  (pss_one (ps_ret (pe_revL (pv 3)))))
def t_Pecking_shuffled (K : PySem.W.Frag) (CS CP : Addr) : TS :=
  (tSeq (tDrop (tMeth CP "taken_off" (sp_Pecking_taken_off K CP) [] C8.E0 (tVar 0) (tCons (tVar 1) (tCons (tVar 2) tNil))))
  (tFor (iList K (tVar 3)) (gName 4) (tDrop (tMeth CP "peck" (sp_Pecking_peck K CP) [] C8.E0 (tVar 0) (tCons (tVar 4) tNil)))))
theorem c_Pecking_shuffled {P : Program} {w : World} {K : PySem.W.Frag} {mg : Str → Option Value} {base : Heap} {CS CP CB : Addr} (T : Txt K mg CS CP CB)
  (c_Pecking_peck : C8.Met P w K mg base 2 CP "peck" (sp_Pecking_peck K CP) [])
  (c_Pecking_taken_off : C8.Met P w K mg base 3 CP "taken_off" (sp_Pecking_taken_off K CP) [])
  (Ho : ∀ s ds r s', (R_shuffled CP) s ds r s' → ds.length = 3)
  (Hb : ∀ s ds r s', (R_shuffled CP) s ds r s' → EvS K (t_Pecking_shuffled K CS CP) { nx := fun ρ => r = .non ∧ ∃ i : Nat, ρ[i]? = some s', rt := fun d ρ => d = r ∧ ∃ i : Nat, ρ[i]? = some s' } (s :: envOf N_Pecking_shuffled.tail ds)) :
  C8.Met P w K mg base 4 CP "shuffled" (sp_Pecking_shuffled K CP) [] := by
  obtain ⟨f, fd, FD, hm⟩ := T.d_Pecking_shuffled
  refine ⟨f, fd, ["self", "dove", "low", "abouts"], [], T.l_CP, hm, FD.ok sc_Pecking_shuffled (fun vs H Q E h => len_S Ho h) (fun cdv A outer s H vs Q E hr h => ⟨t_Pecking_shuffled K CS CP, PSs.nox ?_, body_S Hb h⟩), FD.bindsN fun _ _ _ _ _ _ us hl => match us, hl with | [_, _, _, _], _ => rfl, .nil⟩
  have nd := sc_Pecking_shuffled.nd
  exact (pss_cons (ps_expr (C8.pe_mt c_Pecking_taken_off hr (by decide) (pv 0) (pa_cons (pv 1) (pa_cons (pv 2) pa_nil))))
  (pss_one (ps_for PassesOwn.never rfl (pi_list (pv 3)) (pg_nm 4 nd) (pss_one (ps_expr (C8.pe_mt c_Pecking_peck hr (by decide) (pv 0) (pa_cons (pv 4) pa_nil)))))))
def t_lead_awake (K : PySem.W.Frag) (CS CP : Addr) : TS :=
  (tSeq (tFor (iList K (tVar 2)) (gTup K 2 (gCons (gName 3) (gCons (gName 4) gNil))) (tSeq (tAsg (tCall (sp_parted K) [] C8.E0 (tCons (tFld K (tVar 0) "here") (tCons (tVar 1) (tCons (tVar 3) (tCons (tVar 4) tNil))))) (gTup K 2 (gCons (gName 6) (gCons (gName 7) gNil))))
  (tIfS (tTest (tOp (rI0 fun i j => .bl (decide (j < i))) (tCB (cLen K) (tCons (tVar 7) tNil)) (tC (.int 0)))) (tSeq (tDrop (tMeth CP "shuffled" (sp_Pecking_shuffled K CP) [] C8.E0 (tVar 0) (tCons (tVar 3) (tCons (tVar 4) (tCons (tOp rCat (tVar 6) (tVar 7)) tNil)))))
  (tDrop (tMeth CP "taken_off" (sp_Pecking_taken_off K CP) [] C8.E0 (tVar 0) (tCons (tVar 3) (tCons (tOp (rI0 fun i j => .int (i + j)) (tVar 4) (tCB (cLen K) (tCons (tVar 6) tNil))) tNil))))) tNext)))
  (tFor (iList K (tVar 2)) (gTup K 2 (gCons (gName 3) (gCons (gName 4) gNil))) (tSeq (tAsg (tCall (sp_abouts_of K) [] C8.E0 (tCons (tSl (rSlA K) (tOp (rIxT K) (tVar 1) (tVar 3)) (tPart (tVar 4)) tNoPart) tNil)) (gName 5))
  (tIfS (tTest (tOp (rNeD K) (tCall (sp_abouts_of K) [] C8.E0 (tCons (tSl (rSlA K) (tOp (rIxT K) (tFld K (tVar 0) "here") (tVar 3)) (tPart (tVar 4)) tNoPart) tNil)) (tVar 5))) (tDrop (tMeth CP "shuffled" (sp_Pecking_shuffled K CP) [] C8.E0 (tVar 0) (tCons (tVar 3) (tCons (tVar 4) (tCons (tVar 5) tNil))))) tNext))))
theorem c_lead_awake {P : Program} {w : World} {K : PySem.W.Frag} {mg : Str → Option Value} {base : Heap} {CS CP CB : Addr} (T : Txt K mg CS CP CB)
  (c_Pecking_shuffled : C8.Met P w K mg base 4 CP "shuffled" (sp_Pecking_shuffled K CP) [])
  (c_Pecking_taken_off : C8.Met P w K mg base 3 CP "taken_off" (sp_Pecking_taken_off K CP) [])
  (c_abouts_of : C8.Cal P w K mg base 1 "abouts_of" (sp_abouts_of K) [])
  (c_parted : C8.Cal P w K mg base 6 "parted" (sp_parted K) [])
  (Ho : ∀ s ds r s', (R_lead_awake CP) s ds r s' → ds.length = 2)
  (Hb : ∀ s ds r s', (R_lead_awake CP) s ds r s' → EvS K (t_lead_awake K CS CP) { nx := fun ρ => r = .non ∧ ∃ i : Nat, ρ[i]? = some s', rt := fun d ρ => d = r ∧ ∃ i : Nat, ρ[i]? = some s' } (s :: envOf N_lead_awake.tail ds)) :
  C8.Cal P w K mg base 7 "lead_awake" (sp_lead_awake K CP) [] := by
  obtain ⟨f, fd, FD, hm⟩ := T.d_lead_awake
  refine ⟨f, fd, ["pecking", "other", "lows"], [], FD.ok sc_lead_awake (fun vs H Q E h => len_S Ho h) (fun cdv A outer s H vs Q E hr h => ⟨t_lead_awake K CS CP, PSs.nox ?_, body_S Hb h⟩), hm, FD.kp, FD.bindsN fun _ _ _ _ _ _ us hl => match us, hl with | [_, _, _], _ => rfl, .nil⟩
  have nd := sc_lead_awake.nd
  exact (pss_cons (ps_for PassesOwn.never rfl (pi_list (pv 2)) (pg_tup rfl (pgs_cons (pg_nm 3 nd) (pgs_cons (pg_nm 4 nd) pgs_nil))) (pss_cons (ps_asg (C8.pe_c c_parted hr (by decide) (by rfl) (pa_cons (pe_fld (pv 0) rfl) (pa_cons (pv 1) (pa_cons (pv 3) (pa_cons (pv 4) pa_nil))))) (pg_tup rfl (pgs_cons (pg_nm 6 nd) (pgs_cons (pg_nm 7 nd) pgs_nil))))
  (pss_one (ps_if (pt_cmpR op_gt (pe_callB call_len_seq (by rfl) T.b_len PySem.boot_len (pa_cons (pv 7) pa_nil)) pe_int (nomark _)) (pss_cons (ps_expr (C8.pe_mt c_Pecking_shuffled hr (by decide) (pv 0) (pa_cons (pv 3) (pa_cons (pv 4) (pa_cons (pe_op op_cat (pv 6) (pv 7)) pa_nil)))))
  (pss_one (ps_expr (C8.pe_mt c_Pecking_taken_off hr (by decide) (pv 0) (pa_cons (pv 3) (pa_cons (pe_op op_add (pv 4) (pe_callB call_len_seq (by rfl) T.b_len PySem.boot_len (pa_cons (pv 6) pa_nil))) pa_nil)))))) pss_nil))))
  (pss_one (ps_for PassesOwn.never rfl (pi_list (pv 2)) (pg_tup rfl (pgs_cons (pg_nm 3 nd) (pgs_cons (pg_nm 4 nd) pgs_nil))) (pss_cons (ps_st 5 nd (C8.pe_c c_abouts_of hr (by decide) (by rfl) (pa_cons (pe_slice sl_tupA (pe_ix ix_tup (pv 1) (pv 3) (fun _ _ => rfl)) (po_some (pv 4)) po_none) pa_nil)))
  (pss_one (ps_if (pt_cmpR (op_neD hr.units) (C8.pe_c c_abouts_of hr (by decide) (by rfl) (pa_cons (pe_slice sl_tupA (pe_ix ix_tup (pe_fld (pv 0) rfl) (pv 3) (fun _ _ => rfl)) (po_some (pv 4)) po_none) pa_nil)) (pv 5) (nomark _)) (pss_one (ps_expr (C8.pe_mt c_Pecking_shuffled hr (by decide) (pv 0) (pa_cons (pv 3) (pa_cons (pv 4) (pa_cons (pv 5) pa_nil)))))) pss_nil))))))
end Gr
set_option maxHeartbeats 4000000
namespace Gr
open PySem PySem.Spec PyProof.Rows L2
def t_between (K : PySem.W.Frag) (CS CP : Addr) : TS :=
  (tSeq (tAsg (tCall (sp_barred_by K) [] C8.E0 (tCons (tVar 0) (tCons (tVar 1) (tCons (tVar 2) tNil)))) (gName 3))
  (tSeq (tIfS (tTest (tOp rNotN (tVar 3) (tC .non))) tNever tNext)
  (tSeq (tPar 7 8 (tCons (tCallN 2 1 (sp_givings K) catV C8.E0 (tCons (tVar 0) (tCons (tVar 1) tNil)) (tCons (tVar 2) tNil)) (tCons (tCallN 2 1 (sp_waits K) catV C8.E0 (tCons (tVar 0) (tCons (tVar 1) tNil)) (tCons (tVar 2) tNil)) tNil)))
  (tSeq (tAsg (tCall (sp_order_of K) [] C8.E0 (tCons (tVar 7) (tCons (tVar 8) tNil))) (gName 4))
  (tSeq (tIfS (tTest (tOp (rI0 fun i j => .bl (decide (i < j))) (tCB (cLen K) (tCons (tVar 4) tNil)) (tCB (cLen K) (tCons (tVar 7) tNil)))) tNever tNext)
  (tSeq (tAsg (tMake CP (sp_Pecking_init K CP) [] C8.E0 (tCons (tVar 0) tNil)) (gName 5))
  (tSeq (tFor (iList K (tVar 4)) (gTup K 2 (gCons (gName 9) (gCons (gName 10) gNil))) tNever)
  (tSeq (tAsg (tListEnum K (tCons (tCallN 2 1 (sp_still K) catV C8.E0 (tCons (tVar 0) (tCons (tVar 1) tNil)) (tCons (tVar 2) tNil)) tNil)) (gName 6))
  (tSeq (tDrop (tCall (sp_lead_awake K CP) [] C8.E0 (tCons (tVar 5) (tCons (tVar 1) (tCons (tLc (iList K (tVar 6)) (gTup K 2 (gCons (gName 9) (gCons (gName 11) gNil))) (tTest (tOp (rIn K true) (tVar 9) (tVar 2))) (tTup (tCons (tVar 9) (tCons (tVar 11) tNil))) [9, 11]) tNil)))))
  (tRet (tTup (tCons (tC (.str "row")) (tCons (tFld K (tVar 5) "so_far") tNil)))))))))))))
theorem c_between {P : Program} {w : World} {K : PySem.W.Frag} {mg : Str → Option Value} {base : Heap} {CS CP CB : Addr} (T : Txt K mg CS CP CB)
  (c_Pecking_init : C8.Mak P w K mg base 3 "Pecking" CP (sp_Pecking_init K CP) [])
  (c_barred_by : C8.Cal P w K mg base 10 "barred_by" (sp_barred_by K) [])
  (c_givings : CalN P w K mg base 9 "givings" 2 ["asleep"] (sp_givings K))
  (c_lead_awake : C8.Cal P w K mg base 7 "lead_awake" (sp_lead_awake K CP) [])
  (c_order_of : C8.Cal P w K mg base 1 "order_of" (sp_order_of K) [])
  (c_still : CalN P w K mg base 3 "still" 2 ["asleep"] (sp_still K))
  (c_waits : CalN P w K mg base 9 "waits" 2 ["asleep"] (sp_waits K))
  (Ho : ∀ ds r, R_between ds r → ds.length = 3)
  (Hb : ∀ ds r, R_between ds r → EvS K (t_between K CS CP) { nx := fun _ => r = .non, rt := fun d _ => d = r } (envOf N_between ds)) :
  ∃ eb : Addr, (∀ H, SqT K H eb []) ∧ C8.Cal P w K mg base 11 "between" (sp_between K) [.ref eb] := by
  obtain ⟨eb, f, fd, FD, hm, he⟩ := T.k_between
  obtain ⟨ks, rk, bi⟩ := FD.binds0 (ps := ["one", "other", "asleep"]) 2 (by simp) rfl fun D doc pm an cdv ct us ks h1 h2 => match us, ks, h1, h2 with | [_, _], [_], _, _ => ⟨_, _, _, _, _, _, rfl, rfl, rfl⟩
  refine ⟨eb, he, f, fd, ["one", "other", "asleep"], ks, FD.ok sc_between (fun vs H Q E h => len_D Ho h) (fun cdv A outer s H vs Q E hr h => ⟨t_between K CS CP, PSs.nox ?_, body_D Hb h⟩), hm, FD.kp, bi, rk⟩
  have nd := sc_between.nd
  exact (pss_cons (ps_st 3 nd (C8.pe_c c_barred_by hr (by decide) (by rfl) (pa_cons (pv 0) (pa_cons (pv 1) (pa_cons (pv 2) pa_nil)))))
  (pss_cons (ps_if (pt_cmpR op_notN (pv 3) pe_non (nomark _)) pss_never pss_nil)
  (pss_cons (ps_par (i := 7) (j := 8) rfl nd rfl rfl (by decide) (by rfl) (by rfl) (pa_cons (pe_cM c_givings hr (by decide) (by rfl) (pa_cons (pv 0) (pa_cons (pv 1) pa_nil)) (pk_cons (pv 2) pk_nil)) (pa_cons (pe_cM c_waits hr (by decide) (by rfl) (pa_cons (pv 0) (pa_cons (pv 1) pa_nil)) (pk_cons (pv 2) pk_nil)) pa_nil)) (by rfl))
  (pss_cons (ps_st 4 nd (C8.pe_c c_order_of hr (by decide) (by rfl) (pa_cons (pv 7) (pa_cons (pv 8) pa_nil))))
  (pss_cons (ps_if (pt_cmpR op_lt (pe_callB call_len_seq (by rfl) T.b_len PySem.boot_len (pa_cons (pv 4) pa_nil)) (pe_callB call_len_seq (by rfl) T.b_len PySem.boot_len (pa_cons (pv 7) pa_nil)) (nomark _)) pss_never pss_nil)
  (pss_cons (ps_st 5 nd (C8.pe_mk c_Pecking_init hr (by decide) (by rfl) (pa_cons (pv 0) pa_nil)))
  (pss_cons (ps_for PassesOwn.never rfl (pi_list (pv 4)) (pg_tup rfl (pgs_cons (pg_nm 9 nd) (pgs_cons (pg_nm 10 nd) pgs_nil))) pss_never)
  (pss_cons (ps_st 6 nd (pe_listEnum rfl (by rfl) T.b_list (by rfl) T.b_enumerate (pa_cons (pe_cM c_still hr (by decide) (by rfl) (pa_cons (pv 0) (pa_cons (pv 1) pa_nil)) (pk_cons (pv 2) pk_nil)) pa_nil)))
  (pss_cons (ps_expr (C8.pe_c c_lead_awake hr (by decide) (by rfl) (pa_cons (pv 5) (pa_cons (pv 1) (pa_cons (pe_lc (own := [("dove", 9), ("low", 11)]) rfl nd (pi_list (pv 6)) (blkOk_by (N := N_between) (sc := (defScope s_between)) (by decide +kernel)) (fun _ _ _ _ _ => (pg_tup rfl (pgs_cons (pg_nm 9 nd) (pgs_cons (pg_nm 11 nd) pgs_nil)))) (fun _ _ _ _ _ => (pts_one (pt_cmpR op_notIn_seq (pv 9) (pv 2) (by with_unfolding_all rfl)))) (fun _ _ _ _ _ => (pe_tup (pa_cons (pv 9) (pa_cons (pv 11) pa_nil))))) pa_nil)))))
  (pss_one (ps_ret (pe_tup (pa_cons (C8.pe_gc (by rfl) T.g_ROW) (pa_cons (pe_fld (pv 5) rfl) pa_nil))))))))))))))
def t_law_box (K : PySem.W.Frag) (CS CP : Addr) : TS :=
  (tSeq (tAsg (tOp (rIxL K) (tVar 0) (tVar 1)) (gName 2))
  (tRet (tLst (tCons (tOp (rI CMul fun i j => .int (i * j)) (tCB cAbs (tCons (tVar 2) tNil)) (tCB cInt1 (tCons (tOp (rI0 fun i j => .bl (decide (j ≤ i))) (tCB cAbs (tCons (tVar 2) tNil)) (tOp (rI CPow fun i j => .int (i ^ j.toNat)) (tC (.int 10)) (tC (.int 18)))) tNil))) (tCons (tOp (rI0 fun i j => .int (i + j)) (tOp (rI0 fun i j => .int (i + j)) (tOp (rI (fun _ j => 0 < j) fun i j => .int (i % j)) (tVar 2) (tC (.int 2305843009213693951))) (tOp (rI CMul fun i j => .int (i * j)) (tC (.int 15485863)) (tVar 1))) (tC (.int 11))) (tCons (tC (.int 0)) tNil))))))
theorem c_law_box {P : Program} {w : World} {K : PySem.W.Frag} {mg : Str → Option Value} {base : Heap} {CS CP CB : Addr} (T : Txt K mg CS CP CB)
  
  (Ho : ∀ ds r, R_law_box ds r → ds.length = 2)
  (Hb : ∀ vs H Q X, spN K R_law_box vs H Q X → t_law_box K CS CP { nx := fun _ H' => Q .non H', rt := Q } (L2.start N_law_box vs) H) :
  C8.Cal P w K mg base 1 "_law_box" (sp_law_box K) [] := by
  obtain ⟨f, fd, FD, hm⟩ := T.d_law_box
  refine ⟨f, fd, ["_law_cells_here", "_law_k"], [], FD.ok sc_law_box (fun vs H Q E h => len_N Ho h) (fun cdv A outer s H vs Q E hr h => ⟨t_law_box K CS CP, PSs.nox ?_, Hb vs H Q E h⟩), hm, FD.kp, FD.bindsN fun _ _ _ _ _ _ us hl => match us, hl with | [_, _], _ => rfl, .nil⟩
  have nd := sc_law_box.nd
  exact (pss_cons (ps_st 2 nd (pe_ix ix_list (pv 0) (pv 1) (fun _ _ => rfl)))
  (pss_one (ps_ret (pe_lst (pa_cons (pe_op op_mul (pe_callB call_abs (by rfl) T.b_abs (by decide +kernel) (pa_cons (pv 2) pa_nil)) (pe_callTy call_int1 (by rfl) T.b_int (by decide +kernel) (pa_cons (pe_cmpR op_ge (pe_callB call_abs (by rfl) T.b_abs (by decide +kernel) (pa_cons (pv 2) pa_nil)) (pe_op op_pow pe_int pe_int) (nomark _)) pa_nil))) (pa_cons (pe_op op_add (pe_op op_add (pe_op op_mod (pv 2) pe_int) (pe_op op_mul pe_int (pv 1))) pe_int) (pa_cons pe_int pa_nil)))))))
def t_law_take (K : PySem.W.Frag) (CS CP : Addr) : TS :=
  (tSeq (tIfS (tTest (tOp (rI0 fun i j => .bl (decide (j < i))) (tOp (rIxL K) (tVar 0) (tC (.int 0))) (tC (.int 0)))) (tSeq (tAsg (tOp (rI (fun _ j => 0 < j) fun i j => .int (i % j)) (tOp (rIxL K) (tVar 0) (tC (.int 0))) (tVar 1)) (gName 3))
  (tSeq (tAsg (tOp (rI CDiv fun i j => .int (i / j)) (tOp (rIxL K) (tVar 0) (tC (.int 0))) (tVar 1)) (gSub (tVar 0) (tC (.int 0)) rSetL))
  (tRet (tVar 3)))) tNext)
  (tSeq (tAsg (tOp (rI0 fun i j => .int (i + j)) (tOp (rIxL K) (tVar 0) (tC (.int 2))) (tC (.int 1))) (gSub (tVar 0) (tC (.int 2)) rSetL))
  (tSeq (tAsg (tOp (rI (fun _ j => 0 < j) fun i j => .int (i % j)) (tOp (rI0 fun i j => .int (i + j)) (tOp (rIxL K) (tVar 0) (tC (.int 1))) (tOp (rI CMul fun i j => .int (i * j)) (tC (.int 1442695040888963407)) (tOp (rIxL K) (tVar 0) (tC (.int 2))))) (tC (.int 2305843009213693951))) (gName 2))
  (tSeq (tAsg (tOp (rI (fun _ j => 0 < j) fun i j => .int (i % j)) (tOp (rI0 fun i j => .int (i + j)) (tOp (rI0 fun i j => .int (i + j)) (tOp (rI CMul fun i j => .int (i * j)) (tVar 2) (tVar 2)) (tOp (rI CMul fun i j => .int (i * j)) (tC (.int 39373)) (tOp (rIxL K) (tVar 0) (tC (.int 2))))) (tC (.int 7))) (tC (.int 2305843009213693921))) (gName 2))
  (tSeq (tAsg (tOp (rI (fun _ j => 0 < j) fun i j => .int (i % j)) (tOp (rI0 fun i j => .int (i + j)) (tOp (rI CMul fun i j => .int (i * j)) (tVar 2) (tOp (rI0 fun i j => .int (i + j)) (tOp (rI CDiv fun i j => .int (i / j)) (tVar 2) (tC (.int 65536))) (tC (.int 3)))) (tOp (rIxL K) (tVar 0) (tC (.int 2)))) (tC (.int 2305843009213693907))) (gName 2))
  (tRet (tOp (rI (fun _ j => 0 < j) fun i j => .int (i % j)) (tOp (rI CDiv fun i j => .int (i / j)) (tVar 2) (tC (.int 1048576))) (tVar 1))))))))
theorem c_law_take {P : Program} {w : World} {K : PySem.W.Frag} {mg : Str → Option Value} {base : Heap} {CS CP CB : Addr} (T : Txt K mg CS CP CB)
  
  (Ho : ∀ s ds r s', R_law_take s ds r s' → ds.length = 1)
  (Hb : ∀ s ds r s', R_law_take s ds r s' → EvS K (t_law_take K CS CP) { nx := fun ρ => r = .non ∧ ∃ i : Nat, ρ[i]? = some s', rt := fun d ρ => d = r ∧ ∃ i : Nat, ρ[i]? = some s' } (s :: envOf N_law_take.tail ds)) :
  C8.Cal P w K mg base 1 "_law_take" (sp_law_take K) [] := by
  obtain ⟨f, fd, FD, hm⟩ := T.d_law_take
  refine ⟨f, fd, ["_law_box_here", "_law_many"], [], FD.ok sc_law_take (fun vs H Q E h => len_S Ho h) (fun cdv A outer s H vs Q E hr h => ⟨t_law_take K CS CP, PSs.nox ?_, body_S Hb h⟩), hm, FD.kp, FD.bindsN fun _ _ _ _ _ _ us hl => match us, hl with | [_, _], _ => rfl, .nil⟩
  have nd := sc_law_take.nd
  exact (pss_cons (ps_if (pt_cmpR op_gt (pe_ix ix_list (pv 0) pe_int (fun _ _ => rfl)) pe_int (nomark _)) (pss_cons (ps_st 3 nd (pe_op op_mod (pe_ix ix_list (pv 0) pe_int (fun _ _ => rfl)) (pv 1)))
  (pss_cons (ps_asg (pe_op op_fdiv (pe_ix ix_list (pv 0) pe_int (fun _ _ => rfl)) (pv 1)) (pg_sub (pv 0) pe_int set_list (fun _ => rfl)))
  (pss_one (ps_ret (pv 3))))) pss_nil)
  (pss_cons (ps_asg (pe_op op_add (pe_ix ix_list (pv 0) pe_int (fun _ _ => rfl)) pe_int) (pg_sub (pv 0) pe_int set_list (fun _ => rfl)))
  (pss_cons (ps_st 2 nd (pe_op op_mod (pe_op op_add (pe_ix ix_list (pv 0) pe_int (fun _ _ => rfl)) (pe_op op_mul pe_int (pe_ix ix_list (pv 0) pe_int (fun _ _ => rfl)))) pe_int))
  (pss_cons (ps_st 2 nd (pe_op op_mod (pe_op op_add (pe_op op_add (pe_op op_mul (pv 2) (pv 2)) (pe_op op_mul pe_int (pe_ix ix_list (pv 0) pe_int (fun _ _ => rfl)))) pe_int) pe_int))
  (pss_cons (ps_st 2 nd (pe_op op_mod (pe_op op_add (pe_op op_mul (pv 2) (pe_op op_add (pe_op op_fdiv (pv 2) pe_int) pe_int)) (pe_ix ix_list (pv 0) pe_int (fun _ _ => rfl))) pe_int))
  (pss_one (ps_ret (pe_op op_mod (pe_op op_fdiv (pv 2) pe_int) (pv 1)))))))))
def t_law_cells (K : PySem.W.Frag) (CS CP : Addr) : TS :=
  (tSeq (tAsg (tOrT K (tCB (cList K) (tCons (tSl (rSlL K) (tVar 0) tNoPart (tPart (tVar 1))) tNil)) (tLst (tCons (tC (.int 0)) tNil))) (gName 2))
  (tSeq (tFor (iEnum K (tCons (tSl (rSlL K) (tVar 0) (tPart (tVar 1)) (tPart (tC (.int 63)))) tNil)) (gTup K 2 (gCons (gName 3) (gCons (gName 4) gNil))) (tAsg (tOp (rI0 fun i j => .int (i + j)) (tOp (rIxL K) (tVar 2) (tOp (rI (fun _ j => 0 < j) fun i j => .int (i % j)) (tVar 3) (tVar 1))) (tOp (rI CMul fun i j => .int (i * j)) (tVar 4) (tOp (rI0 fun i j => .int (i + j)) (tVar 3) (tC (.int 2))))) (gSub (tVar 2) (tOp (rI (fun _ j => 0 < j) fun i j => .int (i % j)) (tVar 3) (tVar 1)) rSetL)))
  (tRet (tVar 2))))
theorem c_law_cells {P : Program} {w : World} {K : PySem.W.Frag} {mg : Str → Option Value} {base : Heap} {CS CP CB : Addr} (T : Txt K mg CS CP CB)
  
  (Ho : ∀ s ds r s', R_law_cells s ds r s' → ds.length = 1)
  (Hb : ∀ s ds r s', R_law_cells s ds r s' → EvS K (t_law_cells K CS CP) { nx := fun ρ => r = .non ∧ ∃ i : Nat, ρ[i]? = some s', rt := fun d ρ => d = r ∧ ∃ i : Nat, ρ[i]? = some s' } (s :: envOf N_law_cells.tail ds)) :
  C8.Cal P w K mg base 1 "_law_cells" (sp_law_cells K) [] := by
  obtain ⟨f, fd, FD, hm⟩ := T.d_law_cells
  refine ⟨f, fd, ["_law_script", "_law_utmost"], [], FD.ok sc_law_cells (fun vs H Q E h => len_S Ho h) (fun cdv A outer s H vs Q E hr h => ⟨t_law_cells K CS CP, PSs.nox ?_, body_S Hb h⟩), hm, FD.kp, FD.bindsN fun _ _ _ _ _ _ us hl => match us, hl with | [_, _], _ => rfl, .nil⟩
  have nd := sc_law_cells.nd
  exact (pss_cons (ps_st 2 nd (pe_orT (pe_callTy call_list_of (by rfl) T.b_list (by decide +kernel) (pa_cons (pe_slice sl_list (pv 0) po_none (po_some (pv 1))) pa_nil)) (pe_one (pe_lst (pa_cons pe_int pa_nil)))))
  (pss_cons (ps_for PassesOwn.never rfl (pi_enum (by rfl) T.b_enumerate (pa_cons (pe_slice sl_list (pv 0) (po_some (pv 1)) (po_some pe_int)) pa_nil)) (pg_tup rfl (pgs_cons (pg_nm 3 nd) (pgs_cons (pg_nm 4 nd) pgs_nil))) (pss_one (ps_asg (pe_op op_add (pe_ix ix_list (pv 2) (pe_op op_mod (pv 3) (pv 1)) (fun _ _ => rfl)) (pe_op op_mul (pv 4) (pe_op op_add (pv 3) pe_int))) (pg_sub (pv 2) (pe_op op_mod (pv 3) (pv 1)) set_list (fun _ => rfl)))))
  (pss_one (ps_ret (pv 2)))))
def t_law_of (K : PySem.W.Frag) (CS CP : Addr) : TS :=
  (tRet (tOp (rIxL K) (tVar 1) (tCall (sp_law_take K) [] C8.E0 (tCons (tVar 0) (tCons (tCB (cLen K) (tCons (tVar 1) tNil)) tNil)))))
theorem c_law_of {P : Program} {w : World} {K : PySem.W.Frag} {mg : Str → Option Value} {base : Heap} {CS CP CB : Addr} (T : Txt K mg CS CP CB)
  (c_law_take : C8.Cal P w K mg base 1 "_law_take" (sp_law_take K) [])
  (Ho : ∀ s ds r s', R_law_of s ds r s' → ds.length = 1)
  (Hb : ∀ s ds r s', R_law_of s ds r s' → EvS K (t_law_of K CS CP) { nx := fun ρ => r = .non ∧ ∃ i : Nat, ρ[i]? = some s', rt := fun d ρ => d = r ∧ ∃ i : Nat, ρ[i]? = some s' } (s :: envOf N_law_of.tail ds)) :
  C8.Cal P w K mg base 2 "_law_of" (sp_law_of K) [] := by
  obtain ⟨f, fd, FD, hm⟩ := T.d_law_of
  refine ⟨f, fd, ["_law_box_here", "_law_some"], [], FD.ok sc_law_of (fun vs H Q E h => len_S Ho h) (fun cdv A outer s H vs Q E hr h => ⟨t_law_of K CS CP, PSs.nox ?_, body_S Hb h⟩), hm, FD.kp, FD.bindsN fun _ _ _ _ _ _ us hl => match us, hl with | [_, _], _ => rfl, .nil⟩
  have nd := sc_law_of.nd
  exact (pss_one (ps_ret (pe_ix ix_list (pv 1) (C8.pe_c c_law_take hr (by decide) (by rfl) (pa_cons (pv 0) (pa_cons (pe_callB call_len_seq (by rfl) T.b_len PySem.boot_len (pa_cons (pv 1) pa_nil)) pa_nil))) (fun _ _ => rfl))))
def t_law_word (K : PySem.W.Frag) (CS CP : Addr) : TS :=
  (tRet (tOp (rIxL K) (tLst (tCons (tC (.str "a")) (tCons (tC (.str "b")) (tCons (tC (.str "a")) (tCons (tC (.str "b")) (tCons (tC (.str "ab")) (tCons (tC (.str "ba")) (tCons (tC (.str "c")) (tCons (tC (.str "zzzzzz")) tNil))))))))) (tCall (sp_law_take K) [] C8.E0 (tCons (tVar 0) (tCons (tC (.int 8)) tNil)))))
theorem c_law_word {P : Program} {w : World} {K : PySem.W.Frag} {mg : Str → Option Value} {base : Heap} {CS CP CB : Addr} (T : Txt K mg CS CP CB)
  (c_law_take : C8.Cal P w K mg base 1 "_law_take" (sp_law_take K) [])
  (Ho : ∀ s ds r s', R_law_word s ds r s' → ds.length = 0)
  (Hb : ∀ s ds r s', R_law_word s ds r s' → EvS K (t_law_word K CS CP) { nx := fun ρ => r = .non ∧ ∃ i : Nat, ρ[i]? = some s', rt := fun d ρ => d = r ∧ ∃ i : Nat, ρ[i]? = some s' } (s :: envOf N_law_word.tail ds)) :
  C8.Cal P w K mg base 2 "_law_word" (sp_law_word K) [] := by
  obtain ⟨f, fd, FD, hm⟩ := T.d_law_word
  refine ⟨f, fd, ["_law_box_here"], [], FD.ok sc_law_word (fun vs H Q E h => len_S Ho h) (fun cdv A outer s H vs Q E hr h => ⟨t_law_word K CS CP, PSs.nox ?_, body_S Hb h⟩), hm, FD.kp, FD.bindsN fun _ _ _ _ _ _ us hl => match us, hl with | [_], _ => rfl, .nil⟩
  have nd := sc_law_word.nd
  exact (pss_one (ps_ret (pe_ix ix_list (pe_lst (pa_cons pe_str (pa_cons pe_str (pa_cons pe_str (pa_cons pe_str (pa_cons pe_str (pa_cons pe_str (pa_cons pe_str (pa_cons pe_str pa_nil))))))))) (C8.pe_c c_law_take hr (by decide) (by rfl) (pa_cons (pv 0) (pa_cons pe_int pa_nil))) (fun _ _ => rfl))))
def t_law_room (K : PySem.W.Frag) (CS CP : Addr) : TS :=
  (tSeq (tAsg (tOp (rI0 fun i j => .int (i + j)) (tC (.int 1)) (tCall (sp_law_take K) [] C8.E0 (tCons (tVar 0) (tCons (tVar 1) tNil)))) (gName 3))
  (tSeq (tAsg (tLc (iRng1 (tCons (tVar 3) tNil)) (gName 6) tYes (tTup tNil) [6]) (gName 4))
  (tSeq (tFor (iRng1 (tCons (tIf (tTest (tOp (rI0 fun i j => .bl (decide (j < i))) (tVar 3) (tC (.int 1)))) (tCall (sp_law_take K) [] C8.E0 (tCons (tVar 0) (tCons (tOp (rI0 fun i j => .int (i + j)) (tVar 2) (tC (.int 1))) tNil))) (tC (.int 0))) tNil)) (gName 5) (tSeq (tAsg (tCall (sp_law_take K) [] C8.E0 (tCons (tVar 0) (tCons (tVar 3) tNil))) (gName 6))
  (tSeq (tAsg (tOp (rI (fun _ j => 0 < j) fun i j => .int (i % j)) (tOp (rI0 fun i j => .int (i + j)) (tOp (rI0 fun i j => .int (i + j)) (tVar 6) (tC (.int 1))) (tCall (sp_law_take K) [] C8.E0 (tCons (tVar 0) (tCons (tOp (rI0 fun i j => .int (i - j)) (tVar 3) (tC (.int 1))) tNil)))) (tVar 3)) (gName 7))
  (tAsg (tOp (rCatA K) (tOp (rIxL K) (tVar 4) (tVar 6)) (tTup (tCons (tTup (tCons (tVar 7) (tCons (tCall (sp_law_word K) [] C8.E0 (tCons (tVar 0) tNil)) tNil))) tNil))) (gSub (tVar 4) (tVar 6) rSetL)))))
  (tRet (tCB (cTuple K) (tCons (tVar 4) tNil))))))
theorem c_law_room {P : Program} {w : World} {K : PySem.W.Frag} {mg : Str → Option Value} {base : Heap} {CS CP CB : Addr} (T : Txt K mg CS CP CB)
  (c_law_take : C8.Cal P w K mg base 1 "_law_take" (sp_law_take K) [])
  (c_law_word : C8.Cal P w K mg base 2 "_law_word" (sp_law_word K) [])
  (Ho : ∀ s ds r s', R_law_room s ds r s' → ds.length = 2)
  (Hb : ∀ s ds r s', R_law_room s ds r s' → EvS K (t_law_room K CS CP) { nx := fun ρ => r = .non ∧ ∃ i : Nat, ρ[i]? = some s', rt := fun d ρ => d = r ∧ ∃ i : Nat, ρ[i]? = some s' } (s :: envOf N_law_room.tail ds)) :
  C8.Cal P w K mg base 3 "_law_room" (sp_law_room K) [] := by
  obtain ⟨f, fd, FD, hm⟩ := T.d_law_room
  refine ⟨f, fd, ["_law_box_here", "_law_birds", "_law_most"], [], FD.ok sc_law_room (fun vs H Q E h => len_S Ho h) (fun cdv A outer s H vs Q E hr h => ⟨t_law_room K CS CP, PSs.nox ?_, body_S Hb h⟩), hm, FD.kp, FD.bindsN fun _ _ _ _ _ _ us hl => match us, hl with | [_, _, _], _ => rfl, .nil⟩
  have nd := sc_law_room.nd
  exact (pss_cons (ps_st 3 nd (pe_op op_add pe_int (C8.pe_c c_law_take hr (by decide) (by rfl) (pa_cons (pv 0) (pa_cons (pv 1) pa_nil)))))
  (pss_cons (ps_setLc (i := 4) (own := [("_law_bird", 6)]) rfl nd rfl (by rfl) (sw_true rfl rfl rfl (by decide +kernel)) (pi_range1 (by rfl) T.b_range (pa_cons (pv 3) pa_nil)) (blkOk_by (N := N_law_room) (sc := (defScope s_law_room)) (by decide +kernel)) (fun _ _ _ _ _ => (pg_nm 6 nd)) (fun _ _ _ _ _ => pts_nil) (fun _ _ _ _ _ => (pe_tup pa_nil)))
  (pss_cons (ps_for PassesOwn.never rfl (pi_range1 (by rfl) T.b_range (pa_cons (pe_ifExp (pt_cmpR op_gt (pv 3) pe_int (nomark _)) (C8.pe_c c_law_take hr (by decide) (by rfl) (pa_cons (pv 0) (pa_cons (pe_op op_add (pv 2) pe_int) pa_nil))) pe_int) pa_nil)) (pg_nm 5 nd) (pss_cons (ps_st 6 nd (C8.pe_c c_law_take hr (by decide) (by rfl) (pa_cons (pv 0) (pa_cons (pv 3) pa_nil))))
  (pss_cons (ps_st 7 nd (pe_op op_mod (pe_op op_add (pe_op op_add (pv 6) pe_int) (C8.pe_c c_law_take hr (by decide) (by rfl) (pa_cons (pv 0) (pa_cons (pe_op op_sub (pv 3) pe_int) pa_nil)))) (pv 3)))
  (pss_one (ps_asg (pe_op op_catA (pe_ix ix_list (pv 4) (pv 6) (fun _ _ => rfl)) (pe_tup (pa_cons (pe_tup (pa_cons (pv 7) (pa_cons (C8.pe_c c_law_word hr (by decide) (by rfl) (pa_cons (pv 0) pa_nil)) pa_nil))) pa_nil))) (pg_sub (pv 4) (pv 6) set_list (fun _ => rfl)))))))
  (pss_one (ps_ret (pe_callTy call_tuple_of (by rfl) T.b_tuple (by decide +kernel) (pa_cons (pv 4) pa_nil)))))))
def t_law_peck (K : PySem.W.Frag) (CS CP : Addr) : TS :=
  (tSeq (tAsg (tOp (rIxT K) (tOp (rIxT K) (tVar 0) (tVar 1)) (tUn (rU fun i => .int (-i)) (tC (.int 1)))) (gTup K 2 (gCons (gName 3) (gCons (gName 4) gNil))))
  (tSeq (tAsg (tCB (cList K) (tCons (tVar 0) tNil)) (gName 2))
  (tSeq (tAsg (tSl (rSlA K) (tOp (rIxT K) (tVar 0) (tVar 1)) tNoPart (tPart (tUn (rU fun i => .int (-i)) (tC (.int 1))))) (gSub (tVar 2) (tVar 1) rSetL))
  (tSeq (tAsg (tOp (rCatA K) (tOp (rIxT K) (tVar 0) (tVar 3)) (tTup (tCons (tTup (tCons (tVar 1) (tCons (tVar 4) tNil))) tNil))) (gSub (tVar 2) (tVar 3) rSetL))
  (tRet (tCB (cTuple K) (tCons (tVar 2) tNil)))))))
theorem c_law_peck {P : Program} {w : World} {K : PySem.W.Frag} {mg : Str → Option Value} {base : Heap} {CS CP CB : Addr} (T : Txt K mg CS CP CB)
  
  (Ho : ∀ ds r, R_law_peck ds r → ds.length = 2)
  (Hb : ∀ ds r, R_law_peck ds r → EvS K (t_law_peck K CS CP) { nx := fun _ => r = .non, rt := fun d _ => d = r } (envOf N_law_peck ds)) :
  C8.Cal P w K mg base 1 "_law_peck" (sp_law_peck K) [] := by
  obtain ⟨f, fd, FD, hm⟩ := T.d_law_peck
  refine ⟨f, fd, ["_law_room_here", "_law_bird"], [], FD.ok sc_law_peck (fun vs H Q E h => len_D Ho h) (fun cdv A outer s H vs Q E hr h => ⟨t_law_peck K CS CP, PSs.nox ?_, body_D Hb h⟩), hm, FD.kp, FD.bindsN fun _ _ _ _ _ _ us hl => match us, hl with | [_, _], _ => rfl, .nil⟩
  have nd := sc_law_peck.nd
  exact (pss_cons (ps_asg (pe_ix ix_tup (pe_ix ix_tup (pv 0) (pv 1) (fun _ _ => rfl)) (pe_un un_neg pe_int) (fun _ _ => rfl)) (pg_tup rfl (pgs_cons (pg_nm 3 nd) (pgs_cons (pg_nm 4 nd) pgs_nil))))
  (pss_cons (ps_st 2 nd (pe_callTy call_list_of (by rfl) T.b_list (by decide +kernel) (pa_cons (pv 0) pa_nil)))
  (pss_cons (ps_asg (pe_slice sl_tupA (pe_ix ix_tup (pv 0) (pv 1) (fun _ _ => rfl)) po_none (po_some (pe_un un_neg pe_int))) (pg_sub (pv 2) (pv 1) set_list (fun _ => rfl)))
  (pss_cons (ps_asg (pe_op op_catA (pe_ix ix_tup (pv 0) (pv 3) (fun _ _ => rfl)) (pe_tup (pa_cons (pe_tup (pa_cons (pv 1) (pa_cons (pv 4) pa_nil))) pa_nil))) (pg_sub (pv 2) (pv 3) set_list (fun _ => rfl)))
  (pss_one (ps_ret (pe_callTy call_tuple_of (by rfl) T.b_tuple (by decide +kernel) (pa_cons (pv 2) pa_nil))))))))
def t_law_can (K : PySem.W.Frag) (CS CP : Addr) : TS :=
  (tRet (tLc (iEnumT K (tCons (tVar 0) tNil)) (gTup K 2 (gCons (gName 2) (gCons (gName 3) gNil))) (tAnd (tTest (tOp (rNeD K) (tVar 3) (tTup tNil))) (tTest (tOp (rIn K true) (tVar 2) (tVar 1)))) (tVar 2) [2, 3]))
theorem c_law_can {P : Program} {w : World} {K : PySem.W.Frag} {mg : Str → Option Value} {base : Heap} {CS CP CB : Addr} (T : Txt K mg CS CP CB)
  
  (Ho : ∀ ds r, R_law_can ds r → ds.length = 2)
  (Hb : ∀ ds r, R_law_can ds r → EvS K (t_law_can K CS CP) { nx := fun _ => r = .non, rt := fun d _ => d = r } (envOf N_law_can ds)) :
  C8.Cal P w K mg base 1 "_law_can" (sp_law_can K) [] := by
  obtain ⟨f, fd, FD, hm⟩ := T.d_law_can
  refine ⟨f, fd, ["_law_room_here", "_law_dozing"], [], FD.ok sc_law_can (fun vs H Q E h => len_D Ho h) (fun cdv A outer s H vs Q E hr h => ⟨t_law_can K CS CP, PSs.nox ?_, body_D Hb h⟩), hm, FD.kp, FD.bindsN fun _ _ _ _ _ _ us hl => match us, hl with | [_, _], _ => rfl, .nil⟩
  have nd := sc_law_can.nd
  exact (pss_one (ps_ret (pe_lc (own := [("_law_bird", 2), ("_law_heap", 3)]) rfl nd (pi_enumT (by rfl) T.b_enumerate (pa_cons (pv 0) pa_nil)) (blkOk_by (N := N_law_can) (sc := (defScope s_law_can)) (by decide +kernel)) (fun _ _ _ _ _ => (pg_tup rfl (pgs_cons (pg_nm 2 nd) (pgs_cons (pg_nm 3 nd) pgs_nil)))) (fun _ _ _ _ _ => (pts_one (PW.pt (pw_and (pt_cmpR (op_neD hr.units) (pv 3) (pe_tup pa_nil) (nomark _)) (pw_and1 (pt_cmpR op_notIn_seq (pv 2) (pv 1) (by with_unfolding_all rfl))))))) (fun _ _ _ _ _ => (pv 2)))))
def t_law_behind (K : PySem.W.Frag) (CS CP : Addr) : TS :=
  (tSeq (tFor (iList K (tVar 1)) (gName 3) (tSeq (tIfS (tTest (tOp (rIn K true) (tVar 3) (tCall (sp_law_can K) [] C8.E0 (tCons (tVar 0) (tCons (tVar 2) tNil))))) (tRet (tC .non)) tNext)
  (tAsg (tCall (sp_law_peck K) [] C8.E0 (tCons (tVar 0) (tCons (tVar 3) tNil))) (gName 0))))
  (tRet (tVar 0)))
theorem c_law_behind {P : Program} {w : World} {K : PySem.W.Frag} {mg : Str → Option Value} {base : Heap} {CS CP CB : Addr} (T : Txt K mg CS CP CB)
  (c_law_can : C8.Cal P w K mg base 1 "_law_can" (sp_law_can K) [])
  (c_law_peck : C8.Cal P w K mg base 1 "_law_peck" (sp_law_peck K) [])
  (Ho : ∀ ds r, R_law_behind ds r → ds.length = 3)
  (Hb : ∀ ds r, R_law_behind ds r → EvS K (t_law_behind K CS CP) { nx := fun _ => r = .non, rt := fun d _ => d = r } (envOf N_law_behind ds)) :
  C8.Cal P w K mg base 2 "_law_behind" (sp_law_behind K) [] := by
  obtain ⟨f, fd, FD, hm⟩ := T.d_law_behind
  refine ⟨f, fd, ["_law_room_here", "_law_pecks", "_law_dozing"], [], FD.ok sc_law_behind (fun vs H Q E h => len_D Ho h) (fun cdv A outer s H vs Q E hr h => ⟨t_law_behind K CS CP, PSs.nox ?_, body_D Hb h⟩), hm, FD.kp, FD.bindsN fun _ _ _ _ _ _ us hl => match us, hl with | [_, _, _], _ => rfl, .nil⟩
  have nd := sc_law_behind.nd
  exact (pss_cons (ps_for PassesOwn.never rfl (pi_list (pv 1)) (pg_nm 3 nd) (pss_cons (ps_if (pt_cmpR op_notIn_seq (pv 3) (C8.pe_c c_law_can hr (by decide) (by rfl) (pa_cons (pv 0) (pa_cons (pv 2) pa_nil))) (by with_unfolding_all rfl)) (pss_one (ps_ret pe_non)) pss_nil)
  (pss_one (ps_st 0 nd (C8.pe_c c_law_peck hr (by decide) (by rfl) (pa_cons (pv 0) (pa_cons (pv 3) pa_nil)))))))
  (pss_one (ps_ret (pv 0))))
def t_law_held (K : PySem.W.Frag) (CS CP : Addr) : TS :=
  (tRet (tCB (cTuple K) (tCons (tLc (iTup K (tOp (rIxT K) (tVar 0) (tVar 1))) (gTup K 2 (gCons (gName 3) (gCons (gName 4) gNil))) (tTest (tOp rEq (tVar 3) (tVar 2))) (tVar 4) [3, 4]) tNil)))
theorem c_law_held {P : Program} {w : World} {K : PySem.W.Frag} {mg : Str → Option Value} {base : Heap} {CS CP CB : Addr} (T : Txt K mg CS CP CB)
  
  (Ho : ∀ ds r, R_law_held ds r → ds.length = 3)
  (Hb : ∀ ds r, R_law_held ds r → EvS K (t_law_held K CS CP) { nx := fun _ => r = .non, rt := fun d _ => d = r } (envOf N_law_held ds)) :
  C8.Cal P w K mg base 1 "_law_held" (sp_law_held K) [] := by
  obtain ⟨f, fd, FD, hm⟩ := T.d_law_held
  refine ⟨f, fd, ["_law_room_here", "_law_mine", "_law_its"], [], FD.ok sc_law_held (fun vs H Q E h => len_D Ho h) (fun cdv A outer s H vs Q E hr h => ⟨t_law_held K CS CP, PSs.nox ?_, body_D Hb h⟩), hm, FD.kp, FD.bindsN fun _ _ _ _ _ _ us hl => match us, hl with | [_, _, _], _ => rfl, .nil⟩
  have nd := sc_law_held.nd
  exact (pss_one (ps_ret (pe_callTy call_tuple_of (by rfl) T.b_tuple (by decide +kernel) (pa_cons (pe_lc (own := [("_law_whom", 3), ("_law_word_here", 4)]) rfl nd (pi_tup (pe_ix ix_tup (pv 0) (pv 1) (fun _ _ => rfl))) (blkOk_by (N := N_law_held) (sc := (defScope s_law_held)) (by decide +kernel)) (fun _ _ _ _ _ => (pg_tup rfl (pgs_cons (pg_nm 3 nd) (pgs_cons (pg_nm 4 nd) pgs_nil)))) (fun _ _ _ _ _ => (pts_one (pt_cmpR op_eq (pv 3) (pv 2) (nomark _)))) (fun _ _ _ _ _ => (pv 4))) pa_nil))))
def t_law_line (K : PySem.W.Frag) (CS CP : Addr) : TS :=
  (tRet (tOp (rCatA K) (tCall (sp_law_held K) [] C8.E0 (tCons (tVar 0) (tCons (tVar 1) (tCons (tVar 2) tNil)))) (tRevT K (tCall (sp_law_held K) [] C8.E0 (tCons (tVar 0) (tCons (tVar 2) (tCons (tVar 1) tNil)))))))
theorem c_law_line {P : Program} {w : World} {K : PySem.W.Frag} {mg : Str → Option Value} {base : Heap} {CS CP CB : Addr} (T : Txt K mg CS CP CB)
  (c_law_held : C8.Cal P w K mg base 1 "_law_held" (sp_law_held K) [])
  (Ho : ∀ ds r, R_law_line ds r → ds.length = 3)
  (Hb : ∀ ds r, R_law_line ds r → EvS K (t_law_line K CS CP) { nx := fun _ => r = .non, rt := fun d _ => d = r } (envOf N_law_line ds)) :
  C8.Cal P w K mg base 2 "_law_line" (sp_law_line K) [] := by
  obtain ⟨f, fd, FD, hm⟩ := T.d_law_line
  refine ⟨f, fd, ["_law_room_here", "_law_mine", "_law_its"], [], FD.ok sc_law_line (fun vs H Q E h => len_D Ho h) (fun cdv A outer s H vs Q E hr h => ⟨t_law_line K CS CP, PSs.nox ?_, body_D Hb h⟩), hm, FD.kp, FD.bindsN fun _ _ _ _ _ _ us hl => match us, hl with | [_, _, _], _ => rfl, .nil⟩
  have nd := sc_law_line.nd
  exact (pss_one (ps_ret (pe_op op_catA (C8.pe_c c_law_held hr (by decide) (by rfl) (pa_cons (pv 0) (pa_cons (pv 1) (pa_cons (pv 2) pa_nil)))) (pe_revT (C8.pe_c c_law_held hr (by decide) (by rfl) (pa_cons (pv 0) (pa_cons (pv 2) (pa_cons (pv 1) pa_nil))))))))
def t_law_pairs (K : PySem.W.Frag) (CS CP : Addr) : TS :=
  (tSeq (tAsg (tLst tNil) (gName 1))
  (tSeq (tFor (iRng1 (tCons (tCB (cLen K) (tCons (tVar 0) tNil)) tNil)) (gName 2) (tAsg (tOp rCat (tVar 1) (tLc (iRng2 (tCons (tOp (rI0 fun i j => .int (i + j)) (tVar 2) (tC (.int 1))) (tCons (tCB (cLen K) (tCons (tVar 0) tNil)) tNil))) (gName 3) tYes (tTup (tCons (tVar 2) (tCons (tVar 3) tNil))) [3])) (gName 1)))
  (tRet (tVar 1))))
theorem c_law_pairs {P : Program} {w : World} {K : PySem.W.Frag} {mg : Str → Option Value} {base : Heap} {CS CP CB : Addr} (T : Txt K mg CS CP CB)
  
  (Ho : ∀ ds r, R_law_pairs ds r → ds.length = 1)
  (Hb : ∀ ds r, R_law_pairs ds r → EvS K (t_law_pairs K CS CP) { nx := fun _ => r = .non, rt := fun d _ => d = r } (envOf N_law_pairs ds)) :
  C8.Cal P w K mg base 1 "_law_pairs" (sp_law_pairs K) [] := by
  obtain ⟨f, fd, FD, hm⟩ := T.d_law_pairs
  refine ⟨f, fd, ["_law_room_here"], [], FD.ok sc_law_pairs (fun vs H Q E h => len_D Ho h) (fun cdv A outer s H vs Q E hr h => ⟨t_law_pairs K CS CP, PSs.nox ?_, body_D Hb h⟩), hm, FD.kp, FD.bindsN fun _ _ _ _ _ _ us hl => match us, hl with | [_], _ => rfl, .nil⟩
  have nd := sc_law_pairs.nd
  exact (pss_cons (ps_st 1 nd (pe_lst pa_nil))
  (pss_cons (ps_for PassesOwn.never rfl (pi_range1 (by rfl) T.b_range (pa_cons (pe_callB call_len_seq (by rfl) T.b_len PySem.boot_len (pa_cons (pv 0) pa_nil)) pa_nil)) (pg_nm 2 nd) (pss_one (ps_st 1 nd (pe_op op_cat (pv 1) (pe_lc (own := [("_law_its", 3)]) rfl nd (pi_range2 (by rfl) T.b_range (pa_cons (pe_op op_add (pv 2) pe_int) (pa_cons (pe_callB call_len_seq (by rfl) T.b_len PySem.boot_len (pa_cons (pv 0) pa_nil)) pa_nil))) (blkOk_by (N := N_law_pairs) (sc := (defScope s_law_pairs)) (by decide +kernel)) (fun _ _ _ _ _ => (pg_nm 3 nd)) (fun _ _ _ _ _ => pts_nil) (fun _ _ _ _ _ => (pe_tup (pa_cons (pv 2) (pa_cons (pv 3) pa_nil)))))))))
  (pss_one (ps_ret (pv 1)))))
def t_law_lines_apart (K : PySem.W.Frag) (CS CP : Addr) : TS :=
  (tSeq (tFor (iList K (tCall (sp_law_pairs K) [] C8.E0 (tCons (tVar 0) tNil))) (gTup K 2 (gCons (gName 2) (gCons (gName 3) gNil))) (tSeq (tPar 5 6 (tCons (tCall (sp_law_line K) [] C8.E0 (tCons (tVar 0) (tCons (tVar 2) (tCons (tVar 3) tNil)))) (tCons (tCall (sp_law_line K) [] C8.E0 (tCons (tVar 1) (tCons (tVar 2) (tCons (tVar 3) tNil)))) tNil)))
  (tFor (iRng1 (tCons (tCB cMax2 (tCons (tCB (cLen K) (tCons (tVar 5) tNil)) (tCons (tCB (cLen K) (tCons (tVar 6) tNil)) tNil))) tNil)) (gName 4) (tIfS (tTest (tOp (rNeD K) (tSl (rSlA K) (tVar 5) (tPart (tVar 4)) (tPart (tOp (rI0 fun i j => .int (i + j)) (tVar 4) (tC (.int 1))))) (tSl (rSlA K) (tVar 6) (tPart (tVar 4)) (tPart (tOp (rI0 fun i j => .int (i + j)) (tVar 4) (tC (.int 1))))))) (tRet (tTup (tCons (tVar 2) (tCons (tVar 3) (tCons (tVar 4) tNil))))) tNext))))
  (tRet (tC .non)))
theorem c_law_lines_apart {P : Program} {w : World} {K : PySem.W.Frag} {mg : Str → Option Value} {base : Heap} {CS CP CB : Addr} (T : Txt K mg CS CP CB)
  (c_law_line : C8.Cal P w K mg base 2 "_law_line" (sp_law_line K) [])
  (c_law_pairs : C8.Cal P w K mg base 1 "_law_pairs" (sp_law_pairs K) [])
  (Ho : ∀ ds r, R_law_lines_apart ds r → ds.length = 2)
  (Hb : ∀ ds r, R_law_lines_apart ds r → EvS K (t_law_lines_apart K CS CP) { nx := fun _ => r = .non, rt := fun d _ => d = r } (envOf N_law_lines_apart ds)) :
  C8.Cal P w K mg base 3 "_law_lines_apart" (sp_law_lines_apart K) [] := by
  obtain ⟨f, fd, FD, hm⟩ := T.d_law_lines_apart
  refine ⟨f, fd, ["_law_room_here", "_law_there"], [], FD.ok sc_law_lines_apart (fun vs H Q E h => len_D Ho h) (fun cdv A outer s H vs Q E hr h => ⟨t_law_lines_apart K CS CP, PSs.nox ?_, body_D Hb h⟩), hm, FD.kp, FD.bindsN fun _ _ _ _ _ _ us hl => match us, hl with | [_, _], _ => rfl, .nil⟩
  have nd := sc_law_lines_apart.nd
  exact (pss_cons (ps_for PassesOwn.never rfl (pi_list (C8.pe_c c_law_pairs hr (by decide) (by rfl) (pa_cons (pv 0) pa_nil))) (pg_tup rfl (pgs_cons (pg_nm 2 nd) (pgs_cons (pg_nm 3 nd) pgs_nil))) (pss_cons (ps_par (i := 5) (j := 6) rfl nd rfl rfl (by decide) (by rfl) (by rfl) (pa_cons (C8.pe_c c_law_line hr (by decide) (by rfl) (pa_cons (pv 0) (pa_cons (pv 2) (pa_cons (pv 3) pa_nil)))) (pa_cons (C8.pe_c c_law_line hr (by decide) (by rfl) (pa_cons (pv 1) (pa_cons (pv 2) (pa_cons (pv 3) pa_nil)))) pa_nil)) (by rfl))
  (pss_one (ps_for PassesOwn.never rfl (pi_range1 (by rfl) T.b_range (pa_cons (pe_callB (call_max2 rfl) (by rfl) T.b_max (by decide +kernel) (pa_cons (pe_callB call_len_seq (by rfl) T.b_len PySem.boot_len (pa_cons (pv 5) pa_nil)) (pa_cons (pe_callB call_len_seq (by rfl) T.b_len PySem.boot_len (pa_cons (pv 6) pa_nil)) pa_nil))) pa_nil)) (pg_nm 4 nd) (pss_one (ps_if (pt_cmpR (op_neD hr.units) (pe_slice sl_tupA (pv 5) (po_some (pv 4)) (po_some (pe_op op_add (pv 4) pe_int))) (pe_slice sl_tupA (pv 6) (po_some (pv 4)) (po_some (pe_op op_add (pv 4) pe_int))) (nomark _)) (pss_one (ps_ret (pe_tup (pa_cons (pv 2) (pa_cons (pv 3) (pa_cons (pv 4) pa_nil)))))) pss_nil))))))
  (pss_one (ps_ret pe_non)))
def t_law_key (K : PySem.W.Frag) (CS CP : Addr) : TS :=
  (tSeq (tAsg (tLc (iList K (tCall (sp_law_pairs K) [] C8.E0 (tCons (tVar 0) tNil))) (gTup K 2 (gCons (gName 2) (gCons (gName 3) gNil))) tYes (tCB (cLen K) (tCons (tCall (sp_law_held K) [] C8.E0 (tCons (tVar 0) (tCons (tVar 2) (tCons (tVar 3) tNil)))) tNil)) [2, 3]) (gName 1))
  (tRet (tTup (tCons (tVar 1) (tCons (tLc (iTup K (tVar 0)) (gName 4) tYes (tLc (iTup K (tVar 4)) (gTup K 2 (gCons (gName 5) (gCons (gName 6) gNil))) tYes (tVar 5) [5, 6]) [4]) tNil)))))
theorem c_law_key {P : Program} {w : World} {K : PySem.W.Frag} {mg : Str → Option Value} {base : Heap} {CS CP CB : Addr} (T : Txt K mg CS CP CB)
  (c_law_held : C8.Cal P w K mg base 1 "_law_held" (sp_law_held K) [])
  (c_law_pairs : C8.Cal P w K mg base 1 "_law_pairs" (sp_law_pairs K) [])
  (Ho : ∀ ds r, R_law_key ds r → ds.length = 1)
  (Hb : ∀ ds r, R_law_key ds r → EvS K (t_law_key K CS CP) { nx := fun _ => r = .non, rt := fun d _ => d = r } (envOf N_law_key ds)) :
  C8.Cal P w K mg base 2 "_law_key" (sp_law_key K) [] := by
  obtain ⟨f, fd, FD, hm⟩ := T.d_law_key
  refine ⟨f, fd, ["_law_coop"], [], FD.ok sc_law_key (fun vs H Q E h => len_D Ho h) (fun cdv A outer s H vs Q E hr h => ⟨t_law_key K CS CP, PSs.nox ?_, body_D Hb h⟩), hm, FD.kp, FD.bindsN fun _ _ _ _ _ _ us hl => match us, hl with | [_], _ => rfl, .nil⟩
  have nd := sc_law_key.nd
  exact (pss_cons (ps_setLc (i := 1) (own := [("_law_mine", 2), ("_law_its", 3)]) rfl nd rfl (by rfl) (sw_true rfl rfl rfl (by decide +kernel)) (pi_list (C8.pe_c c_law_pairs hr (by decide) (by rfl) (pa_cons (pv 0) pa_nil))) (blkOk_by (N := N_law_key) (sc := (defScope s_law_key)) (by decide +kernel)) (fun _ _ _ _ _ => (pg_tup rfl (pgs_cons (pg_nm 2 nd) (pgs_cons (pg_nm 3 nd) pgs_nil)))) (fun _ _ _ _ _ => pts_nil) (fun _ _ _ _ _ => (pe_callB call_len_seq (by rfl) T.b_len PySem.boot_len (pa_cons (C8.pe_c c_law_held hr (by decide) (by rfl) (pa_cons (pv 0) (pa_cons (pv 2) (pa_cons (pv 3) pa_nil)))) pa_nil))))
  (pss_one (ps_ret (pe_tup (pa_cons (pv 1) (pa_cons (pe_lc (own := [("_law_heap", 4)]) rfl nd (pi_tup (pv 0)) (blkOk_by (N := N_law_key) (sc := (defScope s_law_key)) (by decide +kernel)) (fun _ _ _ _ _ => (pg_nm 4 nd)) (fun _ _ _ _ _ => pts_nil) (fun _ _ _ _ _ => (pe_lc (own := [("_law_whom", 5), ("_law_word_here", 6)]) rfl nd (pi_tup (pv 4)) (blkOk_by (N := N_law_key) (sc := (relS _ (defScope s_law_key))) (by decide +kernel)) (fun _ _ _ _ _ => (pg_tup rfl (pgs_cons (pg_nm 5 nd) (pgs_cons (pg_nm 6 nd) pgs_nil)))) (fun _ _ _ _ _ => pts_nil) (fun _ _ _ _ _ => (pv 5))))) pa_nil))))))
def t_law (K : PySem.W.Frag) (CS CP : Addr) : TS :=
  (tSeq (tAsg (tCall (sp_law_cells K) [] C8.E0 (tCons (tVar 0) (tCons (tC (.int 2)) tNil))) (gName 1))
  (tRet (tCB (rAll K) (tCons (tLc (iRng1 (tCons (tCB (cLen K) (tCons (tVar 1) tNil)) tNil)) (gName 2) tYes (tCall (sp_law_right K) [] C8.E0 (tCons (tCall (sp_law_box K) [] C8.E0 (tCons (tVar 1) (tCons (tVar 2) tNil))) tNil)) [2]) tNil))))
theorem c_law {P : Program} {w : World} {K : PySem.W.Frag} {mg : Str → Option Value} {base : Heap} {CS CP CB : Addr} (T : Txt K mg CS CP CB)
  (c_law_box : C8.Cal P w K mg base 1 "_law_box" (sp_law_box K) [])
  (c_law_cells : C8.Cal P w K mg base 1 "_law_cells" (sp_law_cells K) [])
  (c_law_right : C8.Cal P w K mg base 12 "_law_right" (sp_law_right K) [])
  (Ho : ∀ s ds r s', R_law s ds r s' → ds.length = 0)
  (Hb : ∀ s ds r s', R_law s ds r s' → EvS K (t_law K CS CP) { nx := fun ρ => r = .non ∧ ∃ i : Nat, ρ[i]? = some s', rt := fun d ρ => d = r ∧ ∃ i : Nat, ρ[i]? = some s' } (s :: envOf N_law.tail ds)) :
  C8.Cal P w K mg base 13 "law" (sp_law K) [] := by
  obtain ⟨f, fd, FD, hm⟩ := T.d_law
  refine ⟨f, fd, ["_law_script"], [], FD.ok sc_law (fun vs H Q E h => len_S Ho h) (fun cdv A outer s H vs Q E hr h => ⟨t_law K CS CP, PSs.nox ?_, body_S Hb h⟩), hm, FD.kp, FD.bindsN fun _ _ _ _ _ _ us hl => match us, hl with | [_], _ => rfl, .nil⟩
  have nd := sc_law.nd
  exact (pss_cons (ps_st 1 nd (C8.pe_c c_law_cells hr (by decide) (by rfl) (pa_cons (pv 0) (pa_cons pe_int pa_nil))))
  (pss_one (ps_ret (pe_callB (cr_all rfl) (by rfl) T.b_all (by decide +kernel) (pa_cons (pe_lc (own := [("_law_k", 2)]) rfl nd (pi_range1 (by rfl) T.b_range (pa_cons (pe_callB call_len_seq (by rfl) T.b_len PySem.boot_len (pa_cons (pv 1) pa_nil)) pa_nil)) (blkOk_by (N := N_law) (sc := (defScope s_law)) (by decide +kernel)) (fun _ _ _ _ _ => (pg_nm 2 nd)) (fun _ _ _ _ _ => pts_nil) (fun _ _ _ _ _ => (C8.pe_c c_law_right hr (by decide) (by rfl) (pa_cons (C8.pe_c c_law_box hr (by decide) (by rfl) (pa_cons (pv 1) (pa_cons (pv 2) pa_nil))) pa_nil)))) pa_nil)))))
end Gr
set_option maxHeartbeats 4000000
namespace Gr
open PySem PySem.Spec PyProof.Rows L2
def t_law_right (K : PySem.W.Frag) (CS CP : Addr) (eb : Addr) : TS :=
  (tSeq (tFor (iRng1 (tCons (tC (.int 1)) tNil)) (gName 1) (tSeq (tAsg (tCall (sp_law_room K) [] C8.E0 (tCons (tVar 0) (tCons (tC (.int 6)) (tCons (tC (.int 9)) tNil)))) (gName 2))
  (tSeq (tAsg (tCall (sp_how_many K) [] C8.E0 (tCons (tVar 2) tNil)) (gName 3))
  (tSeq (tAsg (tOp rCat (tLst (tCons (tC (.int 0)) (tCons (tOp (rI0 fun i j => .int (i - j)) (tVar 3) (tC (.int 1))) tNil))) (tLc (iRng1 (tCons (tC (.int 2)) tNil)) (gName 11) tYes (tCall (sp_law_take K) [] C8.E0 (tCons (tVar 0) (tCons (tVar 3) tNil))) [11])) (gName 4))
  (tSeq (tAsg (tSortedSet K (tOp rCat (tVar 4) (tLc (iList K (tVar 4)) (gName 8) tYes (tCB cMin2 (tCons (tOp (rI0 fun i j => .int (i - j)) (tVar 3) (tC (.int 1))) (tCons (tOp (rI0 fun i j => .int (i + j)) (tVar 8) (tC (.int 1))) tNil))) [8]))) (gName 4))
  (tSeq (tAsg (tLc (iList K (tVar 4)) (gName 8) tYes (tCall (sp_nth K) [] C8.E0 (tCons (tVar 2) (tCons (tVar 8) tNil))) [8]) (gName 5))
  (tSeq (tAsg (tLc (iList K (tVar 5)) (gName 9) tYes (tCall (sp_law_key K) [] C8.E0 (tCons (tVar 9) tNil)) [9]) (gName 6))
  (tSeq (tIfS (tOr (tTest (tOp (rNeD K) (tVar 6) (tCB (rSortedN K) (tCons (tVar 6) tNil)))) (tTest (tOp rNe (tLenSetN K (tVar 5)) (tCB (cLen K) (tCons (tVar 4) tNil))))) (tRet (tC (.bl false))) tNext)
  (tSeq (tFor (RZ.iZipA K (tCons (tVar 4) (tCons (tVar 5) tNil))) (gTup K 2 (gCons (gName 8) (gCons (gName 9) gNil))) (tIfS (tOr (tTest (tOp rNotN (tCall (sp_law_lines_apart K) [] C8.E0 (tCons (tVar 2) (tCons (tVar 9) tNil))) (tC .non))) (tTest (tOp rNe (tCall (sp_number_of K) [] C8.E0 (tCons (tVar 2) (tCons (tVar 9) tNil))) (tVar 8)))) (tRet (tC (.bl false))) tNext))
  (tSeq (tPar 9 10 (tCons (tCall (sp_law_of K) [] C8.E0 (tCons (tVar 0) (tCons (tVar 5) tNil))) (tCons (tCall (sp_law_of K) [] C8.E0 (tCons (tVar 0) (tCons (tVar 5) tNil))) tNil)))
  (tSeq (tAsg (tCall (sp_between K) [.ref eb] C8.E0 (tCons (tVar 9) (tCons (tVar 10) tNil))) (gName 7))
  (tSeq (tIfS (tOr (tTest (tOp rNe (tOp (rIxT K) (tVar 7) (tC (.int 0))) (tC (.str "row")))) (tTest (tOp (rNeD K) (tCall (sp_law_behind K) [] C8.E0 (tCons (tVar 9) (tCons (tOp (rIxT K) (tVar 7) (tC (.int 1))) (tCons (tLst tNil) tNil)))) (tVar 10)))) (tRet (tC (.bl false))) tNext)
  (tIfS (tOr (tTest (tOp rNe (tCall (sp_how_many K) [] C8.E0 (tCons (tVar 9) tNil)) (tVar 3))) (tOr (tTest (tOp (rNeD K) (tCall (sp_nth K) [] C8.E0 (tCons (tVar 9) (tCons (tOp (rIxL K) (tVar 4) (tUn (rU fun i => .int (-i)) (tC (.int 1)))) tNil))) (tOp (rIxL K) (tVar 5) (tUn (rU fun i => .int (-i)) (tC (.int 1)))))) (tTest (tOp rNe (tCall (sp_number_of K) [] C8.E0 (tCons (tVar 9) (tCons (tVar 2) tNil))) (tCall (sp_number_of K) [] C8.E0 (tCons (tVar 2) (tCons (tVar 2) tNil))))))) (tRet (tC (.bl false))) tNext)))))))))))))
  (tRet (tC (.bl true))))
theorem c_law_right {P : Program} {w : World} {K : PySem.W.Frag} {mg : Str → Option Value} {base : Heap} {CS CP CB : Addr} {eb : Addr} (T : Txt K mg CS CP CB)
  (c_law_behind : C8.Cal P w K mg base 2 "_law_behind" (sp_law_behind K) [])
  (c_law_key : C8.Cal P w K mg base 2 "_law_key" (sp_law_key K) [])
  (c_law_lines_apart : C8.Cal P w K mg base 3 "_law_lines_apart" (sp_law_lines_apart K) [])
  (c_law_of : C8.Cal P w K mg base 2 "_law_of" (sp_law_of K) [])
  (c_law_room : C8.Cal P w K mg base 3 "_law_room" (sp_law_room K) [])
  (c_law_take : C8.Cal P w K mg base 1 "_law_take" (sp_law_take K) [])
  (c_between : C8.Cal P w K mg base 11 "between" (sp_between K) [.ref eb])
  (c_how_many : C8.Cal P w K mg base 8 "how_many" (sp_how_many K) [])
  (c_nth : C8.Cal P w K mg base 8 "nth" (sp_nth K) [])
  (c_number_of : C8.Cal P w K mg base 8 "number_of" (sp_number_of K) [])
  (Ho : ∀ s ds r s', R_law_right s ds r s' → ds.length = 0)
  (Hb : ∀ s ds r s', R_law_right s ds r s' → EvS K (t_law_right K CS CP eb) { nx := fun ρ => r = .non ∧ ∃ i : Nat, ρ[i]? = some s', rt := fun d ρ => d = r ∧ ∃ i : Nat, ρ[i]? = some s' } (s :: envOf N_law_right.tail ds)) :
  C8.Cal P w K mg base 12 "_law_right" (sp_law_right K) [] := by
  obtain ⟨f, fd, FD, hm⟩ := T.d_law_right
  refine ⟨f, fd, ["_law_box_here"], [], FD.ok sc_law_right (fun vs H Q E h => len_S Ho h) (fun cdv A outer s H vs Q E hr h => ⟨t_law_right K CS CP eb, PSs.nox ?_, body_S Hb h⟩), hm, FD.kp, FD.bindsN fun _ _ _ _ _ _ us hl => match us, hl with | [_], _ => rfl, .nil⟩
  have nd := sc_law_right.nd
  exact (pss_cons (ps_for PassesOwn.never rfl (pi_range1 (by rfl) T.b_range (pa_cons pe_int pa_nil)) (pg_nm 1 nd) (pss_cons (ps_st 2 nd (C8.pe_c c_law_room hr (by decide) (by rfl) (pa_cons (pv 0) (pa_cons pe_int (pa_cons pe_int pa_nil)))))
  (pss_cons (ps_st 3 nd (C8.pe_c c_how_many hr (by decide) (by rfl) (pa_cons (pv 2) pa_nil)))
  (pss_cons (ps_st 4 nd (pe_op op_cat (pe_lst (pa_cons pe_int (pa_cons (pe_op op_sub (pv 3) pe_int) pa_nil))) (pe_lc (own := [("_law_again", 11)]) rfl nd (pi_range1 (by rfl) T.b_range (pa_cons pe_int pa_nil)) (blkOk_by (N := N_law_right) (sc := (defScope s_law_right)) (by decide +kernel)) (fun _ _ _ _ _ => (pg_nm 11 nd)) (fun _ _ _ _ _ => pts_nil) (fun _ _ _ _ _ => (C8.pe_c c_law_take hr (by decide) (by rfl) (pa_cons (pv 0) (pa_cons (pv 3) pa_nil)))))))
  (pss_cons (ps_st 4 nd (pe_sortedSet rfl (by rfl) T.b_sorted (by rfl) T.b_set (pe_op op_cat (pv 4) (pe_lc (own := [("_law_k", 8)]) rfl nd (pi_list (pv 4)) (blkOk_by (N := N_law_right) (sc := (defScope s_law_right)) (by decide +kernel)) (fun _ _ _ _ _ => (pg_nm 8 nd)) (fun _ _ _ _ _ => pts_nil) (fun _ _ _ _ _ => (pe_callB (call_min2 rfl) (by rfl) T.b_min (by decide +kernel) (pa_cons (pe_op op_sub (pv 3) pe_int) (pa_cons (pe_op op_add (pv 8) pe_int) pa_nil))))))))
  (pss_cons (ps_setLc (i := 5) (own := [("_law_k", 8)]) rfl nd rfl (by rfl) (sw_true rfl rfl rfl (by decide +kernel)) (pi_list (pv 4)) (blkOk_by (N := N_law_right) (sc := (defScope s_law_right)) (by decide +kernel)) (fun _ _ _ _ _ => (pg_nm 8 nd)) (fun _ _ _ _ _ => pts_nil) (fun _ _ _ _ _ => (C8.pe_c c_nth hr (by decide) (by rfl) (pa_cons (pv 2) (pa_cons (pv 8) pa_nil)))))
  (pss_cons (ps_setLc (i := 6) (own := [("_law_its", 9)]) rfl nd rfl (by rfl) (sw_true rfl rfl rfl (by decide +kernel)) (pi_list (pv 5)) (blkOk_by (N := N_law_right) (sc := (defScope s_law_right)) (by decide +kernel)) (fun _ _ _ _ _ => (pg_nm 9 nd)) (fun _ _ _ _ _ => pts_nil) (fun _ _ _ _ _ => (C8.pe_c c_law_key hr (by decide) (by rfl) (pa_cons (pv 9) pa_nil))))
  (pss_cons (ps_if (PW.pt (pw_or (pt_cmpR (op_neD hr.units) (pv 6) (pe_callB (cr_sortedN hr.units) (by rfl) T.b_sorted (by decide +kernel) (pa_cons (pv 6) pa_nil)) (nomark _)) (pw_or1 (pt_cmpR op_ne (pe_lenSetN rfl hr.units (by rfl) T.b_len (by rfl) T.b_set (pv 5)) (pe_callB call_len_seq (by rfl) T.b_len PySem.boot_len (pa_cons (pv 4) pa_nil)) (nomark _))))) (pss_one (ps_ret pe_bl)) pss_nil)
  (pss_cons (ps_for PassesOwn.never rfl (RZ.pi_zipA (by rfl) T.b_zip (pa_cons (pv 4) (pa_cons (pv 5) pa_nil))) (pg_tup rfl (pgs_cons (pg_nm 8 nd) (pgs_cons (pg_nm 9 nd) pgs_nil))) (pss_one (ps_if (PW.pt (pw_or (pt_cmpR op_notN (C8.pe_c c_law_lines_apart hr (by decide) (by rfl) (pa_cons (pv 2) (pa_cons (pv 9) pa_nil))) pe_non (nomark _)) (pw_or1 (pt_cmpR op_ne (C8.pe_c c_number_of hr (by decide) (by rfl) (pa_cons (pv 2) (pa_cons (pv 9) pa_nil))) (pv 8) (nomark _))))) (pss_one (ps_ret pe_bl)) pss_nil)))
  (pss_cons (ps_par (i := 9) (j := 10) rfl nd rfl rfl (by decide) (by rfl) (by rfl) (pa_cons (C8.pe_c c_law_of hr (by decide) (by rfl) (pa_cons (pv 0) (pa_cons (pv 5) pa_nil))) (pa_cons (C8.pe_c c_law_of hr (by decide) (by rfl) (pa_cons (pv 0) (pa_cons (pv 5) pa_nil))) pa_nil)) (by rfl))
  (pss_cons (ps_st 7 nd (C8.pe_c c_between hr (by decide) (by rfl) (pa_cons (pv 9) (pa_cons (pv 10) pa_nil))))
  (pss_cons (ps_if (PW.pt (pw_or (pt_cmpR op_ne (pe_ix ix_tup (pv 7) pe_int (fun _ _ => rfl)) pe_str (nomark _)) (pw_or1 (pt_cmpR (op_neD hr.units) (C8.pe_c c_law_behind hr (by decide) (by rfl) (pa_cons (pv 9) (pa_cons (pe_ix ix_tup (pv 7) pe_int (fun _ _ => rfl)) (pa_cons (pe_lst pa_nil) pa_nil)))) (pv 10) (nomark _))))) (pss_one (ps_ret pe_bl)) pss_nil)
  (pss_one (ps_if (PW.pt (pw_or (pt_cmpR op_ne (C8.pe_c c_how_many hr (by decide) (by rfl) (pa_cons (pv 9) pa_nil)) (pv 3) (nomark _)) (pw_or (pt_cmpR (op_neD hr.units) (C8.pe_c c_nth hr (by decide) (by rfl) (pa_cons (pv 9) (pa_cons (pe_ix ix_list (pv 4) (pe_un un_neg pe_int) (fun _ _ => rfl)) pa_nil))) (pe_ix ix_list (pv 5) (pe_un un_neg pe_int) (fun _ _ => rfl)) (nomark _)) (pw_or1 (pt_cmpR op_ne (C8.pe_c c_number_of hr (by decide) (by rfl) (pa_cons (pv 9) (pa_cons (pv 2) pa_nil))) (C8.pe_c c_number_of hr (by decide) (by rfl) (pa_cons (pv 2) (pa_cons (pv 2) pa_nil))) (nomark _)))))) (pss_one (ps_ret pe_bl)) pss_nil))))))))))))))
  (pss_one (ps_ret pe_bl)))
end Gr
/-! short forms for the bodies -/
namespace Gr
open PySem PySem.Spec PyProof.Rows L2
section
variable {K : PySem.W.Frag} {ρ ρ1 ρ2 ρ3 : Env} {ds es : List Dt} {d d1 d2 d3 : Dt} {ta tb tc te : TE} {E : De}
abbrev DRet (r : Dt) : De := { nx := fun _ => r = .non, rt := fun d _ => d = r }
theorem filter_true {α : Type} (xs : List α) : xs.filter (fun _ => true) = xs := by
  induction xs with
  | nil => rfl
  | cons x xs ih => rw [List.filter_cons, if_pos rfl, ih]
theorem lc_map {α : Type} {wi : TI} {g : TG} {vs : List Nat} (xs : List α) (emb : α → Dt) (f : α → Dt) (hi : EvI K wi ρ (xs.map emb) ρ1) (hl : xs.length ≤ 90000)
    (step : ∀ x ∈ xs, ∃ ρ3 js, EvG K g (wipeE ρ1 vs) (emb x) ρ3 js ∧ (∀ j ∈ js, j ∈ vs) ∧ Like ρ1 ρ3 ρ1 ∧ EvX K te ρ3 (f x) ρ3) : EvN K (tLc wi g tYes te vs) ρ (xs.map f) ρ1 := by
  have h := lc_run (te := te) (tt := tYes) xs emb (fun _ => true) f hi hl fun x hx => by
    obtain ⟨ρ3, js, h1, h2, h3, h4⟩ := step x hx
    exact ⟨ρ3, js, h1, h2, h3, b_yes, fun _ => h4⟩
  rw [filter_true] at h
  exact h
theorem x_tp {t : TA} (h : EvL K t ρ ds ρ1) (hl : Nat.ble ds.length 100000 = true := by rfl) : EvX K (tTup t) ρ (.tup ds) ρ1 := x_tup h (Nat.le_of_ble_eq_true hl)
theorem x_ls {t : TA} (h : EvL K t ρ ds ρ1) (hl : Nat.ble ds.length 100000 = true := by rfl) : EvX K (tLst t) ρ (.lst ds) ρ1 := x_lst h (Nat.le_of_ble_eq_true hl)
theorem n_ls {t : TA} (h : EvL K t ρ ds ρ1) (hl : Nat.ble ds.length 100000 = true := by rfl) : EvN K (tLst t) ρ ds ρ1 := n_lst h (Nat.le_of_ble_eq_true hl)
theorem l1 (h : EvX K ta ρ d ρ1) : EvL K (tCons ta tNil) ρ [d] ρ1 := l_cons h l_nil
theorem l2 (h : EvX K ta ρ d ρ1) (h2 : EvX K tb ρ1 d1 ρ2) : EvL K (tCons ta (tCons tb tNil)) ρ [d, d1] ρ2 := l_cons h (l1 h2)
theorem l3 (h : EvX K ta ρ d ρ1) (h2 : EvX K tb ρ1 d1 ρ2) (h3 : EvX K tc ρ2 d2 ρ3) : EvL K (tCons ta (tCons tb (tCons tc tNil))) ρ [d, d1, d2] ρ3 := l_cons h (l2 h2 h3)
/-- an item of a row -/
theorem at_n {xs : List Dt} {i : Nat} {d : Dt} (h : xs[i]? = some d) : L2.atI xs (i : Int) = some d := atI_n h
theorem x_ixTn {xs : List Dt} {i : Nat} (ha : EvX K ta ρ (.tup xs) ρ1) (hb : EvX K tb ρ1 (iD i) ρ2) (h : xs[i]? = some d) : EvX K (tOp (rIxT K) ta tb) ρ d ρ2 := x_op ha hb (o_ixT (at_n h))
theorem x_ixLn {xs : List Dt} {i : Nat} (ha : EvX K ta ρ (.lst xs) ρ1) (hb : EvX K tb ρ1 (iD i) ρ2) (h : xs[i]? = some d) : EvX K (tOp (rIxL K) ta tb) ρ d ρ2 := x_op ha hb (o_ixL (at_n h))
theorem x_add {i j : Int} (ha : EvX K ta ρ (.int i) ρ1) (hb : EvX K tb ρ1 (.int j) ρ2) : EvX K (tOp (rI0 fun i j => .int (i + j)) ta tb) ρ (.int (i + j)) ρ2 := x_op ha hb (o_I0 fun _ => rfl)
theorem x_sub {i j : Int} (ha : EvX K ta ρ (.int i) ρ1) (hb : EvX K tb ρ1 (.int j) ρ2) : EvX K (tOp (rI0 fun i j => .int (i - j)) ta tb) ρ (.int (i - j)) ρ2 := x_op ha hb (o_I0 fun _ => rfl)
theorem x_lt {i j : Int} (ha : EvX K ta ρ (.int i) ρ1) (hb : EvX K tb ρ1 (.int j) ρ2) : EvX K (tOp (rI0 fun i j => .bl (decide (i < j))) ta tb) ρ (.bl (decide (i < j))) ρ2 := x_op ha hb (o_I0 fun _ => rfl)
theorem x_gt {i j : Int} (ha : EvX K ta ρ (.int i) ρ1) (hb : EvX K tb ρ1 (.int j) ρ2) : EvX K (tOp (rI0 fun i j => .bl (decide (j < i))) ta tb) ρ (.bl (decide (j < i))) ρ2 := x_op ha hb (o_I0 fun _ => rfl)
theorem x_ge {i j : Int} (ha : EvX K ta ρ (.int i) ρ1) (hb : EvX K tb ρ1 (.int j) ρ2) : EvX K (tOp (rI0 fun i j => .bl (decide (j ≤ i))) ta tb) ρ (.bl (decide (j ≤ i))) ρ2 := x_op ha hb (o_I0 fun _ => rfl)
theorem iD_add (a b : Nat) : (Dt.int ((a : Int) + (b : Int))) = iD (a + b) := by simp [iD]
theorem rg_map (n : Nat) : rg 0 n = (List.range n).map iD := by
  unfold rg iD
  simp
theorem i_rngN {t : TA} {n : Nat} (h : EvL K t ρ [iD n] ρ1) (hn : n ≤ 1000000) : EvI K (iRng1 t) ρ ((List.range n).map iD) ρ1 := by
  have := i_rng1 h ⟨by omega, by omega⟩
  rw [show (n : Int).toNat = n from rfl, rg_map] at this
  exact this
theorem sD_get {st : Sg} {d : Nat} (h : d < st.length) : (st.map hD)[d]? = some (hD (hp st d)) := by
  unfold hp
  rw [List.getElem?_map, List.getD_eq_getElem?_getD, List.getElem?_eq_getElem h]
  rfl
theorem mem_le_sum {x : Nat} : ∀ {l : List Nat}, x ∈ l → x ≤ l.sum
  | y :: l, h => by
    rw [List.sum_cons]
    rcases List.mem_cons.mp h with rfl | h
    · omega
    · have := mem_le_sum h
      omega
theorem Okf.heap {st : Sg} (h : Okf st) (d : Nat) : (hp st d).length ≤ 9 := by
  by_cases hd : d < st.length
  · have h9 := h.nine
    unfold grudges at h9
    have : (hp st d).length ∈ st.map List.length := by
      unfold hp
      rw [List.getD_eq_getElem?_getD, List.getElem?_eq_getElem hd]
      exact List.mem_map_of_mem (List.getElem_mem hd)
    exact Nat.le_trans (mem_le_sum this) h9
  · rw [hp_out _ _ (by omega)]
    exact Nat.zero_le _
theorem hw_len {α : Type} (h : List (Nat × α)) (b : Nat) : (hw h b).length ≤ h.length := by
  unfold hw
  rw [List.length_map]
  exact List.length_filter_le _ _
theorem Okf.held {st : Sg} (h : Okf st) (a b : Nat) : (held st a b).length ≤ 9 := Nat.le_trans (hw_len _ _) (h.heap a)
theorem o_neStr {x y : Str} : OpD K rNe (.str x) (.str y) (.bl (!decide (x = y))) := fun F H u v e hx hy Q q => by
  rw [show u = V.str x from hx, show v = V.str y from hy]
  refine ⟨rfl, ?_⟩
  have : decide (V.str x = V.str y) = decide (x = y) := by
    by_cases h : x = y
    · subst h; simp
    · simp [h]
  rw [this]
  exact q _ F H (Gw.refl e) rfl
theorem o_eqStr {x y : Str} : OpD K rEq (.str x) (.str y) (.bl (decide (x = y))) := fun F H u v e hx hy Q q => by
  rw [show u = V.str x from hx, show v = V.str y from hy]
  refine ⟨rfl, ?_⟩
  have : decide (V.str x = V.str y) = decide (x = y) := by
    by_cases h : x = y
    · subst h; simp
    · simp [h]
  rw [this]
  exact q _ F H (Gw.refl e) rfl
/-- sorted([]) -/
theorem c_sorted0 : CbD K (rSorted K) [.lst []] (.lst []) := fun F H xs e h Q q => by
  obtain ⟨v, rfl, a, us, rfl, h2, h3⟩ := all1 h
  obtain rfl : us = [] := h3
  refine ⟨a, [], rfl, Evl.sq_of (e a _ h2), by decide, fun ns p hp _ hn => ?_⟩
  obtain rfl : ns = [] := List.Perm.eq_nil hp
  have g := Gw.new (o := .lst []) e hn
  exact q _ _ _ g ⟨p, [], rfl, upd_same, rfl⟩
theorem lst_get {α : Type} {xs : List α} {f : α → Dt} {i : Nat} {d : Dt} (h : (xs.map f)[i]? = some d) : ∃ x, xs[i]? = some x ∧ x ∈ xs ∧ d = f x := by
  rw [List.getElem?_map] at h
  cases e : xs[i]? with
  | none => rw [e] at h; cases h
  | some x =>
    rw [e] at h
    exact ⟨x, rfl, List.mem_of_getElem? e, (Option.some.inj h).symm⟩
theorem mem_pairs {n : Nat} {p : Nat × Nat} (h : p ∈ pairs n) : p.1 < p.2 ∧ p.2 < n := by
  unfold pairs at h
  obtain ⟨a, ha, h⟩ := List.mem_flatMap.mp h
  obtain ⟨j, hj, rfl⟩ := List.mem_map.mp h
  have := List.mem_range.mp hj
  have := List.mem_range.mp ha
  simp
  omega
theorem cut_to (xs : List Dt) (n : Nat) : cutD xs none (some (n : Int)) = xs.take n := by
  unfold cutD
  rw [HT.sIx_none, HT.sIx_nat, List.drop_zero, Nat.sub_zero]
  by_cases h : n ≤ xs.length
  · rw [Nat.min_eq_left h]
  · rw [Nat.min_eq_right (by omega), List.take_length, List.take_of_length_le (by omega)]
theorem cut_from (xs : List Dt) (n : Nat) : cutD xs (some (n : Int)) none = xs.drop n := by
  unfold cutD
  rw [HT.sIx_none, HT.sIx_nat]
  by_cases h : n ≤ xs.length
  · rw [Nat.min_eq_left h, List.take_of_length_le (by rw [List.length_drop]; omega)]
  · rw [Nat.min_eq_right (by omega), List.drop_of_length_le (by omega), List.drop_of_length_le (by omega)]
    simp
theorem cut_to0 (xs : List Dt) : cutD xs none (some 0) = [] := by
  have := cut_to xs 0
  simpa using this
theorem cut_from0 (xs : List Dt) : cutD xs (some 0) none = xs := by
  have := cut_from xs 0
  simpa using this
theorem cut_last (xs : List Dt) : cutD xs none (some (-1)) = xs.dropLast := by
  unfold cutD
  rw [HT.sIx_none, List.drop_zero, Nat.sub_zero]
  show xs.take ((-1 : Int) + (xs.length : Int)).toNat = _
  rw [List.dropLast_eq_take]
  congr 1
  omega
theorem cut_one (xs : List Dt) (n : Nat) : cutD xs (some (n : Int)) (some ((n : Int) + 1)) = (xs.drop n).take 1 := by
  unfold cutD
  have e : ((n : Int) + 1) = ((n + 1 : Nat) : Int) := by omega
  rw [e, HT.sIx_nat, HT.sIx_nat]
  by_cases h : n < xs.length
  · rw [Nat.min_eq_left (by omega), Nat.min_eq_left (by omega)]
    congr 1
    omega
  · rw [Nat.min_eq_right (by omega), List.drop_of_length_le (by omega), List.drop_of_length_le (by omega)]
    simp
theorem prs_le : ∀ n : Nat, n ≤ 6 → (pairs n).length ≤ 15 := by decide
theorem last_eq {α : Type} {l : List α} {a : α} (h : l.getLast? = some a) : l = l.dropLast ++ [a] := by
  obtain ⟨ys, rfl⟩ := List.getLast?_eq_some_iff.mp h
  simp
theorem at_last {l : List (Nat × Str)} {g : Nat × Str} (h : l.getLast? = some g) : L2.atI (l.map gD) (-1) = some (gD g) := by
  rw [last_eq h, List.map_append]
  exact atI_last _ _
end
end Gr
/-! bodies: numbers, heaps, lines -/
namespace Gr
open PySem PySem.Spec PyProof.Rows L2
section
variable {K : PySem.W.Frag} {CS CP : Addr}
theorem b_is_number : ∀ ds r, R_is_number ds r → EvS K (t_is_number K CS CP) (DRet r) (envOf N_is_number ds) := by
  rintro ds r ⟨i, rfl, rfl⟩
  refine s_ret (x_to (x_andV (x_cb (l_cons (x_var rfl) (l_cons x_ty l_nil)) (c_isi (b := true) (by first | rfl | decide +kernel))) fun _ => x_notV (x_cb (l_cons (x_var rfl) (l_cons x_ty l_nil)) (c_isi (b := false) (by first | rfl | decide +kernel)))) rfl) rfl
theorem b_as_heap : ∀ ds r, R_as_heap ds r → EvS K (t_as_heap K CS CP) (DRet r) (envOf N_as_heap ds) := by
  rintro ds r ⟨h, hl, rfl, rfl⟩
  refine s_ret (x_cb (l_cons (x_ofN (lc_map (emb := gD) (f := gD) h (i_tup (x_var rfl)) (by omega) fun x _ => ?_)) l_nil) c_tupleL) rfl
  exact ⟨_, _, g_tup (gs_cons g_name (gs_cons g_name gs_nil)) rfl, by decide, ⟨rfl, rfl, rfl, trivial⟩, x_tp (l2 (x_var rfl) (x_var rfl))⟩
theorem b_as_standing : ∀ ds r, R_as_standing ds r → EvS K (t_as_standing K CS CP) (DRet r) (envOf N_as_standing ds) := by
  rintro ds r ⟨st, ok, rfl, rfl⟩
  have h6 := ok.six
  refine s_ret (x_cb (l_cons (x_ofN (lc_map (emb := hD) (f := hD) st (i_tup (x_var rfl)) (by omega) fun x hx => ?_)) l_nil) c_tupleL) rfl
  refine ⟨_, _, g_name, by decide, ⟨rfl, rfl, trivial⟩, x_call (l1 (x_var rfl)) ⟨x, ?_, rfl, rfl⟩⟩
  obtain ⟨i, hi, rfl⟩ := List.getElem_of_mem hx
  have := ok.heap i
  unfold hp at this
  rw [List.getD_eq_getElem?_getD, List.getElem?_eq_getElem hi] at this
  exact Nat.le_trans this (by decide)
theorem b_is_there : ∀ ds r, R_is_there ds r → EvS K (t_is_there K CS CP) (DRet r) (envOf N_is_there ds) := by
  rintro ds r ⟨st, d, hd, rfl, rfl⟩
  refine s_ret (x_to (x_andV (x_call (l1 (x_var rfl)) ⟨d, rfl, rfl⟩) fun _ => x_chain (a := true) (b := true) x_int (x_var rfl) (o_I0 fun _ => ?_) (fun _ => x_cb (l1 (x_var rfl)) c_lenT) fun _ => o_I0 fun _ => ?_) rfl) rfl
  · show V.bl (decide ((0 : Int) ≤ d)) = .bl true
    rw [decide_eq_true (by omega)]
  · show V.bl (decide ((d : Int) < ((st.map hD).length : Nat))) = .bl true
    rw [decide_eq_true (by rw [List.length_map]; omega)]
theorem b_look_dove : ∀ ds r, R_look_dove ds r → EvS K (t_look_dove K CS CP) (DRet r) (envOf N_look_dove ds) := by
  rintro ds r ⟨st, d, hd, rfl, rfl⟩
  exact s_no (b_to (b_not (b_B (x_call (l2 (x_var rfl) (x_var rfl)) ⟨st, d, hd, rfl, rfl⟩))) rfl) (s_next rfl)
theorem b_held : ∀ ds r, R_held ds r → EvS K (t_held K CS CP) (DRet r) (envOf N_held ds) := by
  rintro ds r ⟨st, a, b, ok, ha, hb, rfl, rfl⟩
  refine s_seq (s_drop (x_call (l2 (x_var rfl) (x_var rfl)) ⟨st, a, ha, rfl, rfl⟩) ?_)
  refine s_seq (s_drop (x_call (l2 (x_var rfl) (x_var rfl)) ⟨st, b, hb, rfl, rfl⟩) ?_)
  have h9 := ok.heap a
  refine s_ret (x_to (x_cb (l1 (x_ofN (lc_run (hp st a) gD (fun g => decide ((g.1 : Int) = b)) (fun g => .str g.2) (i_tup (x_ixTn (x_var rfl) (x_var rfl) (sD_get ha))) (by omega) fun x _ => ?_))) c_tupleL) ?_) rfl
  · exact ⟨_, _, g_tup (gs_cons g_name (gs_cons g_name gs_nil)) rfl, by decide, ⟨rfl, rfl, rfl, rfl, rfl, trivial⟩, b_test (x_op (x_var rfl) (x_var rfl) o_eqI), fun _ => x_var rfl⟩
  · unfold held wD hw
    have : (fun g : Nat × Str => decide ((g.1 : Int) = b)) = fun g => g.1 == b := by
      funext g
      rw [Bool.eq_iff_iff]
      simp only [decide_eq_true_eq, beq_iff_eq]
      omega
    rw [this, List.map_map]
    rfl
theorem b_grudges_in : ∀ ds r, R_grudges_in ds r → EvS K (t_grudges_in K CS CP) (DRet r) (envOf N_grudges_in ds) := by
  rintro ds r ⟨st, ok, rfl, rfl⟩
  have h6 := ok.six
  have hl := x_ofN (lc_map (K := K) (te := tCB (cLen K) (tCons (tVar 1) tNil)) (g := gName 1) (vs := [1]) (emb := hD) (f := fun h => .int (h.length : Nat)) st (i_tup (x_var (i := 0) (ρ := envOf N_grudges_in [sD st]) rfl)) (by omega) fun x _ => ⟨_, _, g_name, by decide, ⟨rfl, rfl, trivial⟩, x_to (x_cb (l1 (x_var rfl)) c_lenT) (by simp)⟩)
  have e : st.map (fun h : List (Nat × Str) => Dt.int (h.length : Nat)) = (st.map fun h => ((h.length : Nat) : Int)).map Dt.int := by rw [List.map_map]; rfl
  rw [e] at hl
  refine s_ret (x_to (x_sumR (r_val hl)) ?_) rfl
  unfold iD grudges
  congr 1
  clear e hl h6 ok
  induction st with
  | nil => rfl
  | cons h st ih =>
    rw [List.map_cons, List.sum_cons, ih, List.map_cons, List.sum_cons]
    omega
theorem b_line : ∀ ds r, R_line ds r → EvS K (t_line K CS CP) (DRet r) (envOf N_line ds) := by
  rintro ds r ⟨st, a, b, ok, ha, hb, rfl, rfl⟩
  have h1 := ok.held a b
  have h2 := ok.held b a
  refine s_ret (x_to (x_op (x_call (l3 (x_var rfl) (x_var rfl) (x_var rfl)) ⟨st, a, b, ok, ha, hb, rfl, rfl⟩) (x_revT (x_call (l3 (x_var rfl) (x_var rfl) (x_var rfl)) ⟨st, b, a, ok, hb, ha, rfl, rfl⟩)) (o_catA (by simp; omega))) ?_) rfl
  unfold line wD
  rw [List.map_append, List.map_reverse]
theorem b_cut : ∀ ds r, R_cut ds r → EvS K (t_cut K CS CP) (DRet r) (envOf N_cut ds) := by
  rintro ds r ⟨st, a, b, ok, ha, hb, rfl, rfl⟩
  refine s_ret (x_to (x_cb (l1 (x_call (l3 (x_var rfl) (x_var rfl) (x_var rfl)) ⟨st, a, b, ok, ha, hb, rfl, rfl⟩)) c_lenT) ?_) rfl
  unfold cut iD
  rw [List.length_map]
theorem b_pairs_of : ∀ ds r, R_pairs_of ds r → EvS K (t_pairs_of K CS CP) (DRet r) (envOf N_pairs_of ds) := by
  rintro ds r ⟨st, ok, rfl, rfl⟩
  have h6 := ok.six
  refine s_seq (s_set (x_to (x_cb (l1 (x_var rfl)) c_lenT) (show _ = iD st.length by simp [iD])) ?_)
  generalize st.length = n at *
  have e : pL n = .lst ((List.range n).flatMap fun a => ((List.range (n - (a + 1))).map fun j => pD (a, a + 1 + j))) := by
    unfold pL pairs
    rw [List.map_flatMap]
    congr 2
    funext a
    rw [List.map_map]
    rfl
  refine s_ret (x_to (x_ofN (lc2_run (List.range n) iD (fun a => List.range (n - (a + 1))) (fun a j => iD (a + 1 + j)) (fun a j => pD (a, a + 1 + j)) (i_rngN (l1 (x_var rfl)) (by omega)) ?_ fun a ha => ?_)) e.symm) rfl
  · rw [List.length_flatMap]
    have : ∀ l : List Nat, (∀ a ∈ l, a ≤ 6) → l.length ≤ 6 → (l.map fun a => ((List.range (n - (a + 1))).map fun j => pD (a, a + 1 + j)).length).sum ≤ 6 * l.length := by
      intro l
      induction l with
      | nil => intros; simp
      | cons x l ih =>
        intro h1 h2
        have := ih (fun a ha => h1 a (List.mem_cons_of_mem _ ha)) (by simp at h2; omega)
        rw [List.map_cons, List.sum_cons, List.length_cons, List.length_map, List.length_range]
        omega
    have := this (List.range n) (fun a ha => by have := List.mem_range.mp ha; omega) (by simp; omega)
    simp at this ⊢
    omega
  · have ha := List.mem_range.mp ha
    refine ⟨_, _, g_name, by decide, ⟨rfl, rfl, rfl, rfl, trivial⟩, b_yes, ?_, fun j hj => ⟨_, _, g_name, by decide, ⟨rfl, rfl, rfl, rfl, trivial⟩, b_yes, x_tp (l2 (x_var rfl) (x_var rfl))⟩⟩
    have hr := i_rng2 (K := K) (ρ1 := [Sl.val (sD st), .val (iD n), .val (iD a), .no]) (l2 (x_add (x_var (i := 2) (d := iD a) rfl) (x_int (n := 1))) (x_var (i := 1) (d := iD n) rfl)) ⟨by omega, by omega, by omega, by omega⟩
    have e2 : rg ((a : Int) + 1) ((n : Int) - ((a : Int) + 1)).toNat = (List.range (n - (a + 1))).map fun j => iD (a + 1 + j) := by
      unfold rg iD
      rw [show ((n : Int) - ((a : Int) + 1)).toNat = n - (a + 1) by omega]
      refine List.map_congr_left fun j _ => ?_
      congr 1
    rw [e2] at hr
    exact hr
theorem b_look_same : ∀ ds r, R_look_same ds r → EvS K (t_look_same K CS CP) (DRet r) (envOf N_look_same ds) := by
  rintro ds r ⟨s, t, hl, rfl, rfl⟩
  refine s_no (b_to (b_test (x_op (x_cb (l1 (x_var rfl)) c_lenT) (x_cb (l1 (x_var rfl)) c_lenT) o_neI)) ?_) (s_next rfl)
  simp [hl]
end
end Gr
/-! bodies: nothing bars the way -/
namespace Gr
open PySem PySem.Spec PyProof.Rows L2
section
variable {K : PySem.W.Frag} {CS CP : Addr}
theorem b_first_apart : ∀ ds r, R_first_apart ds r → EvS K (t_first_apart K CS CP) (DRet r) (envOf N_first_apart ds) := by
  rintro ds r ⟨w, hl, rfl, rfl⟩
  refine s_seq (s_for (i_enumZip (l2 (x_var rfl) (x_var rfl)) rfl) (fun _ ρ => ∃ s2 s3 s4, ρ = [.val (wD w), .val (wD w), s2, s3, s4]) ⟨_, _, _, rfl⟩ (fun i d ρ2 hd ⟨s2, s3, s4, e⟩ => ?_) fun ρ2 ⟨s2, s3, s4, e⟩ => ?_)
  · subst e
    obtain ⟨d', k1, rfl⟩ := en_get hd
    obtain ⟨d1, d2, k2, k3, rfl⟩ := zp_get k1
    rw [k2] at k3
    cases k3
    obtain ⟨x, _, _, rfl⟩ := lst_get k2
    exact ⟨_, _, g_tup (gs_cons g_name (gs_cons (g_tup (gs_cons g_name (gs_cons g_name gs_nil)) rfl) gs_nil)) rfl, s_no (b_to (b_test (x_op (x_var rfl) (x_var rfl) o_neStr)) (by simp)) (s_next ⟨_, _, _, rfl⟩)⟩
  · subst e
    exact s_ret (x_if (b := true) (b_to (b_test (x_op (x_cb (l1 (x_var rfl)) c_lenT) (x_cb (l1 (x_var rfl)) c_lenT) o_eqI)) (by simp)) (fun _ => x_non) fun h => nomatch h) rfl
theorem b_first_unlike : ∀ ds r, R_first_unlike ds r → EvS K (t_first_unlike K CS CP) (DRet r) (envOf N_first_unlike ds) := by
  rintro ds r ⟨s, t, al, rfl, rfl⟩
  refine s_seq (s_drop (x_call (l2 (x_var rfl) (x_var rfl)) ⟨s, t, al.len, rfl, rfl⟩) ?_)
  refine s_seq (s_for (i_list (x_call (l1 (x_var rfl)) ⟨s, al.ok1, rfl, rfl⟩)) (fun _ ρ => ∃ s2 s3 s4, ρ = [.val (sD s), .val (sD t), s2, s3, s4]) ⟨_, _, _, rfl⟩ (fun i d ρ2 hd ⟨s2, s3, s4, e⟩ => ?_) fun ρ2 ⟨s2, s3, s4, e⟩ => ?_)
  · subst e
    obtain ⟨p, _, hp, rfl⟩ := lst_get hd
    obtain ⟨h1, h2⟩ := mem_pairs hp
    refine ⟨_, _, g_tup (gs_cons g_name (gs_cons g_name gs_nil)) rfl, s_seq (s_set (x_call (l2 (x_call (l3 (x_var rfl) (x_var rfl) (x_var rfl)) ⟨s, p.1, p.2, al.ok1, by omega, h2, rfl, rfl⟩) (x_call (l3 (x_var rfl) (x_var rfl) (x_var rfl)) ⟨t, p.1, p.2, al.ok2, by rw [← al.len]; omega, by rw [← al.len]; omega, rfl, rfl⟩)) ⟨line s p.1 p.2, ?_, by rw [al.lines], rfl⟩) ?_)⟩
    · unfold line
      have := al.ok1.held p.1 p.2
      have := al.ok1.held p.2 p.1
      rw [List.length_append, List.length_reverse]
      omega
    · exact s_no (b_to (b_test (x_op (x_var rfl) x_non o_notN)) rfl) (s_next ⟨_, _, _, rfl⟩)
  · subst e
    exact s_ret x_non rfl
theorem b_sleepers_grudges : ∀ ds r, R_sleepers_grudges ds r → EvS K (t_sleepers_grudges K CS CP) (DRet r) (envOf N_sleepers_grudges ds) := by
  rintro ds r ⟨h, hl, rfl, rfl⟩
  have hi := i_enumT (K := K) (l1 (x_var (i := 0) (d := hD h) (ρ := envOf N_sleepers_grudges [hD h, .tup []]) rfl))
  have e : en (h.map gD) = h.zipIdx.map fun p => .tup [iD p.2, gD p.1] := by
    unfold en
    rw [List.zipIdx_map, List.map_map]
    rfl
  rw [e] at hi
  refine s_ret (x_to (x_ofN (lc_run h.zipIdx (fun p => .tup [iD p.2, gD p.1]) (fun _ => false) (fun p => iD p.2) hi (by rw [List.length_zipIdx]; omega) fun x _ => ?_)) (by simp)) rfl
  exact ⟨_, _, g_tup (gs_cons g_name (gs_cons (g_tup (gs_cons g_name (gs_cons g_name gs_nil)) rfl) gs_nil)) rfl, by decide, ⟨rfl, rfl, rfl, rfl, rfl, trivial⟩, b_test (x_op (x_var (i := 3) (d := .int x.1.1) rfl) (x_var rfl) o_inT0), fun h => nomatch h⟩
theorem b_still_of : ∀ ds r, R_still_of ds r → EvS K (t_still_of K CS CP) (DRet r) (envOf N_still_of ds) := by
  rintro ds r ⟨s, t, d, o1, o2, h1, h2, rfl, rfl⟩
  have b1 := o1.heap d
  have b2 := o2.heap d
  refine s_seq (s_no (b_test (x_op (x_var (i := 2) (d := .int d) rfl) (x_var rfl) o_inT0)) (s_next ?_))
  refine s_seq (s_set (x_to (x_cb (l1 (x_call (l2 (x_ixTn (x_var rfl) (x_var rfl) (sD_get h2)) (x_var rfl)) ⟨hp t d, by omega, rfl, rfl⟩)) c_lenL) (d' := .int 0) rfl) ?_)
  refine s_seq (s_set (x_to (x_slR (r_val (x_call (l2 (x_ixTn (x_var rfl) (x_var rfl) (sD_get h1)) (x_var rfl)) ⟨hp s d, by omega, rfl, rfl⟩)) p_none (p_some (x_var rfl))) (d' := .lst []) (by simp [cutD])) ?_)
  exact s_ret (x_if (b := false) (b_to (b_test (x_gt (x_cb (l1 (x_var rfl)) c_lenL) x_int)) (by simp)) (fun h => nomatch h) fun _ => x_int) rfl
theorem b_still : ∀ ds r, R_still ds r → EvS K (t_still K CS CP) (DRet r) (envOf N_still ds) := by
  rintro ds r ⟨s, t, al, rfl, rfl⟩
  have h6 := al.ok1.six
  have hl := al.len
  refine s_seq (s_drop (x_call (l2 (x_var rfl) (x_var rfl)) ⟨s, t, al.len, rfl, rfl⟩) ?_)
  refine s_ret (x_to (x_cb (l1 (x_ofN (lc_map (List.range s.length) iD (fun _ => .int 0) (i_rngN (l1 (x_to (x_cb (l1 (x_var rfl)) c_lenT) (show _ = iD s.length by simp [iD]))) (by omega)) (by rw [List.length_range]; omega) fun d hd => ?_))) c_tupleL) ?_) rfl
  · have hd := List.mem_range.mp hd
    exact ⟨_, _, g_name, by decide, ⟨rfl, rfl, rfl, rfl, trivial⟩, x_call (l_cons (x_var rfl) (l3 (x_var rfl) (x_var rfl) (x_var rfl))) ⟨s, t, d, al.ok1, al.ok2, hd, by omega, rfl, rfl⟩⟩
  · unfold zs
    congr 1
    exact List.eq_replicate_iff.mpr ⟨by simp, fun d hd => by
      obtain ⟨_, _, e⟩ := List.mem_map.mp hd
      exact e.symm⟩
theorem b_first_moved : ∀ ds r, R_alk0 ds r → EvS K (t_first_moved K CS CP) (DRet r) (envOf N_first_moved ds) := by
  rintro ds r ⟨s, t, al, rfl, rfl⟩
  have hl := al.len
  refine s_seq (s_for (i_enumT (l1 (x_callN (l2 (x_var rfl) (x_var rfl)) (l1 (x_var rfl)) rfl rfl ⟨s, t, al, rfl, rfl⟩))) (fun _ ρ => ∃ s3 s4 s5, ρ = [.val (sD s), .val (sD t), .val (.tup []), s3, s4, s5]) ⟨_, _, _, rfl⟩ (fun i d ρ2 hd ⟨s2, s3, s4, e⟩ => ?_) fun ρ2 ⟨s2, s3, s4, e⟩ => ?_)
  · subst e
    obtain ⟨d', k1, rfl⟩ := en_get hd
    rw [List.getElem?_replicate] at k1
    split at k1
    · rename_i hi
      cases k1
      have b1 := al.ok1.heap i
      have b2 := al.ok2.heap i
      refine ⟨_, _, g_tup (gs_cons g_name (gs_cons g_name gs_nil)) rfl, s_seq (s_set (x_call (l2 (x_to (x_slT (x_call (l1 (x_ixTn (x_var rfl) (x_var (d := iD i) rfl) (sD_get hi))) ⟨hp s i, by omega, rfl, rfl⟩) p_none (p_some (x_var (d := .int 0) rfl))) (d' := wD []) ?_) (x_to (x_slT (x_call (l1 (x_ixTn (x_var rfl) (x_var (d := iD i) rfl) (sD_get (st := t) (by omega)))) ⟨hp t i, by omega, rfl, rfl⟩) p_none (p_some (x_var (d := .int 0) rfl))) (d' := wD []) ?_)) ⟨[], by decide, rfl, rfl⟩) ?_)⟩
      · rw [cut_to0]; rfl
      · rw [cut_to0]; rfl
      · exact s_no (b_to (b_test (x_op (x_var rfl) x_non o_notN)) rfl) (s_next ⟨_, _, _, rfl⟩)
    · cases k1
  · subst e
    exact s_ret x_non rfl
theorem b_look_lines : ∀ ds r, R_look_lines ds r → EvS K (t_look_lines K CS CP) (DRet r) (envOf N_look_lines ds) := by
  rintro ds r ⟨s, t, al, rfl, rfl⟩
  refine s_seq (s_set (x_call (l2 (x_var rfl) (x_var rfl)) ⟨s, t, al, rfl, rfl⟩) ?_)
  exact s_no (b_to (b_test (x_op (x_var rfl) x_non o_notN)) rfl) (s_next rfl)
theorem b_look_still : ∀ ds r, R_alk0 ds r → EvS K (t_look_still K CS CP) (DRet r) (envOf N_look_still ds) := by
  rintro ds r ⟨s, t, al, rfl, rfl⟩
  refine s_seq (s_drop (x_call (l2 (x_var rfl) (x_var rfl)) ⟨s, t, al, rfl, rfl⟩) ?_)
  refine s_seq (s_set (x_callN (l2 (x_var rfl) (x_var rfl)) (l1 (x_var rfl)) rfl rfl ⟨s, t, al, rfl, rfl⟩) ?_)
  exact s_no (b_to (b_test (x_op (x_var rfl) x_non o_notN)) rfl) (s_next rfl)
theorem b_rows_given : ∀ ds r, R_rows_given ds r → EvS K (t_rows_given K CS CP) (DRet r) (envOf N_rows_given ds) := by
  rintro ds r ⟨s, ok, rfl, rfl⟩
  have h6 := ok.six
  refine s_seq (s_setN (n_ls l_nil) fun p => ?_)
  refine s_seq (s_for (i_enumT (l1 (x_var rfl))) (fun i ρ => ∃ s4 s5 s6 s7, ρ = [.val (sD s), .val (zs s.length), .val (.tup []), .own p (List.replicate i (.lst [])), s4, s5, s6, s7]) ⟨_, _, _, _, rfl⟩ (fun i d ρ2 hd ⟨s4, s5, s6, s7, e⟩ => ?_) fun ρ2 ⟨s4, s5, s6, s7, e⟩ => ?_)
  · subst e
    obtain ⟨d', k1, rfl⟩ := en_get hd
    rw [List.getElem?_replicate] at k1
    split at k1
    · rename_i hi
      cases k1
      have b1 := ok.heap i
      refine ⟨_, _, g_tup (gs_cons g_name (gs_cons g_name gs_nil)) rfl, s_seq (s_set (x_ofN (lc_run ([] : List Nat) iD (fun _ => true) iD (i_list (x_to (x_revR (r_val (x_call (l2 (x_ixTn (x_var rfl) (x_var (d := iD i) rfl) (sD_get hi)) (x_var rfl)) ⟨hp s i, by omega, rfl, rfl⟩))) rfl)) (by decide) fun x hx => by cases hx)) ?_)⟩
      refine s_yes (b_to (b_test (x_op (x_var (d := .int i) rfl) (x_var rfl) o_inT0)) rfl) ?_
      refine s_app (ds := List.replicate i (.lst [])) rfl (x_ofN (lc_map ([] : List Nat) iD iD (i_list (x_var rfl)) (by decide) fun x hx => by cases hx)) rfl (by rw [List.length_replicate]; omega) ?_
      show ∃ s4 s5 s6 s7, _ = [Sl.val (sD s), .val (zs s.length), .val (.tup []), .own p (List.replicate (i + 1) (.lst [])), s4, s5, s6, s7]
      rw [show List.replicate (i + 1) (Dt.lst []) = List.replicate i (Dt.lst []) ++ [.lst []] from List.replicate_succ']
      exact ⟨_, _, _, _, rfl⟩
    · cases k1
  · subst e
    rw [en_len, List.length_replicate]
    exact s_retOwn rfl rfl
theorem b_rows_got : ∀ ds r, R_rows_got ds r → EvS K (t_rows_got K CS CP) (DRet r) (envOf N_rows_got ds) := by
  rintro ds r ⟨s, t, rows, rfl, rfl⟩
  refine s_seq (s_setN (n_ls l_nil) fun p => ?_)
  refine s_seq (s_for (i_tup (x_var rfl)) (fun _ ρ => ρ = (envOf N_rows_got [s, rows, .tup [], t]).set 4 (.own p [])) rfl (fun i d ρ2 hd _ => by cases hd) fun ρ2 e => ?_)
  subst e
  exact s_retOwn rfl rfl
theorem b_waits_in : ∀ ds r, R_waits_in ds r → EvS K (t_waits_in K CS CP) (DRet r) (envOf N_waits_in ds) := by
  rintro ds r ⟨n, hn, rfl, rfl⟩
  have e : List.replicate n (Dt.lst []) = (List.replicate n ()).map fun _ => .lst [] := by simp
  refine s_ret (x_to (x_ofN (lc2_run (List.replicate n ()) (fun _ => .lst []) (fun _ => ([] : List Nat)) (fun _ => iD) (fun _ => iD) (i_list (x_var (d := .lst _) (by rw [← e]; rfl))) (by simp) fun x hx => ?_)) (by simp)) rfl
  exact ⟨_, _, g_name, by decide, ⟨rfl, rfl, rfl, rfl, trivial⟩, b_yes, i_zipLL (ds := []) (es := []) (l2 (x_var rfl) (x_to (x_slR (r_val (x_var (d := .lst []) rfl)) (p_some (x_int (n := 1))) p_none) (d' := .lst []) (by simp [cutD]))) rfl, fun y hy => by cases hy⟩
theorem b_givings : ∀ ds r, R_alkL ds r → EvS K (t_givings K CS CP) (DRet r) (envOf N_givings ds) := by
  rintro ds r ⟨s, t, al, rfl, rfl⟩
  have h6 := al.ok1.six
  refine s_seq (s_drop (x_call (l3 (x_var rfl) (x_var rfl) (x_var rfl)) ⟨s, t, al, rfl, rfl⟩) ?_)
  refine s_seq (s_set (x_call (l3 (x_var rfl) (x_callN (l2 (x_var rfl) (x_var rfl)) (l1 (x_var rfl)) rfl rfl ⟨s, t, al, rfl, rfl⟩) (x_var rfl)) ⟨s, al.ok1, rfl, rfl⟩) ?_)
  have e : List.replicate s.length (Dt.lst []) = (List.replicate s.length ()).map fun _ => .lst [] := by simp
  refine s_ret (x_cb (l1 (x_to (x_ofN (lc2_run (List.replicate s.length ()) (fun _ => .lst []) (fun _ => ([] : List Nat)) (fun _ => iD) (fun _ => iD) (i_list (x_var (d := .lst _) (by rw [← e]; rfl))) (by simp) fun x hx => ?_)) (d' := .lst []) (by simp))) c_sorted0) rfl
  exact ⟨_, _, g_name, by decide, ⟨rfl, rfl, rfl, rfl, rfl, rfl, trivial⟩, b_yes, i_list (x_var rfl), fun y hy => by cases hy⟩
theorem b_waits : ∀ ds r, R_alkL ds r → EvS K (t_waits K CS CP) (DRet r) (envOf N_waits ds) := by
  rintro ds r ⟨s, t, al, rfl, rfl⟩
  have h6 := al.ok1.six
  refine s_seq (s_drop (x_call (l3 (x_var rfl) (x_var rfl) (x_var rfl)) ⟨s, t, al, rfl, rfl⟩) ?_)
  refine s_seq (s_set (x_call (l3 (x_var rfl) (x_callN (l2 (x_var rfl) (x_var rfl)) (l1 (x_var rfl)) rfl rfl ⟨s, t, al, rfl, rfl⟩) (x_var rfl)) ⟨s, al.ok1, rfl, rfl⟩) ?_)
  refine s_ret (x_sortedSet (ns := []) (ms := []) (x_call (l1 (x_to (x_op (x_var rfl) (x_call (l_cons (x_var rfl) (l3 (x_var rfl) (x_var rfl) (x_var rfl))) ⟨_, _, _, rfl, rfl⟩) (o_cat (by simp; omega))) (by simp))) ⟨s.length, h6, rfl, rfl⟩) (by decide) List.Pairwise.nil (fun k => Iff.rfl)) rfl
theorem b_order_of : ∀ ds r, R_order_of ds r → EvS K (t_order_of K CS CP) (DRet r) (envOf N_order_of ds) := by
  rintro ds r ⟨rfl, rfl⟩
  refine s_seq (s_asg (x_tp (l2 (x_ls l_nil) (x_listR (r_val (x_var rfl))))) (g_tup (gs_cons g_name (gs_cons g_name gs_nil)) rfl) ?_)
  refine s_seq (s_set (x_to (x_slR (r_val (x_var rfl)) p_none (p_some x_int)) (d' := .lst []) (by simp [cutD])) ?_)
  refine s_seq (s_while (fun m ρ => m = 0 ∧ ρ = [.val (.lst []), .val (.lst []), .val (.lst []), .val (.lst []), .val (.lst [])] ++ List.replicate (N_order_of.length - 5) .no) 0 ⟨rfl, rfl⟩ fun m ρ2 h => ⟨false, ?_, (fun e => nomatch e), fun _ => ?_⟩)
  · obtain ⟨_, rfl⟩ := h
    exact b_to (b_test (x_gt (x_cb (l1 (x_var rfl)) c_lenL) x_int)) (by simp)
  · obtain ⟨_, rfl⟩ := h
    exact s_ret (x_var rfl) rfl
end
end Gr
/-! bodies: pecks -/
namespace Gr
open PySem PySem.Spec PyProof.Rows L2
section
variable {K : PySem.W.Frag} {CS CP : Addr} {ρ : Env} {d : Dt} {E : De}
theorem x_fldB {x C dx : Addr} {ns : List Str} {ds : List Dt} {i : Nat} {f : Str} (h : ρ[i]? = some (.res (oB x C dx ns ds))) (hf : (ns.zip ds).lookup f = some d) (hc : Cls K C) (hn : NoAttr K C f) : EvX K (tFld K (tVar i) f) ρ d ρ := fun Fb Hb F H σ I Q q => by
  obtain ⟨g1, g2, vs, g3, g4, g5⟩ := I.res i _ h
  obtain ⟨u, h5, h6⟩ := zip_lookup g5 g4 hf
  exact ⟨_, g1 _ rfl, x, C, dx, _, u, rfl, g3, hc, hn, h5, q u F H I (Evl.Ex.refl _) h6⟩
/-- the row of a Pecking read: it is let go -/
theorem x_fldSo {x C dx l : Addr} {here : Dt} {row : List Dt} {i : Nat} (h : ρ[i]? = some (.pk x C dx l here row)) (hc : Cls K C) (hn : NoAttr K C "so_far") : EvX K (tFld K (tVar i) "so_far") ρ (.lst row) (ρ.set i .no) := fun Fb Hb F H σ I Q q => by
  obtain ⟨g1, g2, vh, xs, g3, g4, g5, g6⟩ := I.res i _ h
  have fl := g2 l (List.mem_cons_of_mem _ List.mem_cons_self)
  have e1 : Evl.Ex F (upd F l (.lst xs)) := Evl.Ex.new fl.1
  have iσ : i < σ.length := (List.getElem?_eq_some_iff.mp (g1 _ rfl)).1
  have I2 : Iv K Fb Hb F H σ (ρ.set i .no) := by
    have := I.setNo (i := i) (σ[i]'iσ)
    rwa [List.set_getElem_self] at this
  have out : ∀ (j : Nat) t, (ρ.set i .no)[j]? = some t → l ∉ t.adr := fun j t hj hz => by
    rcases set_get hj with ⟨_, q, _⟩ | ⟨ne, q⟩
    · subst q; cases hz
    · exact I.apart i j _ t ne h q l (List.mem_cons_of_mem _ List.mem_cons_self) hz
  have I3 : Iv K Fb Hb (upd F l (.lst xs)) H σ (ρ.set i .no) :=
    ⟨⟨I2.gw.ff.trans e1, fun a o e => by
        by_cases z : a = l
        · subst z
          rw [upd_same] at e
          rw [g4, e]
        · rw [upd_ne z] at e
          exact I2.gw.fh a o e, I2.gw.hh, fun a f1 f2 => by
        rw [upd_ne (fun z => f2 (by rw [z]; exact fl.2))]
        exact I2.gw.no a f1 f2⟩, I2.len, fun j e hj => by
      obtain ⟨v, k1, k2⟩ := I2.val j e hj
      exact ⟨v, k1, k2.mono e1⟩, fun j t hj => by
      obtain ⟨k1, k2, k3⟩ := I2.res j t hj
      exact ⟨k1, fun a z => ⟨by rw [upd_ne (fun w => out j t hj (by rw [← w]; exact z))]; exact (k2 a z).1, (k2 a z).2⟩, Sl.holds_mono k3 e1 fun _ _ _ q => q⟩, I2.apart⟩
  exact ⟨_, g1 _ rfl, x, C, dx, _, .ref l, rfl, g3, hc, hn, rfl, q _ _ _ I3 e1 ⟨l, xs, rfl, upd_same, g6.mono e1⟩⟩
theorem b_Shares_init (hc : Cls K CS) (h1 : NoAttr K CS "own_standing") (h2 : NoAttr K CS "pairs") (h3 : NoAttr K CS "lengths") : ∀ x C dx ds P, (R_Shares_init CS) x C dx ds P → EvS K (t_Shares_init K CS CP) { nx := fun ρ => ∃ (i : Nat) (s' : Sl), ρ[i]? = some s' ∧ P s' ∧ s'.at_ = some (.ref x), rt := fun _ _ => False } (.res (oB x C dx [] []) :: envOf N_Shares_init.tail ds) := by
  rintro x C dx ds P ⟨rfl, st, ok, rfl, rfl⟩
  have h6 := ok.six
  refine s_seq (s_fldB (x_var rfl) rfl hc h1 rfl (by decide) ?_)
  refine s_seq (s_fldB (x_call (l1 (x_var rfl)) ⟨st, ok, rfl, rfl⟩) rfl hc h2 rfl (by decide) ?_)
  refine s_fldB (x_ofN (lc_map (pairs st.length) pD (fun p => iD (line st p.1 p.2).length) (i_list (x_fldB (d := pL st.length) rfl rfl hc h2)) (by have := prs_le st.length h6; omega) fun p hp => ?_)) rfl hc h3 rfl (by decide) ⟨0, _, rfl, ?_, rfl⟩
  · obtain ⟨k1, k2⟩ := mem_pairs hp
    exact ⟨_, _, g_tup (gs_cons g_name (gs_cons g_name gs_nil)) rfl, by decide, ⟨⟨rfl, _, rfl, rfl, rfl⟩, rfl, rfl, rfl, trivial⟩, x_to (x_cb (l1 (x_call (l3 (x_var rfl) (x_var rfl) (x_var rfl)) ⟨st, p.1, p.2, ok, by omega, k2, rfl, rfl⟩)) c_lenT) (by simp [iD])⟩
  · unfold lensM iL
    rw [List.map_map]
    rfl
theorem b_Pecking_init (hc : Cls K CP) (h1 : NoAttr K CP "here") (h2 : NoAttr K CP "so_far") : ∀ x C dx ds P, (R_Pecking_init CP) x C dx ds P → EvS K (t_Pecking_init K CS CP) { nx := fun ρ => ∃ (i : Nat) (s' : Sl), ρ[i]? = some s' ∧ P s' ∧ s'.at_ = some (.ref x), rt := fun _ _ => False } (.res (oB x C dx [] []) :: envOf N_Pecking_init.tail ds) := by
  rintro x C dx ds P ⟨rfl, st, ok, rfl, rfl⟩
  refine s_seq (s_fldB (x_call (l1 (x_var rfl)) ⟨st, ok, rfl, rfl⟩) rfl hc h1 rfl (by decide) ?_)
  exact s_fldP (n_ls l_nil) rfl hc h2 fun l => ⟨0, _, rfl, ⟨l, rfl⟩, rfl⟩
theorem b_barred_by : ∀ ds r, R_alk0 ds r → EvS K (t_barred_by K CS CP) (DRet r) (envOf N_barred_by ds) := by
  rintro ds r ⟨s, t, al, rfl, rfl⟩
  refine s_seq (s_drop (x_callN (l2 (x_var rfl) (x_var rfl)) (l1 (x_var rfl)) rfl rfl ⟨s, t, al, rfl, rfl⟩) ?_)
  exact s_ret x_non rfl
theorem b_abouts_of : ∀ ds r, R_abouts_of ds r → EvS K (t_abouts_of K CS CP) (DRet r) (envOf N_abouts_of ds) := by
  rintro ds r ⟨h, hl, rfl, rfl⟩
  refine s_ret (x_to (x_ofN (lc_map h gD (fun g => iD g.1) (i_tup (x_var rfl)) (by omega) fun x _ => ⟨_, _, g_tup (gs_cons g_name (gs_cons g_name gs_nil)) rfl, by decide, ⟨rfl, rfl, rfl, trivial⟩, x_var rfl⟩)) ?_) rfl
  unfold iL abouts
  rw [List.map_map]
  rfl
theorem b_gone_over : ∀ ds r, R_gone_over ds r → EvS K (t_gone_over K CS CP) (DRet r) (envOf N_gone_over ds) := by
  rintro ds r ⟨st, d, ok, hd, hne, rfl, rfl⟩
  obtain ⟨g, hg⟩ : ∃ g, (hp st d).getLast? = some g := ⟨_, List.getLast?_eq_some_getLast hne⟩
  have hgm : g ∈ hp st d := List.mem_of_getLast? hg
  obtain ⟨q1, q2⟩ := ok.okn.2 d g hgm
  have b1 := ok.heap d
  have b2 := ok.heap g.1
  refine s_seq (s_asg (x_op (x_ixTn (x_var rfl) (x_var rfl) (sD_get hd)) (x_un (x_int (n := 1)) u_neg) (o_ixT (at_last hg))) (g_tup (gs_cons g_name (gs_cons g_name gs_nil)) rfl) ?_)
  refine s_seq (s_setN (n_listT (x_var rfl)) fun p => ?_)
  refine s_seq (s_setL (j := d) (x_to (x_slT (x_ixTn (x_var rfl) (x_var rfl) (sD_get hd)) p_none (p_some (x_un (x_int (n := 1)) u_neg))) (d' := hD (hp st d).dropLast) ?_) rfl (x_var rfl) (by simpa using hd) ?_)
  · rw [cut_last]
    unfold hD
    rw [List.map_dropLast]
  refine s_seq (s_setL (j := g.1) (x_op (x_ixTn (x_var rfl) (x_var (d := iD g.1) rfl) (sD_get (by omega))) (x_tp (l1 (x_tp (l2 (x_var rfl) (x_var rfl))))) (o_catA (by simp; omega))) rfl (x_var rfl) (by simp; omega) ?_)
  refine s_ret (x_to (x_tupleR (r_own rfl)) ?_) rfl
  unfold sD peckM
  rw [hg]
  simp only [List.map_set]
  congr 2
  unfold hD
  rw [List.map_append]
  rfl
end
end Gr
/-! bodies: pecking on -/
namespace Gr
open PySem PySem.Spec PyProof.Rows L2
section
variable {K : PySem.W.Frag} {CS CP : Addr} {ρ : Env} {d : Dt} {E : De}
theorem Okf.run {st t : Sg} {r : List Nat} (ok : Okf st) (e : Gr.run st r = some t) : Okf t ∧ t.length = st.length := by
  obtain ⟨k1, k2, k3⟩ := run_ok r st t ok.okn e
  have hl : t.length = st.length := k1.1
  exact ⟨⟨by rw [hl]; exact k1, by rw [hl]; exact ok.one, by rw [hl]; exact ok.six, by rw [k3]; exact ok.nine, words_run (P := fun w => PyData.strOk w = true) r st t ok.words e⟩, hl⟩
theorem Alk.al {s t : Sg} (h : Alk s t) : Al s.length s t := ⟨h.ok1.okn, by rw [h.len]; exact h.ok2.okn, h.lines⟩
theorem run1 {st : Sg} {d : Nat} (hd : d < st.length) (hne : hp st d ≠ []) : Gr.run st [d] = some (peckM st d) := by
  show (if d < st.length ∧ hp st d ≠ [] then some (peckM st d) else none) = _
  rw [if_pos ⟨hd, hne⟩]
theorem b_peck (hc : Cls K CP) (h1 : NoAttr K CP "here") (h2 : NoAttr K CP "so_far") : ∀ s ds r s', (R_peck CP) s ds r s' → EvS K (t_Pecking_peck K CS CP) { nx := fun ρ => r = .non ∧ ∃ i : Nat, ρ[i]? = some s', rt := fun d ρ => d = r ∧ ∃ i : Nat, ρ[i]? = some s' } (s :: envOf N_Pecking_peck.tail ds) := by
  rintro s ds r s' ⟨x, dx, l, st, row, d, g, ok, hd, hg, hr, rfl, rfl, rfl, rfl⟩
  have hne : hp st d ≠ [] := fun e => by rw [e] at hg; cases hg
  refine s_seq (s_set (x_op (x_op (x_ixTn (x_fldH rfl hc h1) (x_var rfl) (sD_get hd)) (x_un (x_int (n := 1)) u_neg) (o_ixT (at_last hg))) (x_int (n := 0)) (o_ixT (d := iD g.1) rfl)) ?_)
  refine s_seq (s_fldH (x_call (l2 (x_fldH rfl hc h1) (x_var rfl)) ⟨st, d, ok, hd, hne, rfl, rfl⟩) rfl hc h1 ?_)
  refine s_seq (s_appR rfl hc h2 (x_var rfl) (by rw [List.length_map]; omega) ?_)
  refine s_ret (x_var rfl) ⟨rfl, 0, ?_⟩
  unfold pkS
  rw [List.map_append]
  rfl
/-- d pecked i times -/
theorem reps {st : Sg} {d : Nat} (ok : Okf st) (hd : d < st.length) {i : Nat} (hi : i ≤ (hp st d).length) : ∃ S, Gr.run st (List.replicate i d) = some S ∧ Okf S ∧ S.length = st.length ∧ hp S d = (hp st d).take ((hp st d).length - i) := by
  obtain ⟨S, h1, h2⟩ := pushes hd (fun g hg => ok.okn.2 d g hg) i hi
  obtain ⟨k1, k2⟩ := ok.run h1
  exact ⟨S, h1, k1, k2, h2.own⟩
theorem b_taken_off (hc : Cls K CP) (h1 : NoAttr K CP "here") : ∀ s ds r s', (R_taken_off CP) s ds r s' → EvS K (t_Pecking_taken_off K CS CP) { nx := fun ρ => r = .non ∧ ∃ i : Nat, ρ[i]? = some s', rt := fun d ρ => d = r ∧ ∃ i : Nat, ρ[i]? = some s' } (s :: envOf N_Pecking_taken_off.tail ds) := by
  rintro s ds r s' ⟨x, dx, l, st, row, d, low, st', ok, hd, hrun, hlow, hr, rfl, rfl, rfl, rfl⟩
  have h9 := ok.heap d
  have hi := i_rngN (K := K) (ρ1 := pkS CP x dx l st row :: envOf N_Pecking_taken_off.tail [iD d, iD low]) (ρ := pkS CP x dx l st row :: envOf N_Pecking_taken_off.tail [iD d, iD low]) (n := (hp st d).length - low)
    (l1 (x_to (x_sub (x_cb (l1 (x_ixTn (x_fldH (i := 0) (C := CP) (x := x) (dx := dx) (l := l) (here := sD st) (row := row.map iD) rfl hc h1) (x_var (i := 1) (d := iD d) rfl) (sD_get hd))) c_lenT) (x_var (i := 2) (d := iD low) rfl)) (by simp [iD]; omega))) (by omega)
  refine s_seq (s_set (x_ofN (lc_go (List.range ((hp st d).length - low)) iD (fun i ρ acc => i ≤ (hp st d).length - low ∧ ∃ S, Gr.run st (List.replicate i d) = some S ∧ ρ = pkS CP x dx l S (row ++ List.replicate i d) :: envOf N_Pecking_taken_off.tail [iD d, iD low] ∧ acc = ((abouts (hp st d)).reverse.take i).map iD) hi (by rw [List.length_range]; omega) ⟨Nat.zero_le _, st, rfl, by simp, by simp⟩ (fun i k ρ2 acc hk hp' => ?_) (fun i ρ2 acc hp' => ?_)
      (ds := ((abouts (hp st d)).reverse.take ((hp st d).length - low)).map iD) (ρn := pkS CP x dx l st' (row ++ rowTake st d low) :: envOf N_Pecking_taken_off.tail [iD d, iD low]) fun ρ2 acc hp' => ?_)) ?_)
  · obtain ⟨_, S, e1, rfl, rfl⟩ := hp'
    have hik : i < (hp st d).length - low := by
      have := (List.getElem?_eq_some_iff.mp hk).1
      simpa using this
    obtain ⟨S0, k1, k2, k3, k4⟩ := reps ok hd (i := i) (by omega)
    rw [e1] at k1
    obtain rfl := Option.some.inj k1
    have hj : (hp st d).length - i - 1 < (hp st d).length := by omega
    have hg : (hp S d).getLast? = some ((hp st d)[(hp st d).length - i - 1]) := by
      rw [k4, List.getLast?_take, if_neg (by omega), List.getElem?_eq_getElem hj]
      rfl
    have hne : hp S d ≠ [] := fun z => by rw [z] at hg; cases hg
    refine ⟨_, _, g_name, by decide, .inl ⟨_, iD ((hp st d)[(hp st d).length - i - 1]).1, b_yes, x_methS rfl rfl (l1 (x_var rfl)) rfl rfl ⟨x, dx, l, S, row ++ List.replicate i d, d, _, k2, by rw [k3]; exact hd, hg, ?_, rfl, rfl, rfl, rfl⟩, pkS CP x dx l (peckM S d) (row ++ List.replicate i d ++ [d]) :: envOf N_Pecking_taken_off.tail [iD d, iD low], ⟨⟨rfl, _, _, rfl⟩, rfl, rfl, rfl, rfl, trivial⟩, hik, peckM S d, ?_, ?_, ?_⟩⟩
    · rw [List.length_append, List.length_replicate]
      omega
    · rw [List.replicate_succ', run_append, e1]
      exact run1 (by rw [k3]; exact hd) hne
    · show _ = pkS CP x dx l (peckM S d) (row ++ List.replicate (i + 1) d) :: envOf N_Pecking_taken_off.tail [iD d, iD low]
      rw [List.replicate_succ', ← List.append_assoc]
    · rw [List.take_add_one, List.map_append]
      congr 1
      have hl : (abouts (hp st d)).length = (hp st d).length := by unfold abouts; rw [List.length_map]
      rw [List.getElem?_reverse (by rw [hl]; omega), hl]
      have : (hp st d).length - 1 - i = (hp st d).length - i - 1 := by omega
      rw [this]
      unfold abouts
      rw [List.getElem?_map, List.getElem?_eq_getElem hj]
      rfl
  · obtain ⟨_, S, _, _, rfl⟩ := hp'
    rw [List.length_map, List.length_take]
    exact Nat.min_le_left _ _
  · obtain ⟨_, S, e1, rfl, rfl⟩ := hp'
    rw [List.length_range] at e1 ⊢
    have e2 : Gr.run st (rowTake st d low) = some S := e1
    rw [hrun] at e2
    obtain rfl := Option.some.inj e2
    exact ⟨rfl, rfl⟩
  · refine s_ret (x_to (x_revR (r_val (x_var rfl))) ?_) ⟨rfl, 0, rfl⟩
    unfold iL
    congr 1
    rw [← List.map_reverse, List.reverse_take, List.reverse_reverse, List.length_reverse]
    congr 2
    unfold abouts
    rw [List.length_map]
    omega
theorem b_shuffled (hc : Cls K CP) : ∀ s ds r s', (R_shuffled CP) s ds r s' → EvS K (t_Pecking_shuffled K CS CP) { nx := fun ρ => r = .non ∧ ∃ i : Nat, ρ[i]? = some s', rt := fun d ρ => d = r ∧ ∃ i : Nat, ρ[i]? = some s' } (s :: envOf N_Pecking_shuffled.tail ds) := by
  rintro s ds r s' ⟨x, dx, l, st, row, d, low, ab, st', ok, hd, hrun, hlow, hr, ha, rfl, rfl, rfl, rfl⟩
  have h9 := ok.heap d
  have hr0 := hrun
  rw [run_append] at hr0
  obtain ⟨S0, e0, e1⟩ := Option.bind_eq_some_iff.mp hr0
  obtain ⟨k0, kl⟩ := ok.run e0
  refine s_seq (s_drop (x_methS rfl rfl (l2 (x_var rfl) (x_var rfl)) rfl rfl ⟨x, dx, l, st, row, d, low, S0, ok, hd, e0, hlow, by omega, rfl, rfl, rfl, rfl⟩) ?_)
  refine s_for (i_list (x_var rfl)) (fun i ρ => ∃ S s4, Gr.run S0 (ab.take i) = some S ∧ ρ = [pkS CP x dx l S (row ++ (rowTake st d low ++ ab.take i)), .val (iD d), .val (iD low), .val (iL ab), s4]) ⟨S0, _, rfl, by simp; rfl⟩ (fun i d' ρ2 hd' ⟨S, s4, q1, q2⟩ => ?_) fun ρ2 ⟨S, s4, q1, q2⟩ => ?_
  · subst q2
    obtain ⟨b, hb, _, rfl⟩ := lst_get hd'
    have hlt := (List.getElem?_eq_some_iff.mp hb).1
    have tk : ab.take (i + 1) = ab.take i ++ [b] := by rw [List.take_add_one, hb]; rfl
    obtain ⟨k1, k2⟩ := k0.run q1
    have e3 : ∃ S2, Gr.run S [b] = some S2 := by
      have : ab = ab.take i ++ ([b] ++ ab.drop (i + 1)) := by
        rw [← List.append_assoc, ← tk, List.take_append_drop]
      rw [this, run_append, q1] at e1
      have e1 : Gr.run S ([b] ++ ab.drop (i + 1)) = some st' := e1
      rw [run_append] at e1
      obtain ⟨S2, z, _⟩ := Option.bind_eq_some_iff.mp e1
      exact ⟨S2, z⟩
    obtain ⟨S2, e3⟩ := e3
    have e4 : (if b < S.length ∧ hp S b ≠ [] then some (peckM S b) else none) = some S2 := e3
    split at e4
    · rename_i hb2
      obtain rfl := Option.some.inj e4
      obtain ⟨g, hg⟩ : ∃ g, (hp S b).getLast? = some g := ⟨_, List.getLast?_eq_some_getLast hb2.2⟩
      refine ⟨_, _, g_name, s_drop (x_methS rfl rfl (l1 (x_var rfl)) rfl rfl ⟨x, dx, l, S, _, b, g, k1, hb2.1, hg, ?_, rfl, rfl, rfl, rfl⟩) ⟨peckM S b, .val (iD b), ?_, ?_⟩⟩
      · unfold rowTake
        rw [List.length_append, List.length_append, List.length_replicate, List.length_take]
        omega
      · rw [tk, run_append, q1]
        exact e3
      · have e5 : row ++ (rowTake st d low ++ (ab.take i ++ [b])) = row ++ (rowTake st d low ++ ab.take i) ++ [b] := by simp
        rw [tk, e5]
        rfl
    · cases e4
  · subst q2
    rw [List.length_map, List.take_length] at q1 ⊢
    rw [e1] at q1
    obtain rfl := Option.some.inj q1
    exact ⟨rfl, 0, rfl⟩
end
end Gr
/-! bodies: parted, lead_awake, between -/
namespace Gr
open PySem PySem.Spec PyProof.Rows L2
section
variable {K : PySem.W.Frag} {CS CP : Addr} {ρ : Env} {d : Dt} {E : De}
theorem b_parted : ∀ ds r, R_parted ds r → EvS K (t_parted K CS CP) (DRet r) (envOf N_parted ds) := by
  rintro ds r ⟨s, t, d, al, hd, rfl, rfl⟩
  have h9 := al.ok1.heap d
  have hdt : d < t.length := by rw [← al.len]; exact hd
  have hsl : EvX K (tSl (rSlA K) (tOp (rIxT K) (tVar 0) (tVar 2)) (tPart (tVar 3)) tNoPart) (envOf N_parted [sD s, sD t, iD d, .int 0]) (hD (hp s d)) (envOf N_parted [sD s, sD t, iD d, .int 0]) :=
    x_to (x_slT (x_ixTn (x_var rfl) (x_var (d := iD d) rfl) (sD_get hd)) (p_some (x_var (d := .int 0) rfl)) p_none) (by rw [cut_from0]; rfl)
  refine s_seq (s_dcI (hp s d) gD (fun g => (g.1 : Int)) (fun k => (cut s d k.toNat : Int) - cut t d k.toNat) (i_tup hsl) (by omega) (fun g hg => ?_) fun a => ?_)
  · have hb : g.1 < s.length := (al.ok1.okn.2 d g hg).1
    exact ⟨_, _, g_tup (gs_cons g_name (gs_cons g_name gs_nil)) rfl, by decide, ⟨rfl, rfl, rfl, rfl, rfl, rfl, rfl, rfl, rfl, trivial⟩, b_yes, x_var rfl,
      x_sub (x_call (l3 (x_var rfl) (x_var (d := iD d) rfl) (x_var (d := iD g.1) rfl)) ⟨s, d, g.1, al.ok1, hd, hb, rfl, rfl⟩) (x_call (l3 (x_var rfl) (x_var (d := iD d) rfl) (x_var (d := iD g.1) rfl)) ⟨t, d, g.1, al.ok2, hdt, by rw [← al.len]; exact hb, rfl, rfl⟩)⟩
  refine s_seq (s_parN0 (n_ls l_nil) fun p p' hne => ?_)
  have hrev : ∀ ρ' : Env, ρ'[0]? = some (.val (sD s)) → ρ'[2]? = some (.val (iD d)) → ρ'[3]? = some (.val (.int 0)) → EvX K (tRevT K (tSl (rSlA K) (tOp (rIxT K) (tVar 0) (tVar 2)) (tPart (tVar 3)) tNoPart)) ρ' (.tup ((hp s d).reverse.map gD)) ρ' := fun ρ' e0 e2 e3 =>
    x_to (x_revT (x_slT (x_ixTn (x_var e0) (x_var e2) (sD_get hd)) (p_some (x_var e3)) p_none)) (by rw [cut_from0, List.map_reverse])
  refine s_seq (s_for (i_tup (hrev _ rfl rfl rfl)) (fun i ρ => ∃ (m : Int → Option Int) (ov : Nat → Int) (st go : List Nat) (s7 s8 : Sl), ρ = [.val (sD s), .val (sD t), .val (iD d), .val (.int 0), .res (dI a m), .own p (st.map iD), .own p' (go.map iD), s7, s8] ∧
      (∀ b ∈ abouts (hp s d), m (b : Nat) = some (ov b)) ∧ prt (ovM s t d) (abouts (hp s d)).reverse = (st ++ (prt ov ((abouts (hp s d)).reverse.drop i)).1, go ++ (prt ov ((abouts (hp s d)).reverse.drop i)).2) ∧ st.length + go.length ≤ i)
    ⟨_, ovM s t d, [], [], _, _, rfl, fun b hb => ?_, by simp, by simp⟩ (fun i x ρ2 hx ⟨m, ov, st, go, s7, s8, e, q1, q2, q3⟩ => ?_) fun ρ2 ⟨m, ov, st, go, s7, s8, e, q1, q2, q3⟩ => ?_)
  · obtain ⟨g, hg, rfl⟩ := List.mem_map.mp hb
    show (if ((g.1 : Nat) : Int) ∈ (hp s d).map (fun g => (g.1 : Int)) then _ else _) = _
    rw [if_pos (List.mem_map.mpr ⟨g, hg, rfl⟩)]
    rfl
  · subst e
    obtain ⟨g, hg, hgm, rfl⟩ := lst_get hx
    have hlt : i < (hp s d).length := by
      have := (List.getElem?_eq_some_iff.mp hg).1
      simpa using this
    have hL : (abouts (hp s d)).reverse[i]? = some g.1 := by
      unfold abouts
      rw [← List.map_reverse, List.getElem?_map, hg]
      rfl
    have hgb : g.1 ∈ abouts (hp s d) := List.mem_reverse.mp (List.mem_of_getElem? hL)
    have hdr : (abouts (hp s d)).reverse.drop i = g.1 :: (abouts (hp s d)).reverse.drop (i + 1) := by
      obtain ⟨hi, e⟩ := List.getElem?_eq_some_iff.mp hL
      rw [← e]
      exact List.drop_eq_getElem_cons hi
    rw [hdr] at q2
    refine ⟨_, _, g_tup (gs_cons g_name (gs_cons g_name gs_nil)) rfl, s_if (b_test (x_gt (x_dgI rfl (x_var (d := iD g.1) rfl) (q1 g.1 hgb)) x_int)) (fun hb => ?_) fun hb => ?_⟩
    · have hb := of_decide_eq_true hb
      refine s_seq (s_daugI (z := ov g.1 - 1) rfl (x_var (d := iD g.1) rfl) (x_int (n := 1)) (q1 g.1 hgb) (fun H Q q => ⟨_, _, rfl, rfl, q⟩) ?_)
      refine s_app (ds := go.map iD) rfl (x_var (d := iD g.1) rfl) rfl (by rw [List.length_map]; omega) ⟨_, fun b => if b = g.1 then ov g.1 - 1 else ov b, st, go ++ [g.1], _, _, by rw [List.map_append]; rfl, fun b hb' => ?_, ?_, by simp; omega⟩
      · show (if ((b : Nat) : Int) = ((g.1 : Nat) : Int) then _ else _) = some (if b = g.1 then _ else _)
        by_cases e : b = g.1
        · subst e
          rw [if_pos rfl, if_pos rfl]
        · rw [if_neg (by omega), if_neg e]
          exact q1 b hb'
      · rw [q2]
        conv => lhs; unfold prt
        rw [if_pos hb]
        simp
    · have hb := of_decide_eq_false hb
      refine s_app (ds := st.map iD) rfl (x_var (d := iD g.1) rfl) rfl (by rw [List.length_map]; omega) ⟨_, ov, st ++ [g.1], go, _, _, by rw [List.map_append]; rfl, q1, ?_, by simp; omega⟩
      rw [q2]
      conv => lhs; unfold prt
      rw [if_neg hb]
      simp
  · subst e
    have hl : (abouts (hp s d)).reverse.length = ((hp s d).reverse.map gD).length := by unfold abouts; simp
    rw [← hl, List.drop_length] at q2
    have e1 : prt ov [] = ([], []) := rfl
    rw [e1, List.append_nil, List.append_nil] at q2
    refine s_ret (x_to (x_tp (l2 (x_revR (r_own rfl)) (x_revR (r_own rfl)))) ?_) rfl
    unfold partM
    rw [q2]
    unfold iL
    rw [List.map_reverse, List.map_reverse]
end
end Gr
/-! bodies: lead_awake, between -/
namespace Gr
open PySem PySem.Spec PyProof.Rows L2
section
variable {K : PySem.W.Frag} {CS CP : Addr} {ρ : Env} {d : Dt} {E : De}
theorem iL_ints (l : List Nat) : iL l = .lst ((l.map fun n : Nat => (n : Int)).map .int) := by
  unfold iL iD
  rw [List.map_map]
  rfl
theorem ints_inj {l m : List Nat} : (l.map fun n : Nat => (n : Int)) = (m.map fun n : Nat => (n : Int)) ↔ l = m :=
  ⟨fun h => List.map_inj_right (fun a b e => by omega) |>.mp h, fun h => by rw [h]⟩
theorem alk_of {n : Nat} {s t S : Sg} (al : Alk s t) (r : List Nat) (e : Gr.run s r = some S) : Alk S t := by
  obtain ⟨k1, k2⟩ := al.ok1.run e
  obtain ⟨a1, _⟩ := al.al.run e
  exact ⟨k1, al.ok2, k2.trans al.len, a1.ln⟩
theorem b_lead_awake (hc : Cls K CP) (h1 : NoAttr K CP "here") : ∀ s ds r s', (R_lead_awake CP) s ds r s' → EvS K (t_lead_awake K CS CP) { nx := fun ρ => r = .non ∧ ∃ i : Nat, ρ[i]? = some s', rt := fun d ρ => d = r ∧ ∃ i : Nat, ρ[i]? = some s' } (s :: envOf N_lead_awake.tail ds) := by
  rintro s ds r s' ⟨x, dx, l, st, t, al, rfl, rfl, rfl, rfl⟩
  have h6 := al.ok1.six
  have g9 := al.ok1.nine
  have hn := al.len
  have A := al.al
  let P1 : Nat → Sg × List Nat := fun i => leadGo (fun h d => row1 h t d) (List.range i) st
  let P2 : Nat → Sg × List Nat := fun i => leadGo (fun h d => row2 h t d) (List.range i) (leadA st t)
  have hget : ∀ (i : Nat) (d' : Dt), ((List.range st.length).map fun d => Dt.tup [iD d, .int 0])[i]? = some d' → i < st.length ∧ d' = .tup [iD i, .int 0] := fun i d' h => by
    obtain ⟨k, hk, hm, rfl⟩ := lst_get h
    have := List.getElem?_eq_some_iff.mp hk
    obtain ⟨q1, q2⟩ := this
    simp at q1 q2
    exact ⟨q1, by rw [q2]⟩
  refine s_seq (s_for (i_list (x_var rfl)) (fun i ρ => i ≤ st.length ∧ ∃ s3 s4 s5 s6 s7, ρ = [pkS CP x dx l (P1 i).1 (P1 i).2, .val (sD t), .val (lowsD st.length), s3, s4, s5, s6, s7]) ⟨Nat.zero_le _, _, _, _, _, _, rfl⟩ (fun i d' ρ2 hd' ⟨_, s3, s4, s5, s6, s7, e⟩ => ?_) fun ρ2 ⟨_, s3, s4, s5, s6, s7, e⟩ => ?_)
  · subst e
    obtain ⟨hi, rfl⟩ := hget i d' hd'
    obtain ⟨k1, k2, k3⟩ := lead1 A g9 i (by omega)
    have kS := lead1_step A g9 hi
    have alS : Alk (P1 i).1 t := alk_of (n := 0) al _ k1
    have hl : (P1 i).1.length = st.length := alS.len.trans hn.symm
    have nx : (P1 (i + 1)).2 = (P1 i).2 ++ row1 (P1 i).1 t i := by
      show (leadGo _ _ _).2 = _
      rw [leadGo_succ]
    have hrl : (P1 i).2.length ≤ 27 * i := k3
    have hpl := part_len (P1 i).1 t i
    have hh9 := alS.ok1.heap i
    refine ⟨_, _, g_tup (gs_cons g_name (gs_cons g_name gs_nil)) rfl, s_seq (s_asg (x_call (l_cons (x_fldH rfl hc h1) (l3 (x_var rfl) (x_var (d := iD i) rfl) (x_var (d := .int 0) rfl))) ⟨(P1 i).1, t, i, alS, by rw [hl]; exact hi, rfl, rfl⟩) (g_tup (gs_cons g_name (gs_cons g_name gs_nil)) rfl) ?_)⟩
    refine s_if (b_test (x_gt (x_cb (l1 (x_var (d := iL (partM (P1 i).1 t i).2) rfl)) c_lenL) x_int)) (fun hb => ?_) fun hb => ?_
    · have hb : (partM (P1 i).1 t i).2.length > 0 := by
        have := of_decide_eq_true hb
        rw [List.length_map] at this
        omega
      have pm := part_perm (P1 i).1 t i
      have e1 := shuffle alS.ok1.okn (by rw [hl]; exact hi) pm
      have r1 : row1 (P1 i).1 t i = rowTake (P1 i).1 i 0 ++ ((partM (P1 i).1 t i).1 ++ (partM (P1 i).1 t i).2) ++ List.replicate (partM (P1 i).1 t i).2.length i := by
        unfold row1
        rw [if_pos hb]
      have e1' : Gr.run (P1 i).1 (rowTake (P1 i).1 i 0 ++ ((partM (P1 i).1 t i).1 ++ (partM (P1 i).1 t i).2)) = some ((P1 i).1.set i (deal (held (P1 i).1 i) ((partM (P1 i).1 t i).1 ++ (partM (P1 i).1 t i).2))) := e1
      have hS1 : hp ((P1 i).1.set i (deal (held (P1 i).1 i) ((partM (P1 i).1 t i).1 ++ (partM (P1 i).1 t i).2))) i = deal (held (P1 i).1 i) ((partM (P1 i).1 t i).1 ++ (partM (P1 i).1 t i).2) := by
        rw [hp_set _ _ _ _ (by rw [hl]; exact hi), if_pos rfl]
      have dl : (deal (held (P1 i).1 i) ((partM (P1 i).1 t i).1 ++ (partM (P1 i).1 t i).2)).length = (partM (P1 i).1 t i).1.length + (partM (P1 i).1 t i).2.length := by
        have := congrArg List.length (deal_len ((partM (P1 i).1 t i).1 ++ (partM (P1 i).1 t i).2) (held (P1 i).1 i) fun b => by
          rw [pm.count_eq, count_abouts]
          exact Nat.le_refl _)
        unfold abouts at this
        rw [List.length_map, List.length_append] at this
        exact this
      obtain ⟨ok1, ol1⟩ := alS.ok1.run e1'
      generalize hS : (P1 i).1.set i (deal (held (P1 i).1 i) ((partM (P1 i).1 t i).1 ++ (partM (P1 i).1 t i).2)) = S1 at *
      have rt : rowTake S1 i (partM (P1 i).1 t i).1.length = List.replicate (partM (P1 i).1 t i).2.length i := by
        unfold rowTake
        rw [hS1, dl, Nat.add_sub_cancel_left]
      have e2 : Gr.run S1 (rowTake S1 i (partM (P1 i).1 t i).1.length) = some (P1 (i + 1)).1 := by
        have kS' : Gr.run (P1 i).1 (row1 (P1 i).1 t i) = some (P1 (i + 1)).1 := kS
        rw [r1, run_append, e1'] at kS'
        rw [rt]
        exact kS'
      refine s_seq (s_drop (x_methS rfl rfl (l3 (x_var (d := iD i) rfl) (x_var (d := .int 0) rfl) (x_op (x_var (d := iL (partM (P1 i).1 t i).1) rfl) (x_var (d := iL (partM (P1 i).1 t i).2) rfl) (o_cat (by simp; omega)))) rfl rfl ⟨x, dx, l, (P1 i).1, (P1 i).2, i, 0, (partM (P1 i).1 t i).1 ++ (partM (P1 i).1 t i).2, S1, alS.ok1, by rw [hl]; exact hi, e1', Nat.zero_le _, by omega, by rw [List.length_append]; omega, rfl, ?_, rfl, rfl⟩) ?_)
      · unfold iL
        rw [List.map_append]
        rfl
      · refine s_drop (x_methS rfl rfl (l2 (x_var (d := iD i) rfl) (x_to (x_add (x_var (d := .int 0) rfl) (x_cb (l1 (x_var (d := iL (partM (P1 i).1 t i).1) rfl)) c_lenL)) (d' := iD (partM (P1 i).1 t i).1.length) (by simp [iD]))) rfl rfl ⟨x, dx, l, S1, (P1 i).2 ++ (rowTake (P1 i).1 i 0 ++ ((partM (P1 i).1 t i).1 ++ (partM (P1 i).1 t i).2)), i, (partM (P1 i).1 t i).1.length, (P1 (i + 1)).1, ok1, by rw [ol1, hl]; exact hi, e2, by rw [hS1, dl]; omega, ?_, rfl, rfl, rfl, rfl⟩) ⟨hi, .val (iD i), .val (.int 0), s5, .val (iL (partM (P1 i).1 t i).1), .val (iL (partM (P1 i).1 t i).2), ?_⟩
        · unfold rowTake
          rw [List.length_append, List.length_append, List.length_replicate, List.length_append]
          omega
        · have e5 : (P1 i).2 ++ (rowTake (P1 i).1 i 0 ++ ((partM (P1 i).1 t i).1 ++ (partM (P1 i).1 t i).2) ++ List.replicate (partM (P1 i).1 t i).2.length i) = (P1 i).2 ++ (rowTake (P1 i).1 i 0 ++ ((partM (P1 i).1 t i).1 ++ (partM (P1 i).1 t i).2)) ++ List.replicate (partM (P1 i).1 t i).2.length i := (List.append_assoc _ _ _).symm
          rw [nx, r1, rt, e5]
          rfl
    · have hb : (partM (P1 i).1 t i).2.length = 0 := by
        have := of_decide_eq_false hb
        rw [List.length_map] at this
        omega
      have r1 : row1 (P1 i).1 t i = [] := by
        unfold row1
        rw [if_neg (by omega)]
      have kS' : Gr.run (P1 i).1 (row1 (P1 i).1 t i) = some (P1 (i + 1)).1 := kS
      rw [r1] at kS'
      have e0 : (P1 i).1 = (P1 (i + 1)).1 := Option.some.inj kS'
      refine s_next ⟨hi, .val (iD i), .val (.int 0), s5, .val (iL (partM (P1 i).1 t i).1), .val (iL (partM (P1 i).1 t i).2), ?_⟩
      rw [nx, r1, List.append_nil, ← e0]
      rfl
  · subst e
    obtain ⟨a1, a2⟩ := lead1_end A g9
    obtain ⟨_, _, a3⟩ := lead1 A g9 st.length (Nat.le_refl _)
    have eA : (P1 st.length).1 = leadA st t := rfl
    have alA : Alk (leadA st t) t := alk_of (n := 0) al _ a1
    have AA := alA.al
    have hlA : (leadA st t).length = st.length := alA.len.trans hn.symm
    have hln : ((List.range st.length).map fun d => Dt.tup [iD d, .int 0]).length = st.length := by simp
    rw [hln]
    refine s_for (i_list (x_var rfl)) (fun i ρ => i ≤ st.length ∧ ∃ s3 s4 s5 s6 s7, ρ = [pkS CP x dx l (P2 i).1 ((P1 st.length).2 ++ (P2 i).2), .val (sD t), .val (lowsD st.length), s3, s4, s5, s6, s7]) ⟨Nat.zero_le _, s3, s4, s5, s6, s7, ?_⟩ (fun i d' ρ2 hd' ⟨_, s3, s4, s5, s6, s7, e⟩ => ?_) fun ρ2 ⟨_, s3, s4, s5, s6, s7, e⟩ => ?_
    · show _ = [pkS CP x dx l (leadA st t) ((P1 st.length).2 ++ []), _, _, _, _, _, _, _]
      rw [List.append_nil, eA]
    · subst e
      obtain ⟨hi, rfl⟩ := hget i d' hd'
      have g9A := alA.ok1.nine
      rw [← hlA] at hi
      obtain ⟨k1, k2, _, k4⟩ := lead2 AA g9A a2 i (by omega)
      have kS := lead2_step AA g9A a2 hi
      have alS : Alk (P2 i).1 t := alk_of (n := 0) alA _ k1
      have hl : (P2 i).1.length = (leadA st t).length := alS.len.trans alA.len.symm
      have nx : (P2 (i + 1)).2 = (P2 i).2 ++ row2 (P2 i).1 t i := by
        show (leadGo _ _ _).2 = _
        rw [leadGo_succ]
      have hit : i < t.length := by rw [← alA.len]; exact hi
      have hiS : i < (P2 i).1.length := by rw [hl]; exact hi
      have hh9 := alS.ok1.heap i
      have ht9 := al.ok2.heap i
      have hk4 : (P2 i).2.length ≤ 18 * i := k4
      have hk3 : (P1 st.length).2.length ≤ 27 * st.length := a3
      refine ⟨_, _, g_tup (gs_cons g_name (gs_cons g_name gs_nil)) rfl, s_seq (s_set (x_call (l1 (x_to (x_slT (x_ixTn (x_var rfl) (x_var (d := iD i) rfl) (sD_get hit)) (p_some (x_var (d := .int 0) rfl)) p_none) (d' := hD (hp t i)) (by rw [cut_from0]; rfl))) ⟨hp t i, by omega, rfl, rfl⟩) ?_)⟩
      have hx : EvX K (tOp (rNeD K) (tCall (sp_abouts_of K) [] C8.E0 (tCons (tSl (rSlA K) (tOp (rIxT K) (tFld K (tVar 0) "here") (tVar 3)) (tPart (tVar 4)) tNoPart) tNil)) (tVar 5)) [pkS CP x dx l (P2 i).1 ((P1 st.length).2 ++ (P2 i).2), .val (sD t), .val (lowsD st.length), .val (iD i), .val (.int 0), .val (iL (abouts (hp t i))), s6, s7] (.bl (!decide (abouts (hp (P2 i).1 i) = abouts (hp t i)))) [pkS CP x dx l (P2 i).1 ((P1 st.length).2 ++ (P2 i).2), .val (sD t), .val (lowsD st.length), .val (iD i), .val (.int 0), .val (iL (abouts (hp t i))), s6, s7] := by
        have h0 := x_op (K := K) (r := rNeD K) (x_to (x_call (K := K) (R := R_abouts_of) (X := C8.E0) (l1 (x_to (x_slT (x_ixTn (x_fldH (i := 0) (ρ := [pkS CP x dx l (P2 i).1 ((P1 st.length).2 ++ (P2 i).2), .val (sD t), .val (lowsD st.length), .val (iD i), .val (.int 0), .val (iL (abouts (hp t i))), s6, s7]) rfl hc h1) (x_var (i := 3) (d := iD i) rfl) (sD_get hiS)) (p_some (x_var (i := 4) (d := .int 0) rfl)) p_none) (d' := hD (hp (P2 i).1 i)) (by rw [cut_from0]; rfl))) ⟨hp (P2 i).1 i, by omega, rfl, rfl⟩) (iL_ints _)) (x_to (x_var (i := 5) (d := iL (abouts (hp t i))) rfl) (iL_ints _)) o_neL
        refine x_to h0 ?_
        congr 2
        exact decide_eq_decide.mpr ints_inj
      refine s_if (b_test hx) (fun hb => ?_) fun hb => ?_
      · have hb : abouts (hp (P2 i).1 i) ≠ abouts (hp t i) := by simpa using hb
        have r2 : row2 (P2 i).1 t i = rowTake (P2 i).1 i 0 ++ abouts (hp t i) := by
          unfold row2
          rw [if_pos hb]
        have kS' : Gr.run (P2 i).1 (row2 (P2 i).1 t i) = some (P2 (i + 1)).1 := kS
        rw [r2] at kS'
        refine s_drop (x_methS rfl rfl (l3 (x_var (d := iD i) rfl) (x_var (d := .int 0) rfl) (x_var rfl)) rfl rfl ⟨x, dx, l, (P2 i).1, (P1 st.length).2 ++ (P2 i).2, i, 0, abouts (hp t i), (P2 (i + 1)).1, alS.ok1, hiS, kS', Nat.zero_le _, by rw [List.length_append]; omega, by unfold abouts; rw [List.length_map]; omega, rfl, rfl, rfl, rfl⟩) ⟨by rw [hlA] at hi; exact hi, .val (iD i), .val (.int 0), .val (iL (abouts (hp t i))), s6, s7, ?_⟩
        rw [nx, r2, ← List.append_assoc (P1 st.length).2]
        rfl
      · have hb : abouts (hp (P2 i).1 i) = abouts (hp t i) := by simpa using hb
        have r2 : row2 (P2 i).1 t i = [] := by
          unfold row2
          rw [if_neg (fun h => h hb)]
        have kS' : Gr.run (P2 i).1 (row2 (P2 i).1 t i) = some (P2 (i + 1)).1 := kS
        rw [r2] at kS'
        have e0 : (P2 i).1 = (P2 (i + 1)).1 := Option.some.inj kS'
        refine s_next ⟨by rw [hlA] at hi; exact hi, .val (iD i), .val (.int 0), .val (iL (abouts (hp t i))), s6, s7, ?_⟩
        rw [nx, r2, List.append_nil, ← e0]
    · subst e
      rw [hln]
      refine ⟨rfl, 0, ?_⟩
      have g9A := alA.ok1.nine
      obtain ⟨z1, _, z3, _⟩ := lead2 AA g9A a2 (leadA st t).length (Nat.le_refl _)
      have et : (P2 st.length).1 = t := by
        show (leadGo _ (List.range st.length) _).1 = t
        rw [← hlA]
        obtain ⟨al2, _⟩ := AA.run z1
        exact stg_ext (by rw [al2.o1.1, al2.o2.1]) fun d hd => z3 d (by rw [al2.o1.1] at hd; exact hd)
      show some (pkS CP x dx l (P2 st.length).1 _) = _
      rw [et]
      rfl
set_option maxHeartbeats 2000000 in
theorem b_between (hc : Cls K CP) (h2 : NoAttr K CP "so_far") : ∀ ds r, R_between ds r → EvS K (t_between K CS CP) (DRet r) (envOf N_between ds) := by
  rintro ds r ⟨s, t, al, rfl, rfl⟩
  have h6 := al.ok1.six
  have hn := al.len
  refine s_seq (s_set (x_call (l3 (x_var rfl) (x_var rfl) (x_var rfl)) ⟨s, t, al, rfl, rfl⟩) ?_)
  refine s_seq (s_no (b_to (b_test (x_op (x_var rfl) x_non o_notN)) rfl) (s_next ?_))
  refine s_seq (s_parVV (x_callN (l2 (x_var rfl) (x_var rfl)) (l1 (x_var rfl)) rfl rfl ⟨s, t, al, rfl, rfl⟩) (x_callN (l2 (x_var rfl) (x_var rfl)) (l1 (x_var rfl)) rfl rfl ⟨s, t, al, rfl, rfl⟩) ?_)
  refine s_seq (s_set (x_call (l2 (x_var rfl) (x_var rfl)) ⟨rfl, rfl⟩) ?_)
  refine s_seq (s_no (b_to (b_test (x_lt (x_cb (l1 (x_var (d := .lst []) rfl)) c_lenL) (x_cb (l1 (x_var (d := .lst []) rfl)) c_lenL))) (by simp)) (s_next ?_))
  refine s_seq (s_makeP (P := fun x dx s' => ∃ l, s' = .pk x CP dx l (sD s) []) (l1 (x_var rfl)) (fun x dx => ⟨rfl, s, al.ok1, rfl, rfl⟩) fun x dx s' hs => ?_)
  obtain ⟨l, rfl⟩ := hs
  refine s_seq (s_for (i_list (x_var (d := .lst []) rfl)) (fun _ ρ => ρ = (((((envOf N_between [sD s, sD t, .tup []]).set 3 (.val .non)).set 7 (.val (.lst []))).set 8 (.val (.lst []))).set 4 (.val (.lst []))).set 5 (.pk x CP dx l (sD s) [])) rfl (fun i d' ρ2 hd' _ => by cases hd') fun ρ2 e => ?_)
  subst e
  refine s_seq (s_set (x_listEnum (l1 (x_callN (l2 (x_var rfl) (x_var rfl)) (l1 (x_var rfl)) rfl rfl ⟨s, t, al, rfl, rfl⟩)) (by rw [List.length_replicate]; omega)) ?_)
  have een : en (List.replicate s.length (Dt.int 0)) = (List.range s.length).map fun d => Dt.tup [iD d, .int 0] := by
    unfold en
    refine List.ext_getElem? fun i => ?_
    rw [List.getElem?_map, List.getElem?_map, List.getElem?_zipIdx, List.getElem?_replicate]
    by_cases hi : i < s.length
    · rw [if_pos hi, List.getElem?_range hi]
      simp [iD]
    · rw [if_neg hi, List.getElem?_eq_none (by simp; omega)]
      rfl
  refine s_seq (s_drop (x_callS (i := 5) (s' := pkS CP x dx l t (leadM s t)) rfl rfl (l2 (x_var rfl) (x_ofN (lc_run (List.range s.length) (fun d => .tup [iD d, .int 0]) (fun _ => true) (fun d => .tup [iD d, .int 0]) (i_list (x_var (d := .lst _) (by rw [← een]; rfl))) (by rw [List.length_range]; omega) fun d hd => ?_))) rfl rfl rfl rfl ⟨x, dx, l, s, t, al, rfl, ?_, rfl, rfl⟩) ?_)
  · exact ⟨_, _, g_tup (gs_cons g_name (gs_cons g_name gs_nil)) rfl, by decide, ⟨rfl, rfl, rfl, rfl, rfl, ⟨rfl, _, _, rfl⟩, rfl, rfl, rfl, rfl, rfl, rfl, rfl, trivial⟩, b_to (b_test (x_op (x_var (i := 9) (d := .int d) rfl) (x_var (i := 2) (d := .tup []) rfl) (o_inT0 (neg := true)))) rfl, fun _ => x_tp (l2 (x_var rfl) (x_var rfl))⟩
  · rw [filter_true]
    rfl
  · refine s_ret (x_tp (l2 x_str (x_fldSo rfl hc h2))) rfl
end
end Gr
/-! bodies: counting -/
namespace Gr
open PySem PySem.Spec PyProof.Rows L2
section
variable {K : PySem.W.Frag} {CS CP : Addr} {ρ : Env} {d : Dt} {E : De}
theorem b_look_few : ∀ ds r, R_look_few ds r → EvS K (t_look_few K CS CP) (DRet r) (envOf N_look_few ds) := by
  rintro ds r ⟨st, ok, rfl, rfl⟩
  have h9 := ok.nine
  refine s_seq (s_set (x_call (l1 (x_var rfl)) ⟨st, ok, rfl, rfl⟩) ?_)
  exact s_no (b_to (b_test (x_gt (x_var (d := iD (grudges st)) rfl) x_int)) (by simp; omega)) (s_next rfl)
theorem take_snoc {α : Type} {l : List α} {i : Nat} {x : α} (h : l[i]? = some x) : l.take (i + 1) = l.take i ++ [x] := by rw [List.take_add_one, h]; rfl
theorem sum_take_le (l : List Nat) (i : Nat) : (l.take i).sum ≤ l.sum := by
  conv => rhs; rw [← List.take_append_drop i l]
  rw [List.sum_append]
  omega
theorem b_shuffles : ∀ ds r, R_shuffles ds r → EvS K (t_shuffles K CS CP) (DRet r) (envOf N_shuffles ds) := by
  rintro ds r ⟨l, hl, hs, rfl, rfl⟩
  refine s_seq (s_asg (x_tp (l2 (x_int (n := 1)) (x_int (n := 0)))) (g_tup (gs_cons g_name (gs_cons g_name gs_nil)) rfl) ?_)
  refine s_seq (s_for (i_list (x_var (d := iL l) rfl)) (fun i ρ => ∃ s1 s4, ρ = [.val (iL l), s1, .val (iD (multi (l.take i))), .val (iD (l.take i).sum), s4]) ⟨_, _, rfl⟩ (fun i d' ρ2 hd' ⟨s1, s4, e⟩ => ?_) fun ρ2 ⟨s1, s4, e⟩ => ?_)
  · subst e
    obtain ⟨s, hx, hm, rfl⟩ := lst_get hd'
    have tk := take_snoc hx
    have sle := sum_take_le l (i + 1)
    rw [tk, List.sum_append] at sle
    simp at sle
    refine ⟨_, _, g_name, s_for (i_rngN (l1 (x_var rfl)) (by omega)) (fun k ρ => k ≤ s ∧ ∃ s4, ρ = [.val (iL l), .val (iD s), .val (iD (multi (l.take i) * ch ((l.take i).sum + k) k)), .val (iD ((l.take i).sum + k)), s4]) ⟨Nat.zero_le _, s4, by rw [ch_zero, Nat.mul_one]; rfl⟩ (fun k d2 ρ3 hd2 ⟨_, s4, e⟩ => ?_) fun ρ3 ⟨_, s4, e⟩ => ?_⟩
    · subst e
      obtain ⟨k', hk, _, rfl⟩ := lst_get hd2
      have hk2 := List.getElem?_eq_some_iff.mp hk
      obtain ⟨hk3, hk4⟩ := hk2
      simp at hk3 hk4
      subst hk4
      refine ⟨_, _, g_name, s_seq (s_aug (a := ((l.take i).sum + k : Nat)) rfl (x_int (n := 1)) ?_)⟩
      refine s_set (x_to (x_op (x_op (x_var (d := iD (multi (l.take i) * ch ((l.take i).sum + k) k)) rfl) (x_var (d := .int (((l.take i).sum + k : Nat) + 1)) rfl) (o_I (d := .int ((multi (l.take i) * ch ((l.take i).sum + k) k : Nat) * (((l.take i).sum + k : Nat) + 1))) (.inr ⟨by omega, by omega⟩) fun _ => rfl)) (x_add (x_var (d := iD k) rfl) (x_int (n := 1))) (o_I (d := .int ((multi (l.take i) * ch ((l.take i).sum + k) k : Nat) * (((l.take i).sum + k : Nat) + 1) / ((k : Int) + 1))) ⟨by omega, by omega⟩ fun _ => rfl)) (d' := iD (multi (l.take i) * ch ((l.take i).sum + (k + 1)) (k + 1))) ?_) ⟨hk3, .val (iD k), ?_⟩
      · unfold iD
        congr 1
        have := way_step (multi (l.take i)) (l.take i).sum k
        rw [← this]
        push_cast
        rfl
      · have : (((l.take i).sum + k : Nat) : Int) + 1 = (((l.take i).sum + (k + 1) : Nat) : Int) := by omega
        show [Sl.val (iL l), .val (iD s), .val (iD (multi (l.take i) * ch ((l.take i).sum + (k + 1)) (k + 1))), .val (.int ((((l.take i).sum + k : Nat) : Int) + 1)), .val (iD k)] = _
        rw [this]
        rfl
    · subst e
      rw [List.length_map, List.length_range]
      refine ⟨.val (iD s), s4, ?_⟩
      rw [tk, multi_snoc, List.sum_append, show ([s] : List Nat).sum = s from by simp]
  · subst e
    rw [List.length_map, List.take_length]
    exact s_ret (x_var rfl) rfl
theorem allCuts_mem_len {l : List Nat} : ∀ {c : List Nat}, c ∈ allCuts l → c.length = l.length := by
  induction l using snoc_ind with
  | h0 => intro c hc; rw [List.mem_singleton.mp (show c ∈ [[]] from hc)]
  | h1 l x ih =>
    intro c hc
    rw [allCuts_snoc] at hc
    obtain ⟨c1, h1, h2⟩ := List.mem_flatMap.mp hc
    obtain ⟨p, _, rfl⟩ := List.mem_map.mp h2
    simp [ih h1]
theorem b_all_cuts : ∀ ds r, R_all_cuts ds r → EvS K (t_all_cuts K CS CP) (DRet r) (envOf N_all_cuts ds) := by
  rintro ds r ⟨l, hl, hs, rfl, rfl⟩
  refine s_seq (s_set (x_to (x_ls (l1 (x_ls l_nil))) (d' := iLL (allCuts (l.take 0))) rfl) ?_)
  refine s_seq (s_for (i_list (x_var (d := iL l) rfl)) (fun i ρ => ∃ s2, ρ = [.val (iL l), .val (iLL (allCuts (l.take i))), s2, .no, .no]) ⟨.no, rfl⟩ (fun i d' ρ2 hd' ⟨s2, e⟩ => ?_) fun ρ2 ⟨s2, e⟩ => ?_)
  · subst e
    obtain ⟨s, hx, hm, rfl⟩ := lst_get hd'
    have tk := take_snoc hx
    have sle := sum_take_le l (i + 1)
    have hle := allCuts_len (l.take (i + 1))
    have h29 : 2 ^ (l.take (i + 1)).sum ≤ 2 ^ 9 := Nat.pow_le_pow_right (by omega) (by omega)
    rw [tk, allCuts_snoc, ← tk] at hle
    have hs2 : s ≤ 9 := Nat.le_trans (mem_le_sum hm) hs
    have hcl : ∀ c ∈ allCuts (l.take i), c.length ≤ 15 := fun c hc => by
      have := allCuts_mem_len hc
      rw [List.length_take] at this
      omega
    have e2 : cutsStep (allCuts (l.take i)) s = (allCuts (l.take i)).flatMap fun c => (List.range (s + 1)).map fun p => c ++ [p] := rfl
    refine ⟨_, _, g_name, s_set (x_to (x_ofN (lc2_run (allCuts (l.take i)) iL (fun _ => List.range (s + 1)) (fun _ => iD) (fun c p => iL (c ++ [p])) (i_list (x_var (i := 1) rfl)) ?_ fun c hc => ?_)) (d' := iLL (allCuts (l.take (i + 1)))) ?_) ⟨.val (iD s), rfl⟩⟩
    · have : (cutsStep (allCuts (l.take i)) s).length = ((allCuts (l.take i)).flatMap fun c => (List.range (s + 1)).map fun p => iL (c ++ [p])).length := by
        rw [e2, List.length_flatMap, List.length_flatMap]
        simp
      rw [← this]
      omega
    · refine ⟨_, _, g_name, by decide, ⟨rfl, rfl, rfl, rfl, rfl, trivial⟩, b_yes, i_rngN (n := s + 1) (l1 (x_add (x_var (d := iD s) rfl) (x_int (n := 1)))) (by omega), fun p hp => ⟨_, _, g_name, by decide, ⟨rfl, rfl, rfl, rfl, rfl, trivial⟩, b_yes, x_to (x_op (x_var (d := iL c) rfl) (x_ls (l1 (x_var (d := iD p) rfl))) (o_cat (by have := hcl c hc; simp; omega))) (by simp [iL])⟩⟩
    · rw [tk, allCuts_snoc, e2]
      unfold iLL
      rw [List.map_flatMap]
      simp [List.map_map, Function.comp_def]
  · subst e
    rw [List.length_map, List.take_length]
    exact s_ret (x_var rfl) rfl
theorem b_ways_of : ∀ ds r, R_ways_of ds r → EvS K (t_ways_of K CS CP) (DRet r) (envOf N_ways_of ds) := by
  rintro ds r ⟨m, hm6, hml, hms, rfl, rfl⟩
  refine s_seq (s_set (x_int (n := 1)) ?_)
  refine s_seq (s_for (i_list (x_var (d := iLL m) rfl)) (fun i ρ => ∃ s2, ρ = [.val (iLL m), .val (iD (waysN (m.take i))), s2]) ⟨.no, rfl⟩ (fun i d' ρ2 hd' ⟨s2, e⟩ => ?_) fun ρ2 ⟨s2, e⟩ => ?_)
  · subst e
    obtain ⟨l, hx, hm, rfl⟩ := lst_get hd'
    have tk := take_snoc hx
    have hl6 := hml l hm
    have hl9 : l.sum ≤ 9 := Nat.le_trans (mem_le_sum (List.mem_map_of_mem hm)) hms
    have mu : multi l ≤ 362880 := multi_9 hl9
    refine ⟨_, _, g_name, s_augMul (a := (waysN (m.take i) : Nat)) rfl (x_to (x_call (l1 (x_var rfl)) ⟨l, by omega, hl9, rfl, rfl⟩) (d' := .int (multi l : Nat)) rfl) (.inr ⟨by omega, by omega⟩) ⟨.val (iL l), ?_⟩⟩
    rw [tk, waysN_snoc]
    rfl
  · subst e
    rw [List.length_map, List.take_length]
    exact s_ret (x_var rfl) rfl
theorem b_rows_of : ∀ ds r, R_rows_of ds r → EvS K (t_rows_of K CS CP) (DRet r) (envOf N_rows_of ds) := by
  rintro ds r ⟨m, n, hm6, hml, hms, hn, rfl, rfl⟩
  refine s_seq (s_par0V (d := iD n) rfl fun p => ?_)
  refine s_seq (s_for (i_enumL (l1 (x_var (d := iLL m) rfl))) (fun i ρ => ∃ (acc : List (List Nat)) (rest : Nat) (s4 s5 s6 : Sl), rowsN m n = acc ++ rowsN (m.drop i) rest ∧ rest < waysN (m.drop i) ∧ acc.length = i ∧ ρ = [.val (iLL m), .val (iD n), .own p (acc.map iL), .val (iD rest), s4, s5, s6]) ⟨[], n, .no, .no, .no, rfl, hn, rfl, rfl⟩ (fun i d' ρ2 hd' ⟨acc, rest, s4, s5, s6, h1, h2, h3, e⟩ => ?_) fun ρ2 ⟨acc, rest, s4, s5, s6, h1, h2, h3, e⟩ => ?_)
  · subst e
    obtain ⟨d2, hd2, rfl⟩ := en_get hd'
    obtain ⟨l, hx, hm, rfl⟩ := lst_get hd2
    have il : i < m.length := (List.getElem?_eq_some_iff.mp hx).1
    have dr : m.drop i = l :: m.drop (i + 1) := by
      rw [List.drop_eq_getElem_cons il]
      rw [List.getElem?_eq_getElem il] at hx
      injection hx with hx
      rw [hx]
    rw [dr] at h1 h2
    have hl6 := hml l hm
    have hl9 : l.sum ≤ 9 := Nat.le_trans (mem_le_sum (List.mem_map_of_mem hm)) hms
    have wp := waysN_pos (m.drop (i + 1))
    have hsum : ((m.drop (i + 1)).map List.sum).sum ≤ 9 := by
      have e3 : (m.map List.sum).sum = ((m.take (i + 1)).map List.sum).sum + ((m.drop (i + 1)).map List.sum).sum := by
        rw [← List.sum_append, ← List.map_append, List.take_append_drop]
      omega
    have w9 := waysN_9 hsum
    have r9 : waysN (l :: m.drop (i + 1)) ≤ 362880 := waysN_9 (by
      rw [← dr]
      have e3 : (m.map List.sum).sum = ((m.take i).map List.sum).sum + ((m.drop i).map List.sum).sum := by
        rw [← List.sum_append, ← List.map_append, List.take_append_drop]
      omega)
    refine ⟨_, _, g_tup (gs_cons g_name (gs_cons g_name gs_nil)) rfl, s_seq (s_asg (x_to (x_cb (l2 (x_var (d := iD rest) rfl) (x_to (x_call (l1 (x_to (x_slR (r_val (x_var (d := iLL m) rfl)) (p_some (x_to (x_add (x_var (d := iD i) rfl) (x_int (n := 1))) (d' := .int (i + 1 : Nat)) rfl)) p_none) (d' := iLL (m.drop (i + 1))) (by rw [cut_from]; simp [iLL, List.map_drop]))) ⟨m.drop (i + 1), by simp; omega, fun l' h' => hml l' (List.mem_of_mem_drop h'), hsum, rfl, rfl⟩) (d' := .int (waysN (m.drop (i + 1)) : Nat)) rfl)) (c_divmod (i := (rest : Nat)) (j := (waysN (m.drop (i + 1)) : Nat)) ⟨by omega, by omega⟩)) (d' := .tup [iD (rest / waysN (m.drop (i + 1))), iD (rest % waysN (m.drop (i + 1)))]) rfl) (g_tup (gs_cons g_name (gs_cons g_name gs_nil)) rfl) ?_)⟩
    refine s_app (ds' := acc.map iL) (ds := acc.map iL) rfl (x_call (l2 (x_var (d := iL l) rfl) (x_var (d := iD (rest / waysN (m.drop (i + 1)))) rfl)) ⟨l, rest / waysN (m.drop (i + 1)), hl6, hl9, div_lt l _ h2, rfl, rfl⟩) rfl (by simp; omega) ⟨acc ++ [nthS l.sum l (rest / waysN (m.drop (i + 1)))], rest % waysN (m.drop (i + 1)), .val (iD i), .val (iL l), .val (iD (rest / waysN (m.drop (i + 1)))), ?_, Nat.mod_lt _ wp, by simp [h3], ?_⟩
    · rw [h1]
      simp [rowsN]
    · rw [List.map_append]
      rfl
  · subst e
    have l1 : (en (m.map iL)).length = m.length := by rw [en_len, List.length_map]
    rw [show (en (m.map iL)).length = m.length from l1, List.drop_length] at h1
    rw [h1]
    refine s_retOwn rfl ?_
    simp [rowsN, iLL]
theorem sum_int (l : List Nat) : ((l.map fun n : Nat => (n : Int)).sum) = (l.sum : Nat) := by
  induction l with
  | nil => rfl
  | cons x l ih => rw [List.map_cons, List.sum_cons, ih, List.sum_cons]; omega
theorem dec_cut {l : List Nat} {k : Nat} (h : k < l.length) : l.take k ++ [l.getD k 0 - 1] ++ l.drop (k + 1) = dec l k := by
  unfold dec
  rw [List.set_eq_take_append_cons_drop, if_pos h]
  simp
theorem x_decd {s k : Nat} {p : Addr} {l : List Nat} {tk tv : TE} (hp : ρ[s]? = some (.own p (l.map iD))) (hk : EvX K tk ρ (iD k) ρ) (hv : EvX K tv ρ (iD (l.getD k 0)) ρ) (pos : 0 < l.getD k 0) (kl : k < l.length) (h6 : l.length ≤ 6) :
    EvX K (tOp rCat (tOp rCat (tSl (rSlL K) (tVar s) tNoPart (tPart tk)) (tLst (tCons (tOp (rI0 fun i j => .int (i - j)) tv (tC (.int 1))) tNil))) (tSl (rSlL K) (tVar s) (tPart (tOp (rI0 fun i j => .int (i + j)) tk (tC (.int 1)))) tNoPart)) ρ (iL (dec l k)) ρ := by
  have e1 : (Dt.int ((l.getD k 0 : Nat) - 1)) = iD (l.getD k 0 - 1) := by unfold iD; congr 1; omega
  refine x_to (x_op (x_op (x_to (x_slR (r_own hp) p_none (p_some hk)) (d' := iL (l.take k)) (by rw [cut_to]; simp [iL, List.map_take])) (x_to (x_ls (l1 (x_to (x_sub hv (x_int (n := 1))) e1))) (d' := iL [l.getD k 0 - 1]) rfl) (o_cat (by simp; omega))) (x_to (x_slR (r_own hp) (p_some (x_to (x_add hk (x_int (n := 1))) (d' := .int (k + 1 : Nat)) rfl)) p_none) (d' := iL (l.drop (k + 1))) (by rw [cut_from]; simp [iL, List.map_drop])) (o_cat (by simp; omega))) ?_
  rw [← dec_cut kl]
  simp [iL]
theorem b_nth_shuffle : ∀ ds r, R_nth_shuffle ds r → EvS K (t_nth_shuffle K CS CP) (DRet r) (envOf N_nth_shuffle ds) := by
  rintro ds r ⟨l, n, hl, hs, hn, rfl, rfl⟩
  refine s_seq (s_parN0 (n_listR (r_val (x_var (d := iL l) rfl))) fun p p' ne => ?_)
  refine s_seq (s_while (fun m ρ => ∃ (left got : List Nat) (n' : Nat) (s4 s5 s6 : Sl), left.length = l.length ∧ left.sum = m ∧ n' < multi left ∧ nthS l.sum l n = got ++ nthS m left n' ∧ got.length + m = l.sum ∧ ρ = [.val (iL l), .val (iD n'), .own p (left.map iD), .own p' (got.map iD), s4, s5, s6]) l.sum ⟨l, [], n, .no, .no, .no, rfl, rfl, hn, rfl, by simp, rfl⟩ fun m ρ2 ⟨left, got, n', s4, s5, s6, h1, h2, h3, h4, h5, e⟩ => ?_)
  · subst e
    refine ⟨decide (0 < left.sum), b_to (b_test (x_gt (x_sumR (ns := left.map fun n : Nat => (n : Int)) (by rw [List.map_map]; exact r_own rfl)) (x_int (n := 0)))) ?_, fun hb => ?_, fun hb => ?_⟩
    · rw [sum_int]
      simp
    · have pos := of_decide_eq_true hb
      obtain ⟨k1, k2, k3, k4⟩ := pick_ok left n' pos h3
      have hsum := wys_sum left pos
      obtain ⟨m, rfl⟩ : ∃ k, m = k + 1 := ⟨m - 1, by omega⟩
      refine s_for (i_enumL (l1 (x_ofN (n_listR (r_own (ds := left.map iD) rfl))))) (fun i ρ => ∃ (n2 : Nat) (s4 s5 s6 : Sl), n2 < ((wys left).drop i).sum ∧ pI (wys left) n' = i + pI ((wys left).drop i) n2 ∧ pR (wys left) n' = pR ((wys left).drop i) n2 ∧ ρ = [.val (iL l), .val (iD n2), .own p (left.map iD), .own p' (got.map iD), s4, s5, s6]) ⟨n', s4, s5, s6, by rw [List.drop_zero, hsum]; exact h3, by simp, rfl, rfl⟩ (fun i d' ρ2 hd' ⟨n2, s4, s5, s6, g1, g2, g3, e⟩ => ?_) fun ρ2 ⟨n2, s4, s5, s6, g1, g2, g3, e⟩ => ?_
      · subst e
        obtain ⟨d2, hd2, rfl⟩ := en_get hd'
        obtain ⟨v, hx, hm, rfl⟩ := lst_get hd2
        have il : i < left.length := (List.getElem?_eq_some_iff.mp hx).1
        have gv : left.getD i 0 = v := by rw [List.getD_eq_getElem?_getD, hx]; rfl
        have dr : (wys left).drop i = wy left i :: (wys left).drop (i + 1) := by
          rw [List.drop_eq_getElem_cons (by rw [wys_len]; exact il)]
          congr 1
          simp [wys]
        rw [dr] at g1 g2 g3
        refine ⟨_, _, g_tup (gs_cons g_name (gs_cons g_name gs_nil)) rfl, s_seq (s_set (ρ1 := [.val (iL l), .val (iD n2), .own p (left.map iD), .own p' (got.map iD), .val (iD i), .val (iD v), s6]) (x_if (b := decide (0 < v)) (d := iD (wy left i)) (b_to (b_test (x_gt (x_var (d := iD v) rfl) (x_int (n := 0)))) (by simp)) (fun hb => ?_) (fun hb => ?_)) ?_)⟩
        · have vp := of_decide_eq_true hb
          have ds := dec_sum left i (by omega)
          refine x_to (x_call (l1 (x_decd (s := 2) (p := p) (l := left) (k := i) rfl (x_var rfl) (x_var (by rw [gv]; rfl)) (by omega) il (by omega))) ⟨dec left i, by rw [dec_len]; omega, by omega, rfl, rfl⟩) ?_
          unfold wy
          rw [if_pos (by omega)]
        · have vp := of_decide_eq_false hb
          refine x_to (x_int (n := 0)) ?_
          unfold wy
          rw [if_neg (by omega)]
          rfl
        · refine s_seq (s_if (b := decide (n2 < wy left i)) (b_to (b_test (x_lt (x_var (d := iD n2) rfl) (x_var (d := iD (wy left i)) rfl))) (by simp)) (fun hb => ?_) (fun hb => ?_))
          · have lt := of_decide_eq_true hb
            have ei : pI (wys left) n' = i := by rw [g2]; unfold pI; rw [if_pos lt]; rfl
            have er : pR (wys left) n' = n2 := by rw [g3]; unfold pR; rw [if_pos lt]
            rw [ei] at k1 k2 k3
            rw [er] at k3
            have ds := dec_sum left i k2
            refine s_seq (s_app (ds' := got.map iD) (ds := got.map iD) rfl (x_var (d := iD i) rfl) rfl (by simp; omega) (s_seq (s_augL (x := (v : Nat)) (y := 1) (f := fun i j => i - j) (i := 2) (j := i) (a := p) (ds := left.map iD) rfl (x_var (d := iD i) rfl) (by rw [List.getElem?_map, hx]; rfl) (x_int (n := 1)) ?_)))
            refine s_brk ⟨m, Nat.lt_succ_self m, dec left i, got ++ [i], n2, .val (iD i), .val (iD v), .val (iD (wy left i)), by rw [dec_len]; exact h1, by omega, k3, ?_, by simp; omega, ?_⟩
            · rw [h4]
              show got ++ (pI (wys left) n' :: nthS m (dec left (pI (wys left) n')) (pR (wys left) n')) = _
              rw [ei, er]
              simp
            · have : (left.map iD).set i (.int ((v : Nat) - 1)) = (dec left i).map iD := by
                unfold dec
                rw [List.map_set, gv]
                congr 1
                unfold iD
                congr 1
                omega
              show [Sl.val (iL l), .val (iD n2), .own p ((left.map iD).set i (.int ((v : Nat) - 1))), .own p' (got.map iD ++ [iD i]), .val (iD i), .val (iD v), .val (iD (wy left i))] = _
              rw [this, List.map_append]
              rfl
          · have ge := of_decide_eq_false hb
            refine s_next (s_aug (f := fun i j => i - j) (a := (n2 : Nat)) (b := (wy left i : Nat)) rfl (x_var (d := iD (wy left i)) rfl) ⟨n2 - wy left i, .val (iD i), .val (iD v), .val (iD (wy left i)), ?_, ?_, ?_, ?_⟩)
            · rw [List.sum_cons] at g1
              omega
            · rw [g2]
              show i + (if n2 < wy left i then 0 else pI ((wys left).drop (i + 1)) (n2 - wy left i) + 1) = _
              rw [if_neg ge]
              omega
            · rw [g3]
              show (if n2 < wy left i then n2 else pR ((wys left).drop (i + 1)) (n2 - wy left i)) = _
              rw [if_neg ge]
            · have : (Dt.int ((n2 : Nat) - (wy left i : Nat))) = iD (n2 - wy left i) := by unfold iD; congr 1; omega
              show [Sl.val (iL l), .val (.int ((n2 : Nat) - (wy left i : Nat))), .own p (left.map iD), .own p' (got.map iD), .val (iD i), .val (iD v), .val (iD (wy left i))] = _
              rw [this]
      · exfalso
        subst e
        rw [en_len, List.length_map, ← wys_len, List.drop_length] at g1
        simp at g1
    · have z := of_decide_eq_false hb
      have : m = 0 := by omega
      subst this
      refine s_retOwn rfl ?_
      simp [h4, nthS, iL]
theorem b_number_in : ∀ ds r, R_number_in ds r → EvS K (t_number_in K CS CP) (DRet r) (envOf N_number_in ds) := by
  rintro ds r ⟨l, a, hl, hs, hc, hi, rfl, rfl⟩
  refine s_seq (s_parNI (n_listR (r_val (x_var (d := iL l) rfl))) fun p => ?_)
  refine s_seq (s_for (i_list (x_var (d := iL a) rfl)) (fun i ρ => ∃ (left : List Nat) (acc : Nat) (s2 s5 : Sl), left.length = l.length ∧ left.sum ≤ 9 ∧ numS l a = acc + numS left (a.drop i) ∧ (∀ j, (a.drop i).count j = left.getD j 0) ∧ ρ = [.val (iL l), .val (iL a), s2, .own p (left.map iD), .val (iD acc), s5]) ⟨l, 0, .no, .no, rfl, hs, by simp, hc, rfl⟩ (fun i d' ρ2 hd' ⟨left, acc, s2, s5, h1, h2, h3, h4, e⟩ => ?_) fun ρ2 ⟨left, acc, s2, s5, h1, h2, h3, h4, e⟩ => ?_)
  · subst e
    obtain ⟨x, hx, hm, rfl⟩ := lst_get hd'
    have il : i < a.length := (List.getElem?_eq_some_iff.mp hx).1
    have dr : a.drop i = x :: a.drop (i + 1) := by
      rw [List.drop_eq_getElem_cons il]
      rw [List.getElem?_eq_getElem il] at hx
      injection hx with hx
      rw [hx]
    rw [dr] at h3 h4
    have xl : x < left.length := by rw [h1]; exact hi x hm
    have xp : 0 < left.getD x 0 := by rw [← h4 x]; simp
    have ds := dec_sum left x xp
    refine ⟨_, _, g_name, s_seq (s_for (i_rngN (n := x) (l1 (x_var (d := iD x) rfl)) (by omega)) (fun k ρ => ∃ s5 : Sl, ρ = [.val (iL l), .val (iL a), .val (iD x), .own p (left.map iD), .val (iD (acc + ((wys left).take k).sum)), s5]) ⟨s5, rfl⟩ (fun k d2 ρ3 hd2 ⟨s5, e⟩ => ?_) fun ρ3 ⟨s5, e⟩ => ?_)⟩
    · subst e
      obtain ⟨k', hk, hk3, rfl⟩ := lst_get hd2
      obtain ⟨hk4, hk5⟩ := List.getElem?_eq_some_iff.mp hk
      simp at hk4 hk5
      subst hk5
      have kl : k < left.length := by omega
      have gk : (left.map iD)[k]? = some (iD (left.getD k 0)) := by
        rw [List.getElem?_map, List.getD_eq_getElem?_getD, List.getElem?_eq_getElem kl]
        rfl
      have tk : ((wys left).take (k + 1)).sum = ((wys left).take k).sum + wy left k := by
        rw [take_snoc (x := wy left k) (by rw [List.getElem?_eq_getElem (by rw [wys_len]; exact kl)]; simp [wys]), List.sum_append]
        simp
      let ρ' : Env := [.val (iL l), .val (iL a), .val (iD x), .own p (left.map iD), .val (iD (acc + ((wys left).take k).sum)), .val (iD k)]
      have xi : EvX K (tOp (rIxL K) (tVar 3) (tVar 5)) ρ' (iD (left.getD k 0)) ρ' := x_ixR (r_own rfl) (x_var (d := iD k) rfl) (at_n gk)
      refine ⟨ρ', _, g_name, s_if (b := decide (0 < left.getD k 0)) (b_to (b_test (x_gt xi (x_int (n := 0)))) (by simp)) (fun hb => ?_) (fun hb => ?_)⟩
      · have vp := of_decide_eq_true hb
        have dsk := dec_sum left k vp
        refine s_aug (f := fun i j => i + j) (a := (acc + ((wys left).take k).sum : Nat)) (b := (wy left k : Nat)) rfl (x_to (x_call (l1 (x_decd (s := 3) (p := p) (l := left) (k := k) rfl (x_var rfl) xi vp kl (by omega))) ⟨dec left k, by rw [dec_len]; omega, by omega, rfl, rfl⟩) ?_) ⟨.val (iD k), ?_⟩
        · unfold wy
          rw [if_pos vp]
          rfl
        · rw [tk, ← Nat.add_assoc]
          have : (Dt.int ((acc + ((wys left).take k).sum : Nat) + (wy left k : Nat))) = iD (acc + ((wys left).take k).sum + wy left k) := by unfold iD; congr 1
          show [Sl.val (iL l), .val (iL a), .val (iD x), .own p (left.map iD), .val (.int ((acc + ((wys left).take k).sum : Nat) + (wy left k : Nat))), .val (iD k)] = _
          rw [this]
      · have vp := of_decide_eq_false hb
        refine s_next ⟨.val (iD k), ?_⟩
        have : wy left k = 0 := by unfold wy; rw [if_neg (by omega)]
        rw [tk, this]
        rfl
    · subst e
      rw [List.length_map, List.length_range]
      have gx : (left.map iD)[x]? = some (iD (left.getD x 0)) := by
        rw [List.getElem?_map, List.getD_eq_getElem?_getD, List.getElem?_eq_getElem xl]
        rfl
      refine s_augL (x := (left.getD x 0 : Nat)) (y := 1) (f := fun i j => i - j) (i := 3) (j := x) (a := p) (ds := left.map iD) rfl (x_var (d := iD x) rfl) gx (x_int (n := 1)) ⟨dec left x, acc + ((wys left).take x).sum, .val (iD x), s5, by rw [dec_len]; exact h1, by omega, ?_, fun j => ?_, ?_⟩
      · rw [h3]
        show acc + (((wys left).take x).sum + numS (dec left x) (a.drop (i + 1))) = _
        omega
      · rw [dec_getD, ← h4, ← h4, List.count_cons, List.count_cons]
        by_cases q : x = j
        · subst q
          simp
        · simp [q]
      · have : (left.map iD).set x (.int ((left.getD x 0 : Nat) - 1)) = (dec left x).map iD := by
          unfold dec
          rw [List.map_set]
          congr 1
          unfold iD
          congr 1
          omega
        show [Sl.val (iL l), .val (iL a), .val (iD x), .own p ((left.map iD).set x (.int ((left.getD x 0 : Nat) - 1))), .val (iD (acc + ((wys left).take x).sum)), s5] = _
        rw [this]
  · subst e
    rw [List.length_map, List.drop_length] at h3
    rw [h3]
    exact s_ret (x_var rfl) rfl
end
end Gr
/-! bodies: shares -/
namespace Gr
open PySem PySem.Spec PyProof.Rows L2
section
variable {K : PySem.W.Frag} {CS CP : Addr} {ρ : Env} {d : Dt} {E : De}
theorem fits_get : ∀ {c l : List Nat} {i x y : Nat}, Fits c l → c[i]? = some x → l[i]? = some y → x ≤ y
  | [], _, i, x, y, _, h1, _ => by simp at h1
  | c :: cs, [], i, x, y, h, _, _ => h.elim
  | c :: cs, l :: ls, 0, x, y, h, h1, h2 => by
    simp at h1 h2
    rw [← h1, ← h2]
    exact h.1
  | c :: cs, l :: ls, i + 1, x, y, h, h1, h2 => by
    simp at h1 h2
    exact fits_get h.2 h1 h2
def mI (m : List (List Nat)) : List (List Dt) := m.map fun r => r.map iD
theorem mI_put {m : List (List Nat)} {a b v : Nat} : (mI m).set a (((m.getD a []).map iD).set b (iD v)) = mI (putM m a b v) := by
  unfold mI putM
  rw [List.map_set, List.map_set]
theorem mI_get {m : List (List Nat)} {a : Nat} (h : a < m.length) : (mI m)[a]? = some ((m.getD a []).map iD) := by
  unfold mI
  rw [List.getElem?_map, List.getD_eq_getElem?_getD, List.getElem?_eq_getElem h]
  rfl
def Sq (n : Nat) (m : List (List Nat)) : Prop := m.length = n ∧ ∀ a, a < n → (m.getD a []).length = n
theorem Sq.put {n : Nat} {m : List (List Nat)} {a b v : Nat} (h : Sq n m) (ha : a < n) : Sq n (putM m a b v) := by
  unfold putM
  refine ⟨by rw [List.length_set]; exact h.1, fun x hx => ?_⟩
  rw [List.getD_eq_getElem?_getD, List.getElem?_set]
  by_cases q : a = x
  · subst q
    rw [if_pos rfl, if_pos (by rw [h.1]; exact ha)]
    simp
    exact h.2 a ha
  · rw [if_neg q, ← List.getD_eq_getElem?_getD]
    exact h.2 x hx
theorem sq_zeros (n : Nat) : Sq n (zeros n) := by
  unfold zeros
  refine ⟨by simp, fun a ha => ?_⟩
  rw [List.getD_eq_getElem?_getD, List.getElem?_map, List.getElem?_range ha]
  simp
theorem mat_row {n : Nat} : ((List.range n).map fun _ => List.replicate n (Dt.int 0)) = mI (zeros n) := by
  unfold mI zeros
  rw [List.map_map]
  refine List.map_congr_left fun _ _ => ?_
  simp [iD]
theorem b_Shares_sizes (hc : Cls K CS) (h1 : NoAttr K CS "own_standing") (h2 : NoAttr K CS "pairs") (h3 : NoAttr K CS "lengths") : ∀ ds r, R_sizes CS ds r → EvS K (t_Shares_sizes K CS CP) (DRet r) (envOf N_Shares_sizes ds) := by
  rintro ds r ⟨st, c, ok, fit, rfl, rfl⟩
  have h6 := ok.six
  have hpl : (pairs st.length).length ≤ 15 := prs_le st.length h6
  have hll : (lensM st.length (line st)).length = (pairs st.length).length := by simp [lensM]
  have hcl := fits_len fit
  refine s_seq (s_set (x_to (x_cb (l1 (x_fld (d := sD st) (x_var rfl) rfl hc h1)) c_lenT) (show _ = iD st.length by simp [iD])) ?_)
  refine s_seq (s_mat (List.range st.length) iD (fun _ => List.replicate st.length (Dt.int 0)) (i_rngN (n := st.length) (l1 (x_var rfl)) (by omega)) (by simp; omega) (fun x hx => ⟨_, _, g_name, by decide, ⟨rfl, rfl, rfl, rfl, rfl, rfl, rfl, rfl, rfl, trivial⟩, n_rep (n := st.length) rfl (by omega)⟩) fun a bs nd => ?_)
  rw [mat_row]
  generalize hn : st.length = n at *
  generalize hl : lensM n (line st) = lens at *
  refine s_seq (s_for (i_zip3 (l3 (x_fld (d := pL n) (x_var rfl) (by rw [← hn]; rfl) hc h2) (x_fld (d := iL lens) (x_var rfl) (by rw [← hl, ← hn]; rfl) hc h3) (x_var (d := iL c) rfl)) (by simp; omega) (by simp; omega)) (fun i ρ => ∃ (m : List (List Nat)) (s4 s5 s7 s8 : Sl), m = (((pairs n).zip (lens.zip c)).take i).foldl szStep (zeros n) ∧ Sq n m ∧ ρ = [.val (shD CS st), .val (iL c), .val (iD n), .res (mD a bs (mI m)), s4, s5, .no, s7, s8]) ⟨zeros n, .no, .no, .no, .no, rfl, sq_zeros n, rfl⟩ (fun i d' ρ2 hd' ⟨m, s4, s5, s7, s8, k1, k2, e⟩ => ?_) fun ρ2 ⟨m, s4, s5, s7, s8, k1, k2, e⟩ => ?_)
  · subst e
    obtain ⟨d1, d2, d3, e1, e2, e3, rfl⟩ := zp3_get hd'
    obtain ⟨p, p1, p2, rfl⟩ := lst_get e1
    obtain ⟨len, l1', l2', rfl⟩ := lst_get e2
    obtain ⟨pl, pl1, pl2, rfl⟩ := lst_get e3
    have le : pl ≤ len := fits_get fit pl1 l1'
    obtain ⟨q1, q2⟩ := mem_pairs p2
    have tk : ((pairs n).zip (lens.zip c)).take (i + 1) = ((pairs n).zip (lens.zip c)).take i ++ [(p, len, pl)] := take_snoc (by
      rw [List.getElem?_zip_eq_some, List.getElem?_zip_eq_some]
      exact ⟨p1, l1', pl1⟩)
    have e4 : (Dt.int ((len : Int) - (pl : Int))) = iD (len - pl) := by unfold iD; congr 1; omega
    have g1 : p.1 < m.length := by rw [k2.1]; omega
    have k3 : Sq n (putM m p.1 p.2 pl) := k2.put (by omega)
    have g2 : p.2 < (putM m p.1 p.2 pl).length := by rw [k3.1]; exact q2
    refine ⟨[.val (shD CS st), .val (iL c), .val (iD n), .res (mD a bs (mI m)), .val (iD len), .val (iD pl), .no, .val (iD p.1), .val (iD p.2)], _, g_tup (gs_cons (g_tup (ds := [iD p.1, iD p.2]) (gs_cons g_name (gs_cons g_name gs_nil)) rfl) (gs_cons g_name (gs_cons g_name gs_nil))) rfl, ?_⟩
    refine s_asg (x_tp (l2 (x_var (d := iD pl) rfl) (x_to (x_sub (x_var (d := iD len) rfl) (x_var (d := iD pl) rfl)) e4))) (g_tup (gs_cons (g_mat (i := 3) (j := p.1) (k := p.2) (row := (m.getD p.1 []).map iD) rfl nd (x_var (d := iD p.1) rfl) (x_var (d := iD p.2) rfl) (mI_get g1) (by rw [List.length_map, k2.2 _ (by omega)]; exact q2)) (gs_cons (g_mat (i := 3) (j := p.2) (k := p.1) (m := (mI m).set p.1 (((m.getD p.1 []).map iD).set p.2 (iD pl))) (row := ((putM m p.1 p.2 pl).getD p.2 []).map iD) rfl nd (x_var (d := iD p.2) rfl) (x_var (d := iD p.1) rfl) (by rw [mI_put]; exact mI_get g2) (by rw [List.length_map, k3.2 _ q2]; omega)) gs_nil)) rfl) ⟨putM (putM m p.1 p.2 pl) p.2 p.1 (len - pl), .val (iD len), .val (iD pl), .val (iD p.1), .val (iD p.2), ?_, k3.put q2, ?_⟩
    · rw [tk, List.foldl_append, ← k1]
      rfl
    · show [Sl.val (shD CS st), .val (iL c), .val (iD n), .res (mD a bs (((mI m).set p.1 (((m.getD p.1 []).map iD).set p.2 (iD pl))).set p.2 ((((putM m p.1 p.2 pl).getD p.2 []).map iD).set p.1 (iD (len - pl))))), .val (iD len), .val (iD pl), .no, .val (iD p.1), .val (iD p.2)] = _
      rw [mI_put, mI_put]
  · subst e
    have zl : (zp3 ((pairs n).map pD) (lens.map iD) (c.map iD)).length = ((pairs n).zip (lens.zip c)).length := by simp [zp3]
    rw [zl, List.take_length] at k1
    refine s_retMat rfl ?_
    show Dt.lst ((mI m).map .lst) = iLL (szM n lens c)
    unfold szM
    rw [← k1]
    unfold mI iLL iL
    rw [List.map_map]
    rfl
theorem likeS_refl (s : Sl) : LikeS s s s := by
    cases s with
    | no => rfl
    | val d => rfl
    | own a ds => exact ⟨rfl, _, rfl⟩
    | pk x C dx l h w => exact ⟨rfl, _, _, rfl⟩
    | res r => exact ⟨rfl, _, rfl, rfl, rfl⟩
theorem len_counts (n m : Nat) : ∀ (row : List Nat), (∀ b ∈ row, b < n) → (∀ b, row.count b ≤ m) → row.length ≤ n * m := by
  induction n with
  | zero =>
    intro row h _
    cases row with
    | nil => simp
    | cons b r => exact absurd (h b List.mem_cons_self) (by omega)
  | succ n ih =>
    intro row h1 h2
    have h3 := ih (row.filter fun b => b != n) (fun b hb => by
      obtain ⟨k1, k2⟩ := List.mem_filter.mp hb
      have := h1 b k1
      simp at k2
      omega) (fun b => Nat.le_trans (List.Sublist.count_le b List.filter_sublist) (h2 b))
    have h4 : row.length = row.count n + (row.filter fun b => b != n).length := by
      clear h1 h2 h3
      induction row with
      | nil => rfl
      | cons b r ih2 =>
        rw [List.count_cons, List.filter_cons, List.length_cons, ih2]
        by_cases q : b = n <;> simp [q] <;> omega
    have := h2 n
    rw [Nat.succ_mul]
    omega
def adv {α : Type} (ws : Nat → List α) (a : Nat) : Nat → List α := fun b => if b = a then (ws a).tail else ws b
theorem deal_adv {α : Type} {ws : Nat → List α} {a : Nat} {w : α} {t r : _} (h : ws a = w :: t) : deal ws (a :: r) = (a, w) :: deal (adv ws a) r := by
  have : adv ws a = fun b => if b = a then t else ws b := by
    funext b
    unfold adv
    rw [h]
    rfl
  rw [this]
  show (match ws a with
    | [] => deal ws r
    | w :: t => (a, w) :: deal (fun b => if b = a then t else ws b) r) = _
  rw [h]
theorem b_Shares_heaps (hc : Cls K CS) (h1 : NoAttr K CS "own_standing") : ∀ ds r, R_heaps CS ds r → EvS K (t_Shares_heaps K CS CP) (DRet r) (envOf N_Shares_heaps ds) := by
  rintro ds r ⟨st, rows, ok, hlen, hcnt, hlt, rfl, rfl⟩
  have h6 := ok.six
  refine s_seq (s_setN (n_ls l_nil) fun p => ?_)
  refine s_seq (s_for (i_enumL (l1 (x_var (d := iLL rows) rfl))) (fun i ρ => ∃ (s3 s4 s5 : Sl), ρ = [.val (shD CS st), .val (iLL rows), .own p (((heapsM (line st) rows).take i).map hD), s3, s4, s5, .no]) ⟨.no, .no, .no, rfl⟩ (fun i d' ρ2 hd' ⟨s3, s4, s5, e⟩ => ?_) fun ρ2 ⟨s3, s4, s5, e⟩ => ?_)
  · subst e
    obtain ⟨d2, hd2, rfl⟩ := en_get hd'
    obtain ⟨row, hx, hm, rfl⟩ := lst_get hd2
    have il : i < rows.length := (List.getElem?_eq_some_iff.mp hx).1
    have gr : rows.getD i [] = row := by rw [List.getD_eq_getElem?_getD, hx]; rfl
    have hci := hcnt i
    have hli := hlt i
    rw [gr] at hci hli
    have hw : (heapsM (line st) rows)[i]? = some (deal (line st i) row) := by
      unfold heapsM
      rw [List.getElem?_map, List.getElem?_zipIdx, hx]
      simp
    have tk := take_snoc hw
    have rl : row.length ≤ 80000 := by
      have := len_counts st.length 18 row hli (fun b => Nat.le_trans (hci b) (by
        unfold line
        rw [List.length_append, List.length_reverse]
        have := ok.held i b
        have := ok.held b i
        omega))
      have : st.length * 18 ≤ 6 * 18 := Nat.mul_le_mul_right _ h6
      omega
    refine ⟨[.val (shD CS st), .val (iLL rows), .own p (((heapsM (line st) rows).take i).map hD), .val (iD i), .val (iL row), s5, .no], _, g_tup (gs_cons g_name (gs_cons g_name gs_nil)) rfl, ?_⟩
    refine s_seq (s_dcL row iD id (fun b => (line st i b).map .str) (i_list (x_var (d := iL row) rfl)) rl (fun b hb => ⟨_, _, g_name, by decide, ⟨rfl, rfl, ⟨rfl, _, rfl⟩, rfl, rfl, likeS_refl s5, rfl, trivial⟩, b_yes, x_var (d := iD b) rfl, n_listT (x_call (l3 (x_fld (d := sD st) (x_var rfl) rfl hc h1) (x_var (d := iD i) rfl) (x_var (d := iD b) rfl)) ⟨st, i, b, ok, by omega, hli b hb, rfl, rfl⟩)⟩) fun a ks nd1 nd2 hk => ?_)
    refine s_app (ds' := ((heapsM (line st) rows).take i).map hD) (ds := ((heapsM (line st) rows).take i).map hD) (d := hD (deal (line st i) row)) (ρ1 := [.val (shD CS st), .val (iLL rows), .own p (((heapsM (line st) rows).take i).map hD), .val (iD i), .val (iL row), .res (dL a ks fun b => ((row.foldl adv (line st i)) b).map .str), .no]) rfl ?_ rfl (by simp; omega) ⟨.val (iD i), .val (iL row), .res (dL a ks fun b => ((row.foldl adv (line st i)) b).map .str), ?_⟩
    · refine x_cb (l1 (x_ofN (lc_go row iD (fun j ρ2 acc => ∃ (ac : List (Nat × Str)), acc = ac.map gD ∧ deal (line st i) row = ac ++ deal ((row.take j).foldl adv (line st i)) (row.drop j) ∧ (∀ b, (row.drop j).count b ≤ ((row.take j).foldl adv (line st i) b).length) ∧ ac.length = j ∧ ρ2 = [.val (shD CS st), .val (iLL rows), .own p (((heapsM (line st) rows).take i).map hD), .val (iD i), .val (iL row), .res (dL a ks fun b => (((row.take j).foldl adv (line st i)) b).map .str), .no]) (i_list (x_var (d := iL row) rfl)) (by omega) ⟨[], rfl, rfl, hci, rfl, rfl⟩ (fun j b ρ2 acc hb ⟨ac, q1, q2, q3, q4, e⟩ => ?_) (fun j ρ2 acc ⟨ac, q1, q2, q3, q4, e⟩ => ?_) fun ρ2 acc ⟨ac, q1, q2, q3, q4, e⟩ => ?_))) c_tupleL
      · subst e
        have jl : j < row.length := (List.getElem?_eq_some_iff.mp hb).1
        have dr : row.drop j = b :: row.drop (j + 1) := by
          rw [List.drop_eq_getElem_cons jl]
          rw [List.getElem?_eq_getElem jl] at hb
          injection hb with hb
          rw [hb]
        have tk2 : (row.take (j + 1)).foldl adv (line st i) = adv ((row.take j).foldl adv (line st i)) b := by
          rw [take_snoc hb, List.foldl_append]
          rfl
        have bm : b ∈ row := List.mem_of_getElem? hb
        rw [dr] at q2 q3
        generalize hws : (row.take j).foldl adv (line st i) = ws at *
        cases hwb : ws b with
        | nil =>
          have := q3 b
          rw [hwb] at this
          simp at this
        | cons w t =>
          refine ⟨_, _, g_name, by decide, .inl ⟨_, gD (b, w), b_yes, x_tp (l2 (x_var (d := iD b) rfl) (x_popL (i := 5) (a := a) (ks := ks) (c := fun b => (ws b).map .str) (k := b) (d := .str w) (rest := t.map .str) rfl (x_var (d := iD b) rfl) nd1 (hk b bm) (by show (ws b).map Dt.str = _; rw [hwb]; rfl))), [.val (shD CS st), .val (iLL rows), .own p (((heapsM (line st) rows).take i).map hD), .val (iD i), .val (iL row), .res (dL a ks fun b' => (adv ws b b').map .str), .no], ?_, ac ++ [(b, w)], ?_, ?_, fun b' => ?_, ?_, ?_⟩⟩
          · refine ⟨rfl, rfl, ⟨rfl, _, rfl⟩, rfl, rfl, ⟨?_, _, rfl, rfl, rfl⟩, rfl, trivial⟩
            have : (fun b' => (adv ws b b').map Dt.str) = fun j => if j = b then t.map Dt.str else (ws j).map Dt.str := by
              funext b'
              unfold adv
              by_cases q : b' = b
              · rw [if_pos q, if_pos q, hwb]; rfl
              · rw [if_neg q, if_neg q]
            rw [this]
          · rw [q1, List.map_append]; rfl
          · rw [tk2, q2, deal_adv hwb]; simp
          · rw [tk2]
            have := q3 b'
            rw [List.count_cons] at this
            unfold adv
            by_cases q : b' = b
            · subst q
              rw [if_pos rfl]
              simp at this ⊢
              omega
            · rw [if_neg q]
              have q' : ¬ (b = b') := fun z => q z.symm
              simp [q'] at this
              omega
          · simp [q4]
          · rw [tk2]
      · rw [q1, List.length_map, q4]; exact Nat.le_refl _
      · rw [List.take_length] at q2 e
        rw [List.drop_length] at q2
        refine ⟨e, ?_⟩
        rw [q1, q2]
        simp [deal]
    · rw [tk, List.map_append]
      rfl
  · subst e
    have l1 : (en (rows.map iL)).length = rows.length := by rw [en_len, List.length_map]
    rw [show (en (rows.map iL)).length = rows.length from l1, show rows.length = (heapsM (line st) rows).length from by simp [heapsM], List.take_length]
    exact s_ret (x_tupleR (r_own rfl)) rfl
theorem sq_fold {n : Nat} : ∀ (xs : List ((Nat × Nat) × Nat × Nat)) (m : List (List Nat)), Sq n m → (∀ x ∈ xs, x.1.1 < n ∧ x.1.2 < n) → Sq n (xs.foldl szStep m)
  | [], m, h, _ => h
  | x :: xs, m, h, hx => sq_fold xs (szStep m x) ((h.put (hx x List.mem_cons_self).1).put (hx x List.mem_cons_self).2) fun y hy => hx y (List.mem_cons_of_mem _ hy)
theorem sq_szM (n : Nat) (lens c : List Nat) : Sq n (szM n lens c) := sq_fold _ _ (sq_zeros n) fun x hx => by
  have := mem_pairs (List.of_mem_zip hx).1
  omega
theorem Sq.mem {n : Nat} {m : List (List Nat)} (h : Sq n m) : ∀ l ∈ m, l.length = n := fun l hl => by
  obtain ⟨i, hi, rfl⟩ := List.getElem_of_mem hl
  have := h.2 i (by rw [← h.1]; exact hi)
  rw [List.getD_eq_getElem?_getD, List.getElem?_eq_getElem hi] at this
  exact this
theorem sz_ok {st : Sg} (ok : Okf st) {c : List Nat} (f : Fits c (lensM st.length (line st))) : (szM st.length (lensM st.length (line st)) c).length ≤ 6 ∧ (∀ l ∈ szM st.length (lensM st.length (line st)) c, l.length ≤ 6) ∧ ((szM st.length (lensM st.length (line st)) c).map List.sum).sum ≤ 9 := by
  have sq := sq_szM st.length (lensM st.length (line st)) c
  have h6 := ok.six
  have h9 := ok.nine
  have h1 := lens_sum st h6
  have h2 := szM_tot (n := st.length) f
  unfold tot2 at h2
  exact ⟨by rw [sq.1]; exact h6, fun l hl => by rw [sq.mem l hl]; exact h6, by omega⟩
theorem b_how_many (hc : Cls K CS) (h3 : NoAttr K CS "lengths") : ∀ ds r, R_how_many ds r → EvS K (t_how_many K CS CP) (DRet r) (envOf N_how_many ds) := by
  rintro ds r ⟨st, ok, rfl, rfl⟩
  have h6 := ok.six
  have h9 := ok.nine
  have hls := lens_sum st h6
  have hpl : (pairs st.length).length ≤ 15 := prs_le st.length h6
  refine s_seq (s_drop (x_call (l1 (x_var rfl)) ⟨st, ok, rfl, rfl⟩) ?_)
  refine s_seq (s_set (d := shD CS st) (x_make (l1 (x_var (d := sD st) rfl)) fun x dx => ⟨rfl, st, ok, rfl, rfl⟩) ?_)
  refine s_ret (x_to (x_sumR (ns := (allCuts (lensM st.length (line st))).map fun c => ((WM st.length (lensM st.length (line st)) c : Nat) : Int)) (r_val (x_to (x_ofN (lc_map (allCuts (lensM st.length (line st))) iL (fun c => iD (WM st.length (lensM st.length (line st)) c)) (i_list (x_call (l1 (x_fld (d := iL (lensM st.length (line st))) (x_var (d := shD CS st) rfl) rfl hc h3)) ⟨lensM st.length (line st), by simp [lensM]; omega, by omega, rfl, rfl⟩)) ?_ fun c hcm => ?_)) ?_))) ?_) rfl
  · have := allCuts_len (lensM st.length (line st))
    have h29 : 2 ^ (lensM st.length (line st)).sum ≤ 2 ^ 9 := Nat.pow_le_pow_right (by omega) (by omega)
    omega
  · have fit := (mem_allCuts _ c).mp hcm
    obtain ⟨z1, z2, z3⟩ := sz_ok ok fit
    exact ⟨_, _, g_name, by decide, ⟨rfl, rfl, rfl, trivial⟩, x_call (l1 (x_meth (x_var (d := shD CS st) rfl) (by decide) (l1 (x_var (d := iL c) rfl)) ⟨st, c, ok, fit, rfl, rfl⟩)) ⟨_, z1, z2, z3, rfl, rfl⟩⟩
  · rw [List.map_map]
    rfl
  · unfold iD hmM total
    congr 1
    rw [← sum_int, List.map_map]
    rfl
theorem b_nth (hc : Cls K CS) (h3 : NoAttr K CS "lengths") : ∀ ds r, R_nth ds r → EvS K (t_nth K CS CP) (DRet r) (envOf N_nth ds) := by
  rintro ds r ⟨st, k, ok, hk, rfl, rfl⟩
  have h6 := ok.six
  have h9 := ok.nine
  have hls := lens_sum st h6
  have hpl : (pairs st.length).length ≤ 15 := prs_le st.length h6
  refine s_seq (s_drop (x_call (l1 (x_var rfl)) ⟨st, ok, rfl, rfl⟩) ?_)
  refine s_seq (s_parVV (d1 := shD CS st) (d2 := iD k) (x_make (l1 (x_var (d := sD st) rfl)) fun x dx => ⟨rfl, st, ok, rfl, rfl⟩) (x_var rfl) ?_)
  refine s_seq (s_no (b_or (a := false) (b := false) (b_not (b_B (b := true) (x_call (l1 (x_var (d := iD k) rfl)) ⟨(k : Int), rfl, rfl⟩))) fun _ => b_to (b_test (x_lt (x_var (d := iD k) rfl) (x_int (n := 0)))) (by simp)) (s_next ?_))
  refine s_seq (s_for (i_list (x_call (d := iLL (allCuts (lensM st.length (line st)))) (l1 (x_fld (d := iL (lensM st.length (line st))) (x_var (d := shD CS st) rfl) rfl hc h3)) ⟨lensM st.length (line st), by simp [lensM]; omega, by omega, rfl, rfl⟩)) (fun i ρ => ∃ (left : Nat) (s2 s5 : Sl), nthC (WM st.length (lensM st.length (line st))) (allCuts (lensM st.length (line st))) k = nthC (WM st.length (lensM st.length (line st))) ((allCuts (lensM st.length (line st))).drop i) left ∧ left < total (WM st.length (lensM st.length (line st))) ((allCuts (lensM st.length (line st))).drop i) ∧ ρ = [.val (sD st), .val (iD k), s2, .val (shD CS st), .val (iD left), s5]) ⟨k, .no, .no, rfl, hk, rfl⟩ (fun i d' ρ2 hd' ⟨left, s2, s5, k1, k2, e⟩ => ?_) fun ρ2 ⟨left, s2, s5, k1, k2, e⟩ => ?_)
  · subst e
    obtain ⟨c, hx, hm, rfl⟩ := lst_get hd'
    have il : i < (allCuts (lensM st.length (line st))).length := (List.getElem?_eq_some_iff.mp hx).1
    have dr : (allCuts (lensM st.length (line st))).drop i = c :: (allCuts (lensM st.length (line st))).drop (i + 1) := by
      rw [List.drop_eq_getElem_cons il]
      rw [List.getElem?_eq_getElem il] at hx
      injection hx with hx
      rw [hx]
    rw [dr] at k1 k2
    have fit := (mem_allCuts _ c).mp hm
    obtain ⟨z1, z2, z3⟩ := sz_ok ok fit
    have sq := sq_szM st.length (lensM st.length (line st)) c
    refine ⟨_, _, g_name, s_seq (s_set (d := iLL (szM st.length (lensM st.length (line st)) c)) (x_meth (x_var (d := shD CS st) rfl) (by decide) (l1 (x_var (d := iL c) rfl)) ⟨st, c, ok, fit, rfl, rfl⟩) ?_)⟩
    have hW : WM st.length (lensM st.length (line st)) c = waysN (szM st.length (lensM st.length (line st)) c) := rfl
    refine s_seq (s_if (b := decide (left < WM st.length (lensM st.length (line st)) c)) (b_to (b_test (x_lt (x_var (d := iD left) rfl) (x_call (d := iD (WM st.length (lensM st.length (line st)) c)) (l1 (x_var rfl)) ⟨_, z1, z2, z3, rfl, rfl⟩))) (by simp)) (fun hb => ?_) (fun hb => ?_))
    · have lt := of_decide_eq_true hb
      have e1 : nthM st.length (line st) k = heapsM (line st) (rowsN (szM st.length (lensM st.length (line st)) c) left) := by
        unfold nthM
        rw [k1]
        unfold nthC
        rw [if_pos lt]
      rw [e1]
      have lt2 : left < waysN (szM st.length (lensM st.length (line st)) c) := lt
      refine s_ret (x_meth (x_var (d := shD CS st) rfl) (by decide) (l1 (x_call (l2 (x_var rfl) (x_var (d := iD left) rfl)) ⟨_, left, z1, z2, z3, lt2, rfl, rfl⟩)) ⟨st, rowsN (szM st.length (lensM st.length (line st)) c) left, ok, ?_, fun d b => ?_, fun d b hb => ?_, rfl, rfl⟩) rfl
      · rw [rowsN_len, sq.1]
      · rw [rowsN_count lt2]
        exact szM_ent (line st) st.length (line_sym st) fit d b
      · have cp := List.count_pos_iff.mpr hb
        rw [rowsN_count lt2] at cp
        unfold ent at cp
        by_cases hd : d < st.length
        · have := sq.2 d hd
          by_cases hb2 : b < st.length
          · exact hb2
          · rw [List.getD_eq_getElem?_getD (i := b), List.getElem?_eq_none (by omega)] at cp
            exact absurd cp (by simp)
        · rw [List.getD_eq_getElem?_getD (i := d), List.getElem?_eq_none (by rw [sq.1]; omega)] at cp
          exact absurd cp (by simp)
    · have ge := of_decide_eq_false hb
      refine s_next (s_aug (f := fun i j => i - j) (a := (left : Nat)) (b := (WM st.length (lensM st.length (line st)) c : Nat)) rfl (x_call (l1 (x_var rfl)) ⟨_, z1, z2, z3, rfl, rfl⟩) ⟨left - WM st.length (lensM st.length (line st)) c, .val (iL c), .val (iLL (szM st.length (lensM st.length (line st)) c)), ?_, ?_, ?_⟩)
      · rw [k1]
        show (if left < WM st.length (lensM st.length (line st)) c then some (c, left) else nthC (WM st.length (lensM st.length (line st))) _ (left - WM st.length (lensM st.length (line st)) c)) = _
        rw [if_neg ge]
      · unfold total at k2 ⊢
        rw [List.map_cons, List.sum_cons] at k2
        omega
      · have : (Dt.int ((left : Nat) - (WM st.length (lensM st.length (line st)) c : Nat))) = iD (left - WM st.length (lensM st.length (line st)) c) := by unfold iD; congr 1; omega
        show [Sl.val (sD st), .val (iD k), .val (iL c), .val (shD CS st), .val (.int ((left : Nat) - (WM st.length (lensM st.length (line st)) c : Nat))), .val (iLL (szM st.length (lensM st.length (line st)) c))] = _
        rw [this]
  · exfalso
    rw [List.length_map, List.drop_length] at k2
    simp [total] at k2
end
end Gr
/-! bodies: the number of a standing -/
namespace Gr
open PySem PySem.Spec PyProof.Rows L2
section
variable {K : PySem.W.Frag} {CS CP : Addr} {ρ : Env} {d : Dt} {E : De}
theorem o_eqLN {l m : List Nat} : OpD K (rEqD K) (iL l) (iL m) (.bl (decide (l = m))) := by
  have h := o_eqL (K := K) (is := l.map fun n : Nat => (n : Int)) (js := m.map fun n : Nat => (n : Int))
  rw [← iL_ints, ← iL_ints] at h
  have e : decide ((l.map fun n : Nat => (n : Int)) = (m.map fun n : Nat => (n : Int))) = decide (l = m) := by
    by_cases q : l = m
    · simp [q]
    · have : ¬ ((l.map fun n : Nat => (n : Int)) = (m.map fun n : Nat => (n : Int))) := fun z => q (ints_inj.mp z)
      rw [decide_eq_false this, decide_eq_false q]
  rw [e] at h
  exact h
theorem fits_map {β : Type} (f g : β → Nat) : ∀ ps : List β, (∀ p ∈ ps, g p ≤ f p) → Fits (ps.map g) (ps.map f)
  | [], _ => trivial
  | p :: ps, h => ⟨h p List.mem_cons_self, fits_map f g ps fun q hq => h q (List.mem_cons_of_mem _ hq)⟩
theorem fits_due {s t : Sg} (al : Alk s t) : Fits (dueM s.length t) (lensM s.length (line s)) := fits_map (fun p : Nat × Nat => (line s p.1 p.2).length) (fun p => cut t p.1 p.2) (pairs s.length) fun p _ => by
  rw [al.lines]
  show cut t p.1 p.2 ≤ (line t p.1 p.2).length
  unfold line cut
  rw [List.length_append]
  omega
theorem b_number_of (hc : Cls K CS) (h2 : NoAttr K CS "pairs") (h3 : NoAttr K CS "lengths") : ∀ ds r, R_number_of ds r → EvS K (t_number_of K CS CP) (DRet r) (envOf N_number_of ds) := by
  rintro ds r ⟨s, t, al, rfl, rfl⟩
  have ok := al.ok1
  have h6 := ok.six
  have h9 := ok.nine
  have hls := lens_sum s h6
  have hpl : (pairs s.length).length ≤ 15 := prs_le s.length h6
  have fd := fits_due al
  refine s_seq (s_drop (x_call (l2 (x_var rfl) (x_var rfl)) ⟨s, t, al.len, rfl, rfl⟩) ?_)
  refine s_seq (s_drop (x_call (l1 (x_var rfl)) ⟨s, ok, rfl, rfl⟩) ?_)
  refine s_seq (s_drop (x_call (l2 (x_var rfl) (x_var rfl)) ⟨s, t, al, rfl, rfl⟩) ?_)
  refine s_seq (s_parVV (d1 := shD CS s) (d2 := iD 0) (x_make (l1 (x_var (d := sD s) rfl)) fun x dx => ⟨rfl, s, ok, rfl, rfl⟩) (x_int (n := 0)) ?_)
  refine s_seq (s_set (d := iL (dueM s.length t)) (x_to (x_ofN (lc_map (pairs s.length) pD (fun p => iD (cut t p.1 p.2)) (i_list (x_fld (d := pL s.length) (x_var (d := shD CS s) rfl) rfl hc h2)) (by omega) fun p hp => ?_)) (by simp [iL, dueM])) ?_)
  · have := pairs_mem.mp (show (p.1, p.2) ∈ pairs s.length from hp)
    have hl := al.len
    exact ⟨_, _, g_tup (ds := [iD p.1, iD p.2]) (gs_cons g_name (gs_cons g_name gs_nil)) rfl, by decide, ⟨rfl, rfl, rfl, rfl, rfl, rfl, rfl, rfl, rfl, rfl, rfl, rfl, rfl, rfl, trivial⟩, x_call (l3 (x_var (d := sD t) rfl) (x_var (d := iD p.1) rfl) (x_var (d := iD p.2) rfl)) ⟨t, p.1, p.2, al.ok2, by omega, by omega, rfl, rfl⟩⟩
  let cs := allCuts (lensM s.length (line s))
  let W := WM s.length (lensM s.length (line s))
  let due := dueM s.length t
  obtain ⟨z1, z2, z3⟩ := sz_ok ok fd
  refine s_seq (s_weak (E' := { DRet (iD (nofM s.length (line s) t)) with nx := fun ρ => ∃ s3 : Sl, ρ = [.val (sD s), .val (sD t), .val (iL due), s3, .val (shD CS s), .val (iD (numC W due cs)), .no, .no, .no, .no, .no, .no, .no, .no] }) (s_for (i_list (x_call (d := iLL cs) (l1 (x_fld (d := iL (lensM s.length (line s))) (x_var (d := shD CS s) rfl) rfl hc h3)) ⟨lensM s.length (line s), by simp [lensM]; omega, by omega, rfl, rfl⟩)) (fun i ρ => ∃ (acc : Nat) (s3 : Sl), acc + numC W due (cs.drop i) = numC W due cs ∧ ρ = [.val (sD s), .val (sD t), .val (iL due), s3, .val (shD CS s), .val (iD acc), .no, .no, .no, .no, .no, .no, .no, .no]) ⟨0, .no, by simp, rfl⟩ (fun i d' ρ2 hd' ⟨acc, s3, k1, e⟩ => ?_) fun ρ2 ⟨acc, s3, k1, e⟩ => ?_) (fun ρ2 ⟨s3, e⟩ => ?_) (fun _ _ h => h) (fun _ h => h) (fun _ h => h))
  · subst e
    obtain ⟨c, hx, hm, rfl⟩ := lst_get hd'
    have il : i < cs.length := (List.getElem?_eq_some_iff.mp hx).1
    have dr : cs.drop i = c :: cs.drop (i + 1) := by
      rw [List.drop_eq_getElem_cons il]
      rw [List.getElem?_eq_getElem il] at hx
      injection hx with hx
      rw [hx]
    rw [dr] at k1
    have fit := (mem_allCuts _ c).mp hm
    obtain ⟨y1, y2, y3⟩ := sz_ok ok fit
    refine ⟨_, _, g_name, s_seq (s_if (b := decide (c = due)) (b_test (x_op (x_var (d := iL c) rfl) (x_var (d := iL due) rfl) o_eqLN)) (fun hb => ?_) (fun hb => ?_))⟩
    · have eq := of_decide_eq_true hb
      refine s_brk ⟨.val (iL c), ?_⟩
      have : numC W due (c :: cs.drop (i + 1)) = 0 := by
        unfold numC
        rw [if_pos eq]
      rw [← k1, this]
      rfl
    · have ne := of_decide_eq_false hb
      refine s_next (s_aug (f := fun i j => i + j) (a := (acc : Nat)) (b := (W c : Nat)) rfl (x_call (l1 (x_meth (x_var (d := shD CS s) rfl) (by decide) (l1 (x_var (d := iL c) rfl)) ⟨s, c, ok, fit, rfl, rfl⟩)) ⟨_, y1, y2, y3, rfl, rfl⟩) ⟨acc + W c, .val (iL c), ?_, rfl⟩)
      rw [← k1]
      show _ = acc + (if c = due then 0 else W c + numC W due (cs.drop (i + 1)))
      rw [if_neg ne]
      omega
  · rw [List.length_map, List.drop_length] at k1
    rw [show numC W due [] = 0 from rfl, Nat.add_zero] at k1
    rw [k1] at e
    exact ⟨s3, e⟩
  · subst e
    let sz := szM s.length (lensM s.length (line s)) due
    refine s_seq (s_parVV (d1 := iLL sz) (d2 := iD 0) (x_meth (x_var (d := shD CS s) rfl) (by decide) (l1 (x_var (d := iL due) rfl)) ⟨s, due, ok, fd, rfl, rfl⟩) (x_int (n := 0)) ?_)
    have dm := dm_szM s.length (lensM s.length (line s)) due
    have hl := al.len
    have ent_eq : ∀ a b, ent sz a b = cut t a b := szM_due h6 (line s) (t := t) (by rw [hl]; exact al.ok2.okn) (fun a b => by rw [al.lines])
    have szl : sz.length = s.length := dm.1
    refine s_seq (s_for (i_enumL (l1 (x_var (d := iLL sz) rfl))) (fun i ρ => ∃ (acc : Nat) (s8 s9 : Sl), numR 0 sz (t.map abouts) = numR acc (sz.drop i) ((t.map abouts).drop i) ∧ ρ = [.val (sD s), .val (sD t), .val (iL due), s3, .val (shD CS s), .val (iD (numC W due cs)), .val (iLL sz), .val (iD acc), s8, s9, .no, .no, .no, .no]) ⟨0, .no, .no, rfl, rfl⟩ (fun i d' ρ2 hd' ⟨acc, s8, s9, k1, e⟩ => ?_) fun ρ2 ⟨acc, s8, s9, k1, e⟩ => ?_)
    · subst e
      obtain ⟨d2, hd2, rfl⟩ := en_get hd'
      obtain ⟨l, hx, hm, rfl⟩ := lst_get hd2
      have il : i < sz.length := (List.getElem?_eq_some_iff.mp hx).1
      have it : i < t.length := by omega
      have gl : sz.getD i [] = l := by rw [List.getD_eq_getElem?_getD, hx]; rfl
      have dr : sz.drop i = l :: sz.drop (i + 1) := by
        rw [List.drop_eq_getElem_cons il]
        rw [List.getElem?_eq_getElem il] at hx
        injection hx with hx
        rw [hx]
      have dt : (t.map abouts).drop i = abouts (hp t i) :: (t.map abouts).drop (i + 1) := by
        rw [List.drop_eq_getElem_cons (by simpa using it)]
        congr 1
        simp [hp, it]
      rw [dr, dt] at k1
      have l6 := z2 l hm
      have l9 : l.sum ≤ 9 := Nat.le_trans (mem_le_sum (List.mem_map_of_mem hm)) z3
      have mu : multi l ≤ 362880 := multi_9 l9
      have ll : l.length = s.length := by rw [← gl]; exact dm.2 i (by omega)
      have cnt : ∀ b, (abouts (hp t i)).count b = l.getD b 0 := fun b => by
        rw [count_abouts, ← gl]
        exact (ent_eq i b).symm
      refine ⟨_, _, g_tup (gs_cons g_name (gs_cons g_name gs_nil)) rfl, s_set (d := iD (acc * multi l + numS l (abouts (hp t i)))) (x_to (x_add (i := ((acc * multi l : Nat) : Int)) (j := ((numS l (abouts (hp t i)) : Nat) : Int)) (x_to (x_op (x_var (d := iD acc) rfl) (x_call (d := iD (multi l)) (l1 (x_var (d := iL l) rfl)) ⟨l, by omega, l9, rfl, rfl⟩) (o_I (d := .int ((acc : Int) * (multi l : Nat))) (.inr ⟨by omega, by omega⟩) fun _ => rfl)) (by push_cast; rfl)) (x_call (l2 (x_var (d := iL l) rfl) (x_to (x_ofN (lc_map (hp t i) gD (fun g => iD g.1) (i_tup (x_ixTn (x_var (d := sD t) rfl) (x_var (d := iD i) rfl) (sD_get it))) (by have := al.ok2.heap i; omega) fun g hg => ?_)) (d' := iL (abouts (hp t i))) ?_)) ⟨l, abouts (hp t i), l6, l9, cnt, fun b hb => ?_, rfl, rfl⟩)) ?_) ⟨acc * multi l + numS l (abouts (hp t i)), .val (iD i), .val (iL l), ?_, rfl⟩⟩
      · exact ⟨_, _, g_tup (ds := [iD g.1, .str g.2]) (gs_cons g_name (gs_cons g_name gs_nil)) rfl, by decide, ⟨rfl, rfl, rfl, by cases s3 <;> first | rfl | exact likeS_refl _, rfl, rfl, rfl, rfl, rfl, rfl, rfl, rfl, rfl, rfl, trivial⟩, x_var (d := iD g.1) rfl⟩
      · simp [iL, abouts]
      · have cp := List.count_pos_iff.mpr hb
        rw [cnt] at cp
        by_cases q : b < l.length
        · exact q
        · rw [List.getD_eq_getElem?_getD, List.getElem?_eq_none (by omega)] at cp
          exact absurd cp (by simp)
      · unfold iD
        congr 1
      · rw [k1]
        rfl
    · subst e
      have e1 : (en (sz.map iL)).length = sz.length := by rw [en_len, List.length_map]
      rw [show (en (sz.map iL)).length = sz.length from e1, List.drop_length] at k1
      have e2 : numR 0 sz (t.map abouts) = acc := by rw [k1]; unfold numR; rfl
      refine s_ret (x_add (x_var (d := iD (numC W due cs)) rfl) (x_var (d := iD acc) rfl)) ?_
      show Dt.int (((numC W due cs : Nat) : Int) + (acc : Nat)) = iD (nofM s.length (line s) t)
      unfold nofM iD
      rw [← e2]
      congr 1
end
end Gr
/-! bodies: the law's own defs -/
namespace Gr
open PySem PySem.Spec PyProof.Rows L2
section
variable {K : PySem.W.Frag} {CS CP : Addr} {ρ : Env} {d : Dt} {E : De}
theorem b_law_line : ∀ ds r, R_law_line ds r → EvS K (t_law_line K CS CP) (DRet r) (envOf N_law_line ds) := by
  rintro ds r ⟨st, a, b, ok, ha, hb, rfl, rfl⟩
  have h1 := ok.held a b
  have h2 := ok.held b a
  refine s_ret (x_to (x_op (x_call (l3 (x_var rfl) (x_var rfl) (x_var rfl)) ⟨st, a, b, ok, ha, hb, rfl, rfl⟩) (x_revT (x_call (l3 (x_var rfl) (x_var rfl) (x_var rfl)) ⟨st, b, a, ok, hb, ha, rfl, rfl⟩)) (o_catA (by simp; omega))) ?_) rfl
  unfold line wD
  rw [List.map_append, List.map_reverse]
theorem b_law_held : ∀ ds r, R_law_held ds r → EvS K (t_law_held K CS CP) (DRet r) (envOf N_law_held ds) := by
  rintro ds r ⟨st, a, b, ok, ha, hb, rfl, rfl⟩
  have h9 := ok.heap a
  refine s_ret (x_to (x_cb (l1 (x_ofN (lc_run (hp st a) gD (fun g => decide ((g.1 : Int) = b)) (fun g => .str g.2) (i_tup (x_ixTn (x_var rfl) (x_var rfl) (sD_get ha))) (by omega) fun x _ => ?_))) c_tupleL) ?_) rfl
  · exact ⟨_, _, g_tup (gs_cons g_name (gs_cons g_name gs_nil)) rfl, by decide, ⟨rfl, rfl, rfl, rfl, rfl, trivial⟩, b_test (x_op (x_var rfl) (x_var rfl) o_eqI), fun _ => x_var rfl⟩
  · unfold held wD hw
    have : (fun g : Nat × Str => decide ((g.1 : Int) = b)) = fun g => g.1 == b := by
      funext g
      rw [Bool.eq_iff_iff]
      simp only [decide_eq_true_eq, beq_iff_eq]
      omega
    rw [this, List.map_map]
    rfl
abbrev SRet (r : Dt) (s' : Sl) : De := { nx := fun ρ => r = .non ∧ ∃ i : Nat, ρ[i]? = some s', rt := fun d ρ => d = r ∧ ∃ i : Nat, ρ[i]? = some s' }
theorem b_law_of : ∀ s ds r s', R_law_of s ds r s' → EvS K (t_law_of K CS CP) (SRet r s') (s :: envOf N_law_of.tail ds) := by
  rintro s ds r s' ⟨p, b, es, hb, h0, h1, rfl, rfl, hr, rfl⟩
  refine s_ret (x_ixLn (x_var (i := 1) (d := .lst es) rfl) (x_callS (s0 := bxS p b) (s := bxS p b) (s' := bxS p (takeM b es.length).2) rfl rfl (l1 (x_to (x_cb (l1 (x_var (d := .lst es) rfl)) c_lenL) (d' := iD es.length) rfl)) rfl rfl rfl rfl ⟨p, b, es.length, hb, h0, by omega, rfl, rfl, rfl, rfl⟩) hr) ⟨rfl, 0, rfl⟩
theorem b_law_word : ∀ s ds r s', R_law_word s ds r s' → EvS K (t_law_word K CS CP) (SRet r s') (s :: envOf N_law_word.tail ds) := by
  rintro s ds r s' ⟨p, b, hb, rfl, rfl, rfl, rfl⟩
  have lt := takeM_lt b (m := 8) (by omega)
  refine s_ret (x_ixLn (xs := W8.map .str) (x_ls (l_cons x_str (l_cons x_str (l_cons x_str (l_cons x_str (l_cons x_str (l_cons x_str (l_cons x_str (l1 x_str)))))))))  (x_callS (s0 := bxS p b) (s := bxS p b) (s' := bxS p (takeM b 8).2) rfl rfl (l1 (x_int (n := 8))) rfl rfl rfl rfl ⟨p, b, 8, hb, by omega, by omega, rfl, rfl, rfl, rfl⟩) ?_) ⟨rfl, 0, rfl⟩
  rw [List.getElem?_map, List.getD_eq_getElem?_getD, List.getElem?_eq_getElem (by show _ < 8; exact lt)]
  rfl
theorem b_law_peck : ∀ ds r, R_law_peck ds r → EvS K (t_law_peck K CS CP) (DRet r) (envOf N_law_peck ds) := fun ds r h => by
  have e := b_gone_over (K := K) (CS := CS) (CP := CP) ds r h
  obtain ⟨st, d, ok, hd, hne, rfl, rfl⟩ := h
  exact e
theorem b_law_behind : ∀ ds r, R_law_behind ds r → EvS K (t_law_behind K CS CP) (DRet r) (envOf N_law_behind ds) := by
  rintro ds r ⟨s, t, row, ok, hr, hl, rfl, rfl⟩
  refine s_seq (s_for (i_list (x_var (d := iL row) rfl)) (fun i ρ => ∃ (S : Sg) (s3 : Sl), Okf S ∧ Gr.run S (row.drop i) = some t ∧ ρ = [.val (sD S), .val (iL row), .val (.lst []), s3]) ⟨s, .no, ok, hr, rfl⟩ (fun i d' ρ2 hd' ⟨S, s3, k1, k2, e⟩ => ?_) fun ρ2 ⟨S, s3, k1, k2, e⟩ => ?_)
  · subst e
    obtain ⟨x, hx, hm, rfl⟩ := lst_get hd'
    have il : i < row.length := (List.getElem?_eq_some_iff.mp hx).1
    have dr : row.drop i = x :: row.drop (i + 1) := by
      rw [List.drop_eq_getElem_cons il]
      rw [List.getElem?_eq_getElem il] at hx
      injection hx with hx
      rw [hx]
    rw [dr] at k2
    have hc : x < S.length ∧ hp S x ≠ [] := by
      by_cases q : x < S.length ∧ hp S x ≠ []
      · exact q
      · unfold Gr.run at k2
        rw [if_neg q] at k2
        cases k2
    unfold Gr.run at k2
    rw [if_pos hc] at k2
    let l := (List.range S.length).filter fun d => decide (hp S d ≠ [])
    have ml : (x : Int) ∈ l.map fun n : Nat => (n : Int) := List.mem_map.mpr ⟨x, List.mem_filter.mpr ⟨List.mem_range.mpr hc.1, by simp [hc.2]⟩, rfl⟩
    have kp : Okf (peckM S x) := (k1.run (r := [x]) (by unfold Gr.run; rw [if_pos hc]; rfl)).1
    refine ⟨_, _, g_name, s_seq (s_no (b_to (b_test (x_op (x_var (d := iD x) rfl) (x_to (x_call (l2 (x_var (d := sD S) rfl) (x_var (d := .lst []) rfl)) ⟨S, k1, rfl, rfl⟩) (iL_ints l)) o_inL)) (by simp only [if_true, decide_eq_true ml]; rfl)) (s_next (s_set (x_call (l2 (x_var (d := sD S) rfl) (x_var (d := iD x) rfl)) ⟨S, x, k1, hc.1, hc.2, rfl, rfl⟩) ⟨peckM S x, .val (iD x), kp, k2, rfl⟩)))⟩
  · subst e
    rw [List.length_map, List.drop_length] at k2
    injection k2 with k2
    subst k2
    exact s_ret (x_var rfl) rfl
theorem b_law_pairs : ∀ ds r, R_law_pairs ds r → EvS K (t_law_pairs K CS CP) (DRet r) (envOf N_law_pairs ds) := by
  rintro ds r ⟨st, ok, rfl, rfl⟩
  have h6 := ok.six
  have hpl : (pairs st.length).length ≤ 15 := prs_le st.length h6
  let part : Nat → List (Nat × Nat) := fun a => (List.range (st.length - (a + 1))).map fun j => (a, a + 1 + j)
  refine s_seq (s_set (x_to (x_ls l_nil) (d' := .lst (((List.range 0).flatMap part).map pD)) rfl) ?_)
  refine s_seq (s_for (i_rngN (n := st.length) (l1 (x_to (x_cb (l1 (x_var (d := sD st) rfl)) c_lenT) (show _ = iD st.length by simp [iD]))) (by omega)) (fun i ρ => i ≤ st.length ∧ ∃ s2, ρ = [.val (sD st), .val (.lst (((List.range i).flatMap part).map pD)), s2, .no]) ⟨Nat.zero_le _, .no, rfl⟩ (fun i d' ρ2 hd' ⟨_, s2, e⟩ => ?_) fun ρ2 ⟨_, s2, e⟩ => ?_)
  · subst e
    obtain ⟨a, ha, hm, rfl⟩ := lst_get hd'
    obtain ⟨ha1, ha2⟩ := List.getElem?_eq_some_iff.mp ha
    simp at ha1 ha2
    subst ha2
    have tk : (List.range (i + 1)).flatMap part = (List.range i).flatMap part ++ part i := by
      rw [List.range_succ, List.flatMap_append]
      simp
    have bl : ∀ k, k ≤ 6 → ((List.range k).flatMap part).length ≤ k * 6 := by
      intro k
      induction k with
      | zero => intro; simp
      | succ k ih =>
        intro h
        have := ih (by omega)
        rw [List.range_succ, List.flatMap_append, List.length_append]
        simp [part] at this ⊢
        omega
    have b1 := bl i (by omega)
    have hr := i_rng2 (K := K) (ρ1 := [Sl.val (sD st), .val (.lst (((List.range i).flatMap part).map pD)), .val (iD i), .no]) (l2 (x_add (x_var (i := 2) (d := iD i) rfl) (x_int (n := 1))) (x_to (x_cb (l1 (x_var (i := 0) (d := sD st) rfl)) c_lenT) (show _ = iD st.length by simp [iD]))) ⟨by omega, by omega, by omega, by omega⟩
    have e2 : rg ((i : Int) + 1) ((st.length : Int) - ((i : Int) + 1)).toNat = (List.range (st.length - (i + 1))).map fun j => iD (i + 1 + j) := by
      unfold rg iD
      rw [show ((st.length : Int) - ((i : Int) + 1)).toNat = st.length - (i + 1) by omega]
      refine List.map_congr_left fun j _ => ?_
      congr 1
      try omega
    rw [e2] at hr
    refine ⟨_, _, g_name, s_set (d := .lst (((List.range (i + 1)).flatMap part).map pD)) (x_to (x_op (x_var (d := .lst (((List.range i).flatMap part).map pD)) rfl) (x_ofN (lc_map (List.range (st.length - (i + 1))) (fun j => iD (i + 1 + j)) (fun j => pD (i, i + 1 + j)) hr (by simp; omega) fun j hj => ⟨_, _, g_name, by decide, ⟨rfl, rfl, rfl, rfl, trivial⟩, x_tp (l2 (x_var (d := iD i) rfl) (x_var rfl))⟩)) (o_cat (by simp at b1 ⊢; omega))) ?_) ⟨by omega, .val (iD i), rfl⟩⟩
    rw [tk, List.map_append]
    simp [part]
  · subst e
    rw [List.length_map, List.length_range]
    exact s_ret (x_var rfl) rfl
theorem b_law_key : ∀ ds r, R_law_key ds r → EvS K (t_law_key K CS CP) (DRet r) (envOf N_law_key ds) := by
  rintro ds r ⟨st, ok, rfl, rfl⟩
  have h6 := ok.six
  have hpl : (pairs st.length).length ≤ 15 := prs_le st.length h6
  refine s_seq (s_set (d := iL (dueM st.length st)) (x_to (x_ofN (lc_map (pairs st.length) pD (fun p => iD (cut st p.1 p.2)) (i_list (x_call (d := pL st.length) (l1 (x_var (d := sD st) rfl)) ⟨st, ok, rfl, rfl⟩)) (by omega) fun p hp => ?_)) (by simp [iL, dueM])) ?_)
  · have := pairs_mem.mp (show (p.1, p.2) ∈ pairs st.length from hp)
    exact ⟨_, _, g_tup (ds := [iD p.1, iD p.2]) (gs_cons g_name (gs_cons g_name gs_nil)) rfl, by decide, ⟨rfl, rfl, rfl, rfl, rfl, rfl, rfl, trivial⟩, x_to (x_cb (l1 (x_call (d := wD (held st p.1 p.2)) (l3 (x_var (d := sD st) rfl) (x_var (d := iD p.1) rfl) (x_var (d := iD p.2) rfl)) ⟨st, p.1, p.2, ok, by omega, by omega, rfl, rfl⟩)) c_lenT) (by unfold cut iD; rw [List.length_map])⟩
  refine s_ret (x_tp (l2 (x_var (d := iL (dueM st.length st)) rfl) (x_to (x_ofN (lc_map st hD (fun h => iL (abouts h)) (i_tup (x_var (d := sD st) rfl)) (by omega) fun h hm => ?_)) (d' := iLL (st.map abouts)) (by simp [iLL])))) rfl
  have h9 := ok.nine
  have : h.length ≤ grudges st := mem_le_sum (List.mem_map_of_mem hm)
  exact ⟨_, _, g_name, by decide, ⟨rfl, rfl, rfl, rfl, rfl, rfl, rfl, trivial⟩, x_to (x_ofN (lc_map h gD (fun g => iD g.1) (i_tup (x_var (d := hD h) rfl)) (by omega) fun g hg => ⟨_, _, g_tup (ds := [iD g.1, .str g.2]) (gs_cons g_name (gs_cons g_name gs_nil)) rfl, by decide, ⟨rfl, rfl, rfl, rfl, rfl, rfl, rfl, trivial⟩, x_var (d := iD g.1) rfl⟩)) (by simp [iL, abouts])⟩
theorem en_map {α : Type} (l : List α) (f : α → Dt) : en (l.map f) = l.zipIdx.map fun p => .tup [iD p.2, f p.1] := by
  unfold en
  rw [List.zipIdx_map, List.map_map]
  rfl
theorem foldC_len : ∀ (rest : List Int) (k : Nat) (c : List Int), (foldC rest k c).length = c.length
  | [], _, _ => rfl
  | x :: r, k, c => by
    unfold foldC
    rw [foldC_len r, List.length_set]
theorem cellsM_len (s : List Int) : (cellsM s).length ≤ 2 := by
  unfold cellsM
  rw [foldC_len]
  split
  · simp
  · simp; omega
theorem box_ok (c : Int) {k : Nat} (h : k < 2) : BxOk 10 (boxM c k) := by
  unfold BxOk boxM
  refine ⟨?_, Nat.zero_le _⟩
  show (c % 2305843009213693951).toNat + 15485863 * k + 11 < 4000000000000000000
  omega
theorem b_law : ∀ s ds r s', R_law s ds r s' → EvS K (t_law K CS CP) (SRet r s') (s :: envOf N_law.tail ds) := by
  rintro s ds r s' ⟨a, ns, hs, rfl, rfl, rfl, rfl⟩
  refine s_seq (s_set (d := .lst ((cellsM ns).map .int)) (x_callS (s0 := .res (scR a ns)) (s := .res (scR a ns)) (s' := .res (scR a ns)) rfl rfl (l1 (x_int (n := 2))) rfl rfl rfl rfl ⟨a, ns, hs, rfl, rfl, rfl, rfl⟩) ?_)
  have h2 := cellsM_len ns
  refine s_ret (x_to (x_allR (ns := (List.range (cellsM ns).length).map fun _ => true) (r_val (x_to (x_ofN (lc_map (List.range (cellsM ns).length) iD (fun _ => .bl true) (i_rngN (l1 (x_to (x_cb (l1 (x_var (i := 1) (d := .lst ((cellsM ns).map .int)) rfl)) c_lenL) (d' := iD (cellsM ns).length) (by simp [iD]))) (by omega)) (by simp; omega) fun k hk => ?_)) (by simp)))) (by simp)) ⟨rfl, 0, rfl⟩
  have hk := List.mem_range.mp hk
  exact ⟨_, _, g_name, by decide, ⟨⟨rfl, _, rfl, rfl, rfl⟩, rfl, rfl, trivial⟩, x_callSN (n_call (l2 (x_var (d := .lst ((cellsM ns).map .int)) rfl) (x_var (d := iD k) rfl)) ⟨cellsM ns, k, (cellsM ns)[k], List.getElem?_eq_getElem hk, by omega, rfl, rfl⟩) fun p => ⟨p, boxM (cellsM ns)[k] k, box_ok _ (by omega), rfl, rfl, rfl, rfl⟩⟩
theorem b_law_can : ∀ ds r, R_law_can ds r → EvS K (t_law_can K CS CP) (DRet r) (envOf N_law_can ds) := by
  rintro ds r ⟨st, ok, rfl, rfl⟩
  have h6 := ok.six
  have e : en (st.map hD) = (List.range st.length).map fun d => .tup [iD d, hD (hp st d)] := by
    unfold en
    apply List.ext_getElem
    · simp
    · intro i h1 h2
      simp at h1 h2
      simp [iD, hp, h1]
  refine s_ret (x_to (x_ofN (lc_run (List.range st.length) (fun d => .tup [iD d, hD (hp st d)]) (fun d => decide (hp st d ≠ [])) iD (by rw [← e]; exact i_enumT (l1 (x_var (d := sD st) rfl))) (by simp; omega) fun d hd => ?_)) rfl) rfl
  refine ⟨_, _, g_tup (gs_cons g_name (gs_cons g_name gs_nil)) rfl, by decide, ⟨rfl, rfl, rfl, rfl, trivial⟩, b_to (b_and (b_test (x_op (x_var (d := hD (hp st d)) rfl) (x_tp l_nil) (o_neT0 (n := 3) ?_))) fun _ => b_test (x_op (x_var (d := iD d) rfl) (x_var (d := .lst []) rfl) (o_inL (ns := [])))) ?_, fun _ => x_var (d := iD d) rfl⟩
  · unfold Pl
    exact PlAll.of fun d' hd' => by
      obtain ⟨g, hg, rfl⟩ := List.mem_map.mp hd'
      have := ok.words d g hg
      unfold gD iD Pl PlAll
      refine ⟨by unfold Pl; trivial, ?_⟩
      unfold PlAll
      exact ⟨by unfold Pl; exact this, by unfold PlAll; trivial⟩
  · cases hp st d <;> simp
theorem b_law_take : ∀ s ds r s', R_law_take s ds r s' → EvS K (t_law_take K CS CP) (SRet r s') (s :: envOf N_law_take.tail ds) := by
  rintro s ds r s' ⟨p, b, m, ⟨hb1, hb2⟩, hm0, hm1, rfl, rfl, rfl, rfl⟩
  refine s_seq (s_if (b := decide (0 < b.1)) (b_to (b_test (x_gt (x_ixR (r_own (i := 0) (ds := bxL b) rfl) (x_int (n := 0)) (at_n (i := 0) (d := iD b.1) rfl)) (x_int (n := 0)))) (by simp)) (fun hb => ?_) (fun hb => ?_))
  · have pos := of_decide_eq_true hb
    have e : takeM b m = (b.1 % m, (b.1 / m, b.2.1, b.2.2)) := by unfold takeM; rw [if_pos pos]
    rw [e]
    refine s_seq (s_set (d := iD (b.1 % m)) (x_to (x_op (x_ixR (r_own (i := 0) (ds := bxL b) rfl) (x_int (n := 0)) (at_n (i := 0) (d := iD b.1) rfl)) (x_var (d := iD m) rfl) (o_I (d := .int ((b.1 : Int) % (m : Int))) (by omega) fun _ => rfl)) rfl) ?_)
    refine s_seq (s_setL (j := 0) (d := iD (b.1 / m)) (x_to (x_op (x_ixR (r_own (i := 0) (ds := bxL b) rfl) (x_int (n := 0)) (at_n (i := 0) (d := iD b.1) rfl)) (x_var (d := iD m) rfl) (o_I (d := .int ((b.1 : Int) / (m : Int))) ⟨by omega, by omega⟩ fun _ => rfl)) rfl) rfl (x_int (n := 0)) (by simp [bxL]) ?_)
    exact s_ret (x_var rfl) ⟨rfl, 0, rfl⟩
  · have neg := of_decide_eq_false hb
    have e : takeM b m = (mixC b / 1048576 % m, (b.1, b.2.1, b.2.2 + 1)) := by unfold takeM; rw [if_neg neg]
    rw [e]
    refine s_next ?_
    refine s_seq (s_setL (j := 2) (d := iD (b.2.2 + 1)) (x_to (x_add (x_ixR (r_own (i := 0) (ds := bxL b) rfl) (x_int (n := 2)) (at_n (i := 2) (d := iD b.2.2) rfl)) (x_int (n := 1))) rfl) rfl (x_int (n := 2)) (by simp [bxL]) ?_)
    have g1 : ∀ ρ : Env, ρ[0]? = some (.own p (bxL (b.1, b.2.1, b.2.2 + 1))) → EvX K (tOp (rIxL K) (tVar 0) (tC (.int 1))) ρ (iD b.2.1) ρ := fun ρ h => x_ixR (r_own h) (x_int (n := 1)) (at_n (i := 1) (d := iD b.2.1) rfl)
    have g2 : ∀ ρ : Env, ρ[0]? = some (.own p (bxL (b.1, b.2.1, b.2.2 + 1))) → EvX K (tOp (rIxL K) (tVar 0) (tC (.int 2))) ρ (iD (b.2.2 + 1)) ρ := fun ρ h => x_ixR (r_own h) (x_int (n := 2)) (at_n (i := 2) (d := iD (b.2.2 + 1)) rfl)
    have la : mixA b < 2305843009213693951 := Nat.mod_lt _ (by decide)
    have lb : mixB b < 2305843009213693921 := Nat.mod_lt _ (by decide)
    refine s_seq (s_set (d := iD (mixA b)) (x_to (x_op (x_add (g1 _ rfl) (x_to (x_op (x_int (n := 1442695040888963407)) (g2 _ rfl) (o_I (d := .int (1442695040888963407 * ((b.2.2 + 1 : Nat) : Int))) (.inl ⟨by decide, by decide⟩) fun _ => rfl)) rfl)) (x_int (n := 2305843009213693951)) (o_I (d := .int (((b.2.1 : Int) + 1442695040888963407 * ((b.2.2 + 1 : Nat) : Int)) % 2305843009213693951)) (by decide) fun _ => rfl)) (by unfold mixA iD; simp only [Int.natCast_emod, Int.natCast_add, Int.natCast_mul]; rfl)) ?_)
    refine s_seq (s_set (d := iD (mixB b)) (x_to (x_op (x_add (x_add (x_to (x_op (x_var (d := iD (mixA b)) rfl) (x_var (d := iD (mixA b)) rfl) (o_I (d := .int ((mixA b : Int) * (mixA b : Int))) (.inl ⟨by omega, by omega⟩) fun _ => rfl)) rfl) (x_to (x_op (x_int (n := 39373)) (g2 _ rfl) (o_I (d := .int (39373 * ((b.2.2 + 1 : Nat) : Int))) (.inl ⟨by decide, by decide⟩) fun _ => rfl)) rfl)) (x_int (n := 7))) (x_int (n := 2305843009213693921)) (o_I (d := .int (((mixA b : Int) * (mixA b : Int) + 39373 * ((b.2.2 + 1 : Nat) : Int) + 7) % 2305843009213693921)) (by decide) fun _ => rfl)) (by unfold mixB iD; simp only [Int.natCast_emod, Int.natCast_add, Int.natCast_mul]; rfl)) ?_)
    have lc : mixC b < 2305843009213693907 := Nat.mod_lt _ (by decide)
    refine s_seq (s_set (d := iD (mixC b)) (x_to (x_op (x_add (x_to (x_op (x_var (d := iD (mixB b)) rfl) (x_add (x_to (x_op (x_var (d := iD (mixB b)) rfl) (x_int (n := 65536)) (o_I (d := .int ((mixB b : Int) / 65536)) ⟨by omega, by decide⟩ fun _ => rfl)) rfl) (x_int (n := 3))) (o_I (d := .int ((mixB b : Int) * ((mixB b : Int) / 65536 + 3))) (.inl ⟨by omega, by omega⟩) fun _ => rfl)) rfl) (g2 _ rfl)) (x_int (n := 2305843009213693907)) (o_I (d := .int (((mixB b : Int) * ((mixB b : Int) / 65536 + 3) + ((b.2.2 + 1 : Nat) : Int)) % 2305843009213693907)) (by decide) fun _ => rfl)) (by unfold mixC iD; simp only [Int.natCast_emod, Int.natCast_add, Int.natCast_mul, Int.natCast_ediv]; rfl)) ?_)
    refine s_ret (x_to (x_op (x_to (x_op (x_var (d := iD (mixC b)) rfl) (x_int (n := 1048576)) (o_I (d := .int ((mixC b : Int) / 1048576)) ⟨by omega, by decide⟩ fun _ => rfl)) rfl) (x_var (d := iD m) rfl) (o_I (d := .int ((mixC b : Int) / 1048576 % (m : Int))) (by omega) fun _ => rfl)) rfl) ⟨by simp only [iD, Int.natCast_emod, Int.natCast_ediv]; rfl, 0, rfl⟩
theorem b_law_box : ∀ vs H Q X, spN K R_law_box vs H Q X → t_law_box K CS CP { nx := fun _ H' => Q .non H', rt := Q } (L2.start N_law_box vs) H := fun vs H Q X h => by
  refine body_N (fun ds rs hR => ?_) h
  obtain ⟨cs, k, c, hc, hk, rfl, rfl⟩ := hR
  let ρ1 : Env := [.val (.lst (cs.map .int)), .val (iD k), .val (.int c)]
  have e1 : (if c < 0 then -c else c) = ((c.natAbs : Nat) : Int) := by split <;> omega
  have ab : EvX K (tCB cAbs (tCons (tVar 2) tNil)) ρ1 (iD c.natAbs) ρ1 := x_to (x_cb (l1 (x_var (d := .int c) rfl)) c_abs) (by rw [e1]; rfl)
  refine ⟨ρ1, ρ1, s_set (d := .int c) (x_ixLn (x_var (d := .lst (cs.map .int)) rfl) (x_var (d := iD k) rfl) (by rw [List.getElem?_map, hc]; rfl)) rfl, ?_⟩
  refine n_ls (l3 (x_to (x_op ab (x_cb (l1 (x_op ab (x_op (x_int (n := 10)) (x_int (n := 18)) (o_I (d := .int (10 ^ 18)) ⟨by decide, by decide, by decide⟩ fun _ => rfl)) (o_I0 (d := .bl (decide ((10 ^ 18 : Int) ≤ (c.natAbs : Nat)))) fun _ => rfl))) c_intB) (o_I (d := .int ((c.natAbs : Int) * (if decide ((10 ^ 18 : Int) ≤ (c.natAbs : Nat)) then 1 else 0))) (.inr (by split <;> exact ⟨by decide, by decide⟩)) fun _ => rfl)) ?_) (x_to (x_add (x_add (x_op (x_var (d := .int c) rfl) (x_int (n := 2305843009213693951)) (o_I (d := .int (c % 2305843009213693951)) (by decide) fun _ => rfl)) (x_op (x_int (n := 15485863)) (x_var (d := iD k) rfl) (o_I (d := .int (15485863 * (k : Int))) (.inl ⟨by decide, by decide⟩) fun _ => rfl))) (x_int (n := 11))) ?_) (x_int (n := 0)))
  · by_cases q : (1000000000000000000 : Nat) ≤ c.natAbs
    · have : decide ((10 ^ 18 : Int) ≤ (c.natAbs : Nat)) = true := decide_eq_true (by omega)
      rw [this]
      simp [boxM, q, iD]
    · have : decide ((10 ^ 18 : Int) ≤ (c.natAbs : Nat)) = false := decide_eq_false (by omega)
      rw [this]
      simp [boxM, q, iD]
  · unfold boxM iD
    congr 1
    show _ = (((c % 2305843009213693951).toNat + 15485863 * k + 11 : Nat) : Int)
    omega
end
end Gr
/-! the law's own defs, second part -/
namespace Gr
open PySem PySem.Spec PyProof.Rows L2
section
variable {K : PySem.W.Frag} {CS CP : Addr} {ρ ρ1 ρ2 : Env} {d : Dt} {E : De} {ds es : List Dt} {ta tb : TE}
theorem n_orT (ha : EvN K ta ρ ds ρ1) (hb : EvN K tb ρ1 es ρ1) : EvN K (tOrT K ta tb) ρ (if ds.isEmpty then es else ds) ρ1 := fun Fb Hb F H σ I Q q =>
  ha Fb Hb F H σ I _ fun p xs F1 H1 I1 e1 f1 f2 f3 h1 h2 => by
    refine ⟨!xs.isEmpty, .inl ⟨xs, Evl.sq_of h1, rfl⟩, ?_⟩
    cases ds with
    | nil =>
      have : xs = [] := List.eq_nil_of_length_eq_zero (by rw [h2.len]; rfl)
      subst this
      exact hb Fb Hb F1 H1 σ I1 _ fun p2 xs2 F2 H2 I2 e2 g1 g2 g3 k1 k2 => q p2 xs2 F2 H2 I2 (e1.trans e2) g1 g2 g3 k1 k2
    | cons d ds =>
      cases xs with
      | nil => have := h2.len; simp at this
      | cons x xs => exact q p _ F1 H1 I1 e1 f1 f2 f3 h1 h2
theorem cut_ft (xs : List Dt) (a b : Nat) : cutD xs (some (a : Int)) (some (b : Int)) = (xs.take b).drop a := by
  unfold cutD
  rw [HT.sIx_nat, HT.sIx_nat, List.drop_take]
  by_cases h : a ≤ xs.length
  · rw [Nat.min_eq_left h]
    by_cases h2 : b ≤ xs.length
    · rw [Nat.min_eq_left h2]
    · rw [Nat.min_eq_right (by omega), List.take_of_length_le (by rw [List.length_drop]; omega), List.take_of_length_le (by rw [List.length_drop]; omega)]
  · rw [Nat.min_eq_right (show xs.length ≤ a by omega), List.drop_of_length_le (Nat.le_refl _), List.drop_of_length_le (show xs.length ≤ a by omega)]
    simp
theorem x_slQ {i : Nat} {a : Addr} {ns : List Int} {tl th : TO} {lo hi : Option Int} (h0 : ρ[i]? = some (.res (scR a ns))) (h1 : EvO K tl ρ lo) (h2 : EvO K th ρ hi) : EvX K (tSl (rSlL K) (tVar i) tl th) ρ (.lst (cutD (ns.map .int) lo hi)) ρ := fun Fb Hb F H σ I Q q => by
  obtain ⟨g1, _, g3⟩ := I.res i _ h0
  have g3 : SqL K F a (ns.map V.int) := g3
  refine ⟨.ref a, g1 _ rfl, h1 Fb Hb F H σ I _ fun F2 H2 I2 e2 => h2 Fb Hb F2 H2 σ I2 _ fun F3 H3 I3 e3 => ?_⟩
  refine ⟨a, ns.map V.int, rfl, Evl.ex_l I3.fh (Evl.ex_l (e2.trans e3) g3), fun p hp => ?_⟩
  have g := Gw.new (o := .lst (cutV (ns.map V.int) lo hi)) I3.fh hp
  exact q _ _ _ (I3.grow g) ((e2.trans e3).trans g.ff) ⟨p, _, rfl, upd_same, (DaAll.of_ints ns).cut⟩
theorem b_law_cells : ∀ s ds r s', R_law_cells s ds r s' → EvS K (t_law_cells K CS CP) (SRet r s') (s :: envOf N_law_cells.tail ds) := by
  rintro s0 ds r s' ⟨a0, s, hs, rfl, rfl, rfl, rfl⟩
  let c0 : List Int := if s.take 2 = [] then [0] else s.take 2
  let rest : List Int := (s.take 63).drop 2
  have hc0 : (if (cutD (s.map Dt.int) none (some 2)).isEmpty = true then [Dt.int 0] else cutD (s.map Dt.int) none (some 2)) = c0.map .int := by
    have := cut_to (s.map Dt.int) 2
    rw [show ((2 : Nat) : Int) = 2 from rfl] at this
    rw [this, ← List.map_take]
    show _ = (if s.take 2 = [] then [0] else s.take 2).map Dt.int
    cases s.take 2 <;> simp
  have n1 := n_orT (K := K) (ρ := .res (scR a0 s) :: envOf N_law_cells.tail [.int 2]) (n_listR (r_val (x_slQ (i := 0) (a := a0) (ns := s) rfl p_none (p_some (x_var (i := 1) (d := .int 2) rfl))))) (n_ls (l1 (x_int (n := 0))))
  rw [hc0] at n1
  refine s_seq (s_setN n1 fun p => ?_)
  refine s_seq (s_for (i_enumL (l1 (x_to (x_slQ (i := 0) (a := a0) (ns := s) rfl (p_some (x_var (i := 1) (d := .int 2) rfl)) (p_some (x_int (n := 63)))) (d' := .lst (rest.map .int)) ?_))) (fun i ρ => ∃ (c : List Int) (s3 s4 : Sl), foldC rest 0 c0 = foldC (rest.drop i) i c ∧ c.length = c0.length ∧ ρ = [.res (scR a0 s), .val (.int 2), .own p (c.map .int), s3, s4]) ⟨c0, .no, .no, rfl, rfl, rfl⟩ (fun i d' ρ2 hd' ⟨c, s3, s4, k1, k2, e⟩ => ?_) fun ρ2 ⟨c, s3, s4, k1, k2, e⟩ => ?_)
  · have := cut_ft (s.map Dt.int) 2 63
    rw [show ((2 : Nat) : Int) = 2 from rfl, show ((63 : Nat) : Int) = 63 from rfl] at this
    rw [this, ← List.map_take, ← List.map_drop]
  · subst e
    obtain ⟨d2, hd2, rfl⟩ := en_get hd'
    obtain ⟨x, hx, hm, rfl⟩ := lst_get hd2
    have il : i < rest.length := (List.getElem?_eq_some_iff.mp hx).1
    have dr : rest.drop i = x :: rest.drop (i + 1) := by
      rw [List.drop_eq_getElem_cons il]
      rw [List.getElem?_eq_getElem il] at hx
      injection hx with hx
      rw [hx]
    rw [dr] at k1
    have rl : rest.length ≤ 61 := by simp [rest]; omega
    have sl : 2 < s.length := by
      have : rest.length = min 63 s.length - 2 := by simp [rest]
      omega
    have cl : c.length = 2 := by
      rw [k2]
      show (if s.take 2 = [] then [0] else s.take 2).length = 2
      have : (s.take 2).length = 2 := by rw [List.length_take]; omega
      rw [if_neg (fun z => by rw [z] at this; cases this)]
      exact this
    have gk : (c.map Dt.int)[i % 2]? = some (.int (c.getD (i % 2) 0)) := by
      rw [List.getElem?_map, List.getD_eq_getElem?_getD, List.getElem?_eq_getElem (by omega)]
      rfl
    let ρ' : Env := [.res (scR a0 s), .val (.int 2), .own p (c.map .int), .val (iD i), .val (.int x)]
    have xk : EvX K (tOp (rI (fun _ j => 0 < j) fun i j => .int (i % j)) (tVar 3) (tVar 1)) ρ' (.int (i % 2 : Nat)) ρ' := x_to (x_op (x_var (d := iD i) rfl) (x_var (d := .int 2) rfl) (o_I (d := .int ((i : Int) % 2)) (by decide) fun _ => rfl)) (by simp)
    refine ⟨ρ', _, g_tup (gs_cons g_name (gs_cons g_name gs_nil)) rfl, s_setL (j := i % 2) (d := .int (c.getD (i % 2) 0 + x * ((i : Int) + 2))) (x_add (x_ixR (r_own rfl) xk (at_n gk)) (x_op (x_var (d := .int x) rfl) (x_add (x_var (d := iD i) rfl) (x_int (n := 2))) (o_I (d := .int (x * ((i : Int) + 2))) (.inr ⟨by omega, by omega⟩) fun _ => rfl))) rfl xk (by rw [List.length_map]; omega) ⟨c.set (i % 2) (c.getD (i % 2) 0 + x * ((i : Int) + 2)), .val (iD i), .val (.int x), ?_, by rw [List.length_set]; exact k2, ?_⟩⟩
    · rw [k1]
      rfl
    · rw [List.map_set]
      rfl
  · subst e
    rw [en_len, List.length_map, List.drop_length] at k1
    refine s_retOwn rfl ⟨?_, 0, rfl⟩
    show Dt.lst (c.map .int) = .lst ((foldC rest 0 c0).map .int)
    rw [k1]
    rfl
theorem Okf.lineW {st : Sg} (ok : Okf st) {a b : Nat} {x : Str} (h : x ∈ line st a b) : PyData.strOk x = true := by
  unfold line at h
  rcases List.mem_append.mp h with h | h
  · obtain ⟨g, h1, h2⟩ := held_mem h
    rw [← h2]
    exact ok.words _ _ h1
  · obtain ⟨g, h1, h2⟩ := held_mem (List.mem_reverse.mp h)
    rw [← h2]
    exact ok.words _ _ h1
theorem pl_cut {w : List Str} (h : ∀ x ∈ w, PyData.strOk x = true) (lo hi : Option Int) : Pl 1 (.tup (cutD (w.map .str) lo hi)) := by
  unfold Pl
  refine PlAll.of fun d hd => ?_
  unfold cutD at hd
  obtain ⟨x, hx, rfl⟩ := List.mem_map.mp (List.mem_of_mem_drop (List.mem_of_mem_take hd))
  unfold Pl
  exact h x hx
theorem b_law_lines_apart : ∀ ds r, R_law_lines_apart ds r → EvS K (t_law_lines_apart K CS CP) (DRet r) (envOf N_law_lines_apart ds) := by
  rintro ds r ⟨s, t, al, rfl, rfl⟩
  refine s_seq (s_for (i_list (x_call (d := pL s.length) (l1 (x_var (d := sD s) rfl)) ⟨s, al.ok1, rfl, rfl⟩)) (fun _ ρ => ∃ s2 s3 s4 s5 s6, ρ = [.val (sD s), .val (sD t), s2, s3, s4, s5, s6]) ⟨.no, .no, .no, .no, .no, rfl⟩ (fun i d ρ2 hd ⟨s2, s3, s4, s5, s6, e⟩ => ?_) fun ρ2 ⟨s2, s3, s4, s5, s6, e⟩ => ?_)
  · subst e
    obtain ⟨p, _, hp, rfl⟩ := lst_get hd
    obtain ⟨h1, h2⟩ := mem_pairs hp
    have g1 := al.ok1.held p.1 p.2
    have g2 := al.ok1.held p.2 p.1
    have wl : (line s p.1 p.2).length ≤ 18 := by
      unfold line
      rw [List.length_append, List.length_reverse]
      omega
    have e2 : wD (line t p.1 p.2) = wD (line s p.1 p.2) := by rw [al.lines]
    refine ⟨_, _, g_tup (ds := [iD p.1, iD p.2]) (gs_cons g_name (gs_cons g_name gs_nil)) rfl, s_seq (s_parVV (d1 := wD (line s p.1 p.2)) (d2 := wD (line s p.1 p.2)) (x_call (l3 (x_var (d := sD s) rfl) (x_var (d := iD p.1) rfl) (x_var (d := iD p.2) rfl)) ⟨s, p.1, p.2, al.ok1, by omega, h2, rfl, rfl⟩) (x_to (x_call (l3 (x_var (d := sD t) rfl) (x_var (d := iD p.1) rfl) (x_var (d := iD p.2) rfl)) ⟨t, p.1, p.2, al.ok2, by rw [← al.len]; omega, by rw [← al.len]; omega, rfl, rfl⟩) e2) ?_)⟩
    have xl : ∀ (j : Nat) (ρ : Env), ρ[j]? = some (.val (wD (line s p.1 p.2))) → EvX K (tCB (cLen K) (tCons (tVar j) tNil)) ρ (.int (line s p.1 p.2).length) ρ := fun j ρ h => x_to (x_cb (l1 (x_var h)) c_lenT) (by rw [List.length_map])
    refine s_for (i_rngN (n := (line s p.1 p.2).length) (l1 (x_to (x_cb (l2 (xl 5 _ rfl) (xl 6 _ rfl)) c_max2) (show _ = iD (line s p.1 p.2).length by simp [iD]))) (by omega)) (fun _ ρ => ∃ q4, ρ = [.val (sD s), .val (sD t), .val (iD p.1), .val (iD p.2), q4, .val (wD (line s p.1 p.2)), .val (wD (line s p.1 p.2))]) ⟨s4, rfl⟩ (fun k d ρ2 hd ⟨q4, e⟩ => ?_) fun ρ2 ⟨q4, e⟩ => ?_
    · subst e
      obtain ⟨a, _, _, rfl⟩ := lst_get hd
      let ρ' : Env := [.val (sD s), .val (sD t), .val (iD p.1), .val (iD p.2), .val (iD a), .val (wD (line s p.1 p.2)), .val (wD (line s p.1 p.2))]
      have sl : ∀ j : Nat, ρ'[j]? = some (.val (wD (line s p.1 p.2))) → EvX K (tSl (rSlA K) (tVar j) (tPart (tVar 4)) (tPart (tOp (rI0 fun i j => .int (i + j)) (tVar 4) (tC (.int 1))))) ρ' (.tup (cutD ((line s p.1 p.2).map .str) (some (a : Int)) (some ((a : Int) + 1)))) ρ' := fun j h => x_slT (x_var h) (p_some (x_var (d := iD a) rfl)) (p_some (x_add (x_var (d := iD a) rfl) (x_int (n := 1))))
      exact ⟨ρ', _, g_name, s_no (b_to (b_test (x_op (sl 5 rfl) (sl 6 rfl) (o_neS (n := 1) (pl_cut (fun x hx => al.ok1.lineW hx) _ _)))) rfl) (s_next ⟨.val (iD a), rfl⟩)⟩
    · subst e
      exact ⟨.val (iD p.1), .val (iD p.2), q4, .val (wD (line s p.1 p.2)), .val (wD (line s p.1 p.2)), rfl⟩
  · subst e
    exact s_ret x_non rfl
end
end Gr
/-! the law's own defs, third part: a room is drawn -/
namespace Gr
open PySem PySem.Spec PyProof.Rows L2
section
variable {K : PySem.W.Frag} {CS CP : Addr} {ρ ρ1 ρ2 : Env} {d : Dt} {E : De} {ds es : List Dt} {ta tb te : TE}
theorem x_take {p : Addr} {b : Bx} {m : Nat} (h0 : ρ[0]? = some (bxS p b)) (h : EvX K te ρ (iD m) ρ) (hb : BxOk 1000000 b) (h1 : 0 < m) (h2 : m < 1073741824) : EvX K (tCall (sp_law_take K) [] C8.E0 (tCons (tVar 0) (tCons te tNil))) ρ (iD (takeM b m).1) (ρ.set 0 (bxS p (takeM b m).2)) :=
  x_callS (s0 := bxS p b) (s := bxS p b) (s' := bxS p (takeM b m).2) h0 rfl (l1 h) h0 rfl rfl rfl ⟨p, b, m, hb, h1, h2, rfl, rfl, rfl, rfl⟩
theorem BxOk.up {n m : Nat} {b : Bx} (h : BxOk n b) (l : n ≤ m) : BxOk m b := ⟨h.1, Nat.le_trans h.2 l⟩
/-- a room behind some turns -/
structure Rm (n i : Nat) (x : Sg × Bx) : Prop where
  len : x.1.length = n
  ok : Okn n x.1
  gr : grudges x.1 ≤ i
  wd : ∀ d, ∀ g ∈ hp x.1 d, PyData.strOk g.2 = true
theorem W8_ok : ∀ i, i < 8 → PyData.strOk (W8.getD i "") = true := by decide +kernel
theorem Rm.zero (n : Nat) (b : Bx) : Rm n 0 (List.replicate n [], b) := by
  have e : ∀ d, hp (List.replicate n ([] : List (Nat × Str))) d = [] := fun d => by
    unfold hp
    rw [List.getD_eq_getElem?_getD, List.getElem?_replicate]
    split <;> rfl
  refine ⟨by simp, ⟨by simp, fun d g hg => by rw [e] at hg; cases hg⟩, ?_, fun d g hg => by rw [e] at hg; cases hg⟩
  have : ∀ k, (List.replicate k 0).sum = 0 := fun k => by
    induction k with
    | zero => rfl
    | succ k ih => rw [List.replicate_succ, List.sum_cons, ih]
  unfold grudges
  rw [List.map_replicate]
  show (List.replicate n 0).sum ≤ 0
  rw [this]
  exact Nat.le_refl _
theorem whom_ok {n a c : Nat} (h : a < n) (hc : c < n - 1) : (a + 1 + c) % n < n ∧ (a + 1 + c) % n ≠ a := by
  refine ⟨Nat.mod_lt _ (by omega), ?_⟩
  by_cases q : a + 1 + c < n
  · rw [Nat.mod_eq_of_lt q]
    omega
  · have e : (a + 1 + c) % n = a + 1 + c - n := by
      rw [Nat.mod_eq_sub_mod (by omega), Nat.mod_eq_of_lt (by omega)]
    rw [e]
    omega
theorem Rm.turn {n i : Nat} {x : Sg × Bx} (h : Rm n i x) (h2 : 1 < n) : Rm n (i + 1) (turnM n x) := by
  have l1 := takeM_lt x.2 (m := n) (by omega)
  have l2 := takeM_lt (takeM x.2 n).2 (m := n - 1) (by omega)
  have l3 := takeM_lt (takeM (takeM x.2 n).2 (n - 1)).2 (m := 8) (by omega)
  obtain ⟨w1, w2⟩ := whom_ok l1 l2
  have hd : (takeM x.2 n).1 < x.1.length := by rw [h.len]; exact l1
  have hx : ∀ e, hp (turnM n x).1 e = if (takeM x.2 n).1 = e then hp x.1 (takeM x.2 n).1 ++ [(((takeM x.2 n).1 + 1 + (takeM (takeM x.2 n).2 (n - 1)).1) % n, W8.getD (takeM (takeM (takeM x.2 n).2 (n - 1)).2 8).1 "")] else hp x.1 e := fun e => hp_set _ _ _ _ hd
  have hl : (turnM n x).1.length = n := by
    show (x.1.set _ _).length = n
    rw [List.length_set, h.len]
  refine ⟨hl, ⟨hl, fun d g hg => ?_⟩, ?_, fun d g hg => ?_⟩
  · rw [hx] at hg
    by_cases q : (takeM x.2 n).1 = d
    · rw [if_pos q] at hg
      rcases List.mem_append.mp hg with hg | hg
      · rw [q] at hg
        exact h.ok.2 d g hg
      · rw [List.mem_singleton.mp hg, ← q]
        exact ⟨w1, w2⟩
    · rw [if_neg q] at hg
      exact h.ok.2 d g hg
  · have := grudges_set (st := x.1) (d := (takeM x.2 n).1) (h := hp x.1 (takeM x.2 n).1 ++ [(((takeM x.2 n).1 + 1 + (takeM (takeM x.2 n).2 (n - 1)).1) % n, W8.getD (takeM (takeM (takeM x.2 n).2 (n - 1)).2 8).1 "")]) hd
    rw [List.length_append, List.length_singleton] at this
    show grudges (x.1.set _ _) ≤ i + 1
    have g := h.gr
    omega
  · rw [hx] at hg
    by_cases q : (takeM x.2 n).1 = d
    · rw [if_pos q] at hg
      rcases List.mem_append.mp hg with hg | hg
      · exact h.wd _ g hg
      · rw [List.mem_singleton.mp hg]
        exact W8_ok _ l3
    · rw [if_neg q] at hg
      exact h.wd d g hg
theorem turn_box {n k : Nat} {x : Sg × Bx} (h : BxOk k x.2) : BxOk (k + 3) (turnM n x).2 := takeM_ok (takeM_ok (takeM_ok h n) (n - 1)) 8
theorem manyM_bd (b : Bx) : 1 ≤ manyM b ∧ manyM b ≤ 6 := by
  have := takeM_lt b (m := 6) (by omega)
  unfold manyM
  omega
theorem turnsM_bd (b : Bx) : (turnsM b).1 ≤ 9 ∧ (0 < (turnsM b).1 → 1 < manyM b) := by
  unfold turnsM
  split
  · next h =>
    have := takeM_lt (takeM b 6).2 (m := 10) (by omega)
    exact ⟨by omega, fun _ => h⟩
  · exact ⟨Nat.zero_le _, fun h => absurd h (Nat.lt_irrefl _)⟩
theorem turnsM_box {n : Nat} {b : Bx} (h : BxOk n b) : BxOk (n + 2) (turnsM b).2 := by
  unfold turnsM
  split
  · exact takeM_ok (takeM_ok h 6) 10
  · exact (takeM_ok h 6).up (by omega)
def turnsR (n i : Nat) (x : Sg × Bx) : Sg × Bx := Nat.repeat (turnM n) i x
theorem turnsR_succ (n i : Nat) (x : Sg × Bx) : turnsR n (i + 1) x = turnM n (turnsR n i x) := rfl
theorem turnsR_ok {n : Nat} {x : Sg × Bx} {k : Nat} (h2 : 1 < n) (h : Rm n 0 x) (hb : BxOk k x.2) : ∀ i, Rm n i (turnsR n i x) ∧ BxOk (k + 3 * i) (turnsR n i x).2
  | 0 => ⟨h, hb⟩
  | i + 1 => by
    obtain ⟨a, c⟩ := turnsR_ok h2 h hb i
    exact ⟨a.turn h2, (turn_box c).up (by omega)⟩
abbrev room0 (b : Bx) : Sg × Bx := (List.replicate (manyM b) [], (turnsM b).2)
theorem roomM_eq (b : Bx) : roomM b = turnsR (manyM b) (turnsM b).1 (room0 b) := rfl
theorem roomI {n : Nat} {b : Bx} (h : BxOk n b) (i : Nat) (hi : i ≤ (turnsM b).1) : Rm (manyM b) i (turnsR (manyM b) i (room0 b)) ∧ BxOk (n + 2 + 3 * i) (turnsR (manyM b) i (room0 b)).2 := by
  by_cases q : 0 < i
  · exact turnsR_ok ((turnsM_bd b).2 (by omega)) (Rm.zero _ _) (turnsM_box h) i
  · have : i = 0 := by omega
    subst this
    exact ⟨Rm.zero _ _, turnsM_box h⟩
theorem room_ok {n : Nat} {b : Bx} (h : BxOk n b) : Okf (roomM b).1 ∧ BxOk (n + 29) (roomM b).2 := by
  obtain ⟨R, B⟩ := roomI h (turnsM b).1 (Nat.le_refl _)
  have h9 := (turnsM_bd b).1
  have hm := manyM_bd b
  rw [roomM_eq]
  refine ⟨⟨by rw [R.len]; exact R.ok, by rw [R.len]; exact hm.1, by rw [R.len]; exact hm.2, Nat.le_trans R.gr h9, R.wd⟩, B.up (by omega)⟩
theorem x_takeE {p : Addr} {b b' : Bx} {m v : Nat} (e : takeM b m = (v, b')) (h0 : ρ[0]? = some (bxS p b)) (h : EvX K te ρ (iD m) ρ) (hb : BxOk 1000000 b) (h1 : 0 < m) (h2 : m < 1073741824) : EvX K (tCall (sp_law_take K) [] C8.E0 (tCons (tVar 0) (tCons te tNil))) ρ (iD v) (ρ.set 0 (bxS p b')) := by
  have := x_take (p := p) h0 h hb h1 h2
  rw [e] at this
  exact this
theorem turnM_of {n : Nat} {x : Sg × Bx} {v1 v2 v3 : Nat} {b1 b2 b3 : Bx} (e1 : takeM x.2 n = (v1, b1)) (e2 : takeM b1 (n - 1) = (v2, b2)) (e3 : takeM b2 8 = (v3, b3)) : turnM n x = (x.1.set v1 (hp x.1 v1 ++ [((v1 + 1 + v2) % n, W8.getD v3 "")]), b3) := by
  unfold turnM
  simp only [e1, e2, e3]
theorem x_wordE {p : Addr} {b b' : Bx} {v : Nat} (e : takeM b 8 = (v, b')) (h0 : ρ[0]? = some (bxS p b)) (hb : BxOk 1000000 b) : EvX K (tCall (sp_law_word K) [] C8.E0 (tCons (tVar 0) tNil)) ρ (.str (W8.getD v "")) (ρ.set 0 (bxS p b')) := by
  have := x_callS (K := K) (ρ := ρ) (X := C8.E0) (R := R_law_word) (d := .str (W8.getD (takeM b 8).1 "")) (s0 := bxS p b) (s := bxS p b) (s' := bxS p (takeM b 8).2) (i := 0) h0 rfl l_nil h0 rfl rfl rfl ⟨p, b, hb, rfl, rfl, rfl, rfl⟩
  rw [e] at this
  exact this
/-- one grudge is drawn and laid -/
theorem room_turn {p q : Addr} {n v1 v2 v3 : Nat} {st : Sg} {b b1 b2 b3 : Bx} {s5 s6 s7 : Sl} (e1 : takeM b n = (v1, b1)) (e2 : takeM b1 (n - 1) = (v2, b2)) (e3 : takeM b2 8 = (v3, b3)) (hb : BxOk 1100 b) (hb1 : BxOk 1101 b1) (hb2 : BxOk 1102 b2) (two : 1 < n) (n6 : n ≤ 6) (hl : st.length = n) (hv : v1 < n) (hg : (hp st v1).length ≤ 9)
    (q1 : ∀ s5 s6 s7 : Sl, E.nx [bxS p b3, .val (.int 6), .val (.int 9), .val (iD n), .own q ((st.set v1 (hp st v1 ++ [((v1 + 1 + v2) % n, W8.getD v3 "")])).map hD), s5, s6, s7]) :
    EvS K (tSeq (tAsg (tCall (sp_law_take K) [] C8.E0 (tCons (tVar 0) (tCons (tVar 3) tNil))) (gName 6))
      (tSeq (tAsg (tOp (rI (fun _ j => 0 < j) fun i j => .int (i % j)) (tOp (rI0 fun i j => .int (i + j)) (tOp (rI0 fun i j => .int (i + j)) (tVar 6) (tC (.int 1))) (tCall (sp_law_take K) [] C8.E0 (tCons (tVar 0) (tCons (tOp (rI0 fun i j => .int (i - j)) (tVar 3) (tC (.int 1))) tNil)))) (tVar 3)) (gName 7))
      (tAsg (tOp (rCatA K) (tOp (rIxL K) (tVar 4) (tVar 6)) (tTup (tCons (tTup (tCons (tVar 7) (tCons (tCall (sp_law_word K) [] C8.E0 (tCons (tVar 0) tNil)) tNil))) tNil))) (gSub (tVar 4) (tVar 6) rSetL)))) E
      [bxS p b, .val (.int 6), .val (.int 9), .val (iD n), .own q (st.map hD), s5, s6, s7] := by
  refine s_seq (s_set (x_takeE e1 rfl (x_var (i := 3) (d := iD n) rfl) (hb.up (by omega)) (by omega) (by omega)) ?_)
  let f1 : Env := [bxS p b1, .val (.int 6), .val (.int 9), .val (iD n), .own q (st.map hD), s5, .val (iD v1), s7]
  show EvS K _ _ f1
  let f2 : Env := [bxS p b2, .val (.int 6), .val (.int 9), .val (iD n), .own q (st.map hD), s5, .val (iD v1), .val (iD ((v1 + 1 + v2) % n))]
  refine s_seq (s_set (ρ1 := f1.set 0 (bxS p b2)) (d := iD ((v1 + 1 + v2) % n)) (x_to (x_op (x_add (x_add (x_var (i := 6) (d := iD v1) rfl) (x_int (n := 1))) (x_takeE e2 rfl (x_to (x_sub (x_var (i := 3) (d := iD n) rfl) (x_int (n := 1))) (by unfold iD; congr 1; omega)) (hb1.up (by omega)) (by omega) (by omega))) (x_var (i := 3) (d := iD n) rfl) (o_I (d := .int (((v1 : Int) + 1 + (v2 : Int)) % (n : Int))) (by omega) fun _ => rfl)) (by unfold iD; simp)) ?_)
  show EvS K _ _ f2
  have gk : (st.map hD)[v1]? = some (hD (hp st v1)) := sD_get (by omega)
  refine s_setL (j := v1) (ρ1 := f2.set 0 (bxS p b3)) (d := hD (hp st v1 ++ [((v1 + 1 + v2) % n, W8.getD v3 "")]))
    (x_to (x_op (x_ixR (r_own (i := 4) (ds := st.map hD) rfl) (x_var (i := 6) (d := iD v1) rfl) (at_n gk)) (x_tp (l1 (x_tp (l2 (x_var (i := 7) (d := iD ((v1 + 1 + v2) % n)) rfl) (x_wordE e3 rfl (hb2.up (by omega))))))) (o_catA (by simp; omega))) (by unfold hD; rw [List.map_append]; rfl))
    rfl (x_var (i := 6) (d := iD v1) rfl) (by rw [List.length_map, hl]; exact hv) ?_
  rw [← List.map_set]
  exact q1 s5 (.val (iD v1)) (.val (iD ((v1 + 1 + v2) % n)))
theorem room_go {p : Addr} {b b0 : Bx} {v0 n tn : Nat} {tb : Bx} (e0 : takeM b 6 = (v0, b0)) (hn : n = 1 + v0) (h1 : 1 < n → takeM b0 10 = (tn, tb)) (h2 : ¬ 1 < n → (tn, tb) = (0, b0)) (X : Nat → Sg × Bx) (hX0 : X 0 = (List.replicate n [], tb)) (hXs : ∀ i, X (i + 1) = turnM n (X i))
    (inv : ∀ i, i ≤ tn → Rm n i (X i) ∧ BxOk 1100 (X i).2) (two : 0 < tn → 1 < n) (n6 : n ≤ 6) (t9 : tn ≤ 9) (hb : BxOk 1000 b) (hb0 : BxOk 1001 b0) :
    EvS K (t_law_room K CS CP) (SRet (sD (X tn).1) (bxS p (X tn).2)) [bxS p b, .val (.int 6), .val (.int 9), .no, .no, .no, .no, .no] := by
  let e0' : Env := [bxS p b, .val (.int 6), .val (.int 9), .no, .no, .no, .no, .no]
  show EvS K (t_law_room K CS CP) _ e0'
  refine s_seq (s_set (ρ1 := e0'.set 0 (bxS p b0)) (d := iD n) (x_to (x_add (x_int (n := 1)) (x_takeE e0 rfl (x_var (i := 1) (d := .int 6) rfl) (hb.up (by omega)) (by omega) (by omega))) (by rw [hn]; unfold iD; simp)) ?_)
  show EvS K _ _ [bxS p b0, .val (.int 6), .val (.int 9), .val (iD n), .no, .no, .no, .no]
  refine s_seq (s_setN (lc_map (List.range n) iD (fun _ => .tup []) (i_rngN (n := n) (l1 (x_var (i := 3) (d := iD n) rfl)) (by omega)) (by simp; omega) fun k _ => ⟨_, _, g_name, by decide, ⟨⟨rfl, _, rfl⟩, rfl, rfl, rfl, rfl, rfl, rfl, rfl, trivial⟩, x_tp l_nil⟩) fun q => ?_)
  have hrep : (List.range n).map (fun _ => Dt.tup []) = (List.replicate n ([] : List (Nat × Str))).map hD := by
    rw [List.map_replicate]
    show _ = List.replicate n (Dt.tup [])
    rw [List.map_const', List.length_range]
  rw [hrep]
  let e2 : Env := [bxS p b0, .val (.int 6), .val (.int 9), .val (iD n), .own q ((List.replicate n ([] : List (Nat × Str))).map hD), .no, .no, .no]
  show EvS K _ _ e2
  let e3 : Env := [bxS p tb, .val (.int 6), .val (.int 9), .val (iD n), .own q ((List.replicate n ([] : List (Nat × Str))).map hD), .no, .no, .no]
  have xt : EvX K (tIf (tTest (tOp (rI0 fun i j => .bl (decide (j < i))) (tVar 3) (tC (.int 1)))) (tCall (sp_law_take K) [] C8.E0 (tCons (tVar 0) (tCons (tOp (rI0 fun i j => .int (i + j)) (tVar 2) (tC (.int 1))) tNil))) (tC (.int 0))) e2 (iD tn) e3 := by
    refine x_if (b := decide (1 < n)) (b_to (b_test (x_gt (x_var (i := 3) (d := iD n) rfl) (x_int (n := 1)))) (by simp; omega)) (fun h => ?_) (fun h => ?_)
    · exact x_takeE (h1 (of_decide_eq_true h)) rfl (x_add (x_var (i := 2) (d := .int 9) rfl) (x_int (n := 1))) (hb0.up (by omega)) (by omega) (by omega)
    · have e := h2 (of_decide_eq_false h)
      injection e with e1 e2
      subst e1 e2
      exact x_int (n := 0)
  refine s_seq (s_for (i_rngN (n := tn) (l1 xt) (by omega)) (fun i ρ => ∃ s5 s6 s7, i ≤ tn ∧ ρ = [bxS p (X i).2, .val (.int 6), .val (.int 9), .val (iD n), .own q ((X i).1.map hD), s5, s6, s7]) ⟨.no, .no, .no, Nat.zero_le _, by rw [hX0]⟩ (fun i d ρ2 hd ⟨s5, s6, s7, hi, e⟩ => ?_) fun ρ2 ⟨s5, s6, s7, hi, e⟩ => ?_)
  · subst e
    obtain ⟨a, ha, _, rfl⟩ := lst_get hd
    have hi2 : i < tn := by
      have := (List.getElem?_eq_some_iff.mp ha).1
      rwa [List.length_range] at this
    have tw := two (by omega)
    obtain ⟨R, B⟩ := inv i hi
    have sx := hXs i
    obtain ⟨v1, b1, k1⟩ : ∃ v b', takeM (X i).2 n = (v, b') := ⟨_, _, rfl⟩
    obtain ⟨v2, b2, k2⟩ : ∃ v b', takeM b1 (n - 1) = (v, b') := ⟨_, _, rfl⟩
    obtain ⟨v3, b3, k3⟩ : ∃ v b', takeM b2 8 = (v, b') := ⟨_, _, rfl⟩
    have B1 := takeM_ok B n
    rw [k1] at B1
    have B2 := takeM_ok B1 (n - 1)
    rw [k2] at B2
    have l1' := takeM_lt (X i).2 (m := n) (by omega)
    rw [k1] at l1'
    have sx2 := sx.trans (turnM_of k1 k2 k3)
    have hlen : (hp (X i).1 v1).length ≤ grudges (X i).1 := heap_le _ _
    have := R.gr
    refine ⟨_, _, g_name, room_turn (p := p) (q := q) k1 k2 k3 B B1 B2 tw n6 R.len l1' (by omega) fun s5 s6 s7 => ⟨s5, s6, s7, hi2, ?_⟩⟩
    rw [sx2]
  · subst e
    rw [List.length_map, List.length_range]
    exact s_ret (x_to (x_tupleR (r_own (i := 4) rfl)) rfl) ⟨rfl, 0, rfl⟩
theorem b_law_room : ∀ s ds r s', R_law_room s ds r s' → EvS K (t_law_room K CS CP) (SRet r s') (s :: envOf N_law_room.tail ds) := by
  rintro s ds r s' ⟨p, b, hb, rfl, rfl, rfl, rfl⟩
  rw [roomM_eq]
  have hm := manyM_bd b
  have ht := turnsM_bd b
  refine room_go (b0 := (takeM b 6).2) (v0 := (takeM b 6).1) (n := manyM b) (tn := (turnsM b).1) (tb := (turnsM b).2) (e0 := rfl) rfl (fun h => ?_) (fun h => ?_) (fun i => turnsR (manyM b) i (room0 b)) rfl (fun i => turnsR_succ _ _ _) (fun i hi => ?_) ht.2 hm.2 ht.1 hb (takeM_ok hb 6)
  · unfold turnsM
    rw [if_pos h]
  · unfold turnsM
    rw [if_neg h]
  · obtain ⟨R, B⟩ := roomI hb i hi
    exact ⟨R, B.up (by omega)⟩
end
end Gr
/-! the law's own defs, last part: what is asked of a room -/
namespace Gr
open PySem PySem.Spec PyProof.Rows L2 PySem.W
/-! ### numbers asked for -/
theorem ins1_mem (k : Nat) : ∀ (l : List Nat) (x : Nat), x ∈ ins1 k l ↔ x = k ∨ x ∈ l
  | [], x => by simp [ins1]
  | y :: l, x => by
    unfold ins1
    split
    · simp
    · split
      · next h => subst h; simp
      · rw [List.mem_cons, ins1_mem k l x, List.mem_cons]
        constructor
        · rintro (h | h | h)
          · exact .inr (.inl h)
          · exact .inl h
          · exact .inr (.inr h)
        · rintro (h | h | h)
          · exact .inr (.inl h)
          · exact .inl h
          · exact .inr (.inr h)
theorem ins1_up (k : Nat) : ∀ l : List Nat, l.Pairwise (· < ·) → (ins1 k l).Pairwise (· < ·)
  | [], _ => by simp [ins1]
  | y :: l, h => by
    obtain ⟨h1, h2⟩ := List.pairwise_cons.mp h
    unfold ins1
    split
    · next q =>
      refine List.pairwise_cons.mpr ⟨fun x hx => ?_, h⟩
      rcases List.mem_cons.mp hx with rfl | hx
      · exact q
      · exact Nat.lt_trans q (h1 x hx)
    · split
      · exact h
      · next q1 q2 =>
        refine List.pairwise_cons.mpr ⟨fun x hx => ?_, ins1_up k l h2⟩
        rcases (ins1_mem k l x).mp hx with rfl | hx
        · omega
        · exact h1 x hx
theorem ins1_len (k : Nat) : ∀ l : List Nat, (ins1 k l).length ≤ l.length + 1
  | [] => by simp [ins1]
  | y :: l => by
    unfold ins1
    split
    · simp
    · split
      · simp
      · have := ins1_len k l
        simp
        omega
theorem sort1_mem (x : Nat) : ∀ l : List Nat, x ∈ sort1 l ↔ x ∈ l
  | [] => by simp [sort1]
  | y :: l => by
    show x ∈ ins1 y (sort1 l) ↔ _
    rw [ins1_mem, sort1_mem x l, List.mem_cons]
theorem sort1_up : ∀ l : List Nat, (sort1 l).Pairwise (· < ·)
  | [] => by simp [sort1]
  | y :: l => ins1_up y _ (sort1_up l)
theorem sort1_len : ∀ l : List Nat, (sort1 l).length ≤ l.length
  | [] => by simp [sort1]
  | y :: l => by
    have h1 := ins1_len y (sort1 l)
    have h2 := sort1_len l
    show (ins1 y (sort1 l)).length ≤ l.length + 1
    omega
structure Sm (t : Nat) (l : List Nat) : Prop where
  up : l.Pairwise (· < ·)
  lt : ∀ k ∈ l, k < t
  le : l.length ≤ 8
  ne : 0 < l.length
theorem someM_ok {t a b : Nat} (ht : 0 < t) (ha : a < t) (hb : b < t) : Sm t (someM t a b) where
  up := sort1_up _
  lt := fun k hk => by
    have := (sort1_mem k _).mp hk
    rcases List.mem_append.mp this with h | h
    · simp at h
      omega
    · obtain ⟨x, _, rfl⟩ := List.mem_map.mp h
      omega
  le := Nat.le_trans (sort1_len _) (by simp)
  ne := List.length_pos_of_mem (a := 0) ((sort1_mem 0 _).mpr (by simp))
/-! ### standings told by numbers -/
section
variable {st : Sg}
theorem nth_alk (ok : Okf st) {k : Nat} (h : k < hmM st.length (line st)) : Alk st (nthM st.length (line st) k) := by
  obtain ⟨c, m, e, hm, S, ek⟩ := nth_shd h
  rw [ek]
  have o := S.okn
  refine ⟨ok, ⟨by rw [o.1]; exact o, by rw [o.1]; exact ok.one, by rw [o.1]; exact ok.six, Nat.le_trans (S.grudges ok.six rfl) ok.nine, S.words (P := fun x => PyData.strOk x = true) ok.words⟩, o.1.symm, fun a b => (S.lines ok.six ok.okn a b).symm⟩
theorem Alk.fn {s t : Sg} (al : Alk s t) : line s = line t := funext fun a => funext fun b => al.lines a b
theorem Alk.two {s t u : Sg} (h : Alk s t) (k : Alk s u) : Alk t u := ⟨h.ok2, k.ok2, h.len.symm.trans k.len, fun a b => (h.lines a b).symm.trans (k.lines a b)⟩
theorem Alk.sy {s t : Sg} (h : Alk s t) : Alk t s := ⟨h.ok2, h.ok1, h.len.symm, fun a b => (h.lines a b).symm⟩
theorem Alk.self {s : Sg} (h : Okf s) : Alk s s := ⟨h, h, rfl, fun _ _ => rfl⟩
theorem pw_map {β γ : Type} {f : β → γ} {R : β → β → Prop} {S : γ → γ → Prop} {l : List β} (h : l.Pairwise R) (k : ∀ a ∈ l, ∀ b ∈ l, R a b → S (f a) (f b)) : (l.map f).Pairwise S := by
  rw [List.pairwise_map]
  exact List.Pairwise.imp_of_mem (fun {a b} ha hb h => k a ha b hb h) h
abbrev roomsM (st : Sg) (l : List Nat) : List Sg := l.map (nthM st.length (line st))
theorem rooms_nodup (ok : Okf st) {l : List Nat} (S : Sm (hmM st.length (line st)) l) : (roomsM st l).Nodup := by
  refine pw_map (R := (· < ·)) S.up fun a ha b hb h e => ?_
  have e1 := nof_nth ok.six (S.lt a ha)
  have e2 := nof_nth ok.six (S.lt b hb)
  rw [e] at e1
  omega
theorem keys_rise (ok : Okf st) {l : List Nat} (S : Sm (hmM st.length (line st)) l) : ((roomsM st l).map keyD).Pairwise fun a b => dataLt (tp b) (tp a) = false := by
  rw [List.map_map]
  refine pw_map (R := (· < ·)) S.up fun a ha b hb h => less_asym ?_
  have h1 := nth_alk ok (S.lt a ha)
  have h2 := nth_alk ok (S.lt b hb)
  refine key_less (h1.two h2).len ?_
  rw [← h1.len]
  exact nth_rise ok.six h (S.lt b hb)
end
section
variable {K : PySem.W.Frag} {CS CP : Addr} {ρ ρ1 ρ2 : Env} {d : Dt} {E : De} {ds es : List Dt} {ta tb te : TE}
theorem x_ofE {p : Addr} {b b' : Bx} {v : Nat} {es : List Dt} {r : Dt} (e : takeM b es.length = (v, b')) (h0 : ρ[0]? = some (bxS p b)) (h : EvX K te ρ (.lst es) ρ) (hb : BxOk 1000000 b) (hl : 0 < es.length) (hl2 : es.length ≤ 1000) (hr : es[v]? = some r) : EvX K (tCall (sp_law_of K) [] C8.E0 (tCons (tVar 0) (tCons te tNil))) ρ r (ρ.set 0 (bxS p b')) := by
  have := x_callS (K := K) (ρ := ρ) (X := C8.E0) (R := R_law_of) (d := r) (s0 := bxS p b) (s := bxS p b) (s' := bxS p (takeM b es.length).2) (i := 0) h0 rfl (l1 h) h0 rfl rfl rfl ⟨p, b, es, hb, hl, hl2, rfl, rfl, by rw [e]; exact hr, rfl⟩
  rw [e] at this
  exact this
theorem last_map {α : Type} (f : α → Dt) {l : List α} {x : α} (h : l.getLast? = some x) : (l.map f).getLast? = some (f x) := by
  rw [List.getLast?_map, h]
  rfl
theorem n_two {p : Addr} {b b1 b2 : Bx} {t v1 v2 : Nat} {s1 s2 s4 s5 s6 s7 s8 s9 s10 : Sl} (e1 : takeM b t = (v1, b1)) (e2 : takeM b1 t = (v2, b2)) (hb : BxOk 100000 b) (hb1 : BxOk 100000 b1) (h1 : 0 < t) (h2 : t < 1073741824)
    (c1 : LikeS s1 s1 s1) (c2 : LikeS s2 s2 s2) (c4 : LikeS s4 s4 s4) (c5 : LikeS s5 s5 s5) (c6 : LikeS s6 s6 s6) (c7 : LikeS s7 s7 s7) (c8 : LikeS s8 s8 s8) (c9 : LikeS s9 s9 s9) (c10 : LikeS s10 s10 s10) :
    EvN K (tLc (iRng1 (tCons (tC (.int 2)) tNil)) (gName 11) tYes (tCall (sp_law_take K) [] C8.E0 (tCons (tVar 0) (tCons (tVar 3) tNil))) [11])
      [bxS p b, s1, s2, .val (iD t), s4, s5, s6, s7, s8, s9, s10, .no] [iD v1, iD v2] [bxS p b2, s1, s2, .val (iD t), s4, s5, s6, s7, s8, s9, s10, .no] := by
  refine lc_go (List.range 2) iD (fun i ρ acc => (i = 0 ∧ ρ = [bxS p b, s1, s2, .val (iD t), s4, s5, s6, s7, s8, s9, s10, .no] ∧ acc = []) ∨ (i = 1 ∧ ρ = [bxS p b1, s1, s2, .val (iD t), s4, s5, s6, s7, s8, s9, s10, .no] ∧ acc = [iD v1]) ∨ (i = 2 ∧ ρ = [bxS p b2, s1, s2, .val (iD t), s4, s5, s6, s7, s8, s9, s10, .no] ∧ acc = [iD v1, iD v2]))
    (i_rngN (n := 2) (l1 (x_int (n := 2))) (by omega)) (by simp) (.inl ⟨rfl, rfl, rfl⟩) (fun i x ρ2 acc hx hp => ?_) (fun i ρ2 acc hp => ?_) fun ρ2 acc hp => ?_
  · rcases hp with ⟨rfl, rfl, rfl⟩ | ⟨rfl, rfl, rfl⟩ | ⟨rfl, rfl, rfl⟩
    · refine ⟨_, _, g_name, by decide, .inl ⟨_, iD v1, b_yes, x_takeE e1 rfl (x_var (i := 3) (d := iD t) rfl) (hb.up (by omega)) h1 h2, [bxS p b1, s1, s2, .val (iD t), s4, s5, s6, s7, s8, s9, s10, .no], ⟨⟨rfl, _, rfl⟩, c1, c2, rfl, c4, c5, c6, c7, c8, c9, c10, rfl, trivial⟩, .inr (.inl ⟨rfl, rfl, rfl⟩)⟩⟩
    · refine ⟨_, _, g_name, by decide, .inl ⟨_, iD v2, b_yes, x_takeE e2 rfl (x_var (i := 3) (d := iD t) rfl) (hb1.up (by omega)) h1 h2, [bxS p b2, s1, s2, .val (iD t), s4, s5, s6, s7, s8, s9, s10, .no], ⟨⟨rfl, _, rfl⟩, c1, c2, rfl, c4, c5, c6, c7, c8, c9, c10, rfl, trivial⟩, .inr (.inr ⟨rfl, rfl, rfl⟩)⟩⟩
    · simp at hx
  · rcases hp with ⟨rfl, rfl, rfl⟩ | ⟨rfl, rfl, rfl⟩ | ⟨rfl, rfl, rfl⟩ <;> simp
  · rcases hp with ⟨h, _, _⟩ | ⟨h, _, _⟩ | ⟨_, rfl, rfl⟩
    · simp at h
    · simp at h
    · exact ⟨rfl, rfl⟩
end
end Gr
/-! the body of _law_right -/
namespace Gr
open PySem PySem.Spec PyProof.Rows L2 PySem.W
section
variable {K : PySem.W.Frag} {CS CP : Addr} {ρ ρ1 ρ2 : Env} {d : Dt} {E : De} {ds es : List Dt} {ta tb te : TE}
theorem x_roomE {p : Addr} {b b' : Bx} {st : Sg} (e : roomM b = (st, b')) (h0 : ρ[0]? = some (bxS p b)) (hb : BxOk 1000 b) : EvX K (tCall (sp_law_room K) [] C8.E0 (tCons (tVar 0) (tCons (tC (.int 6)) (tCons (tC (.int 9)) tNil)))) ρ (sD st) (ρ.set 0 (bxS p b')) := by
  have := x_callS (K := K) (ρ := ρ) (X := C8.E0) (R := R_law_room) (d := sD (roomM b).1) (s0 := bxS p b) (s := bxS p b) (s' := bxS p (roomM b).2) (i := 0) h0 rfl (l2 (x_int (n := 6)) (x_int (n := 9))) h0 rfl rfl rfl ⟨p, b, hb, rfl, rfl, rfl, rfl⟩
  rw [e] at this
  exact this
theorem right_go {p eb : Addr} (he : ∀ H, SqT K H eb []) {b b1 b2 b3 b4 b5 : Bx} {st : Sg} {t v1 v2 i1 i2 : Nat} {sm : List Nat} (e1 : roomM b = (st, b1)) (ok : Okf st) (ht : hmM st.length (line st) = t) (e2 : takeM b1 t = (v1, b2)) (e3 : takeM b2 t = (v2, b3)) (hs : someM t v1 v2 = sm) (S : Sm t sm)
    (e4 : takeM b3 sm.length = (i1, b4)) (e5 : takeM b4 sm.length = (i2, b5)) (hb : BxOk 1000 b) (hb1 : BxOk 100000 b1) (hb2 : BxOk 100000 b2) (hb3 : BxOk 1000000 b3) (hb4 : BxOk 1000000 b4) (t1 : 0 < t) (t2 : t < 1073741824) (j1 : i1 < sm.length) (j2 : i2 < sm.length) :
    EvS K (t_law_right K CS CP eb) (SRet (.bl true) (bxS p b5)) [bxS p b, .no, .no, .no, .no, .no, .no, .no, .no, .no, .no, .no] := by
  refine s_seq (s_for (i_rngN (n := 1) (l1 (x_int (n := 1))) (by omega)) (fun i ρ => (i = 0 ∧ ρ = [bxS p b, .no, .no, .no, .no, .no, .no, .no, .no, .no, .no, .no]) ∨ (i = 1 ∧ ρ[0]? = some (bxS p b5))) (.inl ⟨rfl, rfl⟩) (fun i d ρ2 hd hp => ?_) fun ρ2 hp => ?_)
  · obtain ⟨a, ha, _, rfl⟩ := lst_get hd
    have ia : i < 1 := by
      have := (List.getElem?_eq_some_iff.mp ha).1
      rwa [List.length_range] at this
    rcases hp with ⟨rfl, rfl⟩ | ⟨h, _⟩
    · let f0 : Env := [bxS p b, .val (iD a), .no, .no, .no, .no, .no, .no, .no, .no, .no, .no]
      refine ⟨f0, _, g_name, ?_⟩
      refine s_seq (s_set (ρ1 := f0.set 0 (bxS p b1)) (d := sD st) (x_roomE e1 rfl hb) ?_)
      let f1 : Env := [bxS p b1, .val (iD a), .val (sD st), .no, .no, .no, .no, .no, .no, .no, .no, .no]
      show EvS K _ _ f1
      refine s_seq (s_set (ρ1 := f1) (d := iD t) (x_call (l1 (x_var (i := 2) (d := sD st) rfl)) ⟨st, ok, rfl, by rw [ht]⟩) ?_)
      let f2 : Env := [bxS p b1, .val (iD a), .val (sD st), .val (iD t), .no, .no, .no, .no, .no, .no, .no, .no]
      show EvS K _ _ f2
      let l4 : List Nat := [0, t - 1, v1, v2]
      refine s_seq (s_set (ρ1 := f2.set 0 (bxS p b3)) (d := .lst (l4.map iD)) (x_to (x_op (x_ls (l2 (x_int (n := 0)) (x_sub (x_var (i := 3) (d := iD t) rfl) (x_int (n := 1))))) (x_ofN (n_two e2 e3 hb1 hb2 t1 t2 rfl rfl rfl rfl rfl rfl rfl rfl rfl)) (o_cat (by simp))) ?_) ?_)
      · simp [l4, iD]
        omega
      let f3 : Env := [bxS p b3, .val (iD a), .val (sD st), .val (iD t), .val (.lst (l4.map iD)), .no, .no, .no, .no, .no, .no, .no]
      show EvS K _ _ f3
      let l8 : List Nat := l4 ++ l4.map fun k => min (t - 1) (k + 1)
      have hl8 : l8.length = 8 := rfl
      have x8 : EvX K (tOp rCat (tVar 4) (tLc (iList K (tVar 4)) (gName 8) tYes (tCB cMin2 (tCons (tOp (rI0 fun i j => .int (i - j)) (tVar 3) (tC (.int 1))) (tCons (tOp (rI0 fun i j => .int (i + j)) (tVar 8) (tC (.int 1))) tNil))) [8])) f3 (.lst ((l8.map fun n : Nat => (n : Int)).map Dt.int)) f3 := by
        refine x_to (x_op (x_var (i := 4) (d := .lst (l4.map iD)) rfl) (x_ofN (lc_map l4 iD (fun k => iD (min (t - 1) (k + 1))) (i_list (x_var (i := 4) (d := .lst (l4.map iD)) rfl)) (by simp [l4]) fun k _ => ⟨_, _, g_name, by decide, ⟨⟨rfl, _, rfl⟩, rfl, rfl, rfl, rfl, rfl, rfl, rfl, rfl, rfl, rfl, rfl, trivial⟩, x_to (x_cb (l2 (x_sub (x_var (i := 3) (d := iD t) rfl) (x_int (n := 1))) (x_add (x_var (i := 8) (d := iD k) rfl) (x_int (n := 1)))) c_min2) ?_⟩)) (o_cat (by simp [l4]))) ?_
        · unfold iD
          congr 1
          split <;> omega
        · show Dt.lst (l4.map iD ++ l4.map fun k => iD (min (t - 1) (k + 1))) = .lst (((l4 ++ l4.map fun k => min (t - 1) (k + 1)).map fun n : Nat => (n : Int)).map Dt.int)
          rw [List.map_map, List.map_append, List.map_map]
          rfl
      refine s_seq (s_set (ρ1 := f3) (d := iL sm) (x_to (x_sortedSet (ms := sm.map fun n : Nat => (n : Int)) x8 (by rw [List.length_map, hl8]; omega) (pw_map S.up fun a _ b _ h => by omega) fun k => ?_) (by rw [List.map_map]; rfl)) ?_)
      · have key : ∀ x : Nat, x ∈ sm ↔ x ∈ l8 := fun x => by
          rw [← hs]
          exact sort1_mem x l8
        constructor
        · intro h
          obtain ⟨x, hx, rfl⟩ := List.mem_map.mp h
          exact List.mem_map.mpr ⟨x, (key x).mp hx, rfl⟩
        · intro h
          obtain ⟨x, hx, rfl⟩ := List.mem_map.mp h
          exact List.mem_map.mpr ⟨x, (key x).mpr hx, rfl⟩
      clear x8
      let f4 : Env := [bxS p b3, .val (iD a), .val (sD st), .val (iD t), .val (iL sm), .no, .no, .no, .no, .no, .no, .no]
      show EvS K _ _ f4
      have sle := S.le
      have lt : ∀ k ∈ sm, k < hmM st.length (line st) := fun k hk => by rw [ht]; exact S.lt k hk
      have S' : Sm (hmM st.length (line st)) sm := by rw [ht]; exact S
      obtain ⟨rooms, hr⟩ : ∃ rooms, rooms = roomsM st sm := ⟨_, rfl⟩
      have rl : rooms.length = sm.length := by rw [hr, List.length_map]
      have alk : ∀ y ∈ rooms, Alk st y := fun y hy => by
        rw [hr] at hy
        obtain ⟨k, hk, rfl⟩ := List.mem_map.mp hy
        exact nth_alk ok (lt k hk)
      have nd : rooms.Nodup := by rw [hr]; exact rooms_nodup ok S'
      have kr : (rooms.map keyD).Pairwise fun a b => dataLt (tp b) (tp a) = false := by rw [hr]; exact keys_rise ok S'
      refine s_seq (s_set (ρ1 := f4) (d := .lst (rooms.map sD)) (x_to (x_ofN (lc_map sm iD (fun k => sD (nthM st.length (line st) k)) (i_list (x_var (i := 4) (d := iL sm) rfl)) (by omega) fun k hk => ⟨_, _, g_name, by decide, ⟨⟨rfl, _, rfl⟩, rfl, rfl, rfl, rfl, rfl, rfl, rfl, rfl, rfl, rfl, rfl, trivial⟩, x_call (l2 (x_var (i := 2) (d := sD st) rfl) (x_var (i := 8) (d := iD k) rfl)) ⟨st, k, ok, lt k hk, rfl, rfl⟩⟩)) ?_) ?_)
      · rw [hr, List.map_map]
        rfl
      let f5 : Env := [bxS p b3, .val (iD a), .val (sD st), .val (iD t), .val (iL sm), .val (.lst (rooms.map sD)), .no, .no, .no, .no, .no, .no]
      show EvS K _ _ f5
      refine s_seq (s_set (ρ1 := f5) (d := .lst (rooms.map keyD)) (x_ofN (lc_map rooms sD keyD (i_list (x_var (i := 5) (d := .lst (rooms.map sD)) rfl)) (by omega) fun y hy => ⟨_, _, g_name, by decide, ⟨⟨rfl, _, rfl⟩, rfl, rfl, rfl, rfl, rfl, rfl, rfl, rfl, rfl, rfl, rfl, trivial⟩, x_call (l1 (x_var (i := 9) (d := sD y) rfl)) ⟨y, (alk y hy).ok2, rfl, rfl⟩⟩)) ?_)
      let f6 : Env := [bxS p b3, .val (iD a), .val (sD st), .val (iD t), .val (iL sm), .val (.lst (rooms.map sD)), .val (.lst (rooms.map keyD)), .no, .no, .no, .no, .no]
      show EvS K _ _ f6
      have plk : ∀ d ∈ rooms.map keyD, Pl 3 d := fun d hd => by
        obtain ⟨y, _, rfl⟩ := List.mem_map.mp hd
        exact pl_key y
      refine s_seq (s_no (b_to (b_or (b_test (x_op (x_var (i := 6) (d := .lst (rooms.map keyD)) rfl) (x_cb (l1 (x_var (i := 6) (d := .lst (rooms.map keyD)) rfl)) (c_sortedN (n := 3) plk (by omega) (by rw [List.length_map]; omega) (fun x hx y hy => ?_) (fun x hx => ?_) kr)) (o_neS (n := 4) (by unfold Pl; exact PlAll.of plk)))) fun _ => b_test (x_op (len_rooms (rooms := rooms) (x_var (i := 5) rfl) (fun y hy => (alk y hy).ok2.words) nd (by omega)) (x_to (x_cb (l1 (x_var (i := 4) (d := iL sm) rfl)) c_lenL) (d' := iD rooms.length) (by rw [rl]; simp [iD])) o_neI)) (by simp)) (s_next ?_))
      · obtain ⟨x', _, rfl⟩ := List.mem_map.mp hx
        obtain ⟨y', _, rfl⟩ := List.mem_map.mp hy
        exact alike_key x' y'
      · obtain ⟨x', _, rfl⟩ := List.mem_map.mp hx
        exact ⟨_, _, tp_key x'⟩
      refine s_seq (s_for (i_zipLL (l2 (x_var (i := 4) (d := iL sm) rfl) (x_var (i := 5) (d := .lst (rooms.map sD)) rfl)) (by rw [List.length_map, List.length_map, rl])) (fun _ ρ => ∃ s8 s9, ρ = [bxS p b3, .val (iD a), .val (sD st), .val (iD t), .val (iL sm), .val (.lst (rooms.map sD)), .val (.lst (rooms.map keyD)), .no, s8, s9, .no, .no]) ⟨.no, .no, rfl⟩ (fun i d ρ2 hd ⟨s8, s9, e⟩ => ?_) fun ρ2 ⟨s8, s9, e⟩ => ?_)
      · subst e
        obtain ⟨d1, d2, k2, k3, rfl⟩ := zp_get hd
        obtain ⟨k, hk, hkm, rfl⟩ := lst_get k2
        obtain ⟨y, hy, hym, rfl⟩ := lst_get k3
        have ey : y = nthM st.length (line st) k := by
          rw [hr, List.getElem?_map, hk] at hy
          exact (Option.some.inj hy).symm
        have al := alk y hym
        refine ⟨_, _, g_tup (ds := [iD k, sD y]) (gs_cons g_name (gs_cons g_name gs_nil)) rfl, s_no (b_to (b_or (b_test (x_op (x_call (l2 (x_var (i := 2) (d := sD st) rfl) (x_var (i := 9) (d := sD y) rfl)) ⟨st, y, al, rfl, rfl⟩) x_non o_notN)) fun _ => b_test (x_op (x_call (l2 (x_var (i := 2) (d := sD st) rfl) (x_var (i := 9) (d := sD y) rfl)) ⟨st, y, al, rfl, rfl⟩) (x_var (i := 8) (d := iD k) rfl) o_neI)) ?_) (s_next ⟨.val (iD k), .val (sD y), rfl⟩)⟩
        have := nof_nth ok.six (lt k hkm)
        rw [ey, this]
        simp [isNon]
      subst e
      obtain ⟨y1, hy1⟩ : ∃ y, rooms[i1]? = some y := ⟨_, List.getElem?_eq_getElem (by omega)⟩
      obtain ⟨y2, hy2⟩ : ∃ y, rooms[i2]? = some y := ⟨_, List.getElem?_eq_getElem (by omega)⟩
      have a1 := alk y1 (List.mem_of_getElem? hy1)
      have a2 := alk y2 (List.mem_of_getElem? hy2)
      have a12 := a1.two a2
      have el : (rooms.map sD).length = sm.length := by rw [List.length_map, rl]
      let f7 : Env := [bxS p b3, .val (iD a), .val (sD st), .val (iD t), .val (iL sm), .val (.lst (rooms.map sD)), .val (.lst (rooms.map keyD)), .no, s8, s9, .no, .no]
      let f8 : Env := [bxS p b4, .val (iD a), .val (sD st), .val (iD t), .val (iL sm), .val (.lst (rooms.map sD)), .val (.lst (rooms.map keyD)), .no, s8, s9, .no, .no]
      show EvS K _ _ f7
      refine s_seq (s_parVV (ρ1 := f8) (ρ2 := f8.set 0 (bxS p b5)) (d1 := sD y1) (d2 := sD y2) (x_ofE (es := rooms.map sD) (v := i1) (b' := b4) (by rw [el]; exact e4) rfl (x_var (i := 5) rfl) hb3 (by omega) (by omega) (by rw [List.getElem?_map, hy1]; rfl)) (x_ofE (es := rooms.map sD) (v := i2) (b' := b5) (by rw [el]; exact e5) rfl (x_var (i := 5) rfl) hb4 (by omega) (by omega) (by rw [List.getElem?_map, hy2]; rfl)) ?_)
      let f9 : Env := [bxS p b5, .val (iD a), .val (sD st), .val (iD t), .val (iL sm), .val (.lst (rooms.map sD)), .val (.lst (rooms.map keyD)), .no, s8, .val (sD y1), .val (sD y2), .no]
      show EvS K _ _ f9
      refine s_seq (s_set (ρ1 := f9) (d := .tup [.str "row", iL (leadM y1 y2)]) (x_callD (R := R_between) (du := .tup []) (l2 (x_var (i := 9) (d := sD y1) rfl) (x_var (i := 10) (d := sD y2) rfl)) (fun F => ⟨eb, [], rfl, he F, rfl⟩) ⟨y1, y2, a12, rfl, rfl⟩) ?_)
      let fA : Env := [bxS p b5, .val (iD a), .val (sD st), .val (iD t), .val (iL sm), .val (.lst (rooms.map sD)), .val (.lst (rooms.map keyD)), .val (.tup [.str "row", iL (leadM y1 y2)]), s8, .val (sD y1), .val (sD y2), .no]
      show EvS K _ _ fA
      obtain ⟨r1, r2⟩ := lead_run a12.al a12.ok1.nine
      have six := a12.ok1.six
      refine s_seq (s_no (b_to (b_or (b_test (x_op (x_ixTn (i := 0) (x_var (i := 7) (d := .tup [.str "row", iL (leadM y1 y2)]) rfl) (x_int (n := 0)) rfl) (x_str (n := "row")) o_neStr)) fun _ => b_test (x_op (x_call (d := sD y2) (l3 (x_var (i := 9) (d := sD y1) rfl) (x_ixTn (i := 1) (d := iL (leadM y1 y2)) (x_var (i := 7) (d := .tup [.str "row", iL (leadM y1 y2)]) rfl) (x_int (n := 1)) rfl) (x_ls l_nil)) ⟨y1, y2, leadM y1 y2, a12.ok1, r1, by omega, rfl, rfl⟩) (x_var (i := 10) (d := sD y2) rfl) (o_neS (n := 3) (pl_s a12.ok2.words)))) (by simp)) (s_next ?_))
      obtain ⟨kl, hkl⟩ : ∃ k, sm.getLast? = some k := by
        cases q : sm.getLast? with
        | none => rw [List.getLast?_eq_none_iff] at q; rw [q] at j1; simp at j1
        | some k => exact ⟨k, rfl⟩
      have km : kl ∈ sm := List.mem_of_getLast? hkl
      have n1 : hmM y1.length (line y1) = t := by rw [← a1.len, ← a1.fn, ht]
      have n2 : nthM y1.length (line y1) kl = nthM st.length (line st) kl := by rw [← a1.len, ← a1.fn]
      have n3 : nofM y1.length (line y1) st = nofM st.length (line st) st := by rw [← a1.len, ← a1.fn]
      have rlast : (rooms.map sD).getLast? = some (sD (nthM st.length (line st) kl)) := last_map sD (by rw [hr, List.getLast?_map, hkl]; rfl)
      have mone : ∀ ρ : Env, EvX K (tUn (rU fun i => .int (-i)) (tC (.int 1))) ρ (.int (-1)) ρ := fun ρ => x_un (x_int (n := 1)) u_neg
      refine s_no (b_to (b_or (b_test (x_op (d1 := iD t) (x_to (x_call (d := iD (hmM y1.length (line y1))) (l1 (x_var (i := 9) (d := sD y1) rfl)) ⟨y1, a1.ok2, rfl, rfl⟩) (by rw [n1])) (x_var (i := 3) (d := iD t) rfl) o_neI)) fun _ => b_or (b_test (x_op (d1 := sD (nthM st.length (line st) kl)) (x_to (x_call (d := sD (nthM y1.length (line y1) kl)) (l2 (x_var (i := 9) (d := sD y1) rfl) (x_op (x_var (i := 4) (d := iL sm) rfl) (mone _) (o_ixL (d := iD kl) (atI_l (last_map iD hkl))))) ⟨y1, kl, a1.ok2, by rw [n1]; exact S.lt kl km, rfl, rfl⟩) (by rw [n2])) (x_op (x_var (i := 5) (d := .lst (rooms.map sD)) rfl) (mone _) (o_ixL (atI_l rlast))) (o_neS (n := 3) (pl_s (nth_alk ok (lt kl km)).ok2.words)))) fun _ => b_test (x_op (d1 := iD (nofM st.length (line st) st)) (d2 := iD (nofM st.length (line st) st)) (x_to (x_call (d := iD (nofM y1.length (line y1) st)) (l2 (x_var (i := 9) (d := sD y1) rfl) (x_var (i := 2) (d := sD st) rfl)) ⟨y1, st, a1.sy, rfl, rfl⟩) (by rw [n3])) (x_call (l2 (x_var (i := 2) (d := sD st) rfl) (x_var (i := 2) (d := sD st) rfl)) ⟨st, st, Alk.self ok, rfl, rfl⟩) o_neI)) (by simp)) (s_next (.inr ⟨rfl, rfl⟩))
    · omega
  · rcases hp with ⟨h, _⟩ | ⟨_, h⟩
    · simp at h
    · exact s_ret x_bl ⟨rfl, 0, h⟩
theorem b_law_right {eb : Addr} (he : ∀ H, SqT K H eb []) : ∀ s ds r s', R_law_right s ds r s' → EvS K (t_law_right K CS CP eb) (SRet r s') (s :: envOf N_law_right.tail ds) := by
  rintro s ds r s' ⟨p, b, hb, rfl, rfl, rfl, rfl⟩
  obtain ⟨ok, B1⟩ := room_ok hb
  obtain ⟨st, b1, e1⟩ : ∃ st b1, roomM b = (st, b1) := ⟨_, _, rfl⟩
  rw [e1] at ok B1
  have hm := hm_le ok.six ok.nine
  have hp : 0 < hmM st.length (line st) := hm_pos
  obtain ⟨t, et⟩ : ∃ t, t = hmM st.length (line st) := ⟨_, rfl⟩
  have etot : totM b = t := by
    unfold totM
    rw [e1, et]
  rw [← et] at hm hp
  obtain ⟨v1, b2, e2⟩ : ∃ v b', takeM b1 t = (v, b') := ⟨_, _, rfl⟩
  obtain ⟨v2, b3, e3⟩ : ∃ v b', takeM b2 t = (v, b') := ⟨_, _, rfl⟩
  obtain ⟨sm, es⟩ : ∃ sm, sm = someM t v1 v2 := ⟨_, rfl⟩
  obtain ⟨i1, b4, e4⟩ : ∃ v b', takeM b3 sm.length = (v, b') := ⟨_, _, rfl⟩
  obtain ⟨i2, b5, e5⟩ : ∃ v b', takeM b4 sm.length = (v, b') := ⟨_, _, rfl⟩
  have B2 := takeM_ok B1 t
  have l1' := takeM_lt b1 hp
  rw [e2] at B2 l1'
  have B3 := takeM_ok B2 t
  have l2' := takeM_lt b2 hp
  rw [e3] at B3 l2'
  have S := someM_ok hp l1' l2'
  rw [← es] at S
  have B4 := takeM_ok B3 sm.length
  have j1 := takeM_lt b3 S.ne
  have j2 := takeM_lt b4 S.ne
  rw [e4] at B4 j1
  rw [e5] at j2
  have er : rightM b = b5 := by
    unfold rightM
    simp only [etot, e1, e2, e3, ← es, e4, e5]
  rw [er]
  exact right_go he e1 ok et.symm e2 e3 es.symm S e4 e5 (hb.up (by omega)) (B1.up (by omega)) (B2.up (by omega)) (B3.up (by omega)) (B4.up (by omega)) hp (by omega) j1 j2
end
end Gr
set_option maxHeartbeats 0
/-! what the program's top leaves, told by names -/
namespace Gr
open PySem PySem.Spec PyProof.Rows L2
/-- what is followed from the module's names: functions' code and keyword defaults, classes' names -/
def refsL (o : Obj) : List Addr := match o.data with
  | .dict es _ => es.toList.flatMap fun e => He.refV e.val
  | .func fd => He.refV fd.code ++ He.refV fd.kwdefaults
  | .cls cd => [cd.ns]
  | _ => []
def nxt (g : Addr → Option Obj) (as : List Addr) : List Addr := as.flatMap fun a => match g a with
  | some o => refsL o
  | none => []
def asMy (g : Addr → Option Obj) : List Addr :=
  let a1 := nxt g [mainGlobals]
  let a2 := nxt g a1
  let a3 := nxt g a2
  let a4 := nxt g a3
  mainGlobals :: (a1 ++ (a2 ++ (a3 ++ a4)))
/-- a keyword default that is an object -/
def kwAt (f : Str × Option Str) (x : Str) (K : PySem.W.Frag) : Addr := match K.lookup (He.fAd K f) with
  | some ⟨_, _, .func fd, _⟩ => (match fd.kwdefaults with
    | .ref D => (match PySem.W.nsIn K D x with
      | some (some (.ref a)) => a
      | _ => 0)
    | _ => 0)
  | _ => 0
/-- it is the bare tuple -/
def exB (K : PySem.W.Frag) : Bool := match K.lookup (kwAt ("between", none) "asleep" K) with
  | some ⟨.type c, _, .seq its _, _⟩ => decide (c = "tuple") && its.isEmpty
  | _ => false
theorem exB_ok {K : PySem.W.Frag} (h : exB K = true) (H : Hp) : SqT K H (kwAt ("between", none) "asleep" K) [] := by
  unfold exB at h
  cases q : K.lookup (kwAt ("between", none) "asleep" K) with
  | none =>
    rw [q] at h
    cases h
  | some o =>
    obtain ⟨oc, od, dt, osl⟩ := o
    rw [q] at h
    cases oc with
    | type c =>
      cases dt with
      | seq its n =>
        obtain ⟨h1, h2⟩ := He.ba (show (decide (c = "tuple") && its.isEmpty) = true from h)
        have e := Array.isEmpty_iff.mp h2
        subst e
        exact .inr ⟨_, #[], n, q, congrArg Value.type (of_decide_eq_true h1), rfl, Nat.zero_le _, .nil⟩
      | _ => cases h
    | _ => cases dt <;> cases h
def D_is_number : He.DefD := ⟨("is_number", none), "is_number", "is_number", defArgs s_is_number, defBody s_is_number, defScope s_is_number, [], []⟩
def D_as_heap : He.DefD := ⟨("as_heap", none), "as_heap", "as_heap", defArgs s_as_heap, defBody s_as_heap, defScope s_as_heap, [], []⟩
def D_as_standing : He.DefD := ⟨("as_standing", none), "as_standing", "as_standing", defArgs s_as_standing, defBody s_as_standing, defScope s_as_standing, [], []⟩
def D_is_there : He.DefD := ⟨("is_there", none), "is_there", "is_there", defArgs s_is_there, defBody s_is_there, defScope s_is_there, [], []⟩
def D_look_dove : He.DefD := ⟨("look_dove", none), "look_dove", "look_dove", defArgs s_look_dove, defBody s_look_dove, defScope s_look_dove, [], []⟩
def D_held : He.DefD := ⟨("held", none), "held", "held", defArgs s_held, defBody s_held, defScope s_held, [], []⟩
def D_grudges_in : He.DefD := ⟨("grudges_in", none), "grudges_in", "grudges_in", defArgs s_grudges_in, defBody s_grudges_in, defScope s_grudges_in, [], []⟩
def D_line : He.DefD := ⟨("line", none), "line", "line", defArgs s_line, defBody s_line, defScope s_line, [], []⟩
def D_cut : He.DefD := ⟨("cut", none), "cut", "cut", defArgs s_cut, defBody s_cut, defScope s_cut, [], []⟩
def D_pairs_of : He.DefD := ⟨("pairs_of", none), "pairs_of", "pairs_of", defArgs s_pairs_of, defBody s_pairs_of, defScope s_pairs_of, [], []⟩
def D_first_apart : He.DefD := ⟨("first_apart", none), "first_apart", "first_apart", defArgs s_first_apart, defBody s_first_apart, defScope s_first_apart, [], []⟩
def D_look_same : He.DefD := ⟨("look_same", none), "look_same", "look_same", defArgs s_look_same, defBody s_look_same, defScope s_look_same, [], []⟩
def D_first_unlike : He.DefD := ⟨("first_unlike", none), "first_unlike", "first_unlike", defArgs s_first_unlike, defBody s_first_unlike, defScope s_first_unlike, [], []⟩
def D_sleepers_grudges : He.DefD := ⟨("sleepers_grudges", none), "sleepers_grudges", "sleepers_grudges", defArgs s_sleepers_grudges, defBody s_sleepers_grudges, defScope s_sleepers_grudges, [], []⟩
def D_still_of : He.DefD := ⟨("still_of", none), "still_of", "still_of", defArgs s_still_of, defBody s_still_of, defScope s_still_of, [], []⟩
def D_still : He.DefD := ⟨("still", none), "still", "still", defArgs s_still, defBody s_still, defScope s_still, [], []⟩
def D_first_moved : He.DefD := ⟨("first_moved", none), "first_moved", "first_moved", defArgs s_first_moved, defBody s_first_moved, defScope s_first_moved, [], []⟩
def D_look_lines : He.DefD := ⟨("look_lines", none), "look_lines", "look_lines", defArgs s_look_lines, defBody s_look_lines, defScope s_look_lines, [], []⟩
def D_look_still : He.DefD := ⟨("look_still", none), "look_still", "look_still", defArgs s_look_still, defBody s_look_still, defScope s_look_still, [], []⟩
def D_rows_given : He.DefD := ⟨("rows_given", none), "rows_given", "rows_given", defArgs s_rows_given, defBody s_rows_given, defScope s_rows_given, [], []⟩
def D_rows_got : He.DefD := ⟨("rows_got", none), "rows_got", "rows_got", defArgs s_rows_got, defBody s_rows_got, defScope s_rows_got, [], []⟩
def D_waits_in : He.DefD := ⟨("waits_in", none), "waits_in", "waits_in", defArgs s_waits_in, defBody s_waits_in, defScope s_waits_in, [], []⟩
def D_givings : He.DefD := ⟨("givings", none), "givings", "givings", defArgs s_givings, defBody s_givings, defScope s_givings, [], []⟩
def D_waits : He.DefD := ⟨("waits", none), "waits", "waits", defArgs s_waits, defBody s_waits, defScope s_waits, [], []⟩
def D_look_few : He.DefD := ⟨("look_few", none), "look_few", "look_few", defArgs s_look_few, defBody s_look_few, defScope s_look_few, [], []⟩
def D_shuffles : He.DefD := ⟨("shuffles", none), "shuffles", "shuffles", defArgs s_shuffles, defBody s_shuffles, defScope s_shuffles, [], []⟩
def D_all_cuts : He.DefD := ⟨("all_cuts", none), "all_cuts", "all_cuts", defArgs s_all_cuts, defBody s_all_cuts, defScope s_all_cuts, [], []⟩
def D_Shares_init : He.DefD := ⟨("Shares", some "__init__"), "__init__", "Shares.__init__", defArgs s_Shares_init, defBody s_Shares_init, defScope s_Shares_init, [], []⟩
def D_Shares_sizes : He.DefD := ⟨("Shares", some "sizes"), "sizes", "Shares.sizes", defArgs s_Shares_sizes, defBody s_Shares_sizes, defScope s_Shares_sizes, [], []⟩
def D_Shares_heaps : He.DefD := ⟨("Shares", some "heaps"), "heaps", "Shares.heaps", defArgs s_Shares_heaps, defBody s_Shares_heaps, defScope s_Shares_heaps, [], []⟩
def D_ways_of : He.DefD := ⟨("ways_of", none), "ways_of", "ways_of", defArgs s_ways_of, defBody s_ways_of, defScope s_ways_of, [], []⟩
def D_how_many : He.DefD := ⟨("how_many", none), "how_many", "how_many", defArgs s_how_many, defBody s_how_many, defScope s_how_many, [], []⟩
def D_nth_shuffle : He.DefD := ⟨("nth_shuffle", none), "nth_shuffle", "nth_shuffle", defArgs s_nth_shuffle, defBody s_nth_shuffle, defScope s_nth_shuffle, [], []⟩
def D_number_in : He.DefD := ⟨("number_in", none), "number_in", "number_in", defArgs s_number_in, defBody s_number_in, defScope s_number_in, [], []⟩
def D_rows_of : He.DefD := ⟨("rows_of", none), "rows_of", "rows_of", defArgs s_rows_of, defBody s_rows_of, defScope s_rows_of, [], []⟩
def D_nth : He.DefD := ⟨("nth", none), "nth", "nth", defArgs s_nth, defBody s_nth, defScope s_nth, [], []⟩
def D_number_of : He.DefD := ⟨("number_of", none), "number_of", "number_of", defArgs s_number_of, defBody s_number_of, defScope s_number_of, [], []⟩
def D_gone_over : He.DefD := ⟨("gone_over", none), "gone_over", "gone_over", defArgs s_gone_over, defBody s_gone_over, defScope s_gone_over, [], []⟩
def D_Pecking_init : He.DefD := ⟨("Pecking", some "__init__"), "__init__", "Pecking.__init__", defArgs s_Pecking_init, defBody s_Pecking_init, defScope s_Pecking_init, [], []⟩
def D_Pecking_peck : He.DefD := ⟨("Pecking", some "peck"), "peck", "Pecking.peck", defArgs s_Pecking_peck, defBody s_Pecking_peck, defScope s_Pecking_peck, [], []⟩
def D_Pecking_taken_off : He.DefD := ⟨("Pecking", some "taken_off"), "taken_off", "Pecking.taken_off", defArgs s_Pecking_taken_off, defBody s_Pecking_taken_off, defScope s_Pecking_taken_off, [], []⟩
def D_Pecking_shuffled : He.DefD := ⟨("Pecking", some "shuffled"), "shuffled", "Pecking.shuffled", defArgs s_Pecking_shuffled, defBody s_Pecking_shuffled, defScope s_Pecking_shuffled, [], []⟩
def D_order_of : He.DefD := ⟨("order_of", none), "order_of", "order_of", defArgs s_order_of, defBody s_order_of, defScope s_order_of, [], []⟩
def D_parted : He.DefD := ⟨("parted", none), "parted", "parted", defArgs s_parted, defBody s_parted, defScope s_parted, [], []⟩
def D_abouts_of : He.DefD := ⟨("abouts_of", none), "abouts_of", "abouts_of", defArgs s_abouts_of, defBody s_abouts_of, defScope s_abouts_of, [], []⟩
def D_lead_awake : He.DefD := ⟨("lead_awake", none), "lead_awake", "lead_awake", defArgs s_lead_awake, defBody s_lead_awake, defScope s_lead_awake, [], []⟩
def D_barred_by : He.DefD := ⟨("barred_by", none), "barred_by", "barred_by", defArgs s_barred_by, defBody s_barred_by, defScope s_barred_by, [], []⟩
def D_between : He.DefD := ⟨("between", none), "between", "between", defArgs s_between, defBody s_between, defScope s_between, [], []⟩
def D_law_box : He.DefD := ⟨("_law_box", none), "_law_box", "_law_box", defArgs s_law_box, defBody s_law_box, defScope s_law_box, [], []⟩
def D_law_take : He.DefD := ⟨("_law_take", none), "_law_take", "_law_take", defArgs s_law_take, defBody s_law_take, defScope s_law_take, [], []⟩
def D_law_cells : He.DefD := ⟨("_law_cells", none), "_law_cells", "_law_cells", defArgs s_law_cells, defBody s_law_cells, defScope s_law_cells, [], []⟩
def D_law_of : He.DefD := ⟨("_law_of", none), "_law_of", "_law_of", defArgs s_law_of, defBody s_law_of, defScope s_law_of, [], []⟩
def D_law_word : He.DefD := ⟨("_law_word", none), "_law_word", "_law_word", defArgs s_law_word, defBody s_law_word, defScope s_law_word, [], []⟩
def D_law_room : He.DefD := ⟨("_law_room", none), "_law_room", "_law_room", defArgs s_law_room, defBody s_law_room, defScope s_law_room, [], []⟩
def D_law_peck : He.DefD := ⟨("_law_peck", none), "_law_peck", "_law_peck", defArgs s_law_peck, defBody s_law_peck, defScope s_law_peck, [], []⟩
def D_law_can : He.DefD := ⟨("_law_can", none), "_law_can", "_law_can", defArgs s_law_can, defBody s_law_can, defScope s_law_can, [], []⟩
def D_law_behind : He.DefD := ⟨("_law_behind", none), "_law_behind", "_law_behind", defArgs s_law_behind, defBody s_law_behind, defScope s_law_behind, [], []⟩
def D_law_held : He.DefD := ⟨("_law_held", none), "_law_held", "_law_held", defArgs s_law_held, defBody s_law_held, defScope s_law_held, [], []⟩
def D_law_line : He.DefD := ⟨("_law_line", none), "_law_line", "_law_line", defArgs s_law_line, defBody s_law_line, defScope s_law_line, [], []⟩
def D_law_pairs : He.DefD := ⟨("_law_pairs", none), "_law_pairs", "_law_pairs", defArgs s_law_pairs, defBody s_law_pairs, defScope s_law_pairs, [], []⟩
def D_law_lines_apart : He.DefD := ⟨("_law_lines_apart", none), "_law_lines_apart", "_law_lines_apart", defArgs s_law_lines_apart, defBody s_law_lines_apart, defScope s_law_lines_apart, [], []⟩
def D_law_key : He.DefD := ⟨("_law_key", none), "_law_key", "_law_key", defArgs s_law_key, defBody s_law_key, defScope s_law_key, [], []⟩
def D_law_right : He.DefD := ⟨("_law_right", none), "_law_right", "_law_right", defArgs s_law_right, defBody s_law_right, defScope s_law_right, [], []⟩
def D_law : He.DefD := ⟨("law", none), "law", "law", defArgs s_law, defBody s_law, defScope s_law, [], []⟩
def D_between2 : He.DefD := ⟨("between", none), "between", "between", defArgs s_between, defBody s_between, defScope s_between, [], [("asleep", .adr (kwAt ("between", none) "asleep"))]⟩
def fn0 : List He.DefD := [D_is_number, D_as_heap, D_as_standing, D_is_there, D_look_dove, D_held, D_grudges_in, D_line, D_cut, D_pairs_of, D_first_apart, D_look_same, D_first_unlike, D_sleepers_grudges, D_still_of, D_still, D_first_moved, D_look_lines, D_look_still, D_rows_given, D_rows_got, D_waits_in, D_givings, D_waits, D_look_few, D_shuffles, D_all_cuts, D_Shares_init, D_Shares_sizes, D_Shares_heaps]
def fn1 : List He.DefD := [D_ways_of, D_how_many, D_nth_shuffle, D_number_in, D_rows_of, D_nth, D_number_of, D_gone_over, D_Pecking_init, D_Pecking_peck, D_Pecking_taken_off, D_Pecking_shuffled, D_order_of, D_parted, D_abouts_of, D_lead_awake, D_barred_by, D_between, D_law_box, D_law_take, D_law_cells, D_law_of, D_law_word, D_law_room, D_law_peck, D_law_can, D_law_behind, D_law_held, D_law_line, D_law_pairs]
def fn2 : List He.DefD := [D_law_lines_apart, D_law_key, D_law_right, D_law, D_between2]
def fn : List He.DefD := fn0 ++ fn1 ++ fn2
def fa0 : List He.Fa := [.glo "is_number", .glo "as_heap", .glo "as_standing", .glo "is_there", .glo "look_dove", .glo "held", .glo "grudges_in", .glo "line", .glo "cut", .glo "pairs_of", .glo "first_apart", .glo "look_same", .glo "first_unlike", .glo "sleepers_grudges", .glo "still_of", .glo "still", .glo "first_moved", .glo "look_lines", .glo "look_still", .glo "rows_given", .glo "rows_got", .glo "waits_in", .glo "givings", .glo "waits", .glo "look_few", .glo "shuffles", .glo "all_cuts", .mkr "Shares", .meth "Shares" "sizes", .meth "Shares" "heaps"]
def fa1 : List He.Fa := [.glo "ways_of", .glo "how_many", .glo "nth_shuffle", .glo "number_in", .glo "rows_of", .glo "nth", .glo "number_of", .glo "gone_over", .mkr "Pecking", .meth "Pecking" "peck", .meth "Pecking" "taken_off", .meth "Pecking" "shuffled", .glo "order_of", .glo "parted", .glo "abouts_of", .glo "lead_awake", .glo "barred_by", .glo "between", .glo "_law_box", .glo "_law_take", .glo "_law_cells", .glo "_law_of", .glo "_law_word", .glo "_law_room", .glo "_law_peck", .glo "_law_can", .glo "_law_behind", .glo "_law_held", .glo "_law_line", .glo "_law_pairs"]
def fa2 : List He.Fa := [.glo "_law_lines_apart", .glo "_law_key", .glo "_law_right", .glo "law", .glo "Shares", .cls "Shares", .glo "Pecking", .cls "Pecking", .noat "Shares" "own_standing", .noat "Shares" "pairs", .noat "Shares" "lengths", .noat "Pecking" "here", .noat "Pecking" "so_far", .glo "Barred", .int "MOST_GRUDGES" 10, .str "ROW" "row", .str "RING" "ring", .free "len", .free "sum", .free "all", .free "tuple", .free "list", .free "abs", .free "max", .free "min", .free "int", .free "bool", .free "isinstance", .free "divmod", .free "sorted"]
def fa3 : List He.Fa := [.free "set", .free "range", .free "enumerate", .free "zip"]
def fa : List He.Fa := fa0 ++ fa1 ++ fa2 ++ fa3
theorem txt_of {K : PySem.W.Frag} {h : Heap} {mg : Str → Option Value} (X : K.In h) (G : h.Ns mainGlobals mg) (c : He.SaysD fa fn K) (c2 : exB K = true) : Txt K mg (He.ga K "Shares") (He.ga K "Pecking") (He.ga K "Barred") where
  d_is_number := let ⟨fd, F⟩ := c.def_ 0 (d := D_is_number) rfl; ⟨_, fd, F, (He.glo_ok X G (c.fact 0 (f := .glo "is_number") rfl))⟩
  d_as_heap := let ⟨fd, F⟩ := c.def_ 1 (d := D_as_heap) rfl; ⟨_, fd, F, (He.glo_ok X G (c.fact 1 (f := .glo "as_heap") rfl))⟩
  d_as_standing := let ⟨fd, F⟩ := c.def_ 2 (d := D_as_standing) rfl; ⟨_, fd, F, (He.glo_ok X G (c.fact 2 (f := .glo "as_standing") rfl))⟩
  d_is_there := let ⟨fd, F⟩ := c.def_ 3 (d := D_is_there) rfl; ⟨_, fd, F, (He.glo_ok X G (c.fact 3 (f := .glo "is_there") rfl))⟩
  d_look_dove := let ⟨fd, F⟩ := c.def_ 4 (d := D_look_dove) rfl; ⟨_, fd, F, (He.glo_ok X G (c.fact 4 (f := .glo "look_dove") rfl))⟩
  d_held := let ⟨fd, F⟩ := c.def_ 5 (d := D_held) rfl; ⟨_, fd, F, (He.glo_ok X G (c.fact 5 (f := .glo "held") rfl))⟩
  d_grudges_in := let ⟨fd, F⟩ := c.def_ 6 (d := D_grudges_in) rfl; ⟨_, fd, F, (He.glo_ok X G (c.fact 6 (f := .glo "grudges_in") rfl))⟩
  d_line := let ⟨fd, F⟩ := c.def_ 7 (d := D_line) rfl; ⟨_, fd, F, (He.glo_ok X G (c.fact 7 (f := .glo "line") rfl))⟩
  d_cut := let ⟨fd, F⟩ := c.def_ 8 (d := D_cut) rfl; ⟨_, fd, F, (He.glo_ok X G (c.fact 8 (f := .glo "cut") rfl))⟩
  d_pairs_of := let ⟨fd, F⟩ := c.def_ 9 (d := D_pairs_of) rfl; ⟨_, fd, F, (He.glo_ok X G (c.fact 9 (f := .glo "pairs_of") rfl))⟩
  d_first_apart := let ⟨fd, F⟩ := c.def_ 10 (d := D_first_apart) rfl; ⟨_, fd, F, (He.glo_ok X G (c.fact 10 (f := .glo "first_apart") rfl))⟩
  d_look_same := let ⟨fd, F⟩ := c.def_ 11 (d := D_look_same) rfl; ⟨_, fd, F, (He.glo_ok X G (c.fact 11 (f := .glo "look_same") rfl))⟩
  d_first_unlike := let ⟨fd, F⟩ := c.def_ 12 (d := D_first_unlike) rfl; ⟨_, fd, F, (He.glo_ok X G (c.fact 12 (f := .glo "first_unlike") rfl))⟩
  d_sleepers_grudges := let ⟨fd, F⟩ := c.def_ 13 (d := D_sleepers_grudges) rfl; ⟨_, fd, F, (He.glo_ok X G (c.fact 13 (f := .glo "sleepers_grudges") rfl))⟩
  d_still_of := let ⟨fd, F⟩ := c.def_ 14 (d := D_still_of) rfl; ⟨_, fd, F, (He.glo_ok X G (c.fact 14 (f := .glo "still_of") rfl))⟩
  d_still := let ⟨fd, F⟩ := c.def_ 15 (d := D_still) rfl; ⟨_, fd, F, (He.glo_ok X G (c.fact 15 (f := .glo "still") rfl))⟩
  d_first_moved := let ⟨fd, F⟩ := c.def_ 16 (d := D_first_moved) rfl; ⟨_, fd, F, (He.glo_ok X G (c.fact 16 (f := .glo "first_moved") rfl))⟩
  d_look_lines := let ⟨fd, F⟩ := c.def_ 17 (d := D_look_lines) rfl; ⟨_, fd, F, (He.glo_ok X G (c.fact 17 (f := .glo "look_lines") rfl))⟩
  d_look_still := let ⟨fd, F⟩ := c.def_ 18 (d := D_look_still) rfl; ⟨_, fd, F, (He.glo_ok X G (c.fact 18 (f := .glo "look_still") rfl))⟩
  d_rows_given := let ⟨fd, F⟩ := c.def_ 19 (d := D_rows_given) rfl; ⟨_, fd, F, (He.glo_ok X G (c.fact 19 (f := .glo "rows_given") rfl))⟩
  d_rows_got := let ⟨fd, F⟩ := c.def_ 20 (d := D_rows_got) rfl; ⟨_, fd, F, (He.glo_ok X G (c.fact 20 (f := .glo "rows_got") rfl))⟩
  d_waits_in := let ⟨fd, F⟩ := c.def_ 21 (d := D_waits_in) rfl; ⟨_, fd, F, (He.glo_ok X G (c.fact 21 (f := .glo "waits_in") rfl))⟩
  d_givings := let ⟨fd, F⟩ := c.def_ 22 (d := D_givings) rfl; ⟨_, fd, F, (He.glo_ok X G (c.fact 22 (f := .glo "givings") rfl))⟩
  d_waits := let ⟨fd, F⟩ := c.def_ 23 (d := D_waits) rfl; ⟨_, fd, F, (He.glo_ok X G (c.fact 23 (f := .glo "waits") rfl))⟩
  d_look_few := let ⟨fd, F⟩ := c.def_ 24 (d := D_look_few) rfl; ⟨_, fd, F, (He.glo_ok X G (c.fact 24 (f := .glo "look_few") rfl))⟩
  d_shuffles := let ⟨fd, F⟩ := c.def_ 25 (d := D_shuffles) rfl; ⟨_, fd, F, (He.glo_ok X G (c.fact 25 (f := .glo "shuffles") rfl))⟩
  d_all_cuts := let ⟨fd, F⟩ := c.def_ 26 (d := D_all_cuts) rfl; ⟨_, fd, F, (He.glo_ok X G (c.fact 26 (f := .glo "all_cuts") rfl))⟩
  d_Shares_init := let ⟨fd, F⟩ := c.def_ 27 (d := D_Shares_init) rfl; ⟨_, fd, F, (He.mkr_ok (c.fact 27 (f := .mkr "Shares") rfl))⟩
  d_Shares_sizes := let ⟨fd, F⟩ := c.def_ 28 (d := D_Shares_sizes) rfl; ⟨_, fd, F, (He.meth_ok (c.fact 28 (f := .meth "Shares" "sizes") rfl))⟩
  d_Shares_heaps := let ⟨fd, F⟩ := c.def_ 29 (d := D_Shares_heaps) rfl; ⟨_, fd, F, (He.meth_ok (c.fact 29 (f := .meth "Shares" "heaps") rfl))⟩
  d_ways_of := let ⟨fd, F⟩ := c.def_ 30 (d := D_ways_of) rfl; ⟨_, fd, F, (He.glo_ok X G (c.fact 30 (f := .glo "ways_of") rfl))⟩
  d_how_many := let ⟨fd, F⟩ := c.def_ 31 (d := D_how_many) rfl; ⟨_, fd, F, (He.glo_ok X G (c.fact 31 (f := .glo "how_many") rfl))⟩
  d_nth_shuffle := let ⟨fd, F⟩ := c.def_ 32 (d := D_nth_shuffle) rfl; ⟨_, fd, F, (He.glo_ok X G (c.fact 32 (f := .glo "nth_shuffle") rfl))⟩
  d_number_in := let ⟨fd, F⟩ := c.def_ 33 (d := D_number_in) rfl; ⟨_, fd, F, (He.glo_ok X G (c.fact 33 (f := .glo "number_in") rfl))⟩
  d_rows_of := let ⟨fd, F⟩ := c.def_ 34 (d := D_rows_of) rfl; ⟨_, fd, F, (He.glo_ok X G (c.fact 34 (f := .glo "rows_of") rfl))⟩
  d_nth := let ⟨fd, F⟩ := c.def_ 35 (d := D_nth) rfl; ⟨_, fd, F, (He.glo_ok X G (c.fact 35 (f := .glo "nth") rfl))⟩
  d_number_of := let ⟨fd, F⟩ := c.def_ 36 (d := D_number_of) rfl; ⟨_, fd, F, (He.glo_ok X G (c.fact 36 (f := .glo "number_of") rfl))⟩
  d_gone_over := let ⟨fd, F⟩ := c.def_ 37 (d := D_gone_over) rfl; ⟨_, fd, F, (He.glo_ok X G (c.fact 37 (f := .glo "gone_over") rfl))⟩
  d_Pecking_init := let ⟨fd, F⟩ := c.def_ 38 (d := D_Pecking_init) rfl; ⟨_, fd, F, (He.mkr_ok (c.fact 38 (f := .mkr "Pecking") rfl))⟩
  d_Pecking_peck := let ⟨fd, F⟩ := c.def_ 39 (d := D_Pecking_peck) rfl; ⟨_, fd, F, (He.meth_ok (c.fact 39 (f := .meth "Pecking" "peck") rfl))⟩
  d_Pecking_taken_off := let ⟨fd, F⟩ := c.def_ 40 (d := D_Pecking_taken_off) rfl; ⟨_, fd, F, (He.meth_ok (c.fact 40 (f := .meth "Pecking" "taken_off") rfl))⟩
  d_Pecking_shuffled := let ⟨fd, F⟩ := c.def_ 41 (d := D_Pecking_shuffled) rfl; ⟨_, fd, F, (He.meth_ok (c.fact 41 (f := .meth "Pecking" "shuffled") rfl))⟩
  d_order_of := let ⟨fd, F⟩ := c.def_ 42 (d := D_order_of) rfl; ⟨_, fd, F, (He.glo_ok X G (c.fact 42 (f := .glo "order_of") rfl))⟩
  d_parted := let ⟨fd, F⟩ := c.def_ 43 (d := D_parted) rfl; ⟨_, fd, F, (He.glo_ok X G (c.fact 43 (f := .glo "parted") rfl))⟩
  d_abouts_of := let ⟨fd, F⟩ := c.def_ 44 (d := D_abouts_of) rfl; ⟨_, fd, F, (He.glo_ok X G (c.fact 44 (f := .glo "abouts_of") rfl))⟩
  d_lead_awake := let ⟨fd, F⟩ := c.def_ 45 (d := D_lead_awake) rfl; ⟨_, fd, F, (He.glo_ok X G (c.fact 45 (f := .glo "lead_awake") rfl))⟩
  d_barred_by := let ⟨fd, F⟩ := c.def_ 46 (d := D_barred_by) rfl; ⟨_, fd, F, (He.glo_ok X G (c.fact 46 (f := .glo "barred_by") rfl))⟩
  d_between := let ⟨fd, F⟩ := c.def_ 47 (d := D_between) rfl; ⟨_, fd, F, (He.glo_ok X G (c.fact 47 (f := .glo "between") rfl))⟩
  d_law_box := let ⟨fd, F⟩ := c.def_ 48 (d := D_law_box) rfl; ⟨_, fd, F, (He.glo_ok X G (c.fact 48 (f := .glo "_law_box") rfl))⟩
  d_law_take := let ⟨fd, F⟩ := c.def_ 49 (d := D_law_take) rfl; ⟨_, fd, F, (He.glo_ok X G (c.fact 49 (f := .glo "_law_take") rfl))⟩
  d_law_cells := let ⟨fd, F⟩ := c.def_ 50 (d := D_law_cells) rfl; ⟨_, fd, F, (He.glo_ok X G (c.fact 50 (f := .glo "_law_cells") rfl))⟩
  d_law_of := let ⟨fd, F⟩ := c.def_ 51 (d := D_law_of) rfl; ⟨_, fd, F, (He.glo_ok X G (c.fact 51 (f := .glo "_law_of") rfl))⟩
  d_law_word := let ⟨fd, F⟩ := c.def_ 52 (d := D_law_word) rfl; ⟨_, fd, F, (He.glo_ok X G (c.fact 52 (f := .glo "_law_word") rfl))⟩
  d_law_room := let ⟨fd, F⟩ := c.def_ 53 (d := D_law_room) rfl; ⟨_, fd, F, (He.glo_ok X G (c.fact 53 (f := .glo "_law_room") rfl))⟩
  d_law_peck := let ⟨fd, F⟩ := c.def_ 54 (d := D_law_peck) rfl; ⟨_, fd, F, (He.glo_ok X G (c.fact 54 (f := .glo "_law_peck") rfl))⟩
  d_law_can := let ⟨fd, F⟩ := c.def_ 55 (d := D_law_can) rfl; ⟨_, fd, F, (He.glo_ok X G (c.fact 55 (f := .glo "_law_can") rfl))⟩
  d_law_behind := let ⟨fd, F⟩ := c.def_ 56 (d := D_law_behind) rfl; ⟨_, fd, F, (He.glo_ok X G (c.fact 56 (f := .glo "_law_behind") rfl))⟩
  d_law_held := let ⟨fd, F⟩ := c.def_ 57 (d := D_law_held) rfl; ⟨_, fd, F, (He.glo_ok X G (c.fact 57 (f := .glo "_law_held") rfl))⟩
  d_law_line := let ⟨fd, F⟩ := c.def_ 58 (d := D_law_line) rfl; ⟨_, fd, F, (He.glo_ok X G (c.fact 58 (f := .glo "_law_line") rfl))⟩
  d_law_pairs := let ⟨fd, F⟩ := c.def_ 59 (d := D_law_pairs) rfl; ⟨_, fd, F, (He.glo_ok X G (c.fact 59 (f := .glo "_law_pairs") rfl))⟩
  d_law_lines_apart := let ⟨fd, F⟩ := c.def_ 60 (d := D_law_lines_apart) rfl; ⟨_, fd, F, (He.glo_ok X G (c.fact 60 (f := .glo "_law_lines_apart") rfl))⟩
  d_law_key := let ⟨fd, F⟩ := c.def_ 61 (d := D_law_key) rfl; ⟨_, fd, F, (He.glo_ok X G (c.fact 61 (f := .glo "_law_key") rfl))⟩
  d_law_right := let ⟨fd, F⟩ := c.def_ 62 (d := D_law_right) rfl; ⟨_, fd, F, (He.glo_ok X G (c.fact 62 (f := .glo "_law_right") rfl))⟩
  d_law := let ⟨fd, F⟩ := c.def_ 63 (d := D_law) rfl; ⟨_, fd, F, (He.glo_ok X G (c.fact 63 (f := .glo "law") rfl))⟩
  k_between := let ⟨fd, F⟩ := c.def_ 64 (d := D_between2) rfl; ⟨kwAt ("between", none) "asleep" K, _, fd, F, (He.glo_ok X G (c.fact 47 (f := .glo "between") rfl)), exB_ok c2⟩
  c_CS := (He.glo_ok X G (c.fact 64 (f := .glo "Shares") rfl))
  l_CS := He.cls_ok (c.fact 65 (f := .cls "Shares") rfl)
  c_CP := (He.glo_ok X G (c.fact 66 (f := .glo "Pecking") rfl))
  l_CP := He.cls_ok (c.fact 67 (f := .cls "Pecking") rfl)
  n_own_standing := He.noat_ok (c.fact 68 (f := .noat "Shares" "own_standing") rfl)
  n_pairs := He.noat_ok (c.fact 69 (f := .noat "Shares" "pairs") rfl)
  n_lengths := He.noat_ok (c.fact 70 (f := .noat "Shares" "lengths") rfl)
  n_here := He.noat_ok (c.fact 71 (f := .noat "Pecking" "here") rfl)
  n_so_far := He.noat_ok (c.fact 72 (f := .noat "Pecking" "so_far") rfl)
  c_CB := (He.glo_ok X G (c.fact 73 (f := .glo "Barred") rfl))
  g_MOST_GRUDGES := let ⟨t, e⟩ := (He.int_ok X G (c.fact 74 (f := .int "MOST_GRUDGES" 10) rfl)); ⟨_, e, t, rfl⟩
  g_ROW := let ⟨t, e⟩ := (He.str_ok X G (c.fact 75 (f := .str "ROW" "row") rfl)); ⟨_, e, t, rfl⟩
  g_RING := let ⟨t, e⟩ := (He.str_ok X G (c.fact 76 (f := .str "RING" "ring") rfl)); ⟨_, e, t, rfl⟩
  b_len := (He.free_ok X G (c.fact 77 (f := .free "len") rfl))
  b_sum := (He.free_ok X G (c.fact 78 (f := .free "sum") rfl))
  b_all := (He.free_ok X G (c.fact 79 (f := .free "all") rfl))
  b_tuple := (He.free_ok X G (c.fact 80 (f := .free "tuple") rfl))
  b_list := (He.free_ok X G (c.fact 81 (f := .free "list") rfl))
  b_abs := (He.free_ok X G (c.fact 82 (f := .free "abs") rfl))
  b_max := (He.free_ok X G (c.fact 83 (f := .free "max") rfl))
  b_min := (He.free_ok X G (c.fact 84 (f := .free "min") rfl))
  b_int := (He.free_ok X G (c.fact 85 (f := .free "int") rfl))
  b_bool := (He.free_ok X G (c.fact 86 (f := .free "bool") rfl))
  b_isinstance := (He.free_ok X G (c.fact 87 (f := .free "isinstance") rfl))
  b_divmod := (He.free_ok X G (c.fact 88 (f := .free "divmod") rfl))
  b_sorted := (He.free_ok X G (c.fact 89 (f := .free "sorted") rfl))
  b_set := (He.free_ok X G (c.fact 90 (f := .free "set") rfl))
  b_range := (He.free_ok X G (c.fact 91 (f := .free "range") rfl))
  b_enumerate := (He.free_ok X G (c.fact 92 (f := .free "enumerate") rfl))
  b_zip := (He.free_ok X G (c.fact 93 (f := .free "zip") rfl))
abbrev RO : PySem.W.OpenRow := PySem.W.OpenLaw.row PySem.Challenge.rw_grudgecote_k76_whole_each_number_a_stand
def obG (g : Addr → Option Obj) : He.AlD × Bool := (He.obsD fa fn (He.frG g (asMy g)), exB (He.frG g (asMy g)))
def hkG : PySem.W.Hook where
  α := He.AlD × Bool
  obs := fun s => obG s.heap.get?
  val := fun _ => (He.valD fn, true)
  says := fun _ h => ∃ K : PySem.W.Frag, K.In h ∧ He.SaysD fa fn K ∧ exB K = true
  of := fun _ _ e => ⟨_, He.frG_in, congrArg Prod.fst e, congrArg Prod.snd e⟩
  keeps := fun _ _ _ ⟨K, hK, c⟩ k => ⟨K, PySem.W.Frag.In.keeps hK k, c⟩
def obH (s : PySem.W.SharedT) : He.AlD × Bool := obG (HandSHeadRun.getT s)
theorem obH_eq (s : PySem.W.SharedT) : obH s = hkG.obs s.abs := by
  have e : HandSHeadRun.getT s = s.abs.heap.get? := funext (HandSHeadRun.getT_eq s)
  unfold obH
  rw [e]
  rfl
def looseN0 : List Str := ["NotSame", "NoDove", "NoStanding", "Barred", "TooMany", "is_number", "as_heap", "as_standing", "is_there", "look_dove", "held", "grudges_in", "line", "cut", "pairs_of", "first_apart", "look_same", "first_unlike", "sleepers_grudges", "still_of", "still", "first_moved", "look_lines", "look_still", "about_of", "rows_given", "rows_got", "waits_in", "givings", "waits"]
def looseN1 : List Str := ["MOST_GRUDGES", "look_few", "shuffles", "all_cuts", "Shares", "ways_of", "how_many", "nth_shuffle", "number_in", "rows_of", "nth", "number_of", "gone_over", "ROW", "RING", "Pecking", "order_of", "ring_of", "parted", "abouts_of", "lead_awake", "barred_by", "between", "_law_box", "_law_take", "_law_cells", "_law_of", "_law_word", "_law_room", "_law_peck"]
def looseN2 : List Str := ["_law_can", "_law_behind", "_law_held", "_law_line", "_law_pairs", "_law_lines_apart", "_law_key", "_law_right"]
def looseN : List Str := looseN0 ++ looseN1 ++ looseN2
def lawAt : Nat := 77
end Gr
set_option maxHeartbeats 0
/-! all together -/
namespace Gr
open PySem PySem.Spec PyProof.Rows L2
theorem f_law {P : Program} {w : World} {K : PySem.W.Frag} {mg : Str → Option Value} {base : Heap} {CS CP CB : Addr} (T : Txt K mg CS CP CB)
  (c_law_box : C8.Cal P w K mg base 1 "_law_box" (sp_law_box K) [])
  (c_law_cells : C8.Cal P w K mg base 1 "_law_cells" (sp_law_cells K) [])
  (c_law_right : C8.Cal P w K mg base 12 "_law_right" (sp_law_right K) []) {f : Addr} {fd : FuncData} (FD : FnT K "law" "law" s_law [] f fd) :
  FnOk P w K mg base C8.CX0 13 f fd ["_law_script"] (sp_law K) := by
  have Ho : ∀ s ds r s', R_law s ds r s' → ds.length = 0 := (by intro s ds r s' h; repeat (first | (rcases h with ⟨rfl, _⟩; rfl) | (obtain ⟨_, h⟩ := h)))
  refine FD.ok sc_law (fun vs H Q E h => len_S Ho h) (fun cdv A outer s H vs Q E hr h => ⟨t_law K CS CP, PSs.nox ?_, body_S b_law h⟩)
  have nd := sc_law.nd
  exact (pss_cons (ps_st 1 nd (C8.pe_c c_law_cells hr (by decide) (by rfl) (pa_cons (pv 0) (pa_cons pe_int pa_nil))))
  (pss_one (ps_ret (pe_callB (cr_all rfl) (by rfl) T.b_all (by decide +kernel) (pa_cons (pe_lc (own := [("_law_k", 2)]) rfl nd (pi_range1 (by rfl) T.b_range (pa_cons (pe_callB call_len_seq (by rfl) T.b_len PySem.boot_len (pa_cons (pv 1) pa_nil)) pa_nil)) (blkOk_by (N := N_law) (sc := (defScope s_law)) (by decide +kernel)) (fun _ _ _ _ _ => (pg_nm 2 nd)) (fun _ _ _ _ _ => pts_nil) (fun _ _ _ _ _ => (C8.pe_c c_law_right hr (by decide) (by rfl) (pa_cons (C8.pe_c c_law_box hr (by decide) (by rfl) (pa_cons (pv 1) (pa_cons (pv 2) pa_nil))) pa_nil)))) pa_nil)))))
theorem law_fn {P : Program} {w : World} {K : PySem.W.Frag} {mg : Str → Option Value} {base : Heap} {CS CP CB : Addr} (T : Txt K mg CS CP CB) {f : Addr} {fd : FuncData} (FD : FnT K "law" "law" s_law [] f fd) : FnOk P w K mg base C8.CX0 13 f fd ["_law_script"] (sp_law K) := by
  have c_law_box : C8.Cal P w K mg base 1 "_law_box" (sp_law_box K) [] := Gr.c_law_box T  (by intro ds r h; repeat (first | (rcases h with ⟨rfl, _⟩; rfl) | (obtain ⟨_, h⟩ := h))) b_law_box
  have c_law_cells : C8.Cal P w K mg base 1 "_law_cells" (sp_law_cells K) [] := Gr.c_law_cells T  (by intro s ds r s' h; repeat (first | (rcases h with ⟨rfl, _⟩; rfl) | (obtain ⟨_, h⟩ := h))) b_law_cells
  have c_law_can : C8.Cal P w K mg base 1 "_law_can" (sp_law_can K) [] := Gr.c_law_can T  (by intro ds r h; repeat (first | (rcases h with ⟨rfl, _⟩; rfl) | (obtain ⟨_, h⟩ := h))) b_law_can
  have c_law_peck : C8.Cal P w K mg base 1 "_law_peck" (sp_law_peck K) [] := Gr.c_law_peck T  (by intro ds r h; repeat (first | (rcases h with ⟨rfl, _⟩; rfl) | (obtain ⟨_, h⟩ := h))) b_law_peck
  have c_law_behind : C8.Cal P w K mg base 2 "_law_behind" (sp_law_behind K) [] := Gr.c_law_behind T c_law_can c_law_peck (by intro ds r h; repeat (first | (rcases h with ⟨rfl, _⟩; rfl) | (obtain ⟨_, h⟩ := h))) b_law_behind
  have c_law_held : C8.Cal P w K mg base 1 "_law_held" (sp_law_held K) [] := Gr.c_law_held T  (by intro ds r h; repeat (first | (rcases h with ⟨rfl, _⟩; rfl) | (obtain ⟨_, h⟩ := h))) b_law_held
  have c_law_pairs : C8.Cal P w K mg base 1 "_law_pairs" (sp_law_pairs K) [] := Gr.c_law_pairs T  (by intro ds r h; repeat (first | (rcases h with ⟨rfl, _⟩; rfl) | (obtain ⟨_, h⟩ := h))) b_law_pairs
  have c_law_key : C8.Cal P w K mg base 2 "_law_key" (sp_law_key K) [] := Gr.c_law_key T c_law_held c_law_pairs (by intro ds r h; repeat (first | (rcases h with ⟨rfl, _⟩; rfl) | (obtain ⟨_, h⟩ := h))) b_law_key
  have c_law_line : C8.Cal P w K mg base 2 "_law_line" (sp_law_line K) [] := Gr.c_law_line T c_law_held (by intro ds r h; repeat (first | (rcases h with ⟨rfl, _⟩; rfl) | (obtain ⟨_, h⟩ := h))) b_law_line
  have c_law_lines_apart : C8.Cal P w K mg base 3 "_law_lines_apart" (sp_law_lines_apart K) [] := Gr.c_law_lines_apart T c_law_line c_law_pairs (by intro ds r h; repeat (first | (rcases h with ⟨rfl, _⟩; rfl) | (obtain ⟨_, h⟩ := h))) b_law_lines_apart
  have c_law_take : C8.Cal P w K mg base 1 "_law_take" (sp_law_take K) [] := Gr.c_law_take T  (by intro s ds r s' h; repeat (first | (rcases h with ⟨rfl, _⟩; rfl) | (obtain ⟨_, h⟩ := h))) b_law_take
  have c_law_of : C8.Cal P w K mg base 2 "_law_of" (sp_law_of K) [] := Gr.c_law_of T c_law_take (by intro s ds r s' h; repeat (first | (rcases h with ⟨rfl, _⟩; rfl) | (obtain ⟨_, h⟩ := h))) b_law_of
  have c_law_word : C8.Cal P w K mg base 2 "_law_word" (sp_law_word K) [] := Gr.c_law_word T c_law_take (by intro s ds r s' h; repeat (first | (rcases h with ⟨rfl, _⟩; rfl) | (obtain ⟨_, h⟩ := h))) b_law_word
  have c_law_room : C8.Cal P w K mg base 3 "_law_room" (sp_law_room K) [] := Gr.c_law_room T c_law_take c_law_word (by intro s ds r s' h; repeat (first | (rcases h with ⟨rfl, _⟩; rfl) | (obtain ⟨_, h⟩ := h))) b_law_room
  have c_as_heap : C8.Cal P w K mg base 1 "as_heap" (sp_as_heap K) [] := Gr.c_as_heap T  (by intro ds r h; repeat (first | (rcases h with ⟨rfl, _⟩; rfl) | (obtain ⟨_, h⟩ := h))) b_as_heap
  have c_as_standing : C8.Cal P w K mg base 2 "as_standing" (sp_as_standing K) [] := Gr.c_as_standing T c_as_heap (by intro ds r h; repeat (first | (rcases h with ⟨rfl, _⟩; rfl) | (obtain ⟨_, h⟩ := h))) b_as_standing
  have c_Pecking_init : C8.Mak P w K mg base 3 "Pecking" CP (sp_Pecking_init K CP) [] := Gr.c_Pecking_init T c_as_standing (by intro x C dx ds P h; repeat (first | (rcases h with ⟨rfl, _⟩; rfl) | (obtain ⟨_, h⟩ := h))) (b_Pecking_init T.l_CP T.n_here T.n_so_far)
  have c_first_apart : C8.Cal P w K mg base 1 "first_apart" (sp_first_apart K) [] := Gr.c_first_apart T  (by intro ds r h; repeat (first | (rcases h with ⟨rfl, _⟩; rfl) | (obtain ⟨_, h⟩ := h))) b_first_apart
  have c_look_same : C8.Cal P w K mg base 1 "look_same" (sp_look_same K) [] := Gr.c_look_same T  (by intro ds r h; repeat (first | (rcases h with ⟨rfl, _⟩; rfl) | (obtain ⟨_, h⟩ := h))) b_look_same
  have c_sleepers_grudges : C8.Cal P w K mg base 1 "sleepers_grudges" (sp_sleepers_grudges K) [] := Gr.c_sleepers_grudges T  (by intro ds r h; repeat (first | (rcases h with ⟨rfl, _⟩; rfl) | (obtain ⟨_, h⟩ := h))) b_sleepers_grudges
  have c_still_of : C8.Cal P w K mg base 2 "still_of" (sp_still_of K) [] := Gr.c_still_of T c_sleepers_grudges (by intro ds r h; repeat (first | (rcases h with ⟨rfl, _⟩; rfl) | (obtain ⟨_, h⟩ := h))) b_still_of
  have c_still : CalN P w K mg base 3 "still" 2 ["asleep"] (sp_still K) := Gr.c_still T c_look_same c_still_of (by intro ds r h; repeat (first | (rcases h with ⟨rfl, _⟩; rfl) | (obtain ⟨_, h⟩ := h))) b_still
  have c_first_moved : CalN P w K mg base 4 "first_moved" 2 ["asleep"] (sp_first_moved K) := Gr.c_first_moved T c_as_heap c_first_apart c_still (by intro ds r h; repeat (first | (rcases h with ⟨rfl, _⟩; rfl) | (obtain ⟨_, h⟩ := h))) b_first_moved
  have c_is_number : C8.Cal P w K mg base 1 "is_number" (sp_is_number K) [] := Gr.c_is_number T  (by intro ds r h; repeat (first | (rcases h with ⟨rfl, _⟩; rfl) | (obtain ⟨_, h⟩ := h))) b_is_number
  have c_is_there : C8.Cal P w K mg base 2 "is_there" (sp_is_there K) [] := Gr.c_is_there T c_is_number (by intro ds r h; repeat (first | (rcases h with ⟨rfl, _⟩; rfl) | (obtain ⟨_, h⟩ := h))) b_is_there
  have c_look_dove : C8.Cal P w K mg base 3 "look_dove" (sp_look_dove K) [] := Gr.c_look_dove T c_is_there (by intro ds r h; repeat (first | (rcases h with ⟨rfl, _⟩; rfl) | (obtain ⟨_, h⟩ := h))) b_look_dove
  have c_held : C8.Cal P w K mg base 4 "held" (sp_held K) [] := Gr.c_held T c_look_dove (by intro ds r h; repeat (first | (rcases h with ⟨rfl, _⟩; rfl) | (obtain ⟨_, h⟩ := h))) b_held
  have c_line : C8.Cal P w K mg base 5 "line" (sp_line K) [] := Gr.c_line T c_held (by intro ds r h; repeat (first | (rcases h with ⟨rfl, _⟩; rfl) | (obtain ⟨_, h⟩ := h))) b_line
  have c_pairs_of : C8.Cal P w K mg base 1 "pairs_of" (sp_pairs_of K) [] := Gr.c_pairs_of T  (by intro ds r h; repeat (first | (rcases h with ⟨rfl, _⟩; rfl) | (obtain ⟨_, h⟩ := h))) b_pairs_of
  have c_first_unlike : C8.Cal P w K mg base 6 "first_unlike" (sp_first_unlike K) [] := Gr.c_first_unlike T c_first_apart c_line c_look_same c_pairs_of (by intro ds r h; repeat (first | (rcases h with ⟨rfl, _⟩; rfl) | (obtain ⟨_, h⟩ := h))) b_first_unlike
  have c_look_lines : C8.Cal P w K mg base 7 "look_lines" (sp_look_lines K) [] := Gr.c_look_lines T c_first_unlike (by intro ds r h; repeat (first | (rcases h with ⟨rfl, _⟩; rfl) | (obtain ⟨_, h⟩ := h))) b_look_lines
  have c_look_still : C8.Cal P w K mg base 8 "look_still" (sp_look_still K) [] := Gr.c_look_still T c_first_moved c_look_lines (by intro ds r h; repeat (first | (rcases h with ⟨rfl, _⟩; rfl) | (obtain ⟨_, h⟩ := h))) b_look_still
  have c_rows_given : C8.Cal P w K mg base 2 "rows_given" (sp_rows_given K) [] := Gr.c_rows_given T c_sleepers_grudges (by intro ds r h; repeat (first | (rcases h with ⟨rfl, _⟩; rfl) | (obtain ⟨_, h⟩ := h))) b_rows_given
  have c_givings : CalN P w K mg base 9 "givings" 2 ["asleep"] (sp_givings K) := Gr.c_givings T c_look_still c_rows_given c_still (by intro ds r h; repeat (first | (rcases h with ⟨rfl, _⟩; rfl) | (obtain ⟨_, h⟩ := h))) b_givings
  have c_barred_by : C8.Cal P w K mg base 10 "barred_by" (sp_barred_by K) [] := Gr.c_barred_by T c_givings (by intro ds r h; repeat (first | (rcases h with ⟨rfl, _⟩; rfl) | (obtain ⟨_, h⟩ := h))) b_barred_by
  have c_gone_over : C8.Cal P w K mg base 1 "gone_over" (sp_gone_over K) [] := Gr.c_gone_over T  (by intro ds r h; repeat (first | (rcases h with ⟨rfl, _⟩; rfl) | (obtain ⟨_, h⟩ := h))) b_gone_over
  have c_Pecking_peck : C8.Met P w K mg base 2 CP "peck" (sp_Pecking_peck K CP) [] := Gr.c_Pecking_peck T c_gone_over (by intro s ds r s' h; repeat (first | (rcases h with ⟨rfl, _⟩; rfl) | (obtain ⟨_, h⟩ := h))) (b_peck T.l_CP T.n_here T.n_so_far)
  have c_Pecking_taken_off : C8.Met P w K mg base 3 CP "taken_off" (sp_Pecking_taken_off K CP) [] := Gr.c_Pecking_taken_off T c_Pecking_peck (by intro s ds r s' h; repeat (first | (rcases h with ⟨rfl, _⟩; rfl) | (obtain ⟨_, h⟩ := h))) (b_taken_off T.l_CP T.n_here)
  have c_Pecking_shuffled : C8.Met P w K mg base 4 CP "shuffled" (sp_Pecking_shuffled K CP) [] := Gr.c_Pecking_shuffled T c_Pecking_peck c_Pecking_taken_off (by intro s ds r s' h; repeat (first | (rcases h with ⟨rfl, _⟩; rfl) | (obtain ⟨_, h⟩ := h))) (b_shuffled T.l_CP)
  have c_abouts_of : C8.Cal P w K mg base 1 "abouts_of" (sp_abouts_of K) [] := Gr.c_abouts_of T  (by intro ds r h; repeat (first | (rcases h with ⟨rfl, _⟩; rfl) | (obtain ⟨_, h⟩ := h))) b_abouts_of
  have c_cut : C8.Cal P w K mg base 5 "cut" (sp_cut K) [] := Gr.c_cut T c_held (by intro ds r h; repeat (first | (rcases h with ⟨rfl, _⟩; rfl) | (obtain ⟨_, h⟩ := h))) b_cut
  have c_parted : C8.Cal P w K mg base 6 "parted" (sp_parted K) [] := Gr.c_parted T c_cut (by intro ds r h; repeat (first | (rcases h with ⟨rfl, _⟩; rfl) | (obtain ⟨_, h⟩ := h))) b_parted
  have c_lead_awake : C8.Cal P w K mg base 7 "lead_awake" (sp_lead_awake K CP) [] := Gr.c_lead_awake T c_Pecking_shuffled c_Pecking_taken_off c_abouts_of c_parted (by intro s ds r s' h; repeat (first | (rcases h with ⟨rfl, _⟩; rfl) | (obtain ⟨_, h⟩ := h))) (b_lead_awake T.l_CP T.n_here)
  have c_order_of : C8.Cal P w K mg base 1 "order_of" (sp_order_of K) [] := Gr.c_order_of T  (by intro ds r h; repeat (first | (rcases h with ⟨rfl, _⟩; rfl) | (obtain ⟨_, h⟩ := h))) b_order_of
  have c_rows_got : C8.Cal P w K mg base 1 "rows_got" (sp_rows_got K) [] := Gr.c_rows_got T  (by intro ds r h; repeat (first | (rcases h with ⟨rfl, _⟩; rfl) | (obtain ⟨_, h⟩ := h))) b_rows_got
  have c_waits_in : C8.Cal P w K mg base 1 "waits_in" (sp_waits_in K) [] := Gr.c_waits_in T  (by intro ds r h; repeat (first | (rcases h with ⟨rfl, _⟩; rfl) | (obtain ⟨_, h⟩ := h))) b_waits_in
  have c_waits : CalN P w K mg base 9 "waits" 2 ["asleep"] (sp_waits K) := Gr.c_waits T c_look_still c_rows_given c_rows_got c_still c_waits_in (by intro ds r h; repeat (first | (rcases h with ⟨rfl, _⟩; rfl) | (obtain ⟨_, h⟩ := h))) b_waits
  obtain ⟨eb, he, c_between⟩ := Gr.c_between (P := P) (w := w) (base := base) T c_Pecking_init c_barred_by c_givings c_lead_awake c_order_of c_still c_waits (by intro ds r h; repeat (first | (rcases h with ⟨rfl, _⟩; rfl) | (obtain ⟨_, h⟩ := h))) (b_between T.l_CP T.n_so_far)
  have c_Shares_init : C8.Mak P w K mg base 6 "Shares" CS (sp_Shares_init K CS) [] := Gr.c_Shares_init T c_line c_pairs_of (by intro x C dx ds P h; repeat (first | (rcases h with ⟨rfl, _⟩; rfl) | (obtain ⟨_, h⟩ := h))) (b_Shares_init T.l_CS T.n_own_standing T.n_pairs T.n_lengths)
  have c_Shares_sizes : C8.Met P w K mg base 1 CS "sizes" (sp_Shares_sizes K CS) [] := Gr.c_Shares_sizes T  (by intro ds r h; repeat (first | (rcases h with ⟨rfl, _⟩; rfl) | (obtain ⟨_, h⟩ := h))) (b_Shares_sizes T.l_CS T.n_own_standing T.n_pairs T.n_lengths)
  have c_all_cuts : C8.Cal P w K mg base 1 "all_cuts" (sp_all_cuts K) [] := Gr.c_all_cuts T  (by intro ds r h; repeat (first | (rcases h with ⟨rfl, _⟩; rfl) | (obtain ⟨_, h⟩ := h))) b_all_cuts
  have c_grudges_in : C8.Cal P w K mg base 1 "grudges_in" (sp_grudges_in K) [] := Gr.c_grudges_in T  (by intro ds r h; repeat (first | (rcases h with ⟨rfl, _⟩; rfl) | (obtain ⟨_, h⟩ := h))) b_grudges_in
  have c_look_few : C8.Cal P w K mg base 2 "look_few" (sp_look_few K) [] := Gr.c_look_few T c_grudges_in (by intro ds r h; repeat (first | (rcases h with ⟨rfl, _⟩; rfl) | (obtain ⟨_, h⟩ := h))) b_look_few
  have c_shuffles : C8.Cal P w K mg base 1 "shuffles" (sp_shuffles K) [] := Gr.c_shuffles T  (by intro ds r h; repeat (first | (rcases h with ⟨rfl, _⟩; rfl) | (obtain ⟨_, h⟩ := h))) b_shuffles
  have c_ways_of : C8.Cal P w K mg base 2 "ways_of" (sp_ways_of K) [] := Gr.c_ways_of T c_shuffles (by intro ds r h; repeat (first | (rcases h with ⟨rfl, _⟩; rfl) | (obtain ⟨_, h⟩ := h))) b_ways_of
  have c_how_many : C8.Cal P w K mg base 8 "how_many" (sp_how_many K) [] := Gr.c_how_many T c_Shares_init c_Shares_sizes c_all_cuts c_look_few c_ways_of (by intro ds r h; repeat (first | (rcases h with ⟨rfl, _⟩; rfl) | (obtain ⟨_, h⟩ := h))) (b_how_many T.l_CS T.n_lengths)
  have c_Shares_heaps : C8.Met P w K mg base 6 CS "heaps" (sp_Shares_heaps K CS) [] := Gr.c_Shares_heaps T c_line (by intro ds r h; repeat (first | (rcases h with ⟨rfl, _⟩; rfl) | (obtain ⟨_, h⟩ := h))) (b_Shares_heaps T.l_CS T.n_own_standing)
  have c_nth_shuffle : C8.Cal P w K mg base 2 "nth_shuffle" (sp_nth_shuffle K) [] := Gr.c_nth_shuffle T c_shuffles (by intro ds r h; repeat (first | (rcases h with ⟨rfl, _⟩; rfl) | (obtain ⟨_, h⟩ := h))) b_nth_shuffle
  have c_rows_of : C8.Cal P w K mg base 3 "rows_of" (sp_rows_of K) [] := Gr.c_rows_of T c_nth_shuffle c_ways_of (by intro ds r h; repeat (first | (rcases h with ⟨rfl, _⟩; rfl) | (obtain ⟨_, h⟩ := h))) b_rows_of
  have c_nth : C8.Cal P w K mg base 8 "nth" (sp_nth K) [] := Gr.c_nth T c_Shares_init c_Shares_heaps c_Shares_sizes c_all_cuts c_is_number c_look_few c_rows_of c_ways_of (by intro ds r h; repeat (first | (rcases h with ⟨rfl, _⟩; rfl) | (obtain ⟨_, h⟩ := h))) (b_nth T.l_CS T.n_lengths)
  have c_number_in : C8.Cal P w K mg base 2 "number_in" (sp_number_in K) [] := Gr.c_number_in T c_shuffles (by intro ds r h; repeat (first | (rcases h with ⟨rfl, _⟩; rfl) | (obtain ⟨_, h⟩ := h))) b_number_in
  have c_number_of : C8.Cal P w K mg base 8 "number_of" (sp_number_of K) [] := Gr.c_number_of T c_Shares_init c_Shares_sizes c_all_cuts c_cut c_look_few c_look_lines c_look_same c_number_in c_shuffles c_ways_of (by intro ds r h; repeat (first | (rcases h with ⟨rfl, _⟩; rfl) | (obtain ⟨_, h⟩ := h))) (b_number_of T.l_CS T.n_pairs T.n_lengths)
  have c_law_right : C8.Cal P w K mg base 12 "_law_right" (sp_law_right K) [] := Gr.c_law_right T c_law_behind c_law_key c_law_lines_apart c_law_of c_law_room c_law_take c_between c_how_many c_nth c_number_of (by intro s ds r s' h; repeat (first | (rcases h with ⟨rfl, _⟩; rfl) | (obtain ⟨_, h⟩ := h))) (b_law_right he)
  exact f_law T c_law_box c_law_cells c_law_right FD
/-- the law's promise at its one argument -/
theorem sp_law_at {K : PySem.W.Frag} {H : Hp} {a : Addr} {ns : List Int} (hl : ns.length ≤ 63) (hS : SqL K H a (ns.map V.int)) : sp_law K [.ref a] H (fun v _ => v = .bl true) fun _ _ _ => False :=
  ⟨H, .ref a, [], .res (scR a ns), [], .bl true, .res (scR a ns), rfl, ⟨a, ns, hl, rfl, rfl, rfl, rfl⟩, rfl, rfl, rfl, (fun b hb => by cases hb), hS, Evl.Ex.refl _, rfl, fun v F' H' _ _ _ hv => hv⟩
theorem runG (w : World) : HandSHeadRun.RunEq RO (PySem.W.view RO.prog [77]) hkG obH 6000 looseN w := by
  intro os
  kernel_rfl
theorem facts {P : Program} {w : World} {K : PySem.W.Frag} {h : Heap} {mg : Str → Option Value} {f : Addr} (X : K.In h) (G : h.Ns mainGlobals mg) (hfa : mg ("law" : Str) = some (.ref f)) (c : He.SaysD fa fn K) (c2 : exB K = true) :
    ∃ fd : FuncData, (∀ (s : Shared) (v : Value), BindsTo s fd ⟨[v], []⟩ [("_law_script", v)]) ∧ ∀ base : Heap, K.In base → base.Ns mainGlobals mg → FnOk P w K mg base C8.CX0 13 f fd ["_law_script"] (sp_law K) := by
  have T := txt_of X G c c2
  obtain ⟨fd, F⟩ := c.def_ 63 (d := D_law) rfl
  have e := hfa.symm.trans (He.glo_ok X G (c.fact 63 (f := .glo "law") rfl))
  cases e
  have b := FunD.bindsA (ps := ["_law_script"]) F fun _ _ _ _ _ _ us hl => match us, hl with | [_], _ => rfl
  exact ⟨fd, fun s v => b s [v] rfl, fun base _ _ => law_fn T F⟩
end Gr
open PySem PySem.W PySem.Calls PyProof.Rows
theorem PySem.Challenge.cw_grudgecote_k76_whole_each_number_a_stand_holds : PySem.Challenge.rw_grudgecote_k76_whole_each_number_a_stand.Holds := by
  w_on; o_law
  refine HandSHeadRun.head_any (r := OpenLaw.row PySem.Challenge.rw_grudgecote_k76_whole_each_number_a_stand) (q := view (OpenLaw.row PySem.Challenge.rw_grudgecote_k76_whole_each_number_a_stand).prog [77]) (H := Gr.hkG) (ob := Gr.obH) (M := 6000) (loose := Gr.looseN) (d := HandSHeadRun.topDef (OpenLaw.row PySem.Challenge.rw_grudgecote_k76_whole_each_number_a_stand).prog 77) (kwd := []) Gr.obH_eq
    (by kernel_rfl) (fun s => by kernel_rfl) Gr.runG (by kernel_rfl) (by kernel_rfl) (by kernel_rfl) (by rfl) (by first | assumption | decide +kernel) (by decide +kernel) ⟨rfl, rfl, rfl, rfl, rfl, by decide +kernel⟩ ?hw ?hc
  case hw => w_witness2
  case hc =>
    refine L2.walk_ofE (l := PySem.Challenge.rw_grudgecote_k76_whole_each_number_a_stand) (n := 63) (k := 13) (x := "_law_script") (CX := C8.CX0) rfl (by decide) (by kernel_rfl) ⟨rfl, by decide, by decide⟩ ?F (fun _ _ _ _ z => z)
    intro w mg fa h Y G hmg0
    obtain ⟨K, KX, c, c2⟩ := Y
    have hmg : mg ("law" : PySem.Str) = some (.ref fa) := by
      have e : (HandSHeadRun.topDef (OpenLaw.row PySem.Challenge.rw_grudgecote_k76_whole_each_number_a_stand).prog 77).name = ("law" : PySem.Str) := by kernel_rfl
      rw [← e]
      exact hmg0
    obtain ⟨fd, hb, hF⟩ := Gr.facts (P := (PySem.Challenge.rw_grudgecote_k76_whole_each_number_a_stand).prog) (w := w) KX G hmg c c2
    exact ⟨K, fd, Gr.sp_law K, KX, hb, fun H a ns hl _ hS => Gr.sp_law_at hl hS, hF⟩
