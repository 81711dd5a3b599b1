import PyProof.Rows.All
import Wide.All
import OpenK.AllK
import Wide.FinOn
import HandS.ForMost
import HandS.Deep
import HandS.Style
import HandS.IsInst
import HandS.Sort
import HandS.EndBits
import HandS.Codes
import PySem.Challenge.RW_linksums_k72_whole_prices_by_cells
set_option Elab.async false
set_option linter.all false
set_option maxRecDepth 100000
set_option maxHeartbeats 8000000
/-! The plain mathematics: walks by links, cells, prices, moves. -/
namespace Lk

/-! ### sums over 0 .. n - 1 -/
def sm : Nat → (Nat → Int) → Int
  | 0, _ => 0
  | n + 1, f => sm n f + f n
theorem sm_congr : ∀ (n : Nat) {f g : Nat → Int}, (∀ i, i < n → f i = g i) → sm n f = sm n g
  | 0, _, _, _ => rfl
  | n + 1, f, g, h => by
    show sm n f + f n = sm n g + g n
    rw [sm_congr n (fun i hi => h i (by omega)), h n (by omega)]
theorem sm_add : ∀ (n : Nat) (f g : Nat → Int), sm n (fun i => f i + g i) = sm n f + sm n g
  | 0, _, _ => rfl
  | n + 1, f, g => by
    show sm n (fun i => f i + g i) + (f n + g n) = (sm n f + f n) + (sm n g + g n)
    rw [sm_add n f g]
    omega
theorem sm_sub : ∀ (n : Nat) (f g : Nat → Int), sm n (fun i => f i - g i) = sm n f - sm n g
  | 0, _, _ => rfl
  | n + 1, f, g => by
    show sm n (fun i => f i - g i) + (f n - g n) = (sm n f + f n) - (sm n g + g n)
    rw [sm_sub n f g]
    omega
theorem sm_front : ∀ (n : Nat) (f : Nat → Int), sm (n + 1) f = f 0 + sm n (fun i => f (i + 1))
  | 0, f => by
    show (0 : Int) + f 0 = f 0 + 0
    omega
  | n + 1, f => by
    show sm (n + 1) f + f (n + 1) = f 0 + (sm n (fun i => f (i + 1)) + f (n + 1))
    rw [sm_front n f]
    omega
theorem sm_rev : ∀ (n : Nat) (f : Nat → Int), sm n (fun i => f (n - 1 - i)) = sm n f
  | 0, _ => rfl
  | n + 1, f => by
    rw [sm_front n (fun i => f (n + 1 - 1 - i))]
    show f (n + 1 - 1 - 0) + sm n (fun i => f (n + 1 - 1 - (i + 1))) = sm n f + f n
    have e : sm n (fun i => f (n + 1 - 1 - (i + 1))) = sm n (fun i => f (n - 1 - i)) := sm_congr n fun i hi => by
      have : n + 1 - 1 - (i + 1) = n - 1 - i := by omega
      rw [this]
    rw [e, sm_rev n f]
    have e2 : n + 1 - 1 - 0 = n := by omega
    rw [e2]
    omega

/-! ### walks -/
def walk (f : Int → Int) (S : Int → Bool) : Nat → Int → List Int
  | 0, _ => []
  | k + 1, p => if S p = true then [] else p :: walk f S k (f p)
def Wk (f : Int → Int) (S : Int → Bool) (m : Int → Nat) : Prop := ∀ p, S p = false → m (f p) < m p
theorem walk_fuel {f : Int → Int} {S : Int → Bool} {m : Int → Nat} (h : Wk f S m) : ∀ (k : Nat) (p : Int), m p ≤ k → walk f S k p = walk f S (m p) p
  | 0, p, hk => by
    have : m p = 0 := by omega
    rw [this]
  | k + 1, p, hk => by
    cases e : S p with
    | true =>
      have a : walk f S (k + 1) p = [] := by
        show (if S p = true then [] else _) = _
        rw [if_pos e]
      rw [a]
      cases m p with
      | zero => rfl
      | succ j =>
        show [] = (if S p = true then [] else _)
        rw [if_pos e]
    | false =>
      have hlt := h p e
      obtain ⟨j, hj⟩ : ∃ j, m p = j + 1 := ⟨m p - 1, by omega⟩
      rw [hj]
      have ne : ¬ S p = true := by rw [e]; exact Bool.false_ne_true
      show (if S p = true then [] else p :: walk f S k (f p)) = (if S p = true then [] else p :: walk f S j (f p))
      rw [if_neg ne, if_neg ne, walk_fuel h k (f p) (by omega)]
      rw [walk_fuel h j (f p) (by omega)]
theorem walk_stop {f : Int → Int} {S : Int → Bool} {p : Int} (e : S p = true) : ∀ k, walk f S k p = []
  | 0 => rfl
  | k + 1 => by
    show (if S p = true then [] else _) = _
    rw [if_pos e]
theorem walk_go {f : Int → Int} {S : Int → Bool} {m : Int → Nat} (h : Wk f S m) {p : Int} (e : S p = false) : walk f S (m p) p = p :: walk f S (m (f p)) (f p) := by
  have hlt := h p e
  obtain ⟨j, hj⟩ : ∃ j, m p = j + 1 := ⟨m p - 1, by omega⟩
  rw [hj]
  have ne : ¬ S p = true := by rw [e]; exact Bool.false_ne_true
  show (if S p = true then [] else p :: walk f S j (f p)) = _
  rw [if_neg ne, walk_fuel h j (f p) (by omega)]
/-- induction along a walk -/
theorem walk_ind {f : Int → Int} {S : Int → Bool} {m : Int → Nat} (h : Wk f S m) {P : Int → Prop} (h0 : ∀ p, S p = true → P p) (h1 : ∀ p, S p = false → P (f p) → P p) : ∀ p, P p := by
  have go : ∀ (k : Nat) (p : Int), m p ≤ k → P p := by
    intro k
    induction k with
    | zero =>
      intro p hp
      cases e : S p with
      | true => exact h0 p e
      | false => exact absurd (h p e) (by omega)
    | succ k ih =>
      intro p hp
      cases e : S p with
      | true => exact h0 p e
      | false => exact h1 p e (ih (f p) (by have := h p e; omega))
  exact fun p => go (m p) p (Nat.le_refl _)
/-- a link that jumps over a place: each walk through x is shorter by one -/
theorem walk_skip {f g : Int → Int} {S : Int → Bool} {m : Int → Nat} {P : Int → Prop} (hf : Wk f S m) (hg : Wk g S m) (hP : ∀ p, P p → S p = false → P (f p)) {x y : Int} (hxy : x ≠ y) (px : P x) (fx : f x = y) (sx : S x = false) (sy : S y = false) (gx : g x = f y) (ge : ∀ p, P p → S p = false → p ≠ x → g p = f p) :
    ∀ p, P p → (walk g S (m p) p).length + (walk f S (m p) p).count x = (walk f S (m p) p).length := by
  have go : ∀ (k : Nat) (p : Int), m p ≤ k → P p → (walk g S (m p) p).length + (walk f S (m p) p).count x = (walk f S (m p) p).length := by
    intro k
    induction k with
    | zero =>
      intro p hp _
      cases e : S p with
      | true => rw [walk_stop e, walk_stop e]; rfl
      | false => exact absurd (hf p e) (by omega)
    | succ k ih =>
      intro p hp hpp
      cases e : S p with
      | true => rw [walk_stop e, walk_stop e]; rfl
      | false =>
        have h1 := hf p e
        rw [walk_go hg e, walk_go hf e]
        by_cases hpx : p = x
        · subst hpx
          rw [gx, fx, walk_go hf sy]
          have h2 := hf y sy
          have py : P y := by
            rw [← fx]
            exact hP p hpp e
          rw [fx] at h1
          have i := ih (f y) (by omega) (hP y py sy)
          rw [List.count_cons_self, List.count_cons_of_ne (Ne.symm hxy)]
          rw [List.length_cons, List.length_cons, List.length_cons]
          omega
        · rw [ge p hpp e hpx]
          have i := ih (f p) (by omega) (hP p hpp e)
          rw [List.count_cons_of_ne hpx, List.length_cons, List.length_cons]
          omega
  exact fun p => go (m p) p (Nat.le_refl _)
/-- the places of a walk keep what its steps keep -/
theorem walk_mem {f : Int → Int} {S : Int → Bool} {P : Int → Prop} (hs : ∀ p, P p → S p = false → P (f p)) : ∀ (k : Nat) (p : Int), P p → ∀ q ∈ walk f S k p, P q ∧ S q = false
  | 0, _, _, q, hq => by cases hq
  | k + 1, p, hp, q, hq => by
    cases e : S p with
    | true =>
      have hq' : q ∈ (if S p = true then [] else p :: walk f S k (f p)) := hq
      rw [if_pos e] at hq'
      cases hq'
    | false =>
      have ne : ¬ S p = true := by rw [e]; exact Bool.false_ne_true
      have hq' : q ∈ (if S p = true then [] else p :: walk f S k (f p)) := hq
      rw [if_neg ne] at hq'
      rcases List.mem_cons.mp hq' with r | r
      · rw [r]
        exact ⟨hp, e⟩
      · exact walk_mem hs k (f p) (hs p hp e) q r
/-- a walk in a mirror -/
theorem walk_map {f g : Int → Int} {S T : Int → Bool} {c : Int → Int} {P : Int → Prop} (hP : ∀ p, P p → S p = false → P (f p)) (hS : ∀ p, P p → T (c p) = S p) (hf : ∀ p, P p → S p = false → g (c p) = c (f p)) :
    ∀ (k : Nat) (p : Int), P p → walk g T k (c p) = (walk f S k p).map c
  | 0, _, _ => rfl
  | k + 1, p, hp => by
    show (if T (c p) = true then [] else c p :: walk g T k (g (c p))) = (if S p = true then [] else p :: walk f S k (f p)).map c
    rw [hS p hp]
    cases e : S p with
    | true => rfl
    | false =>
      rw [if_neg Bool.false_ne_true, if_neg Bool.false_ne_true, hf p hp e, walk_map hP hS hf k (f p) (hP p hp e)]
      rfl

/-! ### the two tables -/
def lk (l : List Int) (p : Int) : Int := l.getD (p - 1).toNat 0
def OkD (d : List Int) : Prop := ∀ (i : Nat), i < d.length → 0 ≤ d.getD i 0 ∧ d.getD i 0 ≤ (i : Int)
def OkU (u : List Int) : Prop := 1 ≤ u.length ∧ ∀ (i : Nat), i < u.length → (i : Int) + 2 ≤ u.getD i 0 ∧ u.getD i 0 ≤ (u.length : Int) + 1
def stD (p : Int) : Bool := decide (p ≤ 0)
def stU (n : Nat) (p : Int) : Bool := decide ((n : Int) < p)
def msD (p : Int) : Nat := p.toNat
def msU (n : Nat) (p : Int) : Nat := ((n : Int) + 1 - p).toNat
def wD (d : List Int) (p : Int) : List Int := walk (lk d) stD (msD p) p
def wU (u : List Int) (p : Int) : List Int := walk (lk u) (stU u.length) (msU u.length p) p
theorem getD_out {l : List Int} {i : Nat} (h : l.length ≤ i) : l.getD i 0 = 0 := by
  rw [List.getD_eq_getElem?_getD, List.getElem?_eq_none h]
  rfl
theorem wkD {d : List Int} (h : OkD d) : Wk (lk d) stD msD := fun p e => by
  have hp : 0 < p := by
    have := of_decide_eq_false (show decide (p ≤ 0) = false from e)
    omega
  show (lk d p).toNat < p.toNat
  unfold lk
  by_cases hi : (p - 1).toNat < d.length
  · have := h _ hi
    omega
  · rw [getD_out (by omega)]
    omega
theorem wkU {u : List Int} (h : OkU u) : Wk (lk u) (stU u.length) (msU u.length) := fun p e => by
  have hp : p ≤ (u.length : Int) := by
    have := of_decide_eq_false (show decide ((u.length : Int) < p) = false from e)
    omega
  show ((u.length : Int) + 1 - lk u p).toNat < ((u.length : Int) + 1 - p).toNat
  unfold lk
  by_cases hi : (p - 1).toNat < u.length
  · have := h.2 _ hi
    omega
  · have := h.1
    omega

/-- the places of a walk -/
theorem memU {u : List Int} (h : OkU u) {p : Int} (hp : 1 ≤ p) : ∀ q ∈ wU u p, 1 ≤ q ∧ q ≤ (u.length : Int) := fun q hq => by
  have a := walk_mem (f := lk u) (S := stU u.length) (P := fun p => 1 ≤ p) (fun p h1 h2 => by
    have := wkU h p h2
    have h3 := of_decide_eq_false (show decide ((u.length : Int) < p) = false from h2)
    unfold msU at this
    omega) _ p hp q hq
  have h3 := of_decide_eq_false (show decide ((u.length : Int) < q) = false from a.2)
  exact ⟨a.1, by omega⟩
theorem wU_stop {u : List Int} {p : Int} (h : (u.length : Int) < p) : wU u p = [] := walk_stop (decide_eq_true h) _
theorem wU_go {u : List Int} (h : OkU u) {p : Int} (hp : p ≤ (u.length : Int)) : wU u p = p :: wU u (lk u p) := walk_go (wkU h) (decide_eq_false (by omega))
theorem wD_stop {d : List Int} {p : Int} (h : p ≤ 0) : wD d p = [] := walk_stop (decide_eq_true h) _
theorem wD_go {d : List Int} (h : OkD d) {p : Int} (hp : 0 < p) : wD d p = p :: wD d (lk d p) := walk_go (wkD h) (decide_eq_false (by omega))
theorem len_wU {u : List Int} (h : OkU u) : ∀ p, 1 ≤ p → (wU u p).length + p.toNat ≤ u.length + 1 ∨ (u.length : Int) < p := by
  refine walk_ind (wkU h) (fun p e _ => .inr (of_decide_eq_true e)) fun p e ih hp => ?_
  have hp2 : p ≤ (u.length : Int) := by
    have := of_decide_eq_false (show decide ((u.length : Int) < p) = false from e)
    omega
  have hi := h.2 (p - 1).toNat (by omega)
  left
  rw [wU_go h hp2, List.length_cons]
  have i2 := ih (by unfold lk; omega)
  have e2 : lk u p = u.getD (p - 1).toNat 0 := rfl
  rcases i2 with i2 | i2
  · omega
  · rw [wU_stop i2]
    show 0 + 1 + p.toNat ≤ _
    omega
theorem len_wD {d : List Int} (h : OkD d) : ∀ p, p ≤ (d.length : Int) → (wD d p).length ≤ p.toNat := by
  refine walk_ind (wkD h) (fun p e _ => ?_) fun p e ih hp => ?_
  · rw [wD_stop (of_decide_eq_true e)]
    exact Nat.zero_le _
  · have hp2 : 0 < p := by
      have := of_decide_eq_false (show decide (p ≤ 0) = false from e)
      omega
    have hi := h (p - 1).toNat (by omega)
    have e2 : lk d p = d.getD (p - 1).toNat 0 := rfl
    have i2 := ih (by omega)
    rw [wD_go h hp2, List.length_cons]
    omega

/-! ### cells -/
def addAt (c : List Int) (p v : Int) : List Int := c.set (p - 1).toNat (c.getD (p - 1).toNat 0 + v)
def addAll (c ps : List Int) (v : Int) : List Int := ps.foldl (fun c p => addAt c p v) c
def fillN (u vals : List Int) : Nat → List Int
  | 0 => List.replicate vals.length 0
  | k + 1 => addAll (fillN u vals k) (wU u ((k : Int) + 1)) (vals.getD k 0)
def fillL (u vals : List Int) : List Int := fillN u vals vals.length
theorem len_addAt (c : List Int) (p v : Int) : (addAt c p v).length = c.length := List.length_set
theorem len_addAll : ∀ (ps c : List Int) (v : Int), (addAll c ps v).length = c.length
  | [], _, _ => rfl
  | p :: ps, c, v => by
    show (addAll (addAt c p v) ps v).length = _
    rw [len_addAll ps, len_addAt]
theorem len_fillN (u vals : List Int) : ∀ k, (fillN u vals k).length = vals.length
  | 0 => List.length_replicate
  | k + 1 => by
    show (addAll _ _ _).length = _
    rw [len_addAll, len_fillN u vals k]
theorem len_fillL (u vals : List Int) : (fillL u vals).length = vals.length := len_fillN u vals _
theorem sum_set : ∀ (c : List Int) (i : Nat) (v : Int), i < c.length → (c.set i (c.getD i 0 + v)).sum = c.sum + v
  | [], _, _, h => absurd h (Nat.not_lt_zero _)
  | x :: r, 0, v, _ => by
    show (x + v) + r.sum = (x + r.sum) + v
    omega
  | x :: r, i + 1, v, h => by
    have ih := sum_set r i v (by rw [List.length_cons] at h; omega)
    show x + (r.set i (r.getD i 0 + v)).sum = (x + r.sum) + v
    rw [ih]
    omega
theorem sum_addAll : ∀ (ps c : List Int) (v : Int), (∀ p ∈ ps, 1 ≤ p ∧ p ≤ (c.length : Int)) → (addAll c ps v).sum = c.sum + (ps.length : Int) * v
  | [], c, v, _ => by
    show c.sum = c.sum + 0 * v
    rw [Int.zero_mul, Int.add_zero]
  | p :: ps, c, v, h => by
    have hp := h p List.mem_cons_self
    show (addAll (addAt c p v) ps v).sum = _
    rw [sum_addAll ps (addAt c p v) v (fun q hq => by rw [len_addAt]; exact h q (List.mem_cons_of_mem _ hq))]
    have e1 : (addAt c p v).sum = c.sum + v := sum_set c _ v (by omega)
    rw [e1, List.length_cons]
    have e2 : ((ps.length + 1 : Nat) : Int) * v = (ps.length : Int) * v + v := by
      rw [Int.natCast_add, Int.add_mul]
      show _ + (1 : Int) * v = _
      rw [Int.one_mul]
    rw [e2]
    omega
theorem getD_set (c : List Int) (i j : Nat) (v : Int) (h : i < c.length) : (c.set i v).getD j 0 = if i = j then v else c.getD j 0 := by
  rw [List.getD_eq_getElem?_getD, List.getD_eq_getElem?_getD, List.getElem?_set]
  by_cases e : i = j
  · subst e
    rw [if_pos rfl, if_pos rfl, if_pos h]
    rfl
  · rw [if_neg e, if_neg e]
theorem get_addAll : ∀ (ps c : List Int) (v q : Int), (∀ p ∈ ps, 1 ≤ p ∧ p ≤ (c.length : Int)) → 1 ≤ q → (addAll c ps v).getD (q - 1).toNat 0 = c.getD (q - 1).toNat 0 + (ps.count q : Int) * v
  | [], c, v, q, _, _ => by
    show c.getD _ 0 = c.getD _ 0 + ((0 : Nat) : Int) * v
    rw [Int.natCast_zero, Int.zero_mul, Int.add_zero]
  | p :: ps, c, v, q, h, h1 => by
    have hp := h p List.mem_cons_self
    show (addAll (addAt c p v) ps v).getD (q - 1).toNat 0 = _
    rw [get_addAll ps (addAt c p v) v q (fun q hq => by rw [len_addAt]; exact h q (List.mem_cons_of_mem _ hq)) h1]
    unfold addAt
    rw [getD_set _ _ _ _ (by omega)]
    by_cases e : p = q
    · subst e
      rw [if_pos rfl, List.count_cons_self]
      have e2 : ((ps.count p + 1 : Nat) : Int) * v = (ps.count p : Int) * v + v := by
        rw [Int.natCast_add, Int.add_mul]
        show _ + (1 : Int) * v = _
        rw [Int.one_mul]
      rw [e2]
      omega
    · rw [if_neg (by omega), List.count_cons_of_ne e]
theorem sum_zeros : ∀ n : Nat, (List.replicate n (0 : Int)).sum = 0
  | 0 => rfl
  | n + 1 => by
    show (0 : Int) + (List.replicate n (0 : Int)).sum = 0
    rw [sum_zeros n]
    rfl
theorem sum_fillN {u vals : List Int} (h : OkU u) (hl : vals.length = u.length) : ∀ k, (fillN u vals k).sum = sm k fun i => ((wU u ((i : Int) + 1)).length : Int) * vals.getD i 0
  | 0 => sum_zeros _
  | k + 1 => by
    show (addAll _ _ _).sum = sm k _ + _
    rw [sum_addAll _ _ _ (fun p hp => by
      rw [len_fillN, hl]
      exact memU h (by omega) p hp), sum_fillN h hl k]
theorem get_fillN {u vals : List Int} (h : OkU u) (hl : vals.length = u.length) {q : Int} (hq : 1 ≤ q) : ∀ k, (fillN u vals k).getD (q - 1).toNat 0 = sm k fun i => ((wU u ((i : Int) + 1)).count q : Int) * vals.getD i 0
  | 0 => by
    show (List.replicate vals.length (0 : Int)).getD _ 0 = 0
    rw [List.getD_eq_getElem?_getD, List.getElem?_replicate]
    split <;> rfl
  | k + 1 => by
    show (addAll _ _ _).getD _ _ = sm k _ + _
    rw [get_addAll _ _ _ _ (fun p hp => by
      rw [len_fillN, hl]
      exact memU h (by omega) p hp) hq, get_fillN h hl hq k]

/-! ### turned about -/
def flip (n : Nat) (l : List Int) : List Int := l.reverse.map fun v => (n : Int) + 1 - v
theorem len_flip (n : Nat) (l : List Int) : (flip n l).length = l.length := by
  unfold flip
  rw [List.length_map, List.length_reverse]
theorem getD_rev {l : List Int} {i : Nat} (h : i < l.length) : l.reverse.getD i 0 = l.getD (l.length - 1 - i) 0 := by
  rw [List.getD_eq_getElem?_getD, List.getD_eq_getElem?_getD, List.getElem?_reverse h]
theorem getD_flip {n : Nat} {l : List Int} {i : Nat} (h : i < l.length) : (flip n l).getD i 0 = (n : Int) + 1 - l.getD (l.length - 1 - i) 0 := by
  rw [← getD_rev h]
  unfold flip
  have h2 : i < l.reverse.length := by rw [List.length_reverse]; exact h
  rw [List.getD_eq_getElem?_getD, List.getD_eq_getElem?_getD, List.getElem?_map, List.getElem?_eq_getElem h2]
  rfl
theorem okU_flip {d : List Int} (h : OkD d) (h1 : 1 ≤ d.length) : OkU (flip d.length d) := by
  refine ⟨by rw [len_flip]; exact h1, fun i hi => ?_⟩
  rw [len_flip] at hi
  rw [getD_flip hi, len_flip]
  have := h (d.length - 1 - i) (by omega)
  omega
theorem okD_flip {u : List Int} (h : OkU u) : OkD (flip u.length u) := by
  intro i hi
  rw [len_flip] at hi
  rw [getD_flip hi]
  have := h.2 (u.length - 1 - i) (by omega)
  omega
/-- the walk up in the pair turned about is the walk down, mirrored -/
theorem wU_flip {d : List Int} (h : OkD d) {p : Int} (h0 : 0 ≤ p) (hp : p ≤ (d.length : Int)) : wU (flip d.length d) ((d.length : Int) + 1 - p) = (wD d p).map fun v => (d.length : Int) + 1 - v := by
  have e1 : msU (flip d.length d).length ((d.length : Int) + 1 - p) = msD p := by
    unfold msU msD
    rw [len_flip]
    omega
  unfold wU
  rw [e1]
  refine walk_map (f := lk d) (S := stD) (c := fun v => (d.length : Int) + 1 - v) (P := fun p => 0 ≤ p ∧ p ≤ (d.length : Int)) (fun p hp e => ?_) (fun p hp => ?_) (fun p hp e => ?_) _ p ⟨h0, hp⟩
  · have h1 := of_decide_eq_false (show decide (p ≤ 0) = false from e)
    have := h (p - 1).toNat (by omega)
    unfold lk
    omega
  · show decide (((flip d.length d).length : Int) < (d.length : Int) + 1 - p) = decide (p ≤ 0)
    rw [len_flip]
    exact decide_eq_decide.mpr (by omega)
  · have h1 := of_decide_eq_false (show decide (p ≤ 0) = false from e)
    show (flip d.length d).getD ((d.length : Int) + 1 - p - 1).toNat 0 = (d.length : Int) + 1 - d.getD (p - 1).toNat 0
    rw [getD_flip (by omega)]
    have e2 : d.length - 1 - ((d.length : Int) + 1 - p - 1).toNat = (p - 1).toNat := by omega
    rw [e2]
theorem wD_flip {u : List Int} (h : OkU u) {p : Int} (h0 : 1 ≤ p) (hp : p ≤ (u.length : Int) + 1) : wD (flip u.length u) ((u.length : Int) + 1 - p) = (wU u p).map fun v => (u.length : Int) + 1 - v := by
  have e1 : msD ((u.length : Int) + 1 - p) = msU u.length p := rfl
  unfold wD wU
  rw [e1]
  refine walk_map (f := lk u) (S := stU u.length) (c := fun v => (u.length : Int) + 1 - v) (P := fun p => 1 ≤ p ∧ p ≤ (u.length : Int) + 1) (fun p hp e => ?_) (fun p hp => ?_) (fun p hp e => ?_) _ p ⟨h0, hp⟩
  · have h1 := of_decide_eq_false (show decide ((u.length : Int) < p) = false from e)
    have := h.2 (p - 1).toNat (by omega)
    unfold lk
    omega
  · show decide ((u.length : Int) + 1 - p ≤ 0) = decide ((u.length : Int) < p)
    exact decide_eq_decide.mpr (by omega)
  · have h1 := of_decide_eq_false (show decide ((u.length : Int) < p) = false from e)
    show (flip u.length u).getD ((u.length : Int) + 1 - p - 1).toNat 0 = (u.length : Int) + 1 - u.getD (p - 1).toNat 0
    rw [getD_flip (by omega)]
    have e2 : u.length - 1 - ((u.length : Int) + 1 - p - 1).toNat = (p - 1).toNat := by omega
    rw [e2]
theorem count_mirror (c : Int) : ∀ (l : List Int) (q : Int), (l.map fun v => c - v).count (c - q) = l.count q
  | [], _ => rfl
  | x :: r, q => by
    rw [List.map_cons]
    by_cases e : x = q
    · subst e
      rw [List.count_cons_self, List.count_cons_self, count_mirror c r]
    · rw [List.count_cons_of_ne e, List.count_cons_of_ne (by omega), count_mirror c r]

/-! ### prices -/
def priceN (d u a c : List Int) (k : Nat) : Int := sm k fun i => a.getD i 0 * ((wD d ((i : Int) + 1)).length : Int) + c.getD i 0 * ((wU u ((i : Int) + 1)).length : Int)
def priceL (d u a c : List Int) : Int := priceN d u a c a.length
/-- the questions' cells of the pair turned about, turned about -/
def askedL (d a : List Int) : List Int := (fillL (flip d.length d) a.reverse).reverse
theorem len_askedL (d a : List Int) : (askedL d a).length = a.length := by
  unfold askedL
  rw [List.length_reverse, len_fillL, List.length_reverse]
theorem sum_rev : ∀ l : List Int, l.reverse.sum = l.sum
  | [] => rfl
  | x :: r => by
    rw [List.reverse_cons, List.sum_append, sum_rev r]
    show r.sum + (x + 0) = x + r.sum
    omega
theorem sum_asked {d a : List Int} (h : OkD d) (h1 : 1 ≤ d.length) (hl : a.length = d.length) : (askedL d a).sum = sm d.length fun i => a.getD i 0 * ((wD d ((i : Int) + 1)).length : Int) := by
  unfold askedL
  rw [sum_rev]
  unfold fillL
  rw [sum_fillN (okU_flip h h1) (by rw [List.length_reverse, len_flip, hl]), List.length_reverse, hl, ← sm_rev d.length fun i => a.getD i 0 * ((wD d ((i : Int) + 1)).length : Int)]
  refine sm_congr _ fun i hi => ?_
  rw [getD_rev (by omega), hl]
  have e : (i : Int) + 1 = (d.length : Int) + 1 - (((d.length - 1 - i : Nat) : Int) + 1) := by omega
  rw [e, wU_flip h (by omega) (by omega), List.length_map, Int.mul_comm]
theorem get_asked {d a : List Int} (h : OkD d) (hl : a.length = d.length) {y : Int} (hy : 1 ≤ y) (hy2 : y ≤ (d.length : Int)) : (askedL d a).getD (y - 1).toNat 0 = sm d.length fun i => a.getD i 0 * ((wD d ((i : Int) + 1)).count y : Int) := by
  unfold askedL
  rw [getD_rev (by rw [len_fillL, List.length_reverse]; omega), len_fillL, List.length_reverse]
  have e0 : a.length - 1 - (y - 1).toNat = (((d.length : Int) + 1 - y) - 1).toNat := by omega
  rw [e0]
  unfold fillL
  rw [get_fillN (okU_flip h (by omega)) (by rw [List.length_reverse, len_flip, hl]) (by omega), List.length_reverse, hl, ← sm_rev d.length fun i => a.getD i 0 * ((wD d ((i : Int) + 1)).count y : Int)]
  refine sm_congr _ fun i hi => ?_
  rw [getD_rev (by omega), hl]
  have e : (i : Int) + 1 = (d.length : Int) + 1 - (((d.length - 1 - i : Nat) : Int) + 1) := by omega
  rw [e, wU_flip h (by omega) (by omega), count_mirror, Int.mul_comm]
/-- THE FIRST: the price is the sum of all cells -/
theorem price_cells {d u a c : List Int} (hd : OkD d) (hu : OkU u) (hdu : d.length = u.length) (ha : a.length = d.length) (hc : c.length = d.length) : priceL d u a c = (fillL u c).sum + (askedL d a).sum := by
  unfold priceL priceN
  rw [sum_asked hd (by have := hu.1; omega) ha]
  unfold fillL
  rw [sum_fillN hu (by omega), ha, hc, sm_add, Int.add_comm]
  congr 1
  exact sm_congr _ fun i _ => Int.mul_comm _ _
/-- THE SECOND: turned about, with questions and changes exchanged -/
theorem price_flip {d u a c : List Int} (hd : OkD d) (hu : OkU u) (hdu : d.length = u.length) (ha : a.length = d.length) (hc : c.length = d.length) : priceL (flip u.length u) (flip d.length d) c.reverse a.reverse = priceL d u a c := by
  unfold priceL priceN
  rw [List.length_reverse, hc, ha, ← sm_rev d.length fun i => a.getD i 0 * ((wD d ((i : Int) + 1)).length : Int) + c.getD i 0 * ((wU u ((i : Int) + 1)).length : Int)]
  refine sm_congr _ fun i hi => ?_
  rw [getD_rev (by omega), getD_rev (by omega), hc, ha]
  have e : (i : Int) + 1 = (d.length : Int) + 1 - (((d.length - 1 - i : Nat) : Int) + 1) := by omega
  have e2 : (i : Int) + 1 = (u.length : Int) + 1 - (((d.length - 1 - i : Nat) : Int) + 1) := by omega
  have f1 : (wU (flip d.length d) ((i : Int) + 1)).length = (wD d (((d.length - 1 - i : Nat) : Int) + 1)).length := by
    rw [e, wU_flip hd (by omega) (by omega), List.length_map]
  have f2 : (wD (flip u.length u) ((i : Int) + 1)).length = (wU u (((d.length - 1 - i : Nat) : Int) + 1)).length := by
    rw [e2, wD_flip hu (by omega) (by omega), List.length_map]
  rw [f1, f2, Int.add_comm]
/-- a forward move of x and y from (d, u) to (e, v) -/
structure Fwd (d u e v : List Int) (x y : Int) : Prop where
  od : OkD d
  ou : OkU u
  oe : OkD e
  ov : OkU v
  l1 : d.length = u.length
  l2 : e.length = d.length
  l3 : v.length = u.length
  x1 : 1 ≤ x
  xy : x < y
  yn : y ≤ (u.length : Int)
  ux : lk u x = y
  vx : lk v x = lk u y
  uo : ∀ p, 1 ≤ p → p ≠ x → lk v p = lk u p
  ey : lk e y = x
  dy : lk d y = lk e x
  eo : ∀ p, 1 ≤ p → p ≠ y → lk d p = lk e p
theorem stepU {u : List Int} (h : OkU u) (p : Int) (hp : 1 ≤ p) (e : stU u.length p = false) : 1 ≤ lk u p := by
  have := wkU h p e
  have h3 := of_decide_eq_false (show decide ((u.length : Int) < p) = false from e)
  unfold msU at this
  omega
theorem Fwd.ups {d u e v : List Int} {x y : Int} (F : Fwd d u e v x y) {p : Int} (hp : 1 ≤ p) : (wU v p).length + (wU u p).count x = (wU u p).length := by
  have x1 := F.x1
  have xy := F.xy
  have yn := F.yn
  have hg : Wk (lk v) (stU u.length) (msU u.length) := by
    have := wkU F.ov
    rw [F.l3] at this
    exact this
  have q := walk_skip (P := fun p => 1 ≤ p) (wkU F.ou) hg (stepU F.ou) (x := x) (y := y) (by omega) F.x1 F.ux (decide_eq_false (by omega)) (decide_eq_false (by omega)) F.vx (fun p h1 _ h2 => F.uo p h1 h2) p hp
  unfold wU
  rw [F.l3]
  exact q
theorem Fwd.downs {d u e v : List Int} {x y : Int} (F : Fwd d u e v x y) (p : Int) : (wD d p).length + (wD e p).count y = (wD e p).length := by
  have x1 := F.x1
  have xy := F.xy
  exact walk_skip (P := fun _ => True) (wkD F.oe) (wkD F.od) (fun _ _ _ => trivial) (x := y) (y := x) (by omega) trivial F.ey (decide_eq_false (by omega)) (decide_eq_false (by omega)) F.dy (fun p _ h1 h2 => F.eo p (by
    have := of_decide_eq_false (show decide (p ≤ 0) = false from h1)
    omega) h2) p trivial
/-- THE THIRD: a forward move -/
theorem price_move {d u e v a c : List Int} {x y : Int} (F : Fwd d u e v x y) (ha : a.length = d.length) (hc : c.length = d.length) :
    priceL e v a c - priceL d u a c = (askedL e a).getD (y - 1).toNat 0 - (fillL u c).getD (x - 1).toNat 0 := by
  have x1 := F.x1
  have xy := F.xy
  have yn := F.yn
  have l1 := F.l1
  have l2 := F.l2
  rw [get_asked F.oe (by omega) (by omega) (by omega)]
  unfold fillL
  rw [get_fillN F.ou (by omega) F.x1]
  unfold priceL priceN
  rw [← sm_sub, ha, hc, l2, ← sm_sub]
  refine sm_congr _ fun i hi => ?_
  have e1 := F.ups (p := (i : Int) + 1) (by omega)
  have e2 := F.downs ((i : Int) + 1)
  rw [← e1, ← e2, Int.natCast_add, Int.natCast_add, Int.mul_add, Int.mul_add, Int.mul_comm ((List.count x (wU u ((i : Int) + 1)) : Nat) : Int)]
  omega

/-! ### moves -/
theorem lk_set {l : List Int} {p : Int} {v : Int} (hp : 1 ≤ p) (hl : p ≤ (l.length : Int)) {q : Int} (hq : 1 ≤ q) : lk (l.set (p - 1).toNat v) q = if p = q then v else lk l q := by
  unfold lk
  rw [getD_set _ _ _ _ (by omega)]
  by_cases e : p = q
  · subst e
    rw [if_pos rfl, if_pos rfl]
  · rw [if_neg (by omega), if_neg e]
theorem lkD {d : List Int} (h : OkD d) {p : Int} (h1 : 1 ≤ p) (h2 : p ≤ (d.length : Int)) : 0 ≤ lk d p ∧ lk d p ≤ p - 1 := by
  have := h (p - 1).toNat (by omega)
  unfold lk
  omega
theorem lkU {u : List Int} (h : OkU u) {p : Int} (h1 : 1 ≤ p) (h2 : p ≤ (u.length : Int)) : p + 1 ≤ lk u p ∧ lk u p ≤ (u.length : Int) + 1 := by
  have := h.2 (p - 1).toNat (by omega)
  unfold lk
  omega
theorem okD_set {d : List Int} (h : OkD d) {p v : Int} (h1 : 1 ≤ p) (h2 : p ≤ (d.length : Int)) (h3 : 0 ≤ v) (h4 : v ≤ p - 1) : OkD (d.set (p - 1).toNat v) := by
  intro i hi
  rw [List.length_set] at hi
  rw [getD_set _ _ _ _ (by omega)]
  have := h i hi
  split <;> omega
theorem okU_set {u : List Int} (h : OkU u) {p v : Int} (h1 : 1 ≤ p) (h2 : p ≤ (u.length : Int)) (h3 : p + 1 ≤ v) (h4 : v ≤ (u.length : Int) + 1) : OkU (u.set (p - 1).toNat v) := by
  refine ⟨by rw [List.length_set]; exact h.1, fun i hi => ?_⟩
  rw [List.length_set] at hi
  rw [getD_set _ _ _ _ (by omega), List.length_set]
  have := h.2 i hi
  split <;> omega
def goneFD (d : List Int) (x y : Int) : List Int := d.set (y - 1).toNat x
def goneFU (u : List Int) (x y : Int) : List Int := u.set (x - 1).toNat (lk u y)
def goneBD (d : List Int) (x y : Int) : List Int := d.set (y - 1).toNat (lk d x)
def goneBU (u : List Int) (x y : Int) : List Int := u.set (x - 1).toNat y
def someU (u : List Int) (k : Nat) : List (Int × Int) := (List.range k).filterMap fun i => if u.getD i 0 ≤ (u.length : Int) then some ((i : Int) + 1, u.getD i 0) else none
def someD (d : List Int) (k : Nat) : List (Int × Int) := (List.range k).filterMap fun i => if 0 < d.getD i 0 then some (d.getD i 0, (i : Int) + 1) else none
def fwdL (d u : List Int) : List (Int × Int) := (someU u u.length).filter fun m => decide (lk d m.1 = lk d m.2)
def backL (d u : List Int) : List (Int × Int) := (someD d d.length).filter fun m => decide (lk u m.1 = lk u m.2)
theorem mem_someU {u : List Int} {k : Nat} {m : Int × Int} (h : m ∈ someU u k) : ∃ i : Nat, i < k ∧ u.getD i 0 ≤ (u.length : Int) ∧ m = ((i : Int) + 1, u.getD i 0) := by
  obtain ⟨i, hi, e⟩ := List.mem_filterMap.mp h
  by_cases c : u.getD i 0 ≤ (u.length : Int)
  · rw [if_pos c] at e
    exact ⟨i, List.mem_range.mp hi, c, (Option.some.inj e).symm⟩
  · rw [if_neg c] at e
    cases e
theorem mem_someD {d : List Int} {k : Nat} {m : Int × Int} (h : m ∈ someD d k) : ∃ i : Nat, i < k ∧ 0 < d.getD i 0 ∧ m = (d.getD i 0, (i : Int) + 1) := by
  obtain ⟨i, hi, e⟩ := List.mem_filterMap.mp h
  by_cases c : 0 < d.getD i 0
  · rw [if_pos c] at e
    exact ⟨i, List.mem_range.mp hi, c, (Option.some.inj e).symm⟩
  · rw [if_neg c] at e
    cases e
theorem someU_pos {u : List Int} (hu : OkU u) {k : Nat} (hk : k ≤ u.length) {m : Int × Int} (h : m ∈ someU u k) : 1 ≤ m.1 ∧ m.1 < m.2 ∧ m.2 ≤ (u.length : Int) ∧ lk u m.1 = m.2 := by
  obtain ⟨i, hi, c, rfl⟩ := mem_someU h
  have := hu.2 i (by omega)
  refine ⟨by show 1 ≤ (i : Int) + 1; omega, by show (i : Int) + 1 < u.getD i 0; omega, c, ?_⟩
  show u.getD ((i : Int) + 1 - 1).toNat 0 = u.getD i 0
  have e : ((i : Int) + 1 - 1).toNat = i := by omega
  rw [e]
theorem someD_pos {d : List Int} (hd : OkD d) {k : Nat} (hk : k ≤ d.length) {m : Int × Int} (h : m ∈ someD d k) : 1 ≤ m.1 ∧ m.1 < m.2 ∧ m.2 ≤ (d.length : Int) ∧ lk d m.2 = m.1 := by
  obtain ⟨i, hi, c, rfl⟩ := mem_someD h
  have := hd i (by omega)
  refine ⟨by show 1 ≤ d.getD i 0; omega, by show d.getD i 0 < (i : Int) + 1; omega, by show (i : Int) + 1 ≤ _; omega, ?_⟩
  show d.getD ((i : Int) + 1 - 1).toNat 0 = d.getD i 0
  have e : ((i : Int) + 1 - 1).toNat = i := by omega
  rw [e]
theorem fwd_of {d u : List Int} (hd : OkD d) (hu : OkU u) (hl : d.length = u.length) {x y : Int} (h : (x, y) ∈ fwdL d u) : Fwd d u (goneFD d x y) (goneFU u x y) x y := by
  obtain ⟨h1, h2⟩ := List.mem_filter.mp h
  obtain ⟨x1, xy, yn, ux⟩ := someU_pos hu (Nat.le_refl _) h1
  have x1 : 1 ≤ x := x1
  have xy : x < y := xy
  have yn : y ≤ (u.length : Int) := yn
  have ux : lk u x = y := ux
  have dxy : lk d x = lk d y := of_decide_eq_true h2
  have hy := lkU hu (p := y) (by omega) yn
  refine ⟨hd, hu, okD_set hd (by omega) (by omega) (by omega) (by omega), okU_set hu x1 (by omega) (by omega) (by omega), hl, List.length_set, List.length_set, x1, xy, yn, ux, ?_, fun p hp hpx => ?_, ?_, ?_, fun p hp hpy => ?_⟩
  · unfold goneFU
    rw [lk_set x1 (by omega) x1, if_pos rfl]
  · unfold goneFU
    rw [lk_set x1 (by omega) hp, if_neg (Ne.symm hpx)]
  · unfold goneFD
    rw [lk_set (by omega) (by omega) (by omega), if_pos rfl]
  · unfold goneFD
    rw [lk_set (by omega) (by omega) x1, if_neg (by omega)]
    exact dxy.symm
  · unfold goneFD
    rw [lk_set (by omega) (by omega) hp, if_neg (Ne.symm hpy)]
theorem back_of {d u : List Int} (hd : OkD d) (hu : OkU u) (hl : d.length = u.length) {x y : Int} (h : (x, y) ∈ backL d u) : Fwd (goneBD d x y) (goneBU u x y) d u x y := by
  obtain ⟨h1, h2⟩ := List.mem_filter.mp h
  obtain ⟨x1, xy, yn, dy⟩ := someD_pos hd (Nat.le_refl _) h1
  have x1 : 1 ≤ x := x1
  have xy : x < y := xy
  have yn : y ≤ (d.length : Int) := yn
  have dy : lk d y = x := dy
  have uxy : lk u x = lk u y := of_decide_eq_true h2
  have hx := lkD hd (p := x) x1 (by omega)
  have s1 : (goneBU u x y).length = u.length := List.length_set
  have s2 : (goneBD d x y).length = d.length := List.length_set
  refine ⟨okD_set hd (by omega) (by omega) (by omega) (by omega), okU_set hu x1 (by omega) (by omega) (by omega), hd, hu, by omega, by omega, by omega, x1, xy, by omega, ?_, ?_, fun p hp hpx => ?_, dy, ?_, fun p hp hpy => ?_⟩
  · unfold goneBU
    rw [lk_set x1 (by omega) x1, if_pos rfl]
  · unfold goneBU
    rw [lk_set x1 (by omega) (by omega), if_neg (by omega)]
    exact uxy
  · unfold goneBU
    rw [lk_set x1 (by omega) hp, if_neg (Ne.symm hpx)]
  · unfold goneBD
    rw [lk_set (by omega) (by omega) (by omega), if_pos rfl]
  · unfold goneBD
    rw [lk_set (by omega) (by omega) hp, if_neg (Ne.symm hpy)]
end Lk
/-! Own rules over the hand layer, and the heap's own words. -/
namespace Lk
open PySem PySem.Spec PyProof.Rows L2

/-! ### heaps -/
theorem same_new {H : Hp} {p : Addr} {o : HO} (h : H p = none) : Same H (upd H p o) := fun b x e => by
  rw [upd_ne (ne_of_none e h)]
  exact e
theorem same_put {H H1 : Hp} {p : Addr} {o : HO} (s : Same H H1) (h : H p = none) : Same H (upd H1 p o) := fun b x e => by
  rw [upd_ne (ne_of_none e h)]
  exact s b x e
/-- an int list that stands at a -/
def LI (H : Hp) (a : Addr) (ns : List Int) : Prop := H a = some (.lst (ns.map V.int))
/-- a pair of tables at t -/
def Pr (H : Hp) (t : Addr) (d u : List Int) : Prop := ∃ a b, H t = some (.tup [.ref a, .ref b]) ∧ LI H a d ∧ LI H b u
/-- the tuples of two ints at ts -/
def Tps (H : Hp) : List Addr → List (Int × Int) → Prop := Paired fun t m => H t = some (.tup [.int m.1, .int m.2])
/-- a list of pairs of ints at r -/
def PL (H : Hp) (r : Addr) (ms : List (Int × Int)) : Prop := ∃ ts, H r = some (.lst (ts.map V.ref)) ∧ Tps H ts ms
/-- the draws at p, k of them done -/
def Dr (H : Hp) (p : Addr) (k : Int) : Prop := ∃ (a : Int) (b : Bool), 0 ≤ a ∧ 0 ≤ k ∧ H p = some (.lst [.int a, .int k, .bl b])
/-- all but what is at p stands as it was -/
def SB (p : Addr) (H H' : Hp) : Prop := ∀ b o, b ≠ p → H b = some o → H' b = some o
theorem SB.refl (p : Addr) (H : Hp) : SB p H H := fun _ _ _ e => e
theorem SB.of {p : Addr} {H H' : Hp} (s : Same H H') : SB p H H' := fun b o _ e => s b o e
theorem SB.trans {p : Addr} {H H1 H2 : Hp} (a : SB p H H1) (b : SB p H1 H2) : SB p H H2 := fun c o n e => b c o n (a c o n e)
theorem SB.put {p : Addr} {H H1 : Hp} {q : Addr} {o : HO} (s : SB p H H1) (h : H q = none) : SB p H (upd H1 q o) := fun b x n e => by
  rw [upd_ne (ne_of_none e h)]
  exact s b x n e
theorem SB.here {p : Addr} {H H1 : Hp} {o : HO} (s : SB p H H1) : SB p H (upd H1 p o) := fun b x n e => by
  rw [upd_ne n]
  exact s b x n e
theorem Dr.ne {H : Hp} {p a : Addr} {k : Int} {o : HO} (d : Dr H p k) (h : H a = some o) (ho : ∀ x y z, o ≠ .lst [x, y, .bl z]) : a ≠ p := fun e => by
  obtain ⟨x, y, _, _, q⟩ := d
  rw [e, q] at h
  exact ho _ _ _ (Option.some.inj h).symm
theorem li_ne {ns : List Int} : ∀ x y z, HO.lst (ns.map V.int) ≠ .lst [x, y, .bl z] := fun x y z e => by
  have e1 : ns.map V.int = [x, y, .bl z] := HO.lst.inj e
  have m : V.bl z ∈ ns.map V.int := by
    rw [e1]
    simp
  obtain ⟨i, _, q⟩ := List.mem_map.mp m
  cases q
theorem rf_ne {ts : List Addr} : ∀ x y z, HO.lst (ts.map V.ref) ≠ .lst [x, y, .bl z] := fun x y z e => by
  have e1 : ts.map V.ref = [x, y, .bl z] := HO.lst.inj e
  have m : V.bl z ∈ ts.map V.ref := by
    rw [e1]
    simp
  obtain ⟨i, _, q⟩ := List.mem_map.mp m
  cases q
theorem tup_ne {xs : List V} : ∀ x y z, HO.tup xs ≠ .lst [x, y, .bl z] := fun _ _ _ e => by cases e
theorem SB.li {p a : Addr} {H H' : Hp} {k : Int} {ns : List Int} (s : SB p H H') (d : Dr H p k) (h : LI H a ns) : LI H' a ns := s a _ (d.ne h li_ne) h
theorem SB.pr {p t : Addr} {H H' : Hp} {k : Int} {d u : List Int} (s : SB p H H') (D : Dr H p k) (h : Pr H t d u) : Pr H' t d u := by
  obtain ⟨a, b, h1, h2, h3⟩ := h
  exact ⟨a, b, s t _ (D.ne h1 tup_ne) h1, s.li D h2, s.li D h3⟩
theorem Tps.mono {H H' : Hp} (s : ∀ t x y, H t = some (.tup [x, y]) → H' t = some (.tup [x, y])) : ∀ {ts : List Addr} {ms : List (Int × Int)}, Tps H ts ms → Tps H' ts ms
  | _, _, .nil => .nil
  | _, _, .cons h r => .cons (s _ _ _ h) (Tps.mono s r)
theorem SB.pl {p r : Addr} {H H' : Hp} {k : Int} {ms : List (Int × Int)} (s : SB p H H') (D : Dr H p k) (h : PL H r ms) : PL H' r ms := by
  obtain ⟨ts, h1, h2⟩ := h
  exact ⟨ts, s r _ (D.ne h1 rf_ne) h1, h2.mono fun t x y e => s t _ (D.ne e tup_ne) e⟩
theorem Same.li {H H' : Hp} {a : Addr} {ns : List Int} (s : Same H H') (h : LI H a ns) : LI H' a ns := s _ _ h
theorem Same.pr {H H' : Hp} {t : Addr} {d u : List Int} (s : Same H H') (h : Pr H t d u) : Pr H' t d u := by
  obtain ⟨a, b, h1, h2, h3⟩ := h
  exact ⟨a, b, s _ _ h1, s _ _ h2, s _ _ h3⟩
theorem Same.tps {H H' : Hp} {ts : List Addr} {ms : List (Int × Int)} (s : Same H H') (h : Tps H ts ms) : Tps H' ts ms := h.mono fun t x y e => s _ _ e
theorem Same.pl {H H' : Hp} {r : Addr} {ms : List (Int × Int)} (s : Same H H') (h : PL H r ms) : PL H' r ms := by
  obtain ⟨ts, h1, h2⟩ := h
  exact ⟨ts, s _ _ h1, Same.tps s h2⟩
theorem Same.dr {H H' : Hp} {p : Addr} {k : Int} (s : Same H H') (h : Dr H p k) : Dr H' p k := by
  obtain ⟨a, b, h1, h2, h3⟩ := h
  exact ⟨a, b, h1, h2, s _ _ h3⟩
theorem Tps.len {H : Hp} : ∀ {ts : List Addr} {ms : List (Int × Int)}, Tps H ts ms → ts.length = ms.length
  | _, _, .nil => rfl
  | _, _, .cons _ r => congrArg (· + 1) (Tps.len r)
theorem Tps.snoc {H : Hp} {t : Addr} {m : Int × Int} (h : H t = some (.tup [.int m.1, .int m.2])) : ∀ {ts : List Addr} {ms : List (Int × Int)}, Tps H ts ms → Tps H (ts ++ [t]) (ms ++ [m])
  | _, _, .nil => .cons h .nil
  | _, _, .cons h' r => .cons h' (Tps.snoc h r)
theorem Tps.app {H : Hp} : ∀ {ts us : List Addr} {ms ns : List (Int × Int)}, Tps H ts ms → Tps H us ns → Tps H (ts ++ us) (ms ++ ns)
  | _, _, _, _, .nil, r => r
  | _, _, _, _, .cons h r, r' => .cons h (Tps.app r r')
theorem Tps.at {H : Hp} : ∀ {ts : List Addr} {ms : List (Int × Int)} {i : Nat} {t : Addr}, Tps H ts ms → ts[i]? = some t → ∃ m, ms[i]? = some m ∧ H t = some (.tup [.int m.1, .int m.2])
  | _, _, _, _, .nil, e => by simp at e
  | _, _, 0, _, .cons h _, e => by
    simp at e
    subst e
    exact ⟨_, rfl, h⟩
  | _, _, i + 1, t, .cons _ r, e => by
    obtain ⟨m, e1, e2⟩ := Tps.at (i := i) r (by simpa using e)
    exact ⟨m, by simpa using e1, e2⟩
theorem li_get {ns : List Int} {i : Nat} (h : i < ns.length) : (ns.map V.int)[i]? = some (.int (ns.getD i 0)) := by
  rw [List.getElem?_map, List.getElem?_eq_getElem h, List.getD_eq_getElem?_getD, List.getElem?_eq_getElem h]
  rfl
theorem li_of {ns : List Int} {i : Nat} {x : V} (h : (ns.map V.int)[i]? = some x) : i < ns.length ∧ x = .int (ns.getD i 0) := by
  have hl : i < ns.length := by
    have := (List.getElem?_eq_some_iff.mp h).1
    rw [List.length_map] at this
    exact this
  rw [li_get hl] at h
  exact ⟨hl, (Option.some.inj h).symm⟩
theorem li_at {ns : List Int} {p : Int} (h1 : 1 ≤ p) (h2 : p ≤ (ns.length : Int)) : atI (ns.map V.int) (p - 1) = some (.int (lk ns p)) := by
  have e : p - 1 = (((p - 1).toNat : Nat) : Int) := by omega
  rw [e]
  refine atI_nat ?_
  rw [li_get (by omega)]
  unfold lk
  have e2 : (((p - 1).toNat : Nat) : Int).toNat = (p - 1).toNat := by omega
  rfl
theorem ix_of {n : Nat} {p : Int} (h1 : 1 ≤ p) (h2 : p ≤ (n : Int)) : ixN n (p - 1) = some (p - 1).toNat := by
  unfold ixN
  rw [if_pos (by omega), if_pos (by omega)]
theorem small100 {n : Nat} (h : n ≤ 100) : n < sizeLine := Nat.lt_of_le_of_lt h (by decide)
theorem small100' {n : Nat} (h : n ≤ 100) : n ≤ sizeLine := Nat.le_of_lt (small100 h)

/-! ### loops and comprehensions over enumerate -/
theorem for_enum {K : PySem.W.Frag} {a : Addr} {xs : List V} {g : TG} {tb : TS} {D : Ends} {σ : L2.St} {H : Hp} (W : Nat → L2.St → Hp → Prop) (w0 : W 0 σ H)
    (still : ∀ i σ H, W i σ H → SqL K H a xs)
    (turn : ∀ (i : Nat) (x : V) (T : Addr) (σ : L2.St) (H : Hp), xs[i]? = some x → W i σ H → H T = none → g (.ref T) σ (upd H T (.tup [.int (i : Nat), x])) fun σ2 H2 => tb { D with nx := W (i + 1), ct := W (i + 1), bk := D.nx } σ2 H2)
    (after : ∀ σ H, W xs.length σ H → D.nx σ H) :
    ∃ Z : Nat → Nat → L2.St → Hp → Prop, (∃ m, Z 0 m σ H) ∧ ∀ i m σ H, Z i m σ H →
      ((Ite K a).stop i H ∧ D.nx σ H) ∨
      ((Ite K a).go i H ∧ ∃ N : L2.St → Hp → Prop, (∀ σ' H', N σ' H' → ∃ m', m' < m ∧ Z (i + 1) m' σ' H') ∧
        ∀ x H', (Ite K a).yld i H x H' → g x σ H' fun σ2 H2 => tb { D with nx := N, ct := N, bk := D.nx } σ2 H2) := by
  refine ⟨fun i m σ H => i + m = xs.length ∧ W i σ H, ⟨xs.length, Nat.zero_add _, w0⟩, fun i m σ H hz => ?_⟩
  obtain ⟨em, hw⟩ := hz
  have sq := still i σ H hw
  rcases Nat.eq_zero_or_pos m with e0 | e0
  · have e1 : i = xs.length := by omega
    subst e1
    exact .inl ⟨⟨xs, sq, Nat.le_refl _⟩, after σ H hw⟩
  · have hi : i < xs.length := by omega
    have hx : xs[i]? = some xs[i] := List.getElem?_eq_getElem hi
    refine .inr ⟨⟨xs, _, sq, hx⟩, W (i + 1), fun σ' H' q => ⟨m - 1, by omega, by omega, q⟩, fun v H' y => ?_⟩
    obtain ⟨T, x, rfl, hT, rfl, hy⟩ := y
    exact turn i x T σ H (hy xs sq) hw hT
theorem lc_enum {K : PySem.W.Frag} {a : Addr} {xs : List V} {g : TG} {tt : TT} {te : TE} {vs : List Nat} {σ : L2.St} {H1 : Hp} {D : Addr} {Qd : Hp → Prop} (W : Nat → Hp → Prop) (w0 : W 0 (upd H1 D (.lst [])))
    (still : ∀ i H, W i H → SqL K H a xs)
    (turn : ∀ (i : Nat) (x : V) (T : Addr) (H : Hp), xs[i]? = some x → W i H → H T = none → g (.ref T) (wipe σ vs) (upd H T (.tup [.int (i : Nat), x])) fun σ2 H2 => wipe σ2 vs = wipe σ vs ∧ tt σ2 H2 fun b H3 =>
      if b = true then te σ2 H3 fun y H4 => ∃ acc, H4 D = some (.lst acc) ∧ acc.length < sizeLine ∧ W (i + 1) (upd H4 D (.lst (acc ++ [y]))) else W (i + 1) H3)
    (after : ∀ H, W xs.length H → Qd H) :
    ∃ Z : Nat → Nat → Hp → Prop, (∃ m, Z 0 m (upd H1 D (.lst []))) ∧ ∀ i m H, Z i m H →
      ((Ite K a).stop i H ∧ Qd H) ∨
      ((Ite K a).go i H ∧ ∃ Nx : Hp → Prop, (∀ H', Nx H' → ∃ m', m' < m ∧ Z (i + 1) m' H') ∧
        ∀ x H', (Ite K a).yld i H x H' → g x (wipe σ vs) H' fun σ2 H2 => wipe σ2 vs = wipe σ vs ∧ tt σ2 H2 fun b H3 =>
          if b = true then te σ2 H3 fun y H4 => ∃ acc, H4 D = some (.lst acc) ∧ acc.length < sizeLine ∧ Nx (upd H4 D (.lst (acc ++ [y]))) else Nx H3) := by
  refine ⟨fun i m H => i + m = xs.length ∧ W i H, ⟨xs.length, Nat.zero_add _, w0⟩, fun i m H hz => ?_⟩
  obtain ⟨em, hw⟩ := hz
  have sq := still i H hw
  rcases Nat.eq_zero_or_pos m with e0 | e0
  · have e1 : i = xs.length := by omega
    subst e1
    exact .inl ⟨⟨xs, sq, Nat.le_refl _⟩, after H hw⟩
  · have hi : i < xs.length := by omega
    have hx : xs[i]? = some xs[i] := List.getElem?_eq_getElem hi
    refine .inr ⟨⟨xs, _, sq, hx⟩, W (i + 1), fun H' q => ⟨m - 1, by omega, by omega, q⟩, fun v H' y => ?_⟩
    obtain ⟨T, x, rfl, hT, rfl, hy⟩ := y
    exact turn i x T H (hy xs sq) hw hT

/-! ### own rules -/
section
variable {X : Cx}
/-- a ** n, whatever the size -/
theorem op_powW : OpR X (binaryOp .Pow) (rI (fun i j => 0 ≤ j ∧ (Builtin.Int.intBits i : Int) * j ≤ 2 ^ 27) fun i j => .int (i ^ j.toNat)) :=
  opI fun i j t u s Q E hc q => pow_int hc.1 hc.2 q
/-- xs[i] read for xs[i] op= e, 0 ≤ i -/
def rGetL (K : PySem.W.Frag) : V → V → Hp → VK → Prop := fun x y H Q => ∃ (p : Addr) (xs : List V) (i : Int) (v : V), x = .ref p ∧ y = .int i ∧ SqL K H p xs ∧ 0 ≤ i ∧ xs[i.toNat]? = some v ∧ Q v H
theorem get_list : PGet X (rGetL X.K) := by
  intro pins s σ H o i ov iv Q I ro ri h
  obtain ⟨p, xs, k, z, rfl, rfl, hq, h0, he, q⟩ := h
  cases ro
  obtain ⟨t, rfl⟩ := ri
  obtain ⟨its, r, pl, hz⟩ := I.list hq
  obtain ⟨w, ew, rw'⟩ := r.get he
  have hl := (List.getElem?_eq_some_iff.mp he).1
  have hs : sizeLine < 2 ^ 62 := by decide
  refine wpAny_getItem_list pl.isList h0 (by omega) (x := w) (by simpa using ew) ⟨z, H, I, rw', q⟩
/-- repr(x) of ints, lists and tuples at any depth, where no other repr is under way -/
def rReprD (K : PySem.W.Frag) : List V → Hp → VK → Prop := fun xs H Q => ∃ (a : Addr) (d : PyData), xs = [.ref a] ∧ Dp K H (.ref a) d ∧ d.showable = true ∧ d.hasDict = false ∧ d.depth ≤ 60 ∧ d.shown.length ≤ sizeLine ∧ Q (.str d.shown) H
theorem call_reprD (hg : X.A.guards = some []) (hu : X.A.units + 64 < cLine) : CallR X (.builtin "repr") (rReprD X.K) := by
  intro pins s σ H xs us Q I r h
  obtain ⟨a, d, rfl, hd, h1, h2, h3, h4, q⟩ := h
  obtain ⟨u, rfl, ru⟩ := vals1 r
  cases ru
  obtain ⟨as, rd⟩ := Dp.reads I d _ _ hd rfl
  refine repr_of_reads' rd h1 (fun z => by rw [h2] at z; cases z) hg (by omega) (fun b o e => e) (fun h' u tk hk => ?_) h4
  exact ⟨.str d.shown, H, I.kept (t' := tk) hk, ⟨u, rfl⟩, q⟩
end

/-! ### readings that a block's rule wants in full -/
abbrev rAdd : R2 := rI0 fun i j => .int (i + j)
abbrev rSub : R2 := rI0 fun i j => .int (i - j)
abbrev rLe : R2 := rI0 fun i j => .bl (decide (i ≤ j))
abbrev rGt : R2 := rI0 fun i j => .bl (decide (j < i))
abbrev rLenS (K : PySem.W.Frag) : List V → Hp → VK → Prop := fun xs H Q => ∃ p ys, xs = [.ref p] ∧ (SqL K H p ys ∨ SqT K H p ys) ∧ Q (.int ys.length) H
abbrev g2 (K : PySem.W.Frag) (i j : Nat) : TG := gTup K 2 (gCons (gName i) (gCons (gName j) gNil))
abbrev tInt (i : Int) : TE := tC (.int i)

/-! ### a def that is called by its name -/
structure Cal (P : Program) (w : World) (K : PySem.W.Frag) (mg : Str → Option Value) (base : Heap) (x : Str) (k : Nat) (ps : List Str) (sp : Sp) : Prop where
  ex : ∃ (f : Addr) (fd : FuncData), FnOk P w K mg base CX0 k f fd ps sp ∧ mg x = some (.ref f) ∧ PySem.W.keepIn K (.ref f) = true ∧ Binds K fd ps []
section
variable {X : Cx} {k j : Nat} {ps : List Str} {sp : Sp} {x : Str} {p pos : Pos} {e : Expr} {es : List Expr} {t : TA}
theorem pe_cal (C : Cal X.prog X.w X.K X.mg X.base x k ps sp) (hr : Room j X.A) (hg : Gl X x) (ha : PA X (e :: es) t) (hk : k ≤ j := by decide) (hdb : (x == ("__debug__" : Str)) = false := by decide)
    (he : starEach (e :: es) X.env = (false, eval e X.env) :: starEach es X.env := by rfl) (hpl : (backTo pos (starEach es X.env)).any (·.1) = false := by rfl) : PE X (.Call (.Name x p) (e :: es) [] pos) (tCall sp [] E0 t) := by
  obtain ⟨f, fd, G, gm, kp, b⟩ := C.ex
  exact pe_call G (hr.mono hk) hg gm kp b .nil pass0 ha hdb he hpl
end
/-- the built-in names that stay, and the module's constant -/
structure Bts (mg : Str → Option Value) : Prop where
  isi : mg "isinstance" = none
  int : mg "int" = none
  bool : mg "bool" = none
  list : mg "list" = none
  tup : mg "tuple" = none
  len : mg "len" = none
  enum : mg "enumerate" = none
  range : mg "range" = none
  sorted : mg "sorted" = none
  all : mg "all" = none
  repr : mg "repr" = none
  sum : mg "sum" = none
  most : ∃ t, mg "MOST_PLACES" = some (.int 16 t)
section
variable {X : Cx} {p1 p2 pos : Pos} {e : Expr} {te : TE}
theorem bt_isi : bootBuiltins "isinstance" = some (.builtin "isinstance") := by decide +kernel
theorem bt_ty_int : bootBuiltins "int" = some (.type "int") := by decide +kernel
theorem bt_ty_bool : bootBuiltins "bool" = some (.type "bool") := by decide +kernel
theorem bt_ty_list : bootBuiltins "list" = some (.type "list") := by decide +kernel
theorem bt_ty_tuple : bootBuiltins "tuple" = some (.type "tuple") := by decide +kernel
theorem bt_len : bootBuiltins "len" = some (.builtin "len") := by decide +kernel
theorem bt_sorted : bootBuiltins "sorted" = some (.builtin "sorted") := by decide +kernel
theorem bt_all : bootBuiltins "all" = some (.builtin "all") := by decide +kernel
theorem bt_repr : bootBuiltins "repr" = some (.builtin "repr") := by decide +kernel
theorem bt_sum : bootBuiltins "sum" = some (.builtin "sum") := by decide +kernel
theorem kt_ii {K : PySem.W.Frag} : PySem.W.kitOne K (.type "int") (.type "int") = some true := kit_ty (by decide +kernel)
theorem kt_ib {K : PySem.W.Frag} : PySem.W.kitOne K (.type "int") (.type "bool") = some false := kit_ty (by decide +kernel)
theorem kt_ll {K : PySem.W.Frag} : PySem.W.kitOne K (.type "list") (.type "list") = some true := kit_ty (by decide +kernel)
theorem kt_tt {K : PySem.W.Frag} : PySem.W.kitOne K (.type "tuple") (.type "tuple") = some true := kit_ty (by decide +kernel)
end
end Lk
namespace Lk
open PySem PySem.Spec PyProof.Rows L2
/-! ### the text by places -/
def top (i : Nat) : Stmt := PySem.Challenge.pw_linksums_k72_whole_prices_by_cells.main.body.getD i (.Pass ⟨0, 0, 0, 0⟩)
abbrev sWhole : Stmt := top 6
abbrev sCkDown : Stmt := top 7
abbrev sCkUp : Stmt := top 8
abbrev sCkPair : Stmt := top 9
abbrev sCkVals : Stmt := top 10
abbrev sStD : Stmt := top 11
abbrev sStU : Stmt := top 12
theorem scWhole : FnScope ["thing"] ["thing"] (defScope sWhole) := ⟨rfl, rfl, rfl, by decide +kernel, rfl, by decide +kernel, by decide +kernel⟩
theorem scCkDown : FnScope ["down", "index", "link"] ["down"] (defScope sCkDown) := ⟨rfl, rfl, rfl, by decide +kernel, rfl, by decide +kernel, by decide +kernel⟩
theorem scCkUp : FnScope ["up", "index", "link"] ["up"] (defScope sCkUp) := ⟨rfl, rfl, rfl, by decide +kernel, rfl, by decide +kernel, by decide +kernel⟩
theorem scCkPair : FnScope ["pair", "down", "up"] ["pair"] (defScope sCkPair) := ⟨rfl, rfl, rfl, by decide +kernel, rfl, by decide +kernel, by decide +kernel⟩
theorem scCkVals : FnScope ["values", "places", "index", "value"] ["values", "places"] (defScope sCkVals) := ⟨rfl, rfl, rfl, by decide +kernel, rfl, by decide +kernel, by decide +kernel⟩
theorem scStD : FnScope ["down", "place", "told"] ["down", "place"] (defScope sStD) := ⟨rfl, rfl, rfl, by decide +kernel, rfl, by decide +kernel, by decide +kernel⟩
theorem scStU : FnScope ["up", "place", "told"] ["up", "place"] (defScope sStU) := ⟨rfl, rfl, rfl, by decide +kernel, rfl, by decide +kernel, by decide +kernel⟩

/-! ### promises -/
def spWhole : Sp := fun vs H Q _ => ∃ i : Int, vs = [.int i] ∧ Q (.bl true) H
def spCkDown : Sp := fun vs H Q _ => ∃ (a : Addr) (d : List Int), vs = [.ref a] ∧ LI H a d ∧ OkD d ∧ 1 ≤ d.length ∧ d.length ≤ 16 ∧ ∀ H', Same H H' → Q .non H'
def spCkUp : Sp := fun vs H Q _ => ∃ (a : Addr) (u : List Int), vs = [.ref a] ∧ LI H a u ∧ OkU u ∧ u.length ≤ 16 ∧ ∀ H', Same H H' → Q .non H'
/-- two tables of one length, at most sixteen -/
structure OkP (d u : List Int) : Prop where
  dn : OkD d
  up : OkU u
  l : d.length = u.length
  m : d.length ≤ 16
theorem OkP.pos {d u : List Int} (o : OkP d u) : 1 ≤ d.length := by
  have := o.up.1
  have := o.l
  omega
def spCkPair : Sp := fun vs H Q _ => ∃ (t : Addr) (d u : List Int), vs = [.ref t] ∧ Pr H t d u ∧ OkP d u ∧ ∀ H', Same H H' → Q .non H'
def spCkVals : Sp := fun vs H Q _ => ∃ (a : Addr) (ns : List Int), vs = [.ref a, .int (ns.length : Nat)] ∧ LI H a ns ∧ ∀ H', Same H H' → Q .non H'
def spStD : Sp := fun vs H Q _ => ∃ (a : Addr) (d : List Int) (p : Int), vs = [.ref a, .int p] ∧ LI H a d ∧ OkD d ∧ d.length ≤ 16 ∧ 0 ≤ p ∧ p ≤ (d.length : Int) ∧ ∀ H' r, Same H H' → H r = none → LI H' r (wD d p) → Q (.ref r) H'
def spStU : Sp := fun vs H Q _ => ∃ (a : Addr) (u : List Int) (p : Int), vs = [.ref a, .int p] ∧ LI H a u ∧ OkU u ∧ u.length ≤ 16 ∧ 1 ≤ p ∧ p ≤ (u.length : Int) + 1 ∧ ∀ H' r, Same H H' → H r = none → LI H' r (wU u p) → Q (.ref r) H'

section
variable {P : Program} {w : World} {K : PySem.W.Frag} {mg : Str → Option Value} {base : Heap} {f : Addr} {fd : FuncData}
theorem ok_whole (F : Fun K "is_whole" "is_whole" sWhole f fd) (T : Bts mg) : FnOk P w K mg base CX0 1 f fd ["thing"] spWhole := by
  refine F.ok scWhole (fun vs H Q E h => ?_) (fun cdv A outer s H vs Q E hr h => ?_)
  · obtain ⟨i, rfl, _⟩ := h
    rfl
  · obtain ⟨i, rfl, q⟩ := h
    refine ⟨_, pss_one (ps_ret (pe_and (pe_callB call_isi (by rfl) T.isi bt_isi (pa_cons (pv 0) (pa_cons (pe_bltn (v := .ty "int") (by rfl) T.int bt_ty_int rfl) pa_nil)))
      (pe_one (pe_not (pe_callB call_isi (by rfl) T.isi bt_isi (pa_cons (pv 0) (pa_cons (pe_bltn (v := .ty "bool") (by rfl) T.bool bt_ty_bool rfl) pa_nil))))))), ?_⟩
    refine ⟨.int i, rfl, .int i, .ty "int", .type "int", .type "int", true, rfl, .ty _, .base (.int i), kt_ii, true, rfl, iteT ?_⟩
    exact ⟨.int i, rfl, .int i, .ty "bool", .type "int", .type "bool", false, rfl, .ty _, .base (.int i), kt_ib, false, rfl, q⟩
theorem ok_ckdown (F : Fun K "check_down" "check_down" sCkDown f fd) (T : Bts mg) (C : Cal P w K mg base "is_whole" 1 ["thing"] spWhole) : FnOk P w K mg base CX0 2 f fd ["down"] spCkDown := by
  obtain ⟨tm, gm⟩ := T.most
  refine F.ok scCkDown (fun vs H Q E h => ?_) (fun cdv A outer s H vs Q E hr h => ?_)
  · obtain ⟨a, d, rfl, _⟩ := h
    rfl
  · obtain ⟨a, d, rfl, hA, ok, l1, l2, q⟩ := h
    refine ⟨_, pss_cons (ps_if (PW.pt (pw_or (pt_not (pt_val (pe_callB call_isi (by rfl) T.isi bt_isi (pa_cons (pv 0) (pa_cons (pe_bltn (v := .ty "list") (by rfl) T.list bt_ty_list rfl) pa_nil)))))
          (pw_or1 (pt_not (pt_chain op_le op_le pe_int (pe_callB call_len_seq (by rfl) T.len bt_len (pa_cons (pv 0) pa_nil)) (pe_glob (v := .int 16) (by rfl) gm ⟨_, rfl⟩))))))
        (pss_one ps_never) pss_nil)
      (pss_one (ps_for PassesOwn.never rfl (pi_enum (by rfl) T.enum (pa_cons (pv 0) pa_nil)) (pg_tup (by rfl) (pgs_cons (pg_name (i := 1) scCkDown.nd rfl (.inl rfl)) (pgs_cons (pg_name (i := 2) scCkDown.nd rfl (.inl rfl)) pgs_nil)))
        (pss_one (ps_if (PW.pt (pw_or (pt_not (pt_val (pe_cal C hr (by rfl) (pa_cons (pv 2) pa_nil))))
            (pw_or1 (pt_not (pt_chain op_le op_le pe_int (pv 2) (pv 1))))))
          (pss_one ps_never) pss_nil)))), ?_⟩
    -- not isinstance(down, list) or not 1 <= len(down) <= 16
    refine ⟨.ref a, rfl, .ref a, .ty "list", .type "list", .type "list", true, rfl, .ty _, .base (.lst hA), kt_ll, true, rfl, iteF ?_⟩
    refine ⟨.ref a, rfl, a, _, rfl, .inl (SqL.of hA), 1, _, rfl, rfl, _, rfl, ?_⟩
    rw [List.length_map]
    refine ite2 (fun _ => ?_) (fun z => absurd (decide_eq_true (by omega)) z)
    refine ⟨_, 16, rfl, rfl, _, rfl, ?_⟩
    have e16 : decide ((d.length : Int) ≤ 16) = true := decide_eq_true (by omega)
    rw [e16]
    refine iteF ?_
    -- the loop
    refine ⟨.ref a, rfl, a, _, rfl, SqL.of hA, for_enum (fun i σ H' => ∃ y1 y2, σ = [some (.ref a), y1, y2] ∧ Same H H') ⟨none, none, rfl, Same.refl _⟩ (fun i σ H' ⟨_, _, _, sm⟩ => SqL.of (sm _ _ hA)) ?_ ?_⟩
    · rintro i x T σ H' hx ⟨y1, y2, rfl, sm⟩ nT
      obtain ⟨hi, rfl⟩ := li_of hx
      have ho := ok i hi
      refine ⟨T, _, rfl, SqT.of upd_same, rfl, _, _, rfl, _, _, rfl, rfl, ?_⟩
      refine ⟨_, rfl, d.getD i 0, rfl, true, rfl, iteF ?_⟩
      refine ⟨_, rfl, 0, _, rfl, rfl, _, rfl, ?_⟩
      have e0 : decide ((0 : Int) ≤ d.getD i 0) = true := decide_eq_true ho.1
      rw [e0]
      refine iteT ⟨_, rfl, _, _, rfl, rfl, _, rfl, ?_⟩
      have e1 : decide (d.getD i 0 ≤ ((i : Nat) : Int)) = true := decide_eq_true ho.2
      rw [e1]
      exact iteF ⟨_, _, rfl, fun b o e => same_new nT _ _ (sm _ _ e)⟩
    · rintro σ H' ⟨_, _, _, sm⟩
      exact q _ sm
theorem ok_ckup (F : Fun K "check_up" "check_up" sCkUp f fd) (T : Bts mg) (C : Cal P w K mg base "is_whole" 1 ["thing"] spWhole) : FnOk P w K mg base CX0 2 f fd ["up"] spCkUp := by
  obtain ⟨tm, gm⟩ := T.most
  refine F.ok scCkUp (fun vs H Q E h => ?_) (fun cdv A outer s H vs Q E hr h => ?_)
  · obtain ⟨a, d, rfl, _⟩ := h
    rfl
  · obtain ⟨a, u, rfl, hA, ok, l2, q⟩ := h
    have l1 := ok.1
    refine ⟨_, pss_cons (ps_if (PW.pt (pw_or (pt_not (pt_val (pe_callB call_isi (by rfl) T.isi bt_isi (pa_cons (pv 0) (pa_cons (pe_bltn (v := .ty "list") (by rfl) T.list bt_ty_list rfl) pa_nil)))))
          (pw_or1 (pt_not (pt_chain op_le op_le pe_int (pe_callB call_len_seq (by rfl) T.len bt_len (pa_cons (pv 0) pa_nil)) (pe_glob (v := .int 16) (by rfl) gm ⟨_, rfl⟩))))))
        (pss_one ps_never) pss_nil)
      (pss_one (ps_for PassesOwn.never rfl (pi_enum (by rfl) T.enum (pa_cons (pv 0) pa_nil)) (pg_tup (by rfl) (pgs_cons (pg_name (i := 1) scCkUp.nd rfl (.inl rfl)) (pgs_cons (pg_name (i := 2) scCkUp.nd rfl (.inl rfl)) pgs_nil)))
        (pss_one (ps_if (PW.pt (pw_or (pt_not (pt_val (pe_cal C hr (by rfl) (pa_cons (pv 2) pa_nil))))
            (pw_or1 (pt_not (pt_chain op_le op_le (pe_op op_add (pv 1) pe_int) (pv 2) (pe_op op_add (pe_callB call_len_seq (by rfl) T.len bt_len (pa_cons (pv 0) pa_nil)) pe_int))))))
          (pss_one ps_never) pss_nil)))), ?_⟩
    refine ⟨.ref a, rfl, .ref a, .ty "list", .type "list", .type "list", true, rfl, .ty _, .base (.lst hA), kt_ll, true, rfl, iteF ?_⟩
    refine ⟨.ref a, rfl, a, _, rfl, .inl (SqL.of hA), 1, _, rfl, rfl, _, rfl, ?_⟩
    rw [List.length_map]
    refine ite2 (fun _ => ?_) (fun z => absurd (decide_eq_true (by omega)) z)
    refine ⟨_, 16, rfl, rfl, _, rfl, ?_⟩
    have e16 : decide ((u.length : Int) ≤ 16) = true := decide_eq_true (by omega)
    rw [e16]
    refine iteF ?_
    refine ⟨.ref a, rfl, a, _, rfl, SqL.of hA, for_enum (fun i σ H' => ∃ y1 y2, σ = [some (.ref a), y1, y2] ∧ Same H H') ⟨none, none, rfl, Same.refl _⟩ (fun i σ H' ⟨_, _, _, sm⟩ => SqL.of (sm _ _ hA)) ?_ ?_⟩
    · rintro i x T σ H' hx ⟨y1, y2, rfl, sm⟩ nT
      obtain ⟨hi, rfl⟩ := li_of hx
      have ho := ok.2 i hi
      have sm2 : Same H (upd H' T (.tup [.int (i : Nat), .int (u.getD i 0)])) := fun b o e => same_new nT _ _ (sm _ _ e)
      refine ⟨T, _, rfl, SqT.of upd_same, rfl, _, _, rfl, _, _, rfl, rfl, ?_⟩
      refine ⟨_, rfl, u.getD i 0, rfl, true, rfl, iteF ?_⟩
      refine ⟨_, rfl, _, _, rfl, rfl, _, rfl, _, _, rfl, rfl, _, rfl, ?_⟩
      have e0 : decide (((i : Nat) : Int) + 2 ≤ u.getD i 0) = true := decide_eq_true ho.1
      rw [e0]
      refine iteT ⟨_, rfl, a, _, rfl, .inl (SqL.of (sm2 _ _ hA)), _, _, rfl, rfl, _, _, rfl, rfl, _, rfl, ?_⟩
      have e1 : decide (u.getD i 0 ≤ (((u.map V.int).length : Nat) : Int) + 1) = true := decide_eq_true (by rw [List.length_map]; exact ho.2)
      rw [e1]
      exact iteF ⟨_, _, rfl, sm2⟩
    · rintro σ H' ⟨_, _, _, sm⟩
      exact q _ sm
theorem ok_ckpair (F : Fun K "check_pair" "check_pair" sCkPair f fd) (T : Bts mg) (CD : Cal P w K mg base "check_down" 2 ["down"] spCkDown) (CU : Cal P w K mg base "check_up" 2 ["up"] spCkUp) : FnOk P w K mg base CX0 3 f fd ["pair"] spCkPair := by
  obtain ⟨tm, gm⟩ := T.most
  refine F.ok scCkPair (fun vs H Q E h => ?_) (fun cdv A outer s H vs Q E hr h => ?_)
  · obtain ⟨a, d, u, rfl, _⟩ := h
    rfl
  · obtain ⟨t, d, u, rfl, ⟨a, b, hT, hA, hB⟩, ok, q⟩ := h
    have l1 := ok.pos
    have l2 := ok.m
    have l3 := ok.l
    refine ⟨_, pss_cons (ps_if (PW.pt (pw_or (pt_not (pt_val (pe_callB call_isi (by rfl) T.isi bt_isi (pa_cons (pv 0) (pa_cons (pe_bltn (v := .ty "tuple") (by rfl) T.tup bt_ty_tuple rfl) pa_nil)))))
          (pw_or1 (pt_cmpR op_ne (pe_callB call_len_seq (by rfl) T.len bt_len (pa_cons (pv 0) pa_nil)) pe_int (nomark _)))))
        (pss_one ps_never) pss_nil)
      (pss_cons (ps_asg (pv 0) (pg_tup (by rfl) (pgs_cons (pg_name (i := 1) scCkPair.nd rfl (.inl rfl)) (pgs_cons (pg_name (i := 2) scCkPair.nd rfl (.inl rfl)) pgs_nil))))
      (pss_cons (ps_if (PW.pt (pw_or (pt_not (pt_val (pe_callB call_isi (by rfl) T.isi bt_isi (pa_cons (pv 1) (pa_cons (pe_bltn (v := .ty "list") (by rfl) T.list bt_ty_list rfl) pa_nil)))))
          (pw_or1 (pt_not (pt_val (pe_callB call_isi (by rfl) T.isi bt_isi (pa_cons (pv 2) (pa_cons (pe_bltn (v := .ty "list") (by rfl) T.list bt_ty_list rfl) pa_nil))))))))
        (pss_one ps_never) pss_nil)
      (pss_cons (ps_if (PW.pt (pw_or (pt_cmpR op_ne (pe_callB call_len_seq (by rfl) T.len bt_len (pa_cons (pv 1) pa_nil)) (pe_callB call_len_seq (by rfl) T.len bt_len (pa_cons (pv 2) pa_nil)) (nomark _))
          (pw_or1 (pt_not (pt_chain op_le op_le pe_int (pe_callB call_len_seq (by rfl) T.len bt_len (pa_cons (pv 1) pa_nil)) (pe_glob (v := .int 16) (by rfl) gm ⟨_, rfl⟩))))))
        (pss_one ps_never) pss_nil)
      (pss_cons (ps_expr (pe_cal CD hr (by rfl) (pa_cons (pv 1) pa_nil)))
      (pss_one (ps_expr (pe_cal CU hr (by rfl) (pa_cons (pv 2) pa_nil)))))))), ?_⟩
    refine ⟨.ref t, rfl, .ref t, .ty "tuple", .type "tuple", .type "tuple", true, rfl, .ty _, .base (.tup hT), kt_tt, true, rfl, iteF ?_⟩
    refine ⟨.ref t, rfl, t, _, rfl, .inr (SqT.of hT), rfl, _, rfl, iteNS rfl ?_⟩
    refine ⟨.ref t, rfl, t, _, rfl, SqT.of hT, rfl, _, _, rfl, _, _, rfl, rfl, ?_⟩
    refine ⟨.ref a, rfl, .ref a, .ty "list", .type "list", .type "list", true, rfl, .ty _, .base (.lst hA), kt_ll, true, rfl, iteF ?_⟩
    refine ⟨.ref b, rfl, .ref b, .ty "list", .type "list", .type "list", true, rfl, .ty _, .base (.lst hB), kt_ll, true, rfl, iteF ?_⟩
    refine ⟨.ref a, rfl, a, _, rfl, .inl (SqL.of hA), .ref b, rfl, b, _, rfl, .inl (SqL.of hB), rfl, _, rfl, iteNS ?_ ?_⟩
    · rw [List.length_map, List.length_map, l3]
    refine ⟨.ref a, rfl, a, _, rfl, .inl (SqL.of hA), 1, _, rfl, rfl, _, rfl, ?_⟩
    rw [List.length_map]
    refine ite2 (fun _ => ?_) (fun z => absurd (decide_eq_true (by omega)) z)
    refine ⟨_, 16, rfl, rfl, _, rfl, ?_⟩
    have e16 : decide ((d.length : Int) ≤ 16) = true := decide_eq_true (by omega)
    rw [e16]
    refine iteF ?_
    refine ⟨.ref a, rfl, a, d, rfl, hA, ok.dn, l1, l2, fun H1 s1 => ?_⟩
    exact ⟨.ref b, rfl, b, u, rfl, s1 _ _ hB, ok.up, by omega, fun H2 s2 => q _ (s1.trans s2)⟩
theorem ok_ckvals (F : Fun K "check_values" "check_values" sCkVals f fd) (T : Bts mg) (C : Cal P w K mg base "is_whole" 1 ["thing"] spWhole) : FnOk P w K mg base CX0 2 f fd ["values", "places"] spCkVals := by
  refine F.ok scCkVals (fun vs H Q E h => ?_) (fun cdv A outer s H vs Q E hr h => ?_)
  · obtain ⟨a, d, rfl, _⟩ := h
    rfl
  · obtain ⟨a, ns, rfl, hA, q⟩ := h
    refine ⟨_, pss_cons (ps_if (PW.pt (pw_or (pt_not (pt_val (pe_callB call_isi (by rfl) T.isi bt_isi (pa_cons (pv 0) (pa_cons (pe_bltn (v := .ty "list") (by rfl) T.list bt_ty_list rfl) pa_nil)))))
          (pw_or1 (pt_cmpR op_ne (pe_callB call_len_seq (by rfl) T.len bt_len (pa_cons (pv 0) pa_nil)) (pv 1) (nomark _)))))
        (pss_one ps_never) pss_nil)
      (pss_one (ps_for PassesOwn.never rfl (pi_enum (by rfl) T.enum (pa_cons (pv 0) pa_nil)) (pg_tup (by rfl) (pgs_cons (pg_name (i := 2) scCkVals.nd rfl (.inl rfl)) (pgs_cons (pg_name (i := 3) scCkVals.nd rfl (.inl rfl)) pgs_nil)))
        (pss_one (ps_if (pt_not (pt_val (pe_cal C hr (by rfl) (pa_cons (pv 3) pa_nil))))
          (pss_one ps_never) pss_nil)))), ?_⟩
    refine ⟨.ref a, rfl, .ref a, .ty "list", .type "list", .type "list", true, rfl, .ty _, .base (.lst hA), kt_ll, true, rfl, iteF ?_⟩
    refine ⟨.ref a, rfl, a, _, rfl, .inl (SqL.of hA), _, rfl, rfl, _, rfl, iteNS ?_ ?_⟩
    · rw [List.length_map]
    refine ⟨.ref a, rfl, a, _, rfl, SqL.of hA, for_enum (fun i σ H' => ∃ y1 y2, σ = [some (.ref a), some (.int (ns.length : Nat)), y1, y2] ∧ Same H H') ⟨none, none, rfl, Same.refl _⟩ (fun i σ H' ⟨_, _, _, sm⟩ => SqL.of (sm _ _ hA)) ?_ ?_⟩
    · rintro i x T σ H' hx ⟨y1, y2, rfl, sm⟩ nT
      obtain ⟨hi, rfl⟩ := li_of hx
      refine ⟨T, _, rfl, SqT.of upd_same, rfl, _, _, rfl, _, _, rfl, rfl, ?_⟩
      refine ⟨_, rfl, ns.getD i 0, rfl, true, rfl, iteF ?_⟩
      exact ⟨_, _, rfl, fun b o e => same_new nT _ _ (sm _ _ e)⟩
    · rintro σ H' ⟨_, _, _, sm⟩
      exact q _ sm
theorem ok_std (F : Fun K "steps_down" "steps_down" sStD f fd) : FnOk P w K mg base CX0 1 f fd ["down", "place"] spStD := by
  refine F.ok scStD (fun vs H Q E h => ?_) (fun cdv A outer s H vs Q E hr h => ?_)
  · obtain ⟨a, d, p, rfl, _⟩ := h
    rfl
  · obtain ⟨a, d, p, rfl, hA, ok, l2, p0, p1, q⟩ := h
    refine ⟨_, pss_cons (ps_set (i := 2) scStD.nd rfl (.inl rfl) (pe_lst pa_nil))
      (pss_cons (ps_while PassesOwn.never (pt_cmpR op_gt (pv 1) pe_int (nomark _))
        (pss_cons (ps_expr (pe_bm PySem.F.plainAttrs_list PySem.F.slot_list_append PySem.F.type_list_append mt_append (pv 2) (pa_cons (pv 1) pa_nil)))
        (pss_one (ps_set (i := 1) scStD.nd rfl (.inl rfl) (pe_ix ix_list (pv 0) (pe_op op_sub (pv 1) pe_int) (fun _ _ => rfl))))))
      (pss_one (ps_ret (pv 2)))), ?_⟩
    refine ⟨Nat.zero_le _, fun r nr => ?_⟩
    have hlen := len_wD ok p p1
    refine ⟨fun m σ H' => ∃ (z : Int) (pre : List Int), σ = [some (.ref a), some (.int z), some (.ref r)] ∧ m = z.toNat ∧ 0 ≤ z ∧ z ≤ (d.length : Int) ∧ pre ++ wD d z = wD d p ∧ Same H H' ∧ LI H' r pre,
      ⟨_, p, [], rfl, rfl, p0, p1, rfl, same_new nr, upd_same⟩, ?_⟩
    rintro m σ H' ⟨z, pre, rfl, rfl, z0, z1, e, sm, hR⟩
    refine ⟨_, rfl, z, 0, rfl, rfl, _, rfl, ite2 (fun hz => ?_) (fun hz => ?_)⟩
    · have hz' : 0 < z := of_decide_eq_true hz
      have eg := wD_go ok hz'
      have hlk := lkD ok (p := z) (by omega) z1
      refine ⟨fun σ' H2 => ∃ (pre : List Int), σ' = [some (.ref a), some (.int (lk d z)), some (.ref r)] ∧ pre ++ wD d (lk d z) = wD d p ∧ Same H H2 ∧ LI H2 r pre, fun σ' H2 ⟨pre, e1, e2, e3, e4⟩ => ⟨(lk d z).toNat, by omega, lk d z, pre, e1, rfl, hlk.1, by omega, e2, e3, e4⟩, ?_⟩
      refine ⟨.ref r, rfl, .inl ⟨rfl, _, SqL.of hR⟩, _, rfl, r, _, _, rfl, rfl, hR, ?_, ?_⟩
      · rw [List.length_map]
        refine small100 ?_
        have := congrArg List.length e
        rw [List.length_append] at this
        omega
      · have s2 : Same H (upd H' r (.lst (pre.map V.int ++ [.int z]))) := same_put sm nr
        refine ⟨.ref a, rfl, _, rfl, z, 1, rfl, rfl, a, _, z - 1, .int (lk d z), rfl, rfl, SqL.of (s2 _ _ hA), li_at (by omega) z1, ?_⟩
        refine ⟨pre ++ [z], rfl, ?_, s2, ?_⟩
        · rw [← e, eg, List.append_assoc]
          rfl
        · show upd H' r _ r = _
          rw [upd_same, List.map_append]
          rfl
    · have hz' : ¬ 0 < z := fun y => hz (decide_eq_true y)
      rw [wD_stop (by omega), List.append_nil] at e
      subst e
      exact ⟨.ref r, rfl, q _ _ sm nr hR⟩
theorem ok_stu (F : Fun K "steps_up" "steps_up" sStU f fd) (T : Bts mg) : FnOk P w K mg base CX0 1 f fd ["up", "place"] spStU := by
  refine F.ok scStU (fun vs H Q E h => ?_) (fun cdv A outer s H vs Q E hr h => ?_)
  · obtain ⟨a, d, p, rfl, _⟩ := h
    rfl
  · obtain ⟨a, u, p, rfl, hA, ok, l2, p0, p1, q⟩ := h
    refine ⟨_, pss_cons (ps_set (i := 2) scStU.nd rfl (.inl rfl) (pe_lst pa_nil))
      (pss_cons (ps_while PassesOwn.never (pt_cmpR op_le (pv 1) (pe_callB call_len_seq (by rfl) T.len bt_len (pa_cons (pv 0) pa_nil)) (nomark _))
        (pss_cons (ps_expr (pe_bm PySem.F.plainAttrs_list PySem.F.slot_list_append PySem.F.type_list_append mt_append (pv 2) (pa_cons (pv 1) pa_nil)))
        (pss_one (ps_set (i := 1) scStU.nd rfl (.inl rfl) (pe_ix ix_list (pv 0) (pe_op op_sub (pv 1) pe_int) (fun _ _ => rfl))))))
      (pss_one (ps_ret (pv 2)))), ?_⟩
    refine ⟨Nat.zero_le _, fun r nr => ?_⟩
    have hlen : (wU u p).length ≤ 16 := by
      rcases len_wU ok p p0 with h | h
      · omega
      · rw [wU_stop h]
        exact Nat.zero_le _
    refine ⟨fun m σ H' => ∃ (z : Int) (pre : List Int), σ = [some (.ref a), some (.int z), some (.ref r)] ∧ m = ((u.length : Int) + 1 - z).toNat ∧ 1 ≤ z ∧ z ≤ (u.length : Int) + 1 ∧ pre ++ wU u z = wU u p ∧ Same H H' ∧ LI H' r pre,
      ⟨_, p, [], rfl, rfl, p0, p1, rfl, same_new nr, upd_same⟩, ?_⟩
    rintro m σ H' ⟨z, pre, rfl, rfl, z0, z1, e, sm, hR⟩
    refine ⟨_, rfl, .ref a, rfl, a, _, rfl, .inl (SqL.of (sm _ _ hA)), z, _, rfl, rfl, _, rfl, ?_⟩
    rw [List.length_map]
    refine ite2 (fun hz => ?_) (fun hz => ?_)
    · have hz' : z ≤ (u.length : Int) := of_decide_eq_true hz
      have eg := wU_go ok hz'
      have hlk := lkU ok (p := z) (by omega) hz'
      refine ⟨fun σ' H2 => ∃ (pre : List Int), σ' = [some (.ref a), some (.int (lk u z)), some (.ref r)] ∧ pre ++ wU u (lk u z) = wU u p ∧ Same H H2 ∧ LI H2 r pre, fun σ' H2 ⟨pre, e1, e2, e3, e4⟩ => ⟨((u.length : Int) + 1 - lk u z).toNat, by omega, lk u z, pre, e1, rfl, by omega, hlk.2, e2, e3, e4⟩, ?_⟩
      refine ⟨.ref r, rfl, .inl ⟨rfl, _, SqL.of hR⟩, _, rfl, r, _, _, rfl, rfl, hR, ?_, ?_⟩
      · rw [List.length_map]
        refine small100 ?_
        have := congrArg List.length e
        rw [List.length_append] at this
        omega
      · have s2 : Same H (upd H' r (.lst (pre.map V.int ++ [.int z]))) := same_put sm nr
        refine ⟨.ref a, rfl, _, rfl, z, 1, rfl, rfl, a, _, z - 1, .int (lk u z), rfl, rfl, SqL.of (s2 _ _ hA), li_at (by omega) hz', ?_⟩
        refine ⟨pre ++ [z], rfl, ?_, s2, ?_⟩
        · rw [← e, eg, List.append_assoc]
          rfl
        · show upd H' r _ r = _
          rw [upd_same, List.map_append]
          rfl
    · have hz' : ¬ z ≤ (u.length : Int) := fun y => hz (decide_eq_true y)
      rw [wU_stop (by omega), List.append_nil] at e
      subst e
      exact ⟨.ref r, rfl, q _ _ sm nr hR⟩
end
end Lk
namespace Lk
open PySem PySem.Spec PyProof.Rows L2
abbrev sFill : Stmt := top 13
abbrev sCells : Stmt := top 14
theorem scFill : FnScope ["up", "values", "value", "cells", "index", "place"] ["up", "values"] (defScope sFill) := ⟨rfl, rfl, rfl, by decide +kernel, rfl, by decide +kernel, by decide +kernel⟩
theorem scCells : FnScope ["up", "values"] ["up", "values"] (defScope sCells) := ⟨rfl, rfl, rfl, by decide +kernel, rfl, by decide +kernel, by decide +kernel⟩
def spFill : Sp := fun vs H Q _ => ∃ (a b : Addr) (u ns : List Int), vs = [.ref a, .ref b] ∧ LI H a u ∧ LI H b ns ∧ OkU u ∧ ns.length = u.length ∧ u.length ≤ 16 ∧ ∀ H' r, Same H H' → H r = none → LI H' r (fillL u ns) → Q (.ref r) H'
theorem addAll_take {c ps : List Int} {v : Int} {j : Nat} (h : j < ps.length) : addAll c (ps.take (j + 1)) v = addAt (addAll c (ps.take j) v) (ps.getD j 0) v := by
  unfold addAll
  rw [List.take_add_one, List.getElem?_eq_getElem h, List.foldl_append, List.getD_eq_getElem?_getD, List.getElem?_eq_getElem h]
  rfl
theorem getD_mem {ps : List Int} {j : Nat} (h : j < ps.length) : ps.getD j 0 ∈ ps := by
  rw [List.getD_eq_getElem?_getD, List.getElem?_eq_getElem h]
  exact List.getElem_mem h
theorem map_zeros : ∀ n : Nat, (List.replicate n (0 : Int)).map V.int = List.replicate n (V.int 0)
  | 0 => rfl
  | n + 1 => congrArg (V.int 0 :: ·) (map_zeros n)
theorem rep_snoc {α : Type} (x : α) : ∀ n : Nat, List.replicate n x ++ [x] = List.replicate (n + 1) x
  | 0 => rfl
  | n + 1 => congrArg (x :: ·) (rep_snoc x n)
section
variable {P : Program} {w : World} {K : PySem.W.Frag} {mg : Str → Option Value} {base : Heap} {f : Addr} {fd : FuncData}
theorem ok_fill (F : Fun K "filled" "filled" sFill f fd) (T : Bts mg) (C : Cal P w K mg base "steps_up" 1 ["up", "place"] spStU) : FnOk P w K mg base CX0 2 f fd ["up", "values"] spFill := by
  refine F.ok scFill (fun vs H Q E h => ?_) (fun cdv A outer s H vs Q E hr h => ?_)
  · obtain ⟨a, b, u, ns, rfl, _⟩ := h
    rfl
  · obtain ⟨a, b, u, ns, rfl, hA, hB, ok, hl, l2, q⟩ := h
    refine ⟨_, pss_cons (ps_setLc (i := 3) (own := [("value", 2)]) (g := gName 2) rfl scFill.nd rfl rfl (sw_true rfl rfl rfl (by decide +kernel)) (pi_list (pv 1)) (blkOk_by (own := [("value", 2)]) (N := ["up", "values", "value", "cells", "index", "place"]) (sc := defScope sFill) (by decide +kernel))
          (fun _ _ _ _ _ => pg_name (i := 2) scFill.nd rfl (Or.inl rfl)) (fun _ _ _ _ _ => pts_nil) (fun _ _ _ _ _ => pe_int))
      (pss_cons (ps_for PassesOwn.never rfl (pi_enum (by rfl) T.enum (pa_cons (pv 1) pa_nil)) (pg_tup (by rfl) (pgs_cons (pg_name (i := 4) scFill.nd rfl (.inl rfl)) (pgs_cons (pg_name (i := 2) scFill.nd rfl (.inl rfl)) pgs_nil)))
        (pss_one (ps_for PassesOwn.never rfl (pi_list (pe_cal C hr (by rfl) (pa_cons (pv 0) (pa_cons (pe_op op_add (pv 4) pe_int) pa_nil)))) (pg_name (i := 5) scFill.nd rfl (.inl rfl))
          (pss_one (ps_augS (pv 3) (pe_op op_sub (pv 5) pe_int) get_list (pv 2) ip_add set_list)))))
      (pss_one (ps_ret (pv 3)))), ?_⟩
    -- cells = [0 for value in values]
    refine ⟨.ref b, rfl, b, rfl, ⟨_, SqL.of hB⟩, fun D nD => lc_list (K := K) (a := b) (xs := ns.map V.int) (fun i H' => H' = upd H D (.lst (List.replicate i (.int 0)))) rfl (fun i H' _ e => ?_) (fun i x H' hx e => ?_) (fun H' e => ?_)⟩
    · rw [e]
      exact SqL.of (same_new nD _ _ hB)
    · subst e
      have hi := (li_of hx).1
      refine ⟨rfl, _, upd_same, ?_, ?_⟩
      · rw [List.length_replicate]
        exact small100 (by omega)
      · rw [upd_upd, rep_snoc]
    · subst e
      rw [List.length_map]
      have h0 : LI (upd H D (.lst (List.replicate ns.length (.int 0)))) D (fillN u ns 0) := by
        show upd H D _ D = some (.lst ((List.replicate ns.length (0 : Int)).map V.int))
        rw [upd_same, map_zeros]
      have s0 : Same H (upd H D (.lst (List.replicate ns.length (.int 0)))) := same_new nD
      -- for index, value in enumerate(values)
      refine ⟨.ref b, rfl, b, _, rfl, SqL.of (s0 _ _ hB), for_enum (fun i σ H' => ∃ y2 y4 y5, σ = [some (.ref a), some (.ref b), y2, some (.ref D), y4, y5] ∧ Same H H' ∧ LI H' D (fillN u ns i))
        ⟨none, none, none, rfl, s0, h0⟩ (fun i σ H' ⟨_, _, _, _, sm, _⟩ => SqL.of (sm _ _ hB)) ?_ ?_⟩
      · rintro i x Tp σ H' hx ⟨y2, y4, y5, rfl, sm, hD⟩ nT
        obtain ⟨hi, rfl⟩ := li_of hx
        have s1 : Same H (upd H' Tp (.tup [.int (i : Nat), .int (ns.getD i 0)])) := fun c o e => same_new nT _ _ (sm _ _ e)
        have hD1 : LI (upd H' Tp (.tup [.int (i : Nat), .int (ns.getD i 0)])) D (fillN u ns i) := same_new nT _ _ hD
        refine ⟨Tp, _, rfl, SqT.of upd_same, rfl, _, _, rfl, _, _, rfl, rfl, ?_⟩
        -- for place in steps_up(up, index + 1)
        refine ⟨.ref a, rfl, _, rfl, _, _, rfl, rfl, a, u, (i : Int) + 1, rfl, s1 _ _ hA, ok, l2, by omega, by omega, fun H2 r s2 nr hR => ?_⟩
        have s12 : Same H H2 := s1.trans s2
        have nrD : r ≠ D := fun e => by
          rw [e] at nr
          rw [show upd H' Tp _ D = _ from hD1] at nr
          cases nr
        refine ⟨r, rfl, ⟨_, SqL.of hR⟩, for_list (K := K) (a := r) (xs := (wU u ((i : Int) + 1)).map V.int) (fun j σ H3 => ∃ y5, σ = [some (.ref a), some (.ref b), some (.int (ns.getD i 0)), some (.ref D), some (.int (i : Nat)), y5] ∧ Same H H3 ∧ LI H3 r (wU u ((i : Int) + 1)) ∧
            LI H3 D (addAll (fillN u ns i) ((wU u ((i : Int) + 1)).take j) (ns.getD i 0)))
          ⟨y5, rfl, s12, hR, s2 _ _ hD1⟩ (fun j σ H3 _ ⟨_, _, _, h, _⟩ => SqL.of h) ?_ ?_⟩
        · rintro j z σ H3 hz ⟨y5, rfl, s3, hR3, hD3⟩
          obtain ⟨hj, rfl⟩ := li_of hz
          have hm := memU ok (by omega) _ (getD_mem hj)
          generalize ep : (wU u ((i : Int) + 1)).getD j 0 = p at hm
          have hln : (addAll (fillN u ns i) ((wU u ((i : Int) + 1)).take j) (ns.getD i 0)).length = u.length := by
            rw [len_addAll, len_fillN, hl]
          have hpl : (p - 1).toNat < (addAll (fillN u ns i) ((wU u ((i : Int) + 1)).take j) (ns.getD i 0)).length := by omega
          refine ⟨.ref D, rfl, .int p, rfl, p, 1, rfl, rfl, D, _, p - 1, .int _, rfl, rfl, SqL.of hD3, by omega, li_get hpl, _, rfl, _, _, rfl, rfl, D, _, p - 1, (p - 1).toNat, rfl, rfl, hD3, ?_, ?_⟩
          · rw [List.length_map, hln]
            exact ix_of hm.1 hm.2
          · refine ⟨_, rfl, same_put s3 nD, ?_, ?_⟩
            · show upd H3 D _ r = _
              rw [upd_ne nrD]
              exact hR3
            · show upd H3 D _ D = _
              rw [upd_same, addAll_take hj, ep, ← List.map_set]
              rfl
        · rintro σ H3 ⟨y5, rfl, s3, _, hD3⟩
          rw [List.length_map, List.take_length] at hD3
          exact ⟨_, _, _, rfl, s3, hD3⟩
      · rintro σ H' ⟨_, _, _, rfl, sm, hD⟩
        rw [List.length_map] at hD
        exact ⟨.ref D, rfl, q _ _ sm nD hD⟩
theorem ok_cells (F : Fun K "cells_of" "cells_of" sCells f fd) (T : Bts mg) (CU : Cal P w K mg base "check_up" 2 ["up"] spCkUp) (CV : Cal P w K mg base "check_values" 2 ["values", "places"] spCkVals) (CF : Cal P w K mg base "filled" 2 ["up", "values"] spFill) :
    FnOk P w K mg base CX0 3 f fd ["up", "values"] spFill := by
  refine F.ok scCells (fun vs H Q E h => ?_) (fun cdv A outer s H vs Q E hr h => ?_)
  · obtain ⟨a, b, u, ns, rfl, _⟩ := h
    rfl
  · obtain ⟨a, b, u, ns, rfl, hA, hB, ok, hl, l2, q⟩ := h
    refine ⟨_, pss_cons (ps_expr (pe_cal CU hr (by rfl) (pa_cons (pv 0) pa_nil)))
      (pss_cons (ps_expr (pe_cal CV hr (by rfl) (pa_cons (pv 1) (pa_cons (pe_callB call_len_seq (by rfl) T.len bt_len (pa_cons (pv 0) pa_nil)) pa_nil))))
      (pss_one (ps_ret (pe_cal CF hr (by rfl) (pa_cons (pv 0) (pa_cons (pv 1) pa_nil)))))), ?_⟩
    refine ⟨.ref a, rfl, a, u, rfl, hA, ok, l2, fun H1 s1 => ?_⟩
    refine ⟨.ref b, rfl, .ref a, rfl, a, _, rfl, .inl (SqL.of (s1 _ _ hA)), b, ns, ?_, s1 _ _ hB, fun H2 s2 => ?_⟩
    · rw [List.length_map, hl]
      rfl
    · have s12 := s1.trans s2
      exact ⟨.ref a, rfl, .ref b, rfl, a, b, u, ns, rfl, s12 _ _ hA, s12 _ _ hB, ok, hl, l2, fun H3 r s3 nr hR => q _ _ (s12.trans s3) (s12.free nr) hR⟩
end
end Lk
namespace Lk
open PySem PySem.Spec PyProof.Rows L2
abbrev sFwdIn : Stmt := top 16
abbrev sBackIn : Stmt := top 17
abbrev sGoF : Stmt := top 18
abbrev sGoB : Stmt := top 19
abbrev sFwds : Stmt := top 20
abbrev sBacks : Stmt := top 21
abbrev sMoved : Stmt := top 22
theorem scFwdIn : FnScope ["pair", "down", "up", "some", "index", "link", "first", "second"] ["pair"] (defScope sFwdIn) := ⟨rfl, rfl, rfl, by decide +kernel, rfl, by decide +kernel, by decide +kernel⟩
theorem scBackIn : FnScope ["pair", "down", "up", "some", "index", "link", "first", "second"] ["pair"] (defScope sBackIn) := ⟨rfl, rfl, rfl, by decide +kernel, rfl, by decide +kernel, by decide +kernel⟩
theorem scGoF : FnScope ["pair", "move", "down", "up", "first", "second"] ["pair", "move"] (defScope sGoF) := ⟨rfl, rfl, rfl, by decide +kernel, rfl, by decide +kernel, by decide +kernel⟩
theorem scGoB : FnScope ["pair", "move", "down", "up", "first", "second"] ["pair", "move"] (defScope sGoB) := ⟨rfl, rfl, rfl, by decide +kernel, rfl, by decide +kernel, by decide +kernel⟩
theorem scFwds : FnScope ["pair"] ["pair"] (defScope sFwds) := ⟨rfl, rfl, rfl, by decide +kernel, rfl, by decide +kernel, by decide +kernel⟩
theorem scBacks : FnScope ["pair"] ["pair"] (defScope sBacks) := ⟨rfl, rfl, rfl, by decide +kernel, rfl, by decide +kernel, by decide +kernel⟩
theorem scMoved : FnScope ["pair", "move", "place"] ["pair", "move"] (defScope sMoved) := ⟨rfl, rfl, rfl, by decide +kernel, rfl, by decide +kernel, by decide +kernel⟩

/-! ### pairs of ints as data -/
def pD (m : Int × Int) : PyData := .tuple [.int m.1, .int m.2]
theorem pD_eqv (m n : Int × Int) : PyData.eqv (pD m) (pD n) = decide (m = n) := by
  obtain ⟨a, b⟩ := m
  obtain ⟨c, d⟩ := n
  have e : PyData.eqv (pD (a, b)) (pD (c, d)) = ((a == c) && ((b == d) && true)) := by simp only [pD, PyData.eqv, PyData.eqvAll]
  rw [e, Bool.eq_iff_iff]
  simp
theorem pD_any (m : Int × Int) : ∀ ms : List (Int × Int), ((ms.map pD).any fun z => PyData.eqv z (pD m)) = decide (m ∈ ms)
  | [] => by simp
  | n :: ms => by
    rw [List.map_cons, List.any_cons, pD_any m ms, pD_eqv, Bool.eq_iff_iff, Bool.or_eq_true, decide_eq_true_iff, decide_eq_true_iff, decide_eq_true_iff, List.mem_cons]
    exact ⟨fun h => h.elim (fun e => .inl e.symm) .inr, fun h => h.elim (fun e => .inl e.symm) .inr⟩
theorem pD_lay (m : Int × Int) : (pD m).canLay0 = true := by simp [pD, PyData.canLay0, PyData.canLayAll0]
theorem pD_dep (m : Int × Int) : (pD m).depth ≤ 1 := by simp [pD, PyData.depth, PyData.depthAll]
theorem pDs_lay : ∀ ms : List (Int × Int), PyData.canLayAll0 (ms.map pD) = true
  | [] => by simp [PyData.canLayAll0]
  | m :: ms => by simp [PyData.canLayAll0, pD_lay m, pDs_lay ms]
theorem pDs_dep : ∀ ms : List (Int × Int), PyData.depthAll (ms.map pD) ≤ 1
  | [] => by simp [PyData.depthAll]
  | m :: ms => by
    have h1 := pDs_dep ms
    have h2 := pD_dep m
    simp only [List.map_cons, PyData.depthAll]
    omega
theorem pD_shaped (m : Int × Int) : SeqAt.shaped (pD m) = true := by
  have := pD_dep m
  exact Bool.and_eq_true_iff.mpr ⟨pD_lay m, decide_eq_true (by omega)⟩
theorem pDs_shaped (ms : List (Int × Int)) : SeqAt.shaped (.list (ms.map pD)) = true := by
  have := pDs_dep ms
  refine Bool.and_eq_true_iff.mpr ⟨?_, decide_eq_true ?_⟩
  · simp only [PyData.canLay0]
    exact pDs_lay ms
  · simp only [PyData.depth]
    omega
theorem dp_tps {K : PySem.W.Frag} {H : Hp} : ∀ {ts : List Addr} {ms : List (Int × Int)}, Tps H ts ms → DpAll K H (ts.map V.ref) (ms.map pD)
  | _, _, .nil => .nil
  | _, _, .cons h r => .cons (.tup (SqT.of h) (.cons (.int _) (.cons (.int _) .nil))) (dp_tps r)
theorem dp_pl {K : PySem.W.Frag} {H : Hp} {r : Addr} {ms : List (Int × Int)} (h : PL H r ms) : Dp K H (.ref r) (.list (ms.map pD)) := by
  obtain ⟨ts, h1, h2⟩ := h
  exact .lst (SqL.of h1) (dp_tps h2)
theorem dp_tp {K : PySem.W.Frag} {H : Hp} {t : Addr} {x y : Int} (h : H t = some (.tup [.int x, .int y])) : Dp K H (.ref t) (pD (x, y)) := .tup (SqT.of h) (.cons (.int _) (.cons (.int _) .nil))

/-! ### the lists of moves grow -/
theorem someU_succ (u : List Int) (k : Nat) : someU u (k + 1) = someU u k ++ (if u.getD k 0 ≤ (u.length : Int) then [((k : Int) + 1, u.getD k 0)] else []) := by
  unfold someU
  rw [List.range_succ, List.filterMap_append]
  congr 1
  by_cases h : u.getD k 0 ≤ (u.length : Int)
  · rw [if_pos h, List.filterMap_cons_some (b := ((k : Int) + 1, u.getD k 0)) (by rw [if_pos h])]
    rfl
  · rw [if_neg h, List.filterMap_cons_none (by rw [if_neg h])]
    rfl
theorem someD_succ (d : List Int) (k : Nat) : someD d (k + 1) = someD d k ++ (if 0 < d.getD k 0 then [(d.getD k 0, (k : Int) + 1)] else []) := by
  unfold someD
  rw [List.range_succ, List.filterMap_append]
  congr 1
  by_cases h : 0 < d.getD k 0
  · rw [if_pos h, List.filterMap_cons_some (b := (d.getD k 0, (k : Int) + 1)) (by rw [if_pos h])]
    rfl
  · rw [if_neg h, List.filterMap_cons_none (by rw [if_neg h])]
    rfl
theorem someU_len (u : List Int) (k : Nat) : (someU u k).length ≤ k := by
  have := List.length_filterMap_le (fun i : Nat => if u.getD i 0 ≤ (u.length : Int) then some ((i : Int) + 1, u.getD i 0) else none) (List.range k)
  rw [List.length_range] at this
  exact this
theorem someD_len (d : List Int) (k : Nat) : (someD d k).length ≤ k := by
  have := List.length_filterMap_le (fun i : Nat => if 0 < d.getD i 0 then some (d.getD i 0, (i : Int) + 1) else none) (List.range k)
  rw [List.length_range] at this
  exact this
theorem filt_take {α : Type} (p : α → Bool) {ms : List α} {j : Nat} {m : α} (h : ms[j]? = some m) : (ms.take (j + 1)).filter p = (ms.take j).filter p ++ (if p m = true then [m] else []) := by
  rw [List.take_add_one, h, List.filter_append]
  congr 1
  by_cases c : p m = true
  · rw [if_pos c]
    exact List.filter_cons_of_pos c
  · rw [if_neg c]
    exact List.filter_cons_of_neg c
theorem rf_of {ts : List Addr} {i : Nat} {x : V} (h : (ts.map V.ref)[i]? = some x) : ∃ t, ts[i]? = some t ∧ x = .ref t := by
  rw [List.getElem?_map] at h
  cases e : ts[i]? with
  | none =>
    rw [e] at h
    cases h
  | some t =>
    rw [e] at h
    exact ⟨t, rfl, (Option.some.inj h).symm⟩
theorem mem_of_take {α : Type} {ms : List α} {j : Nat} {m : α} (h : ms[j]? = some m) : m ∈ ms := List.mem_of_getElem? h

/-! ### promises -/
def spFwdIn : Sp := fun vs H Q _ => ∃ (t : Addr) (d u : List Int), vs = [.ref t] ∧ Pr H t d u ∧ OkP d u ∧ ∀ H' r, Same H H' → H r = none → PL H' r (fwdL d u) → Q (.ref r) H'
def spBackIn : Sp := fun vs H Q _ => ∃ (t : Addr) (d u : List Int), vs = [.ref t] ∧ Pr H t d u ∧ OkP d u ∧ ∀ H' r ms, Same H H' → H r = none → ms.Perm (backL d u) → PL H' r ms → Q (.ref r) H'
def spGoF : Sp := fun vs H Q _ => ∃ (t m : Addr) (d u : List Int) (x y : Int), vs = [.ref t, .ref m] ∧ Pr H t d u ∧ d.length = u.length ∧ d.length ≤ 16 ∧ H m = some (.tup [.int x, .int y]) ∧ 1 ≤ x ∧ x < y ∧ y ≤ (u.length : Int) ∧ ∀ H' r, Same H H' → H r = none → Pr H' r (goneFD d x y) (goneFU u x y) → Q (.ref r) H'
def spGoB : Sp := fun vs H Q _ => ∃ (t m : Addr) (d u : List Int) (x y : Int), vs = [.ref t, .ref m] ∧ Pr H t d u ∧ d.length = u.length ∧ d.length ≤ 16 ∧ H m = some (.tup [.int x, .int y]) ∧ 1 ≤ x ∧ x < y ∧ y ≤ (u.length : Int) ∧ ∀ H' r, Same H H' → H r = none → Pr H' r (goneBD d x y) (goneBU u x y) → Q (.ref r) H'
def spMoved : Sp := fun vs H Q _ => ∃ (t m : Addr) (d u : List Int) (x y : Int), vs = [.ref t, .ref m] ∧ Pr H t d u ∧ OkP d u ∧ H m = some (.tup [.int x, .int y]) ∧ ((x, y) ∈ fwdL d u ∨ (x, y) ∈ backL d u) ∧
  ((x, y) ∈ fwdL d u → ∀ H' r, Same H H' → H r = none → Pr H' r (goneFD d x y) (goneFU u x y) → Q (.ref r) H') ∧ ((x, y) ∉ fwdL d u → ∀ H' r, Same H H' → H r = none → Pr H' r (goneBD d x y) (goneBU u x y) → Q (.ref r) H')

section
variable {P : Program} {w : World} {K : PySem.W.Frag} {mg : Str → Option Value} {base : Heap} {f : Addr} {fd : FuncData}
theorem ok_fwdin (F : Fun K "forward_in" "forward_in" sFwdIn f fd) (T : Bts mg) : FnOk P w K mg base CX0 1 f fd ["pair"] spFwdIn := by
  refine F.ok scFwdIn (fun vs H Q E h => ?_) (fun cdv A outer s H vs Q E hr h => ?_)
  · obtain ⟨t, d, u, rfl, _⟩ := h
    rfl
  · obtain ⟨t, d, u, rfl, ⟨a, b, hT, hA, hB⟩, ok, q⟩ := h
    have l2 := ok.m
    have l3 := ok.l
    refine ⟨_, pss_cons (ps_asg (pv 0) (pg_tup (by rfl) (pgs_cons (pg_name (i := 1) scFwdIn.nd rfl (.inr rfl)) (pgs_cons (pg_name (i := 2) scFwdIn.nd rfl (.inr rfl)) pgs_nil))))
      (pss_cons (ps_setLc (i := 3) (own := [("index", 4), ("link", 5)]) (g := g2 K 4 5) (tt := tTest (tOp rLe (tVar 5) (tCB (rLenS K) (tCons (tVar 2) tNil)))) rfl scFwdIn.nd rfl rfl (sw_true rfl rfl rfl (by decide +kernel)) (pi_enum (by rfl) T.enum (pa_cons (pv 2) pa_nil))
          (blkOk_by (own := [("index", 4), ("link", 5)]) (N := ["pair", "down", "up", "some", "index", "link", "first", "second"]) (sc := defScope sFwdIn) (by decide +kernel))
          (fun _ _ _ _ _ => pg_tup (by rfl) (pgs_cons (pg_name (i := 4) scFwdIn.nd rfl (.inl rfl)) (pgs_cons (pg_name (i := 5) scFwdIn.nd rfl (.inl rfl)) pgs_nil)))
          (fun _ _ _ _ _ => pts_one (pt_cmpR op_le (pv 5) (pe_callB call_len_seq (by rfl) T.len bt_len (pa_cons (pv 2) pa_nil)) (nomark _)))
          (fun _ _ _ _ _ => pe_tup (pa_cons (pe_op op_add (pv 4) pe_int) (pa_cons (pv 5) pa_nil))))
      (pss_one (ps_ret (pe_lc (own := [("first", 6), ("second", 7)]) (g := g2 K 6 7) (tt := tTest (tOp rEq (tOp (rIxL K) (tVar 1) (tOp rSub (tVar 6) (tInt 1))) (tOp (rIxL K) (tVar 1) (tOp rSub (tVar 7) (tInt 1))))) rfl scFwdIn.nd (pi_list (pv 3))
          (blkOk_by (own := [("first", 6), ("second", 7)]) (N := ["pair", "down", "up", "some", "index", "link", "first", "second"]) (sc := defScope sFwdIn) (by decide +kernel))
          (fun _ _ _ _ _ => pg_tup (by rfl) (pgs_cons (pg_name (i := 6) scFwdIn.nd rfl (.inl rfl)) (pgs_cons (pg_name (i := 7) scFwdIn.nd rfl (.inl rfl)) pgs_nil)))
          (fun _ _ _ _ _ => pts_one (pt_cmpR op_eq (pe_ix ix_list (pv 1) (pe_op op_sub (pv 6) pe_int) (fun _ _ => rfl)) (pe_ix ix_list (pv 1) (pe_op op_sub (pv 7) pe_int) (fun _ _ => rfl)) (nomark _)))
          (fun _ _ _ _ _ => pe_tup (pa_cons (pv 6) (pa_cons (pv 7) pa_nil))))))), ?_⟩
    refine ⟨.ref t, rfl, t, _, rfl, SqT.of hT, rfl, _, _, rfl, _, _, rfl, rfl, ?_⟩
    -- some = [(index + 1, link) for index, link in enumerate(up) if link <= len(up)]
    refine ⟨.ref b, rfl, b, _, rfl, SqL.of hB, fun D nD => lc_enum (fun i H' => Same H H' ∧ ∃ ts, H' D = some (.lst (ts.map V.ref)) ∧ Tps H' ts (someU u i)) ⟨same_new nD, [], upd_same, .nil⟩ (fun i H' ⟨sm, _⟩ => SqL.of (sm _ _ hB)) ?_ ?_⟩
    · rintro i x Tp H' hx ⟨sm, ts, hD, hts⟩ nT
      obtain ⟨hi, rfl⟩ := li_of hx
      have sn : Same H' (upd H' Tp (.tup [.int (i : Nat), .int (u.getD i 0)])) := same_new nT
      have s1 := sm.trans sn
      refine ⟨Tp, _, rfl, SqT.of upd_same, rfl, _, _, rfl, _, _, rfl, rfl, rfl, ?_⟩
      refine ⟨_, rfl, .ref b, rfl, b, _, rfl, .inl (SqL.of (s1 _ _ hB)), _, _, rfl, rfl, _, rfl, ?_⟩
      rw [List.length_map]
      refine ite2 (fun hz => ?_) (fun hz => ?_)
      · have hz' : u.getD i 0 ≤ (u.length : Int) := of_decide_eq_true hz
        refine ⟨_, rfl, _, _, rfl, rfl, .int (u.getD i 0), rfl, by show 2 ≤ sizeLine; decide, fun p np => ?_⟩
        have s2 := sn.trans (same_new (o := .tup [.int ((i : Int) + 1), .int (u.getD i 0)]) np)
        refine ⟨ts.map V.ref, s2 _ _ hD, ?_, ?_, ts ++ [p], ?_, ?_⟩
        · rw [List.length_map, hts.len]
          have := someU_len u i
          exact small100 (by omega)
        · exact same_put (sm.trans s2) nD
        · rw [upd_same, List.map_append]
          rfl
        · rw [someU_succ, if_pos hz']
          have hp : upd (upd H' Tp (.tup [.int (i : Nat), .int (u.getD i 0)])) p (.tup [.int ((i : Int) + 1), .int (u.getD i 0)]) p = some (.tup [.int ((i : Int) + 1), .int (u.getD i 0)]) := upd_same
          have base2 := Tps.snoc (m := ((i : Int) + 1, u.getD i 0)) hp (Same.tps s2 hts)
          exact base2.mono fun t x y e => by
            rw [upd_ne (ne_of e (s2 _ _ hD) (by intro z; cases z))]
            exact e
      · have hz' : ¬ u.getD i 0 ≤ (u.length : Int) := fun y => hz (decide_eq_true y)
        refine ⟨s1, ts, sn _ _ hD, ?_⟩
        rw [someU_succ, if_neg hz', List.append_nil]
        exact Same.tps sn hts
    · rintro H1 ⟨s1, ts, hD, hts⟩
      rw [List.length_map] at hts
      -- the moves
      refine ⟨.ref D, rfl, D, rfl, ⟨_, SqL.of hD⟩, fun Z nZ => lc_list (K := K) (a := D) (xs := ts.map V.ref) (fun j H' => Same H1 H' ∧ ∃ us, H' Z = some (.lst (us.map V.ref)) ∧ Tps H' us (((someU u u.length).take j).filter fun m => decide (lk d m.1 = lk d m.2)))
        ⟨same_new nZ, [], upd_same, .nil⟩ (fun j H' _ ⟨sm, _⟩ => SqL.of (sm _ _ hD)) ?_ ?_⟩
      · rintro j x H' hx ⟨sm, us, hZ, hus⟩
        obtain ⟨tj, htj, rfl⟩ := rf_of hx
        obtain ⟨m, hm, hmt⟩ := hts.at htj
        have pos := someU_pos ok.up (Nat.le_refl _) (mem_of_take hm)
        refine ⟨tj, _, rfl, SqT.of (sm _ _ hmt), rfl, _, _, rfl, _, _, rfl, rfl, rfl, ?_⟩
        have hA' : LI H' a d := sm _ _ (s1 _ _ hA)
        refine ⟨.ref a, rfl, _, rfl, m.1, 1, rfl, rfl, a, _, m.1 - 1, .int (lk d m.1), rfl, rfl, SqL.of hA', li_at pos.1 (by omega), ?_⟩
        refine ⟨.ref a, rfl, _, rfl, m.2, 1, rfl, rfl, a, _, m.2 - 1, .int (lk d m.2), rfl, rfl, SqL.of hA', li_at (by omega) (by omega), rfl, _, rfl, ?_⟩
        rw [filt_take _ hm]
        refine ite2 (fun hz => ?_) (fun hz => ?_)
        · have hz' : lk d m.1 = lk d m.2 := V.int.inj (of_decide_eq_true hz)
          rw [if_pos (decide_eq_true hz')]
          refine ⟨_, rfl, _, rfl, by show 2 ≤ sizeLine; decide, fun p np => ?_⟩
          have s2 := same_new (o := .tup [.int m.1, .int m.2]) np
          refine ⟨us.map V.ref, s2 _ _ hZ, ?_, ?_, us ++ [p], ?_, ?_⟩
          · rw [List.length_map, hus.len]
            have h1 := List.length_filter_le (fun m : Int × Int => decide (lk d m.1 = lk d m.2)) ((someU u u.length).take j)
            have h2 := List.length_take_le' j (someU u u.length)
            have h3 := someU_len u u.length
            exact small100 (by omega)
          · exact same_put (sm.trans s2) nZ
          · rw [upd_same, List.map_append]
            rfl
          · have hp : upd H' p (.tup [.int m.1, .int m.2]) p = some (.tup [.int m.1, .int m.2]) := upd_same
            have base2 := Tps.snoc (m := m) hp (Same.tps s2 hus)
            exact base2.mono fun t x y e => by
              rw [upd_ne (ne_of e (s2 _ _ hZ) (by intro z; cases z))]
              exact e
        · have hz' : ¬ lk d m.1 = lk d m.2 := fun y => hz (decide_eq_true (by rw [y]))
          rw [if_neg (fun y => hz' (of_decide_eq_true y)), List.append_nil]
          exact ⟨sm, us, hZ, hus⟩
      · rintro H2 ⟨s2, us, hZ, hus⟩
        refine q _ _ (s1.trans s2) (s1.free nZ) ⟨us, hZ, ?_⟩
        have e : (ts.map V.ref).length = (someU u u.length).length := by rw [List.length_map, hts.len]
        rw [e, List.take_length] at hus
        exact hus
end
end Lk
namespace Lk
open PySem PySem.Spec PyProof.Rows L2
theorem perm_tps {H : Hp} {l1 l2 : List V} (h : l1.Perm l2) : ∀ (us : List Addr) (ms : List (Int × Int)), l2 = us.map V.ref → Tps H us ms → ∃ us' ms', l1 = us'.map V.ref ∧ Tps H us' ms' ∧ ms'.Perm ms := by
  induction h with
  | nil =>
    intro us ms e r
    cases r with
    | nil => exact ⟨[], [], rfl, .nil, .nil⟩
    | cons _ _ => cases e
  | cons x _ ih =>
    intro us ms e r
    cases r with
    | nil => cases e
    | cons a b =>
      injection e with e1 e2
      obtain ⟨us', ms', q1, q2, q3⟩ := ih _ _ e2 b
      subst e1
      exact ⟨_ :: us', _ :: ms', congrArg (_ :: ·) q1, .cons a q2, .cons _ q3⟩
  | swap x y l =>
    intro us ms e r
    cases r with
    | nil => cases e
    | cons a b =>
      cases b with
      | nil => cases e
      | cons c d =>
        injection e with e1 e2
        injection e2 with e3 e4
        subst e1 e3 e4
        exact ⟨_ :: _ :: _, _ :: _ :: _, rfl, .cons c (.cons a d), .swap _ _ _⟩
  | trans _ _ ih1 ih2 =>
    intro us ms e r
    obtain ⟨us', ms', q1, q2, q3⟩ := ih2 _ _ e r
    obtain ⟨us2, ms2, q4, q5, q6⟩ := ih1 _ _ q1 q2
    exact ⟨us2, ms2, q4, q5, q6.trans q3⟩
section
variable {P : Program} {w : World} {K : PySem.W.Frag} {mg : Str → Option Value} {base : Heap} {f : Addr} {fd : FuncData}
theorem ok_backin (F : Fun K "back_in" "back_in" sBackIn f fd) (T : Bts mg) : FnOk P w K mg base CX0 1 f fd ["pair"] spBackIn := by
  refine F.ok scBackIn (fun vs H Q E h => ?_) (fun cdv A outer s H vs Q E hr h => ?_)
  · obtain ⟨t, d, u, rfl, _⟩ := h
    rfl
  · obtain ⟨t, d, u, rfl, ⟨a, b, hT, hA, hB⟩, ok, q⟩ := h
    have l2 := ok.m
    have l3 := ok.l
    refine ⟨_, pss_cons (ps_asg (pv 0) (pg_tup (by rfl) (pgs_cons (pg_name (i := 1) scBackIn.nd rfl (.inl rfl)) (pgs_cons (pg_name (i := 2) scBackIn.nd rfl (.inr rfl)) pgs_nil))))
      (pss_cons (ps_setLc (i := 3) (own := [("index", 4), ("link", 5)]) (g := g2 K 4 5) rfl scBackIn.nd rfl rfl (sw_true rfl rfl rfl (by decide +kernel)) (pi_enum (by rfl) T.enum (pa_cons (pv 1) pa_nil))
          (blkOk_by (own := [("index", 4), ("link", 5)]) (N := ["pair", "down", "up", "some", "index", "link", "first", "second"]) (sc := defScope sBackIn) (by decide +kernel))
          (fun _ _ _ _ _ => pg_tup (by rfl) (pgs_cons (pg_name (i := 4) scBackIn.nd rfl (.inl rfl)) (pgs_cons (pg_name (i := 5) scBackIn.nd rfl (.inl rfl)) pgs_nil)))
          (fun _ _ _ _ _ => pts_one (pt_cmpR op_gt (pv 5) pe_int (nomark _)))
          (fun _ _ _ _ _ => pe_tup (pa_cons (pv 5) (pa_cons (pe_op op_add (pv 4) pe_int) pa_nil))))
      (pss_one (ps_ret (pe_callB cr_sortedP (by rfl) T.sorted bt_sorted (pa_cons (pe_lc (own := [("first", 6), ("second", 7)]) (g := g2 K 6 7) (tt := tTest (tOp rEq (tOp (rIxL K) (tVar 2) (tOp rSub (tVar 6) (tInt 1))) (tOp (rIxL K) (tVar 2) (tOp rSub (tVar 7) (tInt 1))))) rfl scBackIn.nd (pi_list (pv 3))
          (blkOk_by (own := [("first", 6), ("second", 7)]) (N := ["pair", "down", "up", "some", "index", "link", "first", "second"]) (sc := defScope sBackIn) (by decide +kernel))
          (fun _ _ _ _ _ => pg_tup (by rfl) (pgs_cons (pg_name (i := 6) scBackIn.nd rfl (.inl rfl)) (pgs_cons (pg_name (i := 7) scBackIn.nd rfl (.inl rfl)) pgs_nil)))
          (fun _ _ _ _ _ => pts_one (pt_cmpR op_eq (pe_ix ix_list (pv 2) (pe_op op_sub (pv 6) pe_int) (fun _ _ => rfl)) (pe_ix ix_list (pv 2) (pe_op op_sub (pv 7) pe_int) (fun _ _ => rfl)) (nomark _)))
          (fun _ _ _ _ _ => pe_tup (pa_cons (pv 6) (pa_cons (pv 7) pa_nil)))) pa_nil))))), ?_⟩
    refine ⟨.ref t, rfl, t, _, rfl, SqT.of hT, rfl, _, _, rfl, _, _, rfl, rfl, ?_⟩
    refine ⟨.ref a, rfl, a, _, rfl, SqL.of hA, fun D nD => lc_enum (fun i H' => Same H H' ∧ ∃ ts, H' D = some (.lst (ts.map V.ref)) ∧ Tps H' ts (someD d i)) ⟨same_new nD, [], upd_same, .nil⟩ (fun i H' ⟨sm, _⟩ => SqL.of (sm _ _ hA)) ?_ ?_⟩
    · rintro i x Tp H' hx ⟨sm, ts, hD, hts⟩ nT
      obtain ⟨hi, rfl⟩ := li_of hx
      have sn : Same H' (upd H' Tp (.tup [.int (i : Nat), .int (d.getD i 0)])) := same_new nT
      have s1 := sm.trans sn
      refine ⟨Tp, _, rfl, SqT.of upd_same, rfl, _, _, rfl, _, _, rfl, rfl, rfl, ?_⟩
      refine ⟨_, rfl, _, _, rfl, rfl, _, rfl, ?_⟩
      refine ite2 (fun hz => ?_) (fun hz => ?_)
      · have hz' : 0 < d.getD i 0 := of_decide_eq_true hz
        refine ⟨.int (d.getD i 0), rfl, _, rfl, _, _, rfl, rfl, by show 2 ≤ sizeLine; decide, fun p np => ?_⟩
        have s2 := sn.trans (same_new (o := .tup [.int (d.getD i 0), .int ((i : Int) + 1)]) np)
        refine ⟨ts.map V.ref, s2 _ _ hD, ?_, ?_, ts ++ [p], ?_, ?_⟩
        · rw [List.length_map, hts.len]
          have := someD_len d i
          exact small100 (by omega)
        · exact same_put (sm.trans s2) nD
        · rw [upd_same, List.map_append]
          rfl
        · rw [someD_succ, if_pos hz']
          have hp : upd (upd H' Tp (.tup [.int (i : Nat), .int (d.getD i 0)])) p (.tup [.int (d.getD i 0), .int ((i : Int) + 1)]) p = some (.tup [.int (d.getD i 0), .int ((i : Int) + 1)]) := upd_same
          have base2 := Tps.snoc (m := (d.getD i 0, (i : Int) + 1)) hp (Same.tps s2 hts)
          exact base2.mono fun t x y e => by
            rw [upd_ne (ne_of e (s2 _ _ hD) (by intro z; cases z))]
            exact e
      · have hz' : ¬ 0 < d.getD i 0 := fun y => hz (decide_eq_true y)
        refine ⟨s1, ts, sn _ _ hD, ?_⟩
        rw [someD_succ, if_neg hz', List.append_nil]
        exact Same.tps sn hts
    · rintro H1 ⟨s1, ts, hD, hts⟩
      rw [List.length_map] at hts
      refine ⟨.ref D, rfl, D, rfl, ⟨_, SqL.of hD⟩, fun Z nZ => lc_list (K := K) (a := D) (xs := ts.map V.ref) (fun j H' => Same H1 H' ∧ ∃ us, H' Z = some (.lst (us.map V.ref)) ∧ Tps H' us (((someD d d.length).take j).filter fun m => decide (lk u m.1 = lk u m.2)))
        ⟨same_new nZ, [], upd_same, .nil⟩ (fun j H' _ ⟨sm, _⟩ => SqL.of (sm _ _ hD)) ?_ ?_⟩
      · rintro j x H' hx ⟨sm, us, hZ, hus⟩
        obtain ⟨tj, htj, rfl⟩ := rf_of hx
        obtain ⟨m, hm, hmt⟩ := hts.at htj
        have pos := someD_pos ok.dn (Nat.le_refl _) (mem_of_take hm)
        refine ⟨tj, _, rfl, SqT.of (sm _ _ hmt), rfl, _, _, rfl, _, _, rfl, rfl, rfl, ?_⟩
        have hB' : LI H' b u := sm _ _ (s1 _ _ hB)
        refine ⟨.ref b, rfl, _, rfl, m.1, 1, rfl, rfl, b, _, m.1 - 1, .int (lk u m.1), rfl, rfl, SqL.of hB', li_at pos.1 (by omega), ?_⟩
        refine ⟨.ref b, rfl, _, rfl, m.2, 1, rfl, rfl, b, _, m.2 - 1, .int (lk u m.2), rfl, rfl, SqL.of hB', li_at (by omega) (by omega), rfl, _, rfl, ?_⟩
        rw [filt_take _ hm]
        refine ite2 (fun hz => ?_) (fun hz => ?_)
        · have hz' : lk u m.1 = lk u m.2 := V.int.inj (of_decide_eq_true hz)
          rw [if_pos (decide_eq_true hz')]
          refine ⟨_, rfl, _, rfl, by show 2 ≤ sizeLine; decide, fun p np => ?_⟩
          have s2 := same_new (o := .tup [.int m.1, .int m.2]) np
          refine ⟨us.map V.ref, s2 _ _ hZ, ?_, ?_, us ++ [p], ?_, ?_⟩
          · rw [List.length_map, hus.len]
            have h1 := List.length_filter_le (fun m : Int × Int => decide (lk u m.1 = lk u m.2)) ((someD d d.length).take j)
            have h2 := List.length_take_le' j (someD d d.length)
            have h3 := someD_len d d.length
            exact small100 (by omega)
          · exact same_put (sm.trans s2) nZ
          · rw [upd_same, List.map_append]
            rfl
          · have hp : upd H' p (.tup [.int m.1, .int m.2]) p = some (.tup [.int m.1, .int m.2]) := upd_same
            have base2 := Tps.snoc (m := m) hp (Same.tps s2 hus)
            exact base2.mono fun t x y e => by
              rw [upd_ne (ne_of e (s2 _ _ hZ) (by intro z; cases z))]
              exact e
        · have hz' : ¬ lk u m.1 = lk u m.2 := fun y => hz (decide_eq_true (by rw [y]))
          rw [if_neg (fun y => hz' (of_decide_eq_true y)), List.append_nil]
          exact ⟨sm, us, hZ, hus⟩
      · rintro H2 ⟨s2, us, hZ, hus⟩
        have e : (ts.map V.ref).length = (someD d d.length).length := by rw [List.length_map, hts.len]
        rw [e, List.take_length] at hus
        refine ⟨Z, _, rfl, SqL.of hZ, fun x hx => ?_, fun ys p hp np => ?_⟩
        · obtain ⟨tz, htz, rfl⟩ := List.mem_map.mp hx
          obtain ⟨i, hi, hi2⟩ := List.getElem_of_mem htz
          obtain ⟨m, _, e2⟩ := hus.at (i := i) (t := tz) (by rw [List.getElem?_eq_getElem hi, hi2])
          exact ⟨tz, m.1, m.2, rfl, e2⟩
        · obtain ⟨us', ms', rfl, h2, h3⟩ := perm_tps hp us _ rfl hus
          have sn : Same H2 (upd H2 p (.lst (us'.map V.ref))) := same_new np
          exact q _ _ ms' ((s1.trans s2).trans sn) (s1.free (s2.free np)) h3 ⟨us', upd_same, Same.tps sn h2⟩
theorem pr_two {H : Hp} {A B r : Addr} {ds us : List Int} (hA : LI H A ds) (hB : LI H B us) (nr : H r = none) : Pr (upd H r (.tup [.ref A, .ref B])) r ds us :=
  ⟨A, B, upd_same, same_new nr _ _ hA, same_new nr _ _ hB⟩
theorem ok_gof (F : Fun K "gone_forward" "gone_forward" sGoF f fd) (T : Bts mg) : FnOk P w K mg base CX0 1 f fd ["pair", "move"] spGoF := by
  refine F.ok scGoF (fun vs H Q E h => ?_) (fun cdv A outer s H vs Q E hr h => ?_)
  · obtain ⟨t, m, d, u, x, y, rfl, _⟩ := h
    rfl
  · obtain ⟨t, m, d, u, x, y, rfl, ⟨a, b, hT, hA, hB⟩, l3, l2, hM, x1, xy, yn, q⟩ := h
    refine ⟨_, pss_cons (ps_par (i := 2) (j := 3) (by rfl) scGoF.nd rfl rfl (by decide) rfl rfl
          (pa_cons (pe_callTy call_list_of (by rfl) T.list bt_ty_list (pa_cons (pe_ix ix_tup (pv 0) pe_int (fun _ _ => rfl)) pa_nil))
            (pa_cons (pe_callTy call_list_of (by rfl) T.list bt_ty_list (pa_cons (pe_ix ix_tup (pv 0) pe_int (fun _ _ => rfl)) pa_nil)) pa_nil)) (by rfl))
      (pss_cons (ps_asg (pv 1) (pg_tup (by rfl) (pgs_cons (pg_name (i := 4) scGoF.nd rfl (.inl rfl)) (pgs_cons (pg_name (i := 5) scGoF.nd rfl (.inl rfl)) pgs_nil))))
      (pss_cons (ps_asg (pe_ix ix_list (pv 3) (pe_op op_sub (pv 5) pe_int) (fun _ _ => rfl)) (pg_sub (pv 3) (pe_op op_sub (pv 4) pe_int) set_list))
      (pss_cons (ps_asg (pv 4) (pg_sub (pv 2) (pe_op op_sub (pv 5) pe_int) set_list))
      (pss_one (ps_ret (pe_tup (pa_cons (pv 2) (pa_cons (pv 3) pa_nil)))))))), ?_⟩
    refine ⟨.ref t, rfl, t, _, 0, .ref a, rfl, rfl, SqT.of hT, atI_nat (j := 0) rfl, a, _, rfl, .inl (SqL.of hA), fun D nD => ?_⟩
    have s1 : Same H (upd H D (.lst (d.map V.int))) := same_new nD
    refine ⟨.ref t, rfl, t, _, 1, .ref b, rfl, rfl, SqT.of (s1 _ _ hT), atI_nat (j := 1) rfl, b, _, rfl, .inl (SqL.of (s1 _ _ hB)), fun U nU => ?_⟩
    generalize eH1 : upd H D (.lst (d.map V.int)) = H1 at s1 nU
    have hD1 : LI H1 D d := by
      rw [← eH1]
      exact upd_same
    have s2 : Same H1 (upd H1 U (.lst (u.map V.int))) := same_new nU
    have nDU : D ≠ U := ne_of_none hD1 nU
    have s12 := s1.trans s2
    refine ⟨.ref D, .ref U, rfl, ?_⟩
    refine ⟨.ref m, rfl, m, _, rfl, SqT.of (s12 _ _ hM), rfl, _, _, rfl, _, _, rfl, rfl, ?_⟩
    have hU2 : LI (upd H1 U (.lst (u.map V.int))) U u := upd_same
    have hD2 : LI (upd H1 U (.lst (u.map V.int))) D d := s2 _ _ hD1
    generalize upd H1 U (.lst (u.map V.int)) = H2 at hU2 hD2 s2 s12
    refine ⟨.ref U, rfl, _, rfl, y, 1, rfl, rfl, U, _, y - 1, .int (lk u y), rfl, rfl, SqL.of hU2, li_at (by omega) yn, ?_⟩
    refine ⟨.ref U, rfl, _, rfl, x, 1, rfl, rfl, U, _, x - 1, (x - 1).toNat, rfl, rfl, hU2, ?_, ?_⟩
    · rw [List.length_map]
      exact ix_of x1 (by omega)
    have nU0 : H U = none := s1.free nU
    have s3 : Same H (upd H2 U (.lst ((u.map V.int).set (x - 1).toNat (.int (lk u y))))) := same_put s12 nU0
    have hU3 : LI (upd H2 U (.lst ((u.map V.int).set (x - 1).toNat (.int (lk u y))))) U (goneFU u x y) := by
      show upd H2 U _ U = some (.lst ((u.set (x - 1).toNat (lk u y)).map V.int))
      rw [upd_same, List.map_set]
    have hD3 : LI (upd H2 U (.lst ((u.map V.int).set (x - 1).toNat (.int (lk u y))))) D d := by
      show upd H2 U _ D = _
      rw [upd_ne nDU]
      exact hD2
    generalize upd H2 U (.lst ((u.map V.int).set (x - 1).toNat (.int (lk u y)))) = H3 at s3 hU3 hD3
    refine ⟨.int x, rfl, .ref D, rfl, _, rfl, y, 1, rfl, rfl, D, _, y - 1, (y - 1).toNat, rfl, rfl, hD3, ?_, ?_⟩
    · rw [List.length_map]
      exact ix_of (by omega) (by omega)
    have s4 : Same H (upd H3 D (.lst ((d.map V.int).set (y - 1).toNat (.int x)))) := same_put s3 nD
    have hD4 : LI (upd H3 D (.lst ((d.map V.int).set (y - 1).toNat (.int x)))) D (goneFD d x y) := by
      show upd H3 D _ D = some (.lst ((d.set (y - 1).toNat x).map V.int))
      rw [upd_same, List.map_set]
    have hU4 : LI (upd H3 D (.lst ((d.map V.int).set (y - 1).toNat (.int x)))) U (goneFU u x y) := by
      show upd H3 D _ U = _
      rw [upd_ne nDU.symm]
      exact hU3
    generalize upd H3 D (.lst ((d.map V.int).set (y - 1).toNat (.int x))) = H4 at s4 hU4 hD4
    exact ⟨.ref D, rfl, .ref U, rfl, by show 2 ≤ sizeLine; decide, fun r nr => q _ _ (s4.trans (same_new nr)) (s4.free nr) (pr_two hD4 hU4 nr)⟩
theorem ok_gob (F : Fun K "gone_back" "gone_back" sGoB f fd) (T : Bts mg) : FnOk P w K mg base CX0 1 f fd ["pair", "move"] spGoB := by
  refine F.ok scGoB (fun vs H Q E h => ?_) (fun cdv A outer s H vs Q E hr h => ?_)
  · obtain ⟨t, m, d, u, x, y, rfl, _⟩ := h
    rfl
  · obtain ⟨t, m, d, u, x, y, rfl, ⟨a, b, hT, hA, hB⟩, l3, l2, hM, x1, xy, yn, q⟩ := h
    refine ⟨_, pss_cons (ps_par (i := 2) (j := 3) (by rfl) scGoB.nd rfl rfl (by decide) rfl rfl
          (pa_cons (pe_callTy call_list_of (by rfl) T.list bt_ty_list (pa_cons (pe_ix ix_tup (pv 0) pe_int (fun _ _ => rfl)) pa_nil))
            (pa_cons (pe_callTy call_list_of (by rfl) T.list bt_ty_list (pa_cons (pe_ix ix_tup (pv 0) pe_int (fun _ _ => rfl)) pa_nil)) pa_nil)) (by rfl))
      (pss_cons (ps_asg (pv 1) (pg_tup (by rfl) (pgs_cons (pg_name (i := 4) scGoB.nd rfl (.inl rfl)) (pgs_cons (pg_name (i := 5) scGoB.nd rfl (.inl rfl)) pgs_nil))))
      (pss_cons (ps_asg (pv 5) (pg_sub (pv 3) (pe_op op_sub (pv 4) pe_int) set_list))
      (pss_cons (ps_asg (pe_ix ix_list (pv 2) (pe_op op_sub (pv 4) pe_int) (fun _ _ => rfl)) (pg_sub (pv 2) (pe_op op_sub (pv 5) pe_int) set_list))
      (pss_one (ps_ret (pe_tup (pa_cons (pv 2) (pa_cons (pv 3) pa_nil)))))))), ?_⟩
    refine ⟨.ref t, rfl, t, _, 0, .ref a, rfl, rfl, SqT.of hT, atI_nat (j := 0) rfl, a, _, rfl, .inl (SqL.of hA), fun D nD => ?_⟩
    have s1 : Same H (upd H D (.lst (d.map V.int))) := same_new nD
    refine ⟨.ref t, rfl, t, _, 1, .ref b, rfl, rfl, SqT.of (s1 _ _ hT), atI_nat (j := 1) rfl, b, _, rfl, .inl (SqL.of (s1 _ _ hB)), fun U nU => ?_⟩
    generalize eH1 : upd H D (.lst (d.map V.int)) = H1 at s1 nU
    have hD1 : LI H1 D d := by
      rw [← eH1]
      exact upd_same
    have s2 : Same H1 (upd H1 U (.lst (u.map V.int))) := same_new nU
    have nDU : D ≠ U := ne_of_none hD1 nU
    have s12 := s1.trans s2
    refine ⟨.ref D, .ref U, rfl, ?_⟩
    refine ⟨.ref m, rfl, m, _, rfl, SqT.of (s12 _ _ hM), rfl, _, _, rfl, _, _, rfl, rfl, ?_⟩
    have hU2 : LI (upd H1 U (.lst (u.map V.int))) U u := upd_same
    have hD2 : LI (upd H1 U (.lst (u.map V.int))) D d := s2 _ _ hD1
    generalize upd H1 U (.lst (u.map V.int)) = H2 at hU2 hD2 s2 s12
    refine ⟨.int y, rfl, .ref U, rfl, _, rfl, x, 1, rfl, rfl, U, _, x - 1, (x - 1).toNat, rfl, rfl, hU2, ?_, ?_⟩
    · rw [List.length_map]
      exact ix_of x1 (by omega)
    have nU0 : H U = none := s1.free nU
    have s3 : Same H (upd H2 U (.lst ((u.map V.int).set (x - 1).toNat (.int y)))) := same_put s12 nU0
    have hU3 : LI (upd H2 U (.lst ((u.map V.int).set (x - 1).toNat (.int y)))) U (goneBU u x y) := by
      show upd H2 U _ U = some (.lst ((u.set (x - 1).toNat y).map V.int))
      rw [upd_same, List.map_set]
    have hD3 : LI (upd H2 U (.lst ((u.map V.int).set (x - 1).toNat (.int y)))) D d := by
      show upd H2 U _ D = _
      rw [upd_ne nDU]
      exact hD2
    generalize upd H2 U (.lst ((u.map V.int).set (x - 1).toNat (.int y))) = H3 at s3 hU3 hD3
    refine ⟨.ref D, rfl, _, rfl, x, 1, rfl, rfl, D, _, x - 1, .int (lk d x), rfl, rfl, SqL.of hD3, li_at x1 (by omega), ?_⟩
    refine ⟨.ref D, rfl, _, rfl, y, 1, rfl, rfl, D, _, y - 1, (y - 1).toNat, rfl, rfl, hD3, ?_, ?_⟩
    · rw [List.length_map]
      exact ix_of (by omega) (by omega)
    have s4 : Same H (upd H3 D (.lst ((d.map V.int).set (y - 1).toNat (.int (lk d x))))) := same_put s3 nD
    have hD4 : LI (upd H3 D (.lst ((d.map V.int).set (y - 1).toNat (.int (lk d x))))) D (goneBD d x y) := by
      show upd H3 D _ D = some (.lst ((d.set (y - 1).toNat (lk d x)).map V.int))
      rw [upd_same, List.map_set]
    have hU4 : LI (upd H3 D (.lst ((d.map V.int).set (y - 1).toNat (.int (lk d x))))) U (goneBU u x y) := by
      show upd H3 D _ U = _
      rw [upd_ne nDU.symm]
      exact hU3
    generalize upd H3 D (.lst ((d.map V.int).set (y - 1).toNat (.int (lk d x)))) = H4 at s4 hU4 hD4
    exact ⟨.ref D, rfl, .ref U, rfl, by show 2 ≤ sizeLine; decide, fun r nr => q _ _ (s4.trans (same_new nr)) (s4.free nr) (pr_two hD4 hU4 nr)⟩
theorem ok_fwds (F : Fun K "forward_moves" "forward_moves" sFwds f fd) (CP : Cal P w K mg base "check_pair" 3 ["pair"] spCkPair) (CF : Cal P w K mg base "forward_in" 1 ["pair"] spFwdIn) : FnOk P w K mg base CX0 4 f fd ["pair"] spFwdIn := by
  refine F.ok scFwds (fun vs H Q E h => ?_) (fun cdv A outer s H vs Q E hr h => ?_)
  · obtain ⟨t, d, u, rfl, _⟩ := h
    rfl
  · obtain ⟨t, d, u, rfl, hP, ok, q⟩ := h
    refine ⟨_, pss_cons (ps_expr (pe_cal CP hr (by rfl) (pa_cons (pv 0) pa_nil))) (pss_one (ps_ret (pe_cal CF hr (by rfl) (pa_cons (pv 0) pa_nil)))), ?_⟩
    refine ⟨.ref t, rfl, t, d, u, rfl, hP, ok, fun H1 s1 => ?_⟩
    exact ⟨.ref t, rfl, t, d, u, rfl, Same.pr s1 hP, ok, fun H2 r s2 nr hR => q _ _ (s1.trans s2) (s1.free nr) hR⟩
theorem ok_backs (F : Fun K "back_moves" "back_moves" sBacks f fd) (CP : Cal P w K mg base "check_pair" 3 ["pair"] spCkPair) (CB : Cal P w K mg base "back_in" 1 ["pair"] spBackIn) : FnOk P w K mg base CX0 4 f fd ["pair"] spBackIn := by
  refine F.ok scBacks (fun vs H Q E h => ?_) (fun cdv A outer s H vs Q E hr h => ?_)
  · obtain ⟨t, d, u, rfl, _⟩ := h
    rfl
  · obtain ⟨t, d, u, rfl, hP, ok, q⟩ := h
    refine ⟨_, pss_cons (ps_expr (pe_cal CP hr (by rfl) (pa_cons (pv 0) pa_nil))) (pss_one (ps_ret (pe_cal CB hr (by rfl) (pa_cons (pv 0) pa_nil)))), ?_⟩
    refine ⟨.ref t, rfl, t, d, u, rfl, hP, ok, fun H1 s1 => ?_⟩
    exact ⟨.ref t, rfl, t, d, u, rfl, Same.pr s1 hP, ok, fun H2 r ms s2 nr hm hR => q _ _ ms (s1.trans s2) (s1.free nr) hm hR⟩
theorem ok_moved (F : Fun K "moved" "moved" sMoved f fd) (T : Bts mg) (CP : Cal P w K mg base "check_pair" 3 ["pair"] spCkPair) (CW : Cal P w K mg base "is_whole" 1 ["thing"] spWhole) (CF : Cal P w K mg base "forward_in" 1 ["pair"] spFwdIn) (CB : Cal P w K mg base "back_in" 1 ["pair"] spBackIn)
    (CGF : Cal P w K mg base "gone_forward" 1 ["pair", "move"] spGoF) (CGB : Cal P w K mg base "gone_back" 1 ["pair", "move"] spGoB) : FnOk P w K mg base CX0 4 f fd ["pair", "move"] spMoved := by
  refine F.ok scMoved (fun vs H Q E h => ?_) (fun cdv A outer s H vs Q E hr h => ?_)
  · obtain ⟨t, m, d, u, x, y, rfl, _⟩ := h
    rfl
  · obtain ⟨t, m, d, u, x, y, rfl, hP, ok, hM, hin, qf, qb⟩ := h
    have hu65 : (A.deeper (envOfC "moved" (defScope sMoved) s.heap.objs.size f cdv)).units + 65 < cLine := by
      have := hr.un
      omega
    refine ⟨_, pss_cons (ps_expr (pe_cal CP hr (by rfl) (pa_cons (pv 0) pa_nil)))
      (pss_cons (ps_if (PW.pt (pw_or (pt_not (pt_val (pe_callB call_isi (by rfl) T.isi bt_isi (pa_cons (pv 1) (pa_cons (pe_bltn (v := .ty "tuple") (by rfl) T.tup bt_ty_tuple rfl) pa_nil)))))
          (pw_or1 (pt_not (pt_val (pe_callB (cr_all rfl) (by rfl) T.all bt_all (pa_cons (pe_lc (own := [("place", 2)]) (g := gName 2) (tt := tYes) rfl scMoved.nd (pi_tup (pv 1))
            (blkOk_by (own := [("place", 2)]) (N := ["pair", "move", "place"]) (sc := defScope sMoved) (by decide +kernel)) (fun _ _ _ _ _ => pg_name (i := 2) scMoved.nd rfl (Or.inl rfl)) (fun _ _ _ _ _ => pts_nil)
            (fun _ _ _ _ _ => pe_cal CW hr (by rfl) (pa_cons (pv 2) pa_nil))) pa_nil)))))))
        (pss_one ps_never) pss_nil)
      (pss_cons (ps_if (pt_cmpR (op_inD hu65) (pv 1) (pe_cal CF hr (by rfl) (pa_cons (pv 0) pa_nil)) (by rfl)) (pss_one (ps_ret (pe_cal CGF hr (by rfl) (pa_cons (pv 0) (pa_cons (pv 1) pa_nil))))) pss_nil)
      (pss_cons (ps_if (pt_cmpR (op_inD hu65) (pv 1) (pe_cal CB hr (by rfl) (pa_cons (pv 0) pa_nil)) (by rfl)) (pss_one (ps_ret (pe_cal CGB hr (by rfl) (pa_cons (pv 0) (pa_cons (pv 1) pa_nil))))) pss_nil)
      (pss_one ps_never)))), ?_⟩
    refine ⟨.ref t, rfl, t, d, u, rfl, hP, ok, fun H1 s1 => ?_⟩
    refine ⟨.ref m, rfl, .ref m, .ty "tuple", .type "tuple", .type "tuple", true, rfl, .ty _, .base (.tup (s1 _ _ hM)), kt_tt, true, rfl, iteF ?_⟩
    refine ⟨.ref m, rfl, m, rfl, ⟨_, SqT.of (s1 _ _ hM)⟩, fun D nD => lc_tup (K := K) (a := m) (xs := [.int x, .int y]) (fun i H' => H' = upd H1 D (.lst (List.replicate i (.bl true)))) rfl (fun i H' _ e => ?_) (fun i z H' hz e => ?_) (fun H' e => ?_)⟩
    · rw [e]
      exact SqT.of (same_new nD _ _ (s1 _ _ hM))
    · subst e
      obtain ⟨zi, rfl⟩ : ∃ zi, z = V.int zi := by
        match i, hz with
        | 0, hz => exact ⟨x, (Option.some.inj hz).symm⟩
        | 1, hz => exact ⟨y, (Option.some.inj hz).symm⟩
        | i + 2, hz => cases hz
      have hi : i < 2 := (List.getElem?_eq_some_iff.mp hz).1
      refine ⟨rfl, .int zi, rfl, zi, rfl, _, upd_same, ?_, ?_⟩
      · rw [List.length_replicate]
        exact small100 (by omega)
      · rw [upd_upd, rep_snoc]
    · subst e
      have s2 : Same H (upd H1 D (.lst (List.replicate 2 (.bl true)))) := s1.trans (same_new nD)
      refine ⟨D, [true, true], rfl, SqL.of upd_same, true, rfl, iteF ?_⟩
      have hM2 := s2 _ _ hM
      have hP2 := Same.pr s2 hP
      show tSeq _ _ _ _ (upd H1 D (.lst (List.replicate 2 (.bl true))))
      generalize upd H1 D (.lst (List.replicate 2 (.bl true))) = H2 at s2 hM2 hP2
      -- if move in forward_in(pair)
      refine ⟨.ref m, rfl, .ref t, rfl, t, d, u, rfl, hP2, ok, fun H3 r s3 nr hR => ?_⟩
      have s03 := s2.trans s3
      refine ⟨_, _, dp_tp (s3 _ _ hM2), dp_pl hR, pD_shaped _, pDs_shaped _, _, rfl, ?_⟩
      rw [pD_any]
      refine ite2 (fun hz => ?_) (fun hz => ?_)
      · have hz' : (x, y) ∈ fwdL d u := of_decide_eq_true hz
        have W := fwd_of ok.dn ok.up ok.l hz'
        exact ⟨.ref t, rfl, .ref m, rfl, t, m, d, u, x, y, rfl, Same.pr s03 hP, ok.l, ok.m, s03 _ _ hM, W.x1, W.xy, W.yn, fun H4 r s4 nr hR => qf hz' _ _ (s03.trans s4) (s03.free nr) hR⟩
      · have hz' : (x, y) ∉ fwdL d u := fun e => hz (decide_eq_true e)
        have hb : (x, y) ∈ backL d u := hin.resolve_left hz'
        refine ⟨.ref m, rfl, .ref t, rfl, t, d, u, rfl, Same.pr s03 hP, ok, fun H4 r2 ms s4 nr2 hms hR2 => ?_⟩
        have s04 := s03.trans s4
        refine ⟨_, _, dp_tp (s04 _ _ hM), dp_pl hR2, pD_shaped _, pDs_shaped _, _, rfl, ?_⟩
        rw [pD_any]
        have hm : (x, y) ∈ ms := hms.mem_iff.mpr hb
        rw [decide_eq_true hm]
        have W := back_of ok.dn ok.up ok.l hb
        have yn := (someD_pos ok.dn (Nat.le_refl _) (List.mem_filter.mp hb).1).2.2.1
        have yn : y ≤ (d.length : Int) := yn
        have l := ok.l
        exact iteT ⟨.ref t, rfl, .ref m, rfl, t, m, d, u, x, y, rfl, Same.pr s04 hP, ok.l, ok.m, s04 _ _ hM, W.x1, W.xy, by omega, fun H5 r s5 nr hR => qb hz' _ _ (s04.trans s5) (s04.free nr) hR⟩
end
end Lk
namespace Lk
open PySem PySem.Spec PyProof.Rows L2
abbrev sTurned : Stmt := top 24
abbrev sNums : Stmt := top 26
abbrev sPrice : Stmt := top 27
theorem scTurned : FnScope ["pair", "most", "link"] ["pair"] (defScope sTurned) := ⟨rfl, rfl, rfl, by decide +kernel, rfl, by decide +kernel, by decide +kernel⟩
theorem scNums : FnScope ["numbers", "places", "index", "number"] ["numbers", "places"] (defScope sNums) := ⟨rfl, rfl, rfl, by decide +kernel, rfl, by decide +kernel, by decide +kernel⟩
theorem scPrice : FnScope ["pair", "asked", "changed", "number", "index"] ["pair", "asked", "changed"] (defScope sPrice) := ⟨rfl, rfl, rfl, by decide +kernel, rfl, by decide +kernel, by decide +kernel⟩
def spTurned : Sp := fun vs H Q _ => ∃ (t : Addr) (d u : List Int), vs = [.ref t] ∧ Pr H t d u ∧ OkP d u ∧ ∀ H' r, Same H H' → H r = none → Pr H' r (flip u.length u) (flip d.length d) → Q (.ref r) H'
def spNums : Sp := fun vs H Q _ => ∃ (a : Addr) (ns : List Int), vs = [.ref a, .int (ns.length : Nat)] ∧ LI H a ns ∧ (∀ v ∈ ns, 0 ≤ v) ∧ ∀ H', Same H H' → Q .non H'
def spPrice : Sp := fun vs H Q _ => ∃ (t a c : Addr) (d u as cs : List Int), vs = [.ref t, .ref a, .ref c] ∧ Pr H t d u ∧ OkP d u ∧ LI H a as ∧ LI H c cs ∧ as.length = d.length ∧ cs.length = d.length ∧ (∀ v ∈ as, 0 ≤ v) ∧ (∀ v ∈ cs, 0 ≤ v) ∧
  ∀ H', Same H H' → Q (.int (priceL d u as cs)) H'
theorem flip_take {n : Int} {l : List Int} {i : Nat} {x : V} (h : (l.reverse.map V.int)[i]? = some x) : ∃ v, x = .int v ∧ (l.reverse.take (i + 1)).map (fun v => V.int (n - v)) = (l.reverse.take i).map (fun v => V.int (n - v)) ++ [.int (n - v)] := by
  obtain ⟨hi, rfl⟩ := li_of h
  refine ⟨_, rfl, ?_⟩
  rw [List.take_add_one, List.map_append, List.getElem?_eq_getElem hi, List.getD_eq_getElem?_getD, List.getElem?_eq_getElem hi]
  rfl
theorem flip_full {n : Nat} {l : List Int} : (l.reverse.take l.reverse.length).map (fun v => V.int ((n : Int) + 1 - v)) = (flip n l).map V.int := by
  unfold flip
  rw [List.take_length, List.map_map]
  rfl
section
variable {P : Program} {w : World} {K : PySem.W.Frag} {mg : Str → Option Value} {base : Heap} {f : Addr} {fd : FuncData}
theorem ok_turned (F : Fun K "turned" "turned" sTurned f fd) (T : Bts mg) (CP : Cal P w K mg base "check_pair" 3 ["pair"] spCkPair) : FnOk P w K mg base CX0 4 f fd ["pair"] spTurned := by
  refine F.ok scTurned (fun vs H Q E h => ?_) (fun cdv A outer s H vs Q E hr h => ?_)
  · obtain ⟨t, d, u, rfl, _⟩ := h
    rfl
  · obtain ⟨t, d, u, rfl, hP, ok, q⟩ := h
    have l2 := ok.m
    have l3 := ok.l
    refine ⟨_, pss_cons (ps_expr (pe_cal CP hr (by rfl) (pa_cons (pv 0) pa_nil)))
      (pss_cons (ps_set (i := 1) scTurned.nd rfl (.inr rfl) (pe_op op_add (pe_callB call_len_seq (by rfl) T.len bt_len (pa_cons (pe_ix ix_tup (pv 0) pe_int (fun _ _ => rfl)) pa_nil)) pe_int))
      (pss_one (ps_ret (pe_tup (pa_cons (pe_lc (own := [("link", 2)]) (g := gName 2) (tt := tYes) rfl scTurned.nd (pi_list (pe_revL (pe_ix ix_tup (pv 0) pe_int (fun _ _ => rfl))))
            (blkOk_by (own := [("link", 2)]) (N := ["pair", "most", "link"]) (sc := defScope sTurned) (by decide +kernel)) (fun _ _ _ _ _ => pg_name (i := 2) scTurned.nd rfl (Or.inl rfl)) (fun _ _ _ _ _ => pts_nil) (fun _ _ _ _ _ => pe_op op_sub (pv 1) (pv 2)))
        (pa_cons (pe_lc (own := [("link", 2)]) (g := gName 2) (tt := tYes) rfl scTurned.nd (pi_list (pe_revL (pe_ix ix_tup (pv 0) pe_int (fun _ _ => rfl))))
            (blkOk_by (own := [("link", 2)]) (N := ["pair", "most", "link"]) (sc := defScope sTurned) (by decide +kernel)) (fun _ _ _ _ _ => pg_name (i := 2) scTurned.nd rfl (Or.inl rfl)) (fun _ _ _ _ _ => pts_nil) (fun _ _ _ _ _ => pe_op op_sub (pv 1) (pv 2))) pa_nil)))))), ?_⟩
    refine ⟨.ref t, rfl, t, d, u, rfl, hP, ok, fun H1 s1 => ?_⟩
    obtain ⟨a, b, hT, hA, hB⟩ := Same.pr s1 hP
    refine ⟨.ref t, rfl, t, _, 0, .ref a, rfl, rfl, SqT.of hT, atI_nat (j := 0) rfl, a, _, rfl, .inl (SqL.of hA), _, _, rfl, rfl, ?_⟩
    rw [List.length_map]
    -- the first list
    refine ⟨.ref t, rfl, t, _, 1, .ref b, rfl, rfl, SqT.of hT, atI_nat (j := 1) rfl, b, _, rfl, SqL.of hB, fun p np => ?_⟩
    have s2 : Same H1 (upd H1 p (.lst (u.map V.int).reverse)) := same_new np
    have hp : upd H1 p (.lst (u.map V.int).reverse) p = some (.lst (u.reverse.map V.int)) := by
      rw [upd_same, List.map_reverse]
    generalize upd H1 p (.lst (u.map V.int).reverse) = H2 at s2 hp
    refine ⟨p, rfl, ⟨_, SqL.of hp⟩, fun D nD => lc_list (K := K) (a := p) (xs := u.reverse.map V.int) (fun i H' => H' = upd H2 D (.lst ((u.reverse.take i).map fun v => V.int ((d.length : Int) + 1 - v)))) rfl (fun i H' _ e => ?_) (fun i z H' hz e => ?_) (fun H' e => ?_)⟩
    · rw [e]
      exact SqL.of (same_new nD _ _ hp)
    · subst e
      obtain ⟨v, rfl, ev⟩ := flip_take (n := (d.length : Int) + 1) hz
      refine ⟨rfl, _, rfl, .int v, rfl, _, _, rfl, rfl, _, upd_same, ?_, ?_⟩
      · have hi := (List.getElem?_eq_some_iff.mp hz).1
        rw [List.length_map, List.length_reverse] at hi
        have h2 := List.length_take_le i u.reverse
        rw [List.length_map]
        exact small100 (by omega)
      · rw [upd_upd, ev]
    · subst e
      have s3 : Same H2 (upd H2 D (.lst ((u.reverse.take (u.reverse.map V.int).length).map fun v => V.int ((d.length : Int) + 1 - v)))) := same_new nD
      have hD3 : LI (upd H2 D (.lst ((u.reverse.take (u.reverse.map V.int).length).map fun v => V.int ((d.length : Int) + 1 - v)))) D (flip u.length u) := by
        show upd H2 D _ D = _
        rw [upd_same, List.length_map, flip_full, l3]
      generalize upd H2 D (.lst ((u.reverse.take (u.reverse.map V.int).length).map fun v => V.int ((d.length : Int) + 1 - v))) = H3 at s3 hD3
      have s13 := s2.trans s3
      -- the second list
      refine ⟨.ref t, rfl, t, _, 0, .ref a, rfl, rfl, SqT.of (s13 _ _ hT), atI_nat (j := 0) rfl, a, _, rfl, SqL.of (s13 _ _ hA), fun p2 np2 => ?_⟩
      have s4 : Same H3 (upd H3 p2 (.lst (d.map V.int).reverse)) := same_new np2
      have hp4 : upd H3 p2 (.lst (d.map V.int).reverse) p2 = some (.lst (d.reverse.map V.int)) := by
        rw [upd_same, List.map_reverse]
      generalize upd H3 p2 (.lst (d.map V.int).reverse) = H4 at s4 hp4
      refine ⟨p2, rfl, ⟨_, SqL.of hp4⟩, fun E2 nE => lc_list (K := K) (a := p2) (xs := d.reverse.map V.int) (fun i H' => H' = upd H4 E2 (.lst ((d.reverse.take i).map fun v => V.int ((d.length : Int) + 1 - v)))) rfl (fun i H' _ e => ?_) (fun i z H' hz e => ?_) (fun H' e => ?_)⟩
      · rw [e]
        exact SqL.of (same_new nE _ _ hp4)
      · subst e
        obtain ⟨v, rfl, ev⟩ := flip_take (n := (d.length : Int) + 1) hz
        refine ⟨rfl, _, rfl, .int v, rfl, _, _, rfl, rfl, _, upd_same, ?_, ?_⟩
        · have hi := (List.getElem?_eq_some_iff.mp hz).1
          rw [List.length_map, List.length_reverse] at hi
          have h2 := List.length_take_le i d.reverse
          rw [List.length_map]
          exact small100 (by omega)
        · rw [upd_upd, ev]
      · subst e
        have s5 : Same H4 (upd H4 E2 (.lst ((d.reverse.take (d.reverse.map V.int).length).map fun v => V.int ((d.length : Int) + 1 - v)))) := same_new nE
        have hE5 : LI (upd H4 E2 (.lst ((d.reverse.take (d.reverse.map V.int).length).map fun v => V.int ((d.length : Int) + 1 - v)))) E2 (flip d.length d) := by
          show upd H4 E2 _ E2 = _
          rw [upd_same, List.length_map, flip_full]
        generalize upd H4 E2 (.lst ((d.reverse.take (d.reverse.map V.int).length).map fun v => V.int ((d.length : Int) + 1 - v))) = H5 at s5 hE5
        have s45 := s4.trans s5
        refine ⟨by show 2 ≤ sizeLine; decide, fun r nr => q _ _ (((s1.trans s13).trans s45).trans (same_new nr)) (s1.free (s13.free (s45.free nr))) (pr_two (s45 _ _ hD3) hE5 nr)⟩
theorem ok_nums (F : Fun K "check_numbers" "check_numbers" sNums f fd) (T : Bts mg) (C : Cal P w K mg base "is_whole" 1 ["thing"] spWhole) : FnOk P w K mg base CX0 2 f fd ["numbers", "places"] spNums := by
  refine F.ok scNums (fun vs H Q E h => ?_) (fun cdv A outer s H vs Q E hr h => ?_)
  · obtain ⟨a, d, rfl, _⟩ := h
    rfl
  · obtain ⟨a, ns, rfl, hA, hn, q⟩ := h
    refine ⟨_, pss_cons (ps_if (PW.pt (pw_or (pt_not (pt_val (pe_callB call_isi (by rfl) T.isi bt_isi (pa_cons (pv 0) (pa_cons (pe_bltn (v := .ty "list") (by rfl) T.list bt_ty_list rfl) pa_nil)))))
          (pw_or1 (pt_cmpR op_ne (pe_callB call_len_seq (by rfl) T.len bt_len (pa_cons (pv 0) pa_nil)) (pv 1) (nomark _)))))
        (pss_one ps_never) pss_nil)
      (pss_one (ps_for PassesOwn.never rfl (pi_enum (by rfl) T.enum (pa_cons (pv 0) pa_nil)) (pg_tup (by rfl) (pgs_cons (pg_name (i := 2) scNums.nd rfl (.inl rfl)) (pgs_cons (pg_name (i := 3) scNums.nd rfl (.inl rfl)) pgs_nil)))
        (pss_one (ps_if (PW.pt (pw_or (pt_not (pt_val (pe_cal C hr (by rfl) (pa_cons (pv 3) pa_nil)))) (pw_or1 (pt_cmpR op_lt (pv 3) pe_int (nomark _)))))
          (pss_one ps_never) pss_nil)))), ?_⟩
    refine ⟨.ref a, rfl, .ref a, .ty "list", .type "list", .type "list", true, rfl, .ty _, .base (.lst hA), kt_ll, true, rfl, iteF ?_⟩
    refine ⟨.ref a, rfl, a, _, rfl, .inl (SqL.of hA), _, rfl, rfl, _, rfl, iteNS ?_ ?_⟩
    · rw [List.length_map]
    refine ⟨.ref a, rfl, a, _, rfl, SqL.of hA, for_enum (fun i σ H' => ∃ y1 y2, σ = [some (.ref a), some (.int (ns.length : Nat)), y1, y2] ∧ Same H H') ⟨none, none, rfl, Same.refl _⟩ (fun i σ H' ⟨_, _, _, sm⟩ => SqL.of (sm _ _ hA)) ?_ ?_⟩
    · rintro i x T σ H' hx ⟨y1, y2, rfl, sm⟩ nT
      obtain ⟨hi, rfl⟩ := li_of hx
      have h0 := hn _ (getD_mem hi)
      refine ⟨T, _, rfl, SqT.of upd_same, rfl, _, _, rfl, _, _, rfl, rfl, ?_⟩
      refine ⟨_, rfl, ns.getD i 0, rfl, true, rfl, iteF ?_⟩
      refine ⟨_, rfl, _, _, rfl, rfl, _, rfl, ?_⟩
      have e0 : decide (ns.getD i 0 < 0) = false := decide_eq_false (by omega)
      rw [e0]
      exact iteF ⟨_, _, rfl, fun b o e => same_new nT _ _ (sm _ _ e)⟩
    · rintro σ H' ⟨_, _, _, sm⟩
      exact q _ sm
theorem ok_price (F : Fun K "price" "price" sPrice f fd) (T : Bts mg) (CP : Cal P w K mg base "check_pair" 3 ["pair"] spCkPair) (CN : Cal P w K mg base "check_numbers" 2 ["numbers", "places"] spNums) (CD : Cal P w K mg base "steps_down" 1 ["down", "place"] spStD) (CU : Cal P w K mg base "steps_up" 1 ["up", "place"] spStU) :
    FnOk P w K mg base CX0 4 f fd ["pair", "asked", "changed"] spPrice := by
  refine F.ok scPrice (fun vs H Q E h => ?_) (fun cdv A outer s H vs Q E hr h => ?_)
  · obtain ⟨t, a, c, d, u, as, cs, rfl, _⟩ := h
    rfl
  · obtain ⟨t, a, c, d, u, as, cs, rfl, hP, ok, hA, hC, la, lc, na, nc, q⟩ := h
    have l2 := ok.m
    have l3 := ok.l
    refine ⟨_, pss_cons (ps_expr (pe_cal CP hr (by rfl) (pa_cons (pv 0) pa_nil)))
      (pss_cons (ps_expr (pe_cal CN hr (by rfl) (pa_cons (pv 1) (pa_cons (pe_callB call_len_seq (by rfl) T.len bt_len (pa_cons (pe_ix ix_tup (pv 0) pe_int (fun _ _ => rfl)) pa_nil)) pa_nil))))
      (pss_cons (ps_expr (pe_cal CN hr (by rfl) (pa_cons (pv 2) (pa_cons (pe_callB call_len_seq (by rfl) T.len bt_len (pa_cons (pe_ix ix_tup (pv 0) pe_int (fun _ _ => rfl)) pa_nil)) pa_nil))))
      (pss_cons (ps_set (i := 3) scPrice.nd rfl (.inl rfl) pe_int)
      (pss_cons (ps_for PassesOwn.never rfl (pi_range1 (by rfl) T.range (pa_cons (pe_callB call_len_seq (by rfl) T.len bt_len (pa_cons (pv 1) pa_nil)) pa_nil)) (pg_name (i := 4) scPrice.nd rfl (.inl rfl))
        (pss_cons (ps_aug (i := 3) scPrice.nd rfl (.inl rfl) (pe_op op_mul (pe_ix ix_list (pv 1) (pv 4) (fun _ _ => rfl))
            (pe_callB call_len_seq (by rfl) T.len bt_len (pa_cons (pe_cal CD hr (by rfl) (pa_cons (pe_ix ix_tup (pv 0) pe_int (fun _ _ => rfl)) (pa_cons (pe_op op_add (pv 4) pe_int) pa_nil))) pa_nil))) ip_add)
        (pss_one (ps_aug (i := 3) scPrice.nd rfl (.inl rfl) (pe_op op_mul (pe_ix ix_list (pv 2) (pv 4) (fun _ _ => rfl))
            (pe_callB call_len_seq (by rfl) T.len bt_len (pa_cons (pe_cal CU hr (by rfl) (pa_cons (pe_ix ix_tup (pv 0) pe_int (fun _ _ => rfl)) (pa_cons (pe_op op_add (pv 4) pe_int) pa_nil))) pa_nil))) ip_add))))
      (pss_one (ps_ret (pv 3))))))), ?_⟩
    refine ⟨.ref t, rfl, t, d, u, rfl, hP, ok, fun H1 s1 => ?_⟩
    obtain ⟨D, U, hT, hD, hU⟩ := Same.pr s1 hP
    refine ⟨.ref a, rfl, .ref t, rfl, t, _, 0, .ref D, rfl, rfl, SqT.of hT, atI_nat (j := 0) rfl, D, _, rfl, .inl (SqL.of hD), a, as, ?_, s1 _ _ hA, na, fun H2 s2 => ?_⟩
    · rw [List.length_map, la]
      rfl
    refine ⟨.ref c, rfl, .ref t, rfl, t, _, 0, .ref D, rfl, rfl, SqT.of (s2 _ _ hT), atI_nat (j := 0) rfl, D, _, rfl, .inl (SqL.of (s2 _ _ hD)), c, cs, ?_, s2 _ _ (s1 _ _ hC), nc, fun H3 s3 => ?_⟩
    · rw [List.length_map, lc]
      rfl
    have s13 := s2.trans s3
    have s03 := s1.trans s13
    have hA3 := s03 _ _ hA
    refine ⟨.ref a, rfl, a, _, rfl, .inl (SqL.of hA3), ?_⟩
    rw [List.length_map]
    refine ⟨_, rfl, by omega, by omega, ?_⟩
    rw [show ((as.length : Nat) : Int).toNat = as.length from Int.toNat_natCast _]
    refine for_range (lo := 0) (n := as.length) (fun i σ H' => ∃ y4, σ = [some (.ref t), some (.ref a), some (.ref c), some (.int (priceN d u as cs i)), y4] ∧ Same H1 H') ?_ ?_ ?_
    · exact ⟨none, rfl, s13⟩
    · rintro i σ H' hi ⟨y4, rfl, sm⟩
      have sa : LI H' a as := sm _ _ (s1 _ _ hA)
      have hlD := len_wD ok.dn ((i : Int) + 1) (by omega)
      have hlU : (wU u ((i : Int) + 1)).length ≤ 16 := by
        rcases len_wU ok.up ((i : Int) + 1) (by omega) with h | h
        · omega
        · rw [wU_stop h]
          exact Nat.zero_le _
      have e0 : (0 : Int) + ((i : Nat) : Int) = ((i : Nat) : Int) := Int.zero_add _
      rw [e0]
      refine ⟨_, rfl, .ref a, rfl, _, rfl, a, _, ((i : Nat) : Int), .int (as.getD i 0), rfl, rfl, SqL.of sa, atI_nat (li_get hi), ?_⟩
      refine ⟨.ref t, rfl, t, _, 0, .ref D, rfl, rfl, SqT.of (sm _ _ hT), atI_nat (j := 0) rfl, _, rfl, _, _, rfl, rfl, D, d, (i : Int) + 1, rfl, sm _ _ hD, ok.dn, l2, by omega, by omega, fun H4 r s4 nr hR => ?_⟩
      refine ⟨r, _, rfl, .inl (SqL.of hR), as.getD i 0, _, rfl, rfl, .inr ⟨?_, ?_⟩, _, _, rfl, rfl, ?_⟩
      · rw [List.length_map]
        omega
      · rw [List.length_map]
        omega
      have s14 := sm.trans s4
      have sc4 : LI H4 c cs := s14 _ _ (s1 _ _ hC)
      refine ⟨_, rfl, .ref c, rfl, _, rfl, c, _, ((i : Nat) : Int), .int (cs.getD i 0), rfl, rfl, SqL.of sc4, atI_nat (li_get (by omega)), ?_⟩
      refine ⟨.ref t, rfl, t, _, 1, .ref U, rfl, rfl, SqT.of (s14 _ _ hT), atI_nat (j := 1) rfl, _, rfl, _, _, rfl, rfl, U, u, (i : Int) + 1, rfl, s14 _ _ hU, ok.up, by omega, by omega, by omega, fun H5 r2 s5 nr2 hR2 => ?_⟩
      refine ⟨r2, _, rfl, .inl (SqL.of hR2), cs.getD i 0, _, rfl, rfl, .inr ⟨?_, ?_⟩, _, _, rfl, rfl, ?_⟩
      · rw [List.length_map]
        omega
      · rw [List.length_map]
        omega
      refine ⟨some (.int ((i : Nat) : Int)), ?_, s14.trans s5⟩
      have e : priceN d u as cs (i + 1) = priceN d u as cs i + as.getD i 0 * (((wD d ((i : Int) + 1)).map V.int).length : Int) + cs.getD i 0 * (((wU u ((i : Int) + 1)).map V.int).length : Int) := by
        rw [List.length_map, List.length_map, Int.add_assoc]
        rfl
      rw [e]
      rfl
    · rintro σ H' ⟨y4, rfl, sm⟩
      exact ⟨_, rfl, q _ (s1.trans sm)⟩
end
end Lk
namespace Lk
open PySem PySem.Spec PyProof.Rows L2
abbrev sDraws : Stmt := top 29
abbrev sNext : Stmt := top 30
abbrev sAny : Stmt := top 31
abbrev sTree : Stmt := top 32
abbrev sBent : Stmt := top 33
abbrev sNumsL : Stmt := top 34
abbrev sAsked : Stmt := top 35
theorem scDraws : FnScope ["_law_cell"] ["_law_cell"] (defScope sDraws) := ⟨rfl, rfl, rfl, by decide +kernel, rfl, by decide +kernel, by decide +kernel⟩
theorem scNext : FnScope ["_law_draws_here", "_law_k", "_law_drawn"] ["_law_draws_here"] (defScope sNext) := ⟨rfl, rfl, rfl, by decide +kernel, rfl, by decide +kernel, by decide +kernel⟩
theorem scAny : FnScope ["_law_draws_here", "_law_many", "_law_ahead", "_law_at"] ["_law_draws_here", "_law_many"] (defScope sAny) := ⟨rfl, rfl, rfl, by decide +kernel, rfl, by decide +kernel, by decide +kernel⟩
theorem scBent : FnScope ["_law_draws_here", "_law_links", "_law_ahead", "_law_behind", "_law_many", "_law_turn", "_law_at"] ["_law_draws_here", "_law_links"] (defScope sBent) := ⟨rfl, rfl, rfl, by decide +kernel, rfl, by decide +kernel, by decide +kernel⟩
theorem scNumsL : FnScope ["_law_draws_here", "_law_many", "_law_pick", "_law_high", "_law_far", "_law_at"] ["_law_draws_here", "_law_many"] (defScope sNumsL) := ⟨rfl, rfl, rfl, by decide +kernel, rfl, by decide +kernel, by decide +kernel⟩
theorem scAsked : FnScope ["_law_links", "_law_some"] ["_law_links", "_law_some"] (defScope sAsked) := ⟨rfl, rfl, rfl, by decide +kernel, rfl, by decide +kernel, by decide +kernel⟩

/-! ### promises -/
def spDraws : Sp := fun vs H Q _ => ∃ c : Int, vs = [.int c] ∧ ∀ H' p, Same H H' → H p = none → Dr H' p 0 → Q (.ref p) H'
def spNext : Sp := fun vs H Q _ => ∃ (p : Addr) (k : Int), vs = [.ref p] ∧ Dr H p k ∧ k ≤ 1000000 ∧ ∀ H' r, SB p H H' → Dr H' p (k + 1) → 0 ≤ r → Q (.int r) H'
def spAny : Sp := fun vs H Q _ => ∃ (p : Addr) (k : Int) (n : Nat), vs = [.ref p, .int (n : Nat)] ∧ Dr H p k ∧ k ≤ 100000 ∧ 1 ≤ n ∧ n ≤ 16 ∧
  ∀ H' r d u k', SB p H H' → Dr H' p k' → k' ≤ k + 32 → H r = none → Pr H' r d u → OkP d u → d.length = n → Q (.ref r) H'
def spBent : Sp := fun vs H Q _ => ∃ (p t : Addr) (k : Int) (d u : List Int), vs = [.ref p, .ref t] ∧ Dr H p k ∧ k ≤ 100000 ∧ Pr H t d u ∧ OkP d u ∧
  ∀ H' r d' u' k', SB p H H' → Dr H' p k' → k' ≤ k + 10 → H r = none → Pr H' r d' u' → OkP d' u' → d'.length = d.length → Q (.ref r) H'
def spNumsL : Sp := fun vs H Q _ => ∃ (p : Addr) (k : Int) (n : Nat), vs = [.ref p, .int (n : Nat)] ∧ Dr H p k ∧ k ≤ 100000 ∧ n ≤ 16 ∧
  ∀ H' r ns k', SB p H H' → Dr H' p k' → k' ≤ k + 17 → H r = none → LI H' r ns → ns.length = n → (∀ v ∈ ns, 0 ≤ v ∧ v < 10000000000000000000) → Q (.ref r) H'
def spAsked : Sp := fun vs H Q _ => ∃ (t a : Addr) (d u as : List Int), vs = [.ref t, .ref a] ∧ Pr H t d u ∧ OkP d u ∧ LI H a as ∧ as.length = d.length ∧ ∀ H' r, Same H H' → H r = none → LI H' r (askedL d as) → Q (.ref r) H'

/-! ### little lemmas -/
theorem SB.free {p q : Addr} {H H' : Hp} {k : Int} (s : SB p H H') (D : Dr H' p k) (n : H' q = none) : H q = none := by
  cases e : H q with
  | none => rfl
  | some o =>
    obtain ⟨_, _, _, _, hp⟩ := D
    have nq : q ≠ p := fun z => by
      rw [z, hp] at n
      cases n
    rw [s q o nq e] at n
    cases n
theorem Dr.at {H : Hp} {p q : Addr} {k : Int} (D : Dr H p k) (n : H q = none) : p ≠ q := fun z => by
  obtain ⟨_, _, _, _, hp⟩ := D
  rw [z, n] at hp
  cases hp
theorem Dr.put {H : Hp} {p q : Addr} {k : Int} {o : HO} (D : Dr H p k) (n : p ≠ q) : Dr (upd H q o) p k := by
  obtain ⟨a, b, h1, h2, hp⟩ := D
  exact ⟨a, b, h1, h2, by rw [upd_ne n]; exact hp⟩
theorem okD_snoc {ds : List Int} {v : Int} (h : OkD ds) (h0 : 0 ≤ v) (h1 : v ≤ (ds.length : Int)) : OkD (ds ++ [v]) := by
  intro i hi
  rw [List.length_append, List.length_singleton] at hi
  rw [List.getD_eq_getElem?_getD]
  by_cases e : i < ds.length
  · rw [List.getElem?_append_left e, ← List.getD_eq_getElem?_getD]
    exact h i e
  · have e2 : i = ds.length := by omega
    rw [e2, List.getElem?_append_right (Nat.le_refl _), Nat.sub_self]
    exact ⟨h0, h1⟩
def UpTo (n : Nat) (us : List Int) : Prop := ∀ (i : Nat), i < us.length → (i : Int) + 2 ≤ us.getD i 0 ∧ us.getD i 0 ≤ (n : Int) + 1
theorem upTo_snoc {n : Nat} {us : List Int} {v : Int} (h : UpTo n us) (h0 : (us.length : Int) + 2 ≤ v) (h1 : v ≤ (n : Int) + 1) : UpTo n (us ++ [v]) := by
  intro i hi
  rw [List.length_append, List.length_singleton] at hi
  rw [List.getD_eq_getElem?_getD]
  by_cases e : i < us.length
  · rw [List.getElem?_append_left e, ← List.getD_eq_getElem?_getD]
    exact h i e
  · have e2 : i = us.length := by omega
    rw [e2, List.getElem?_append_right (Nat.le_refl _), Nat.sub_self]
    exact ⟨h0, h1⟩
theorem okD_set0 {d : List Int} (h : OkD d) {i : Nat} {v : Int} (hi : i < d.length) (h0 : 0 ≤ v) (h1 : v ≤ (i : Int)) : OkD (d.set i v) := by
  intro j hj
  rw [List.length_set] at hj
  rw [getD_set _ _ _ _ hi]
  have := h j hj
  split <;> omega
theorem okU_set0 {u : List Int} (h : OkU u) {i : Nat} {v : Int} (hi : i < u.length) (h0 : (i : Int) + 2 ≤ v) (h1 : v ≤ (u.length : Int) + 1) : OkU (u.set i v) := by
  refine ⟨by rw [List.length_set]; exact h.1, fun j hj => ?_⟩
  rw [List.length_set] at hj
  rw [getD_set _ _ _ _ hi, List.length_set]
  have := h.2 j hj
  split <;> omega
theorem ix0 {n : Nat} {i : Int} (h0 : 0 ≤ i) (h1 : i < (n : Int)) : ixN n i = some i.toNat := by
  unfold ixN
  rw [if_pos h0, if_pos h1]
theorem bits10 : Builtin.Int.intBits 10 ≤ 4 := by decide
theorem bits60 : (Builtin.Int.intBits ((10 : Int) ^ 60) : Int) * 60 ≤ 2 ^ 27 := by decide +kernel
theorem bits3600 : (Builtin.Int.intBits (((10 : Int) ^ 60) ^ 60) : Int) * 4 ≤ 2 ^ 27 := by decide +kernel

section
variable {P : Program} {w : World} {K : PySem.W.Frag} {mg : Str → Option Value} {base : Heap} {f : Addr} {fd : FuncData}
theorem ok_draws (F : Fun K "_law_draws" "_law_draws" sDraws f fd) (T : Bts mg) : FnOk P w K mg base CX0 1 f fd ["_law_cell"] spDraws := by
  refine F.ok scDraws (fun vs H Q E h => ?_) (fun cdv A outer s H vs Q E hr h => ?_)
  · obtain ⟨c, rfl, _⟩ := h
    rfl
  · obtain ⟨c, rfl, q⟩ := h
    refine ⟨_, pss_one (ps_ret (pe_lst (pa_cons (pe_op op_mod (pe_callTy call_int1 (by rfl) T.int bt_ty_int (pa_cons (pv 0) pa_nil)) (pe_op op_powW (pe_op op_powW (pe_op op_powW pe_int pe_int) pe_int) pe_int))
      (pa_cons pe_int (pa_cons (pe_cmpR op_ge (pv 0) (pe_op op_powW pe_int pe_int) (nomark _)) pa_nil))))), ?_⟩
    have hp : (0 : Int) < (((10 : Int) ^ 60) ^ 60) ^ 4 := Int.pow_pos (Int.pow_pos (Int.pow_pos (by decide)))
    refine ⟨.int c, rfl, .inl ⟨c, rfl, 10, 60, rfl, rfl, ⟨by decide, by decide⟩, _, 60, rfl, rfl, ⟨by decide, bits60⟩, _, 4, rfl, rfl, ⟨by decide, bits3600⟩, _, _, rfl, rfl, hp, ?_⟩⟩
    refine ⟨.int c, rfl, 10, 18, rfl, rfl, ⟨by decide, by decide⟩, _, _, rfl, rfl, by show 3 ≤ sizeLine; decide, fun r nr => ?_⟩
    exact q _ _ (same_new nr) nr ⟨_, _, Int.emod_nonneg _ (Int.ne_of_gt hp), Int.le_refl _, upd_same⟩
theorem ok_next (F : Fun K "_law_next" "_law_next" sNext f fd) (T : Bts mg) : FnOk P w K mg base CX0 1 f fd ["_law_draws_here"] spNext := by
  refine F.ok scNext (fun vs H Q E h => ?_) (fun cdv A outer s H vs Q E hr h => ?_)
  · obtain ⟨p, k, rfl, _⟩ := h
    rfl
  · obtain ⟨p, k, rfl, ⟨a, b, a0, k0, hp⟩, hk, q⟩ := h
    refine ⟨_, pss_cons (ps_asg (pe_op op_add (pe_ix ix_list (pv 0) pe_int (fun _ _ => rfl)) pe_int) (pg_sub (pv 0) pe_int set_list))
      (pss_cons (ps_set (i := 1) scNext.nd rfl (.inl rfl) (pe_ix ix_list (pv 0) pe_int (fun _ _ => rfl)))
      (pss_cons (ps_if (pt_val (pe_ix ix_list (pv 0) pe_int (fun _ _ => rfl)))
        (pss_cons (ps_set (i := 2) scNext.nd rfl (.inl rfl) (pe_op op_mod (pe_callTy call_int1 (by rfl) T.int bt_ty_int (pa_cons (pe_ix ix_list (pv 0) pe_int (fun _ _ => rfl)) pa_nil)) (pe_op op_powW pe_int pe_int)))
        (pss_cons (ps_asg (pe_op op_fdiv (pe_ix ix_list (pv 0) pe_int (fun _ _ => rfl)) (pe_op op_powW pe_int pe_int)) (pg_sub (pv 0) pe_int set_list))
        (pss_one (ps_ret (pv 2))))) pss_nil)
      (pss_cons (ps_set (i := 2) scNext.nd rfl (.inl rfl) (pe_op op_mod (pe_callTy call_int1 (by rfl) T.int bt_ty_int (pa_cons (pe_op op_mul (pe_op op_add (pe_op op_add (pe_op op_mod (pe_callTy call_int1 (by rfl) T.int bt_ty_int (pa_cons (pe_ix ix_list (pv 0) pe_int (fun _ _ => rfl)) pa_nil)) pe_int)
          (pe_op op_mul (pe_op op_mul (pv 1) (pv 1)) pe_int)) (pv 1)) pe_int) pa_nil)) pe_int))
      (pss_cons (ps_set (i := 2) scNext.nd rfl (.inl rfl) (pe_op op_mod (pe_callTy call_int1 (by rfl) T.int bt_ty_int (pa_cons (pe_op op_mul (pv 2) (pv 2)) pa_nil)) pe_int))
      (pss_one (ps_ret (pe_op op_fdiv (pe_op op_mod (pe_callTy call_int1 (by rfl) T.int bt_ty_int (pa_cons (pe_op op_mul (pv 2) (pe_op op_add (pv 2) pe_int)) pa_nil)) pe_int) pe_int))))))), ?_⟩
    refine ⟨.ref p, rfl, p, _, 1, .int k, rfl, rfl, SqL.of hp, atI_nat (j := 1) rfl, k, 1, rfl, rfl, .ref p, rfl, p, _, 1, 1, rfl, rfl, hp, rfl, ?_⟩
    have s1 : SB p H (upd H p (.lst [.int a, .int (k + 1), .bl b])) := SB.here (SB.refl p H)
    have hp1 : upd H p (.lst [.int a, .int (k + 1), .bl b]) p = some (.lst [.int a, .int (k + 1), .bl b]) := upd_same
    show tSeq _ _ _ _ (upd H p (.lst [.int a, .int (k + 1), .bl b]))
    generalize upd H p (.lst [.int a, .int (k + 1), .bl b]) = H1 at s1 hp1
    refine ⟨.ref p, rfl, p, _, 1, .int (k + 1), rfl, rfl, SqL.of hp1, atI_nat (j := 1) rfl, ?_⟩
    refine ⟨.ref p, rfl, p, _, 2, .bl b, rfl, rfl, SqL.of hp1, atI_nat (j := 2) rfl, b, rfl, ?_⟩
    cases b with
    | true =>
      refine iteT ?_
      refine ⟨.ref p, rfl, p, _, 0, .int a, rfl, rfl, SqL.of hp1, atI_nat (j := 0) rfl, .inl ⟨a, rfl, 10, 6, rfl, rfl, ⟨by decide, by decide⟩, a, _, rfl, rfl, (show (0 : Int) < 10 ^ 6 by decide), ?_⟩⟩
      refine ⟨.ref p, rfl, p, _, 0, .int a, rfl, rfl, SqL.of hp1, atI_nat (j := 0) rfl, 10, 6, rfl, rfl, ⟨by decide, by decide⟩, a, _, rfl, rfl, ⟨by decide, by decide⟩, ?_⟩
      refine ⟨.ref p, rfl, p, _, 0, 0, rfl, rfl, hp1, rfl, ?_⟩
      refine ⟨_, rfl, q _ _ (SB.here s1) ⟨a / 10 ^ 6, true, ?_, by omega, upd_same⟩ (Int.emod_nonneg _ (by decide))⟩
      exact Int.ediv_nonneg a0 (by decide)
    | false =>
      refine iteF ?_
      have h1 := Int.emod_nonneg a (show (1000003 : Int) ≠ 0 by decide)
      refine ⟨.ref p, rfl, p, _, 0, .int a, rfl, rfl, SqL.of hp1, atI_nat (j := 0) rfl, .inl ⟨a, rfl, a, _, rfl, rfl, (show (0 : Int) < 1000003 by decide), _, rfl, _, rfl, k + 1, k + 1, rfl, rfl, .inl ⟨by omega, by omega⟩, _, _, rfl, rfl, .inr ⟨by decide, by decide⟩, _, _, rfl, rfl,
        _, rfl, _, _, rfl, rfl, _, _, rfl, rfl, .inr ⟨by decide, by decide⟩, .inl ⟨_, rfl, _, _, rfl, rfl, (show (0 : Int) < 2147483629 by decide), ?_⟩⟩⟩
      have g1 : ∀ x : Int, 0 ≤ x % 2147483629 ∧ x % 2147483629 < 2147483629 := fun x => ⟨Int.emod_nonneg _ (by decide), Int.emod_lt_of_pos _ (by decide)⟩
      have g2' : ∀ x : Int, 0 ≤ x % 2147483587 ∧ x % 2147483587 < 2147483587 := fun x => ⟨Int.emod_nonneg _ (by decide), Int.emod_lt_of_pos _ (by decide)⟩
      generalize ((a % 1000003 + (k + 1) * (k + 1) * 7919 + (k + 1)) * 48271) = z
      have hz := g1 z
      obtain ⟨y, ey⟩ : ∃ y, z % 2147483629 = y := ⟨_, rfl⟩
      rw [ey] at hz
      refine ⟨_, rfl, _, rfl, y, y, congrArg V.int ey, congrArg V.int ey, .inl ⟨by omega, by omega⟩, .inl ⟨_, rfl, _, _, rfl, rfl, (show (0 : Int) < 2147483587 by decide), ?_⟩⟩
      have hy := g2' (y * y)
      obtain ⟨x, ex⟩ : ∃ x, y * y % 2147483587 = x := ⟨_, rfl⟩
      rw [ex] at hy
      refine ⟨_, rfl, _, rfl, x, 2, congrArg V.int ex, rfl, x, _, congrArg V.int ex, rfl, .inl ⟨by omega, by omega⟩, .inl ⟨_, rfl, _, _, rfl, rfl, (show (0 : Int) < 2147483579 by decide), _, _, rfl, rfl, ⟨by decide, by decide⟩, ?_⟩⟩
      exact q _ _ s1 ⟨a, false, a0, by omega, hp1⟩ (Int.ediv_nonneg (Int.emod_nonneg _ (by decide)) (by decide))
theorem ok_any (F : Fun K "_law_any" "_law_any" sAny f fd) (T : Bts mg) (C : Cal P w K mg base "_law_next" 1 ["_law_draws_here"] spNext) : FnOk P w K mg base CX0 2 f fd ["_law_draws_here", "_law_many"] spAny := by
  refine F.ok scAny (fun vs H Q E h => ?_) (fun cdv A outer s H vs Q E hr h => ?_)
  · obtain ⟨p, k, n, rfl, _⟩ := h
    rfl
  · obtain ⟨p, k, n, rfl, dr, hk, n1, n2, q⟩ := h
    refine ⟨_, pss_cons (ps_setLc (i := 2) (own := [("_law_at", 3)]) (g := gName 3) rfl scAny.nd rfl rfl (sw_true rfl rfl rfl (by decide +kernel)) (pi_range1 (by rfl) T.range (pa_cons (pv 1) pa_nil))
          (blkOk_by (own := [("_law_at", 3)]) (N := ["_law_draws_here", "_law_many", "_law_ahead", "_law_at"]) (sc := defScope sAny) (by decide +kernel)) (fun _ _ _ _ _ => pg_name (i := 3) scAny.nd rfl (Or.inl rfl)) (fun _ _ _ _ _ => pts_nil)
          (fun _ _ _ _ _ => pe_op op_mod (pe_callTy call_int1 (by rfl) T.int bt_ty_int (pa_cons (pe_cal C hr (by rfl) (pa_cons (pv 0) pa_nil)) pa_nil)) (pe_op op_add (pv 3) pe_int)))
      (pss_one (ps_ret (pe_tup (pa_cons (pv 2) (pa_cons (pe_lc (own := [("_law_at", 3)]) (g := gName 3) (tt := tYes) rfl scAny.nd (pi_range1 (by rfl) T.range (pa_cons (pv 1) pa_nil))
          (blkOk_by (own := [("_law_at", 3)]) (N := ["_law_draws_here", "_law_many", "_law_ahead", "_law_at"]) (sc := defScope sAny) (by decide +kernel)) (fun _ _ _ _ _ => pg_name (i := 3) scAny.nd rfl (Or.inl rfl)) (fun _ _ _ _ _ => pts_nil)
          (fun _ _ _ _ _ => pe_op op_add (pe_op op_add (pv 3) pe_int) (pe_op op_mod (pe_callTy call_int1 (by rfl) T.int bt_ty_int (pa_cons (pe_cal C hr (by rfl) (pa_cons (pv 0) pa_nil)) pa_nil)) (pe_op op_sub (pv 1) (pv 3))))) pa_nil))))), ?_⟩
    refine ⟨.int (n : Nat), rfl, _, rfl, by omega, by omega, ?_⟩
    rw [show ((n : Nat) : Int).toNat = n from Int.toNat_natCast _]
    refine fun D nD => lc_range (lo := 0) (n := n) (fun i H' => SB p H H' ∧ ∃ k' ds, Dr H' p k' ∧ k' ≤ k + (i : Int) ∧ LI H' D ds ∧ ds.length = i ∧ OkD ds) ?_ ?_ ?_
    · exact ⟨SB.put (SB.refl p H) nD, k, [], dr.put (dr.at nD), by omega, upd_same, rfl, fun i hi => absurd hi (Nat.not_lt_zero _)⟩
    · rintro i H' hi ⟨sb, k', ds, dr', hk', hD, hl, ok⟩
      have e0 : (0 : Int) + ((i : Nat) : Int) = ((i : Nat) : Int) := Int.zero_add _
      rw [e0]
      refine ⟨rfl, .ref p, rfl, p, k', rfl, dr', by omega, fun H2 r s2 d2 r0 => .inl ⟨r, rfl, ?_⟩⟩
      refine ⟨_, rfl, _, _, rfl, rfl, r, _, rfl, rfl, by show 0 < ((i : Nat) : Int) + 1; omega, ds.map V.int, s2.li dr' hD, ?_, ?_⟩
      · rw [List.length_map]
        exact small100 (by omega)
      · have h0 := Int.emod_nonneg r (show ((i : Nat) : Int) + 1 ≠ 0 by omega)
        have h1 := Int.emod_lt_of_pos r (show 0 < ((i : Nat) : Int) + 1 by omega)
        refine ⟨SB.put (sb.trans s2) nD, k' + 1, ds ++ [r % ((i : Int) + 1)], d2.put (dr.at nD), by omega, ?_, ?_, okD_snoc ok h0 (by omega)⟩
        · show upd H2 D _ D = _
          rw [upd_same, List.map_append]
          rfl
        · rw [List.length_append, hl]
          rfl
    · rintro H1 ⟨s1, k1, ds, d1, hk1, hD, hl, ok⟩
      refine ⟨.ref D, rfl, .int (n : Nat), rfl, _, rfl, by omega, by omega, ?_⟩
      rw [show ((n : Nat) : Int).toNat = n from Int.toNat_natCast _]
      refine fun Z nZ => lc_range (lo := 0) (n := n) (fun i H' => SB p H1 H' ∧ ∃ k' us, Dr H' p k' ∧ k' ≤ k + n + (i : Int) ∧ LI H' Z us ∧ us.length = i ∧ UpTo n us) ?_ ?_ ?_
      · exact ⟨SB.put (SB.refl p H1) nZ, k1, [], d1.put (d1.at nZ), by omega, upd_same, rfl, fun i hi => absurd hi (Nat.not_lt_zero _)⟩
      · rintro i H' hi ⟨sb, k', us, dr', hk', hZ, hl', okk⟩
        have e0 : (0 : Int) + ((i : Nat) : Int) = ((i : Nat) : Int) := Int.zero_add _
        rw [e0]
        refine ⟨rfl, .int ((i : Nat) : Int), rfl, _, _, rfl, rfl, .ref p, rfl, p, k', rfl, dr', by omega, fun H2 r s2 d2 r0 => .inl ⟨r, rfl, ?_⟩⟩
        refine ⟨_, rfl, _, rfl, _, _, rfl, rfl, r, _, rfl, rfl, by show 0 < ((n : Nat) : Int) - ((i : Nat) : Int); omega, _, _, rfl, rfl, us.map V.int, s2.li dr' hZ, ?_, ?_⟩
        · rw [List.length_map]
          exact small100 (by omega)
        · have h0 := Int.emod_nonneg r (show ((n : Nat) : Int) - ((i : Nat) : Int) ≠ 0 by omega)
          have h1 := Int.emod_lt_of_pos r (show 0 < ((n : Nat) : Int) - ((i : Nat) : Int) by omega)
          refine ⟨SB.put (sb.trans s2) nZ, k' + 1, us ++ [(i : Int) + 2 + r % ((n : Int) - (i : Int))], d2.put (d1.at nZ), by omega, ?_, ?_, upTo_snoc okk (by omega) (by omega)⟩
          · show upd H2 Z _ Z = _
            rw [upd_same, List.map_append]
            rfl
          · rw [List.length_append, hl']
            rfl
      · rintro H2 ⟨s2, k2, us, d2, hk2, hZ, hl2, okk⟩
        have hD2 : LI H2 D ds := s2.li d1 hD
        have s02 := s1.trans s2
        refine ⟨by show 2 ≤ sizeLine; decide, fun r nr => q _ _ ds us k2 (SB.put s02 (s02.free d2 nr)) (d2.put (d2.at nr)) (by omega) (s02.free d2 nr) (pr_two hD2 hZ nr) ⟨ok, ⟨by omega, fun i hi => ?_⟩, by omega, by omega⟩ hl⟩
        have := okk i hi
        rw [hl2]
        exact this
theorem ok_asked (F : Fun K "_law_asked_cells" "_law_asked_cells" sAsked f fd) (CT : Cal P w K mg base "turned" 4 ["pair"] spTurned) (CC : Cal P w K mg base "cells_of" 3 ["up", "values"] spFill) : FnOk P w K mg base CX0 5 f fd ["_law_links", "_law_some"] spAsked := by
  refine F.ok scAsked (fun vs H Q E h => ?_) (fun cdv A outer s H vs Q E hr h => ?_)
  · obtain ⟨t, a, d, u, as, rfl, _⟩ := h
    rfl
  · obtain ⟨t, a, d, u, as, rfl, hP, ok, hA, hl, q⟩ := h
    have l2 := ok.m
    have l3 := ok.l
    refine ⟨_, pss_one (ps_ret (pe_revL (pe_cal CC hr (by rfl) (pa_cons (pe_ix ix_tup (pe_cal CT hr (by rfl) (pa_cons (pv 0) pa_nil)) pe_int (fun _ _ => rfl)) (pa_cons (pe_revL (pv 1)) pa_nil))))), ?_⟩
    refine ⟨.ref t, rfl, t, d, u, rfl, hP, ok, fun H1 r s1 nr ⟨D, U, hT, hD, hU⟩ => ?_⟩
    refine ⟨r, _, 1, .ref U, rfl, rfl, SqT.of hT, atI_nat (j := 1) rfl, .ref a, rfl, a, _, rfl, SqL.of (s1 _ _ hA), fun z nz => ?_⟩
    have s2 : Same H1 (upd H1 z (.lst (as.map V.int).reverse)) := same_new nz
    have hz : LI (upd H1 z (.lst (as.map V.int).reverse)) z as.reverse := by
      show upd H1 z _ z = _
      rw [upd_same, List.map_reverse]
    have hU2 := s2 _ _ hU
    generalize upd H1 z (.lst (as.map V.int).reverse) = H2 at s2 hz hU2
    refine ⟨U, z, flip d.length d, as.reverse, rfl, hU2, hz, okU_flip ok.dn ok.pos, ?_, ?_, fun H3 c s3 nc hC => ?_⟩
    · rw [List.length_reverse, len_flip, hl]
    · rw [len_flip]
      exact l2
    · have s03 := (s1.trans s2).trans s3
      refine ⟨c, _, rfl, SqL.of hC, fun y ny => q _ _ (s03.trans (same_new ny)) (s03.free ny) ?_⟩
      show upd H3 y _ y = _
      rw [upd_same, ← List.map_reverse]
      rfl
end
end Lk
namespace Lk
open PySem PySem.Spec PyProof.Rows L2
theorem pick4 {a b c d i : Int} (h0 : 0 ≤ i) (h1 : i < 4) : ∃ v, atI [V.int a, .int b, .int c, .int d] i = some (.int v) ∧ (v = a ∨ v = b ∨ v = c ∨ v = d) := by
  have h : i = 0 ∨ i = 1 ∨ i = 2 ∨ i = 3 := by omega
  rcases h with rfl | rfl | rfl | rfl
  · exact ⟨a, rfl, .inl rfl⟩
  · exact ⟨b, rfl, .inr (.inl rfl)⟩
  · exact ⟨c, rfl, .inr (.inr (.inl rfl))⟩
  · exact ⟨d, rfl, .inr (.inr (.inr rfl))⟩
theorem pick3 {a b c i : Int} (h0 : 0 ≤ i) (h1 : i < 3) : ∃ v, atI [V.int a, .int b, .int c] i = some (.int v) ∧ (v = a ∨ v = b ∨ v = c) := by
  have h : i = 0 ∨ i = 1 ∨ i = 2 := by omega
  rcases h with rfl | rfl | rfl
  · exact ⟨a, rfl, .inl rfl⟩
  · exact ⟨b, rfl, .inr (.inl rfl)⟩
  · exact ⟨c, rfl, .inr (.inr rfl)⟩
theorem pick2 {a b i : Int} (h0 : 0 ≤ i) (h1 : i < 2) : ∃ v, atI [V.int a, .int b] i = some (.int v) ∧ (v = a ∨ v = b) := by
  have h : i = 0 ∨ i = 1 := by omega
  rcases h with rfl | rfl
  · exact ⟨a, rfl, .inl rfl⟩
  · exact ⟨b, rfl, .inr rfl⟩
section
variable {P : Program} {w : World} {K : PySem.W.Frag} {mg : Str → Option Value} {base : Heap} {f : Addr} {fd : FuncData}
theorem ok_numsl (F : Fun K "_law_numbers" "_law_numbers" sNumsL f fd) (T : Bts mg) (C : Cal P w K mg base "_law_next" 1 ["_law_draws_here"] spNext) : FnOk P w K mg base CX0 2 f fd ["_law_draws_here", "_law_many"] spNumsL := by
  refine F.ok scNumsL (fun vs H Q E h => ?_) (fun cdv A outer s H vs Q E hr h => ?_)
  · obtain ⟨p, k, n, rfl, _⟩ := h
    rfl
  · obtain ⟨p, k, n, rfl, dr, hk, n2, q⟩ := h
    refine ⟨_, pss_cons (ps_set (i := 2) scNumsL.nd rfl (.inl rfl) (pe_callTy call_int1 (by rfl) T.int bt_ty_int (pa_cons (pe_cal C hr (by rfl) (pa_cons (pv 0) pa_nil)) pa_nil)))
      (pss_cons (ps_set (i := 3) scNumsL.nd rfl (.inr rfl) (pe_ix ix_list (pe_lst (pa_cons pe_int (pa_cons pe_int (pa_cons pe_int (pa_cons (pe_op op_powW pe_int pe_int) pa_nil))))) (pe_op op_mod (pe_callTy call_int1 (by rfl) T.int bt_ty_int (pa_cons (pv 2) pa_nil)) pe_int) (fun _ _ => rfl)))
      (pss_cons (ps_set (i := 4) scNumsL.nd rfl (.inr rfl) (pe_ix ix_list (pe_lst (pa_cons pe_int (pa_cons pe_int (pa_cons (pe_op op_powW pe_int pe_int) pa_nil)))) (pe_op op_mod (pe_callTy call_int1 (by rfl) T.int bt_ty_int (pa_cons (pe_op op_fdiv (pv 2) pe_int) pa_nil)) pe_int) (fun _ _ => rfl)))
      (pss_one (ps_ret (pe_lc (own := [("_law_at", 5)]) (g := gName 5) (tt := tYes) rfl scNumsL.nd (pi_range1 (by rfl) T.range (pa_cons (pv 1) pa_nil))
          (blkOk_by (own := [("_law_at", 5)]) (N := ["_law_draws_here", "_law_many", "_law_pick", "_law_high", "_law_far", "_law_at"]) (sc := defScope sNumsL) (by decide +kernel)) (fun _ _ _ _ _ => pg_name (i := 5) scNumsL.nd rfl (Or.inl rfl)) (fun _ _ _ _ _ => pts_nil)
          (fun _ _ _ _ _ => pe_op op_mul (pe_op op_mod (pe_callTy call_int1 (by rfl) T.int bt_ty_int (pa_cons (pe_cal C hr (by rfl) (pa_cons (pv 0) pa_nil)) pa_nil)) (pv 3)) (pv 4))))))), ?_⟩
    refine ⟨.ref p, rfl, p, k, rfl, dr, by omega, fun H1 r s1 d1 r0 => .inl ⟨r, rfl, ?_⟩⟩
    -- _law_high
    refine ⟨10, 5, rfl, rfl, ⟨by decide, by decide⟩, by show 4 ≤ sizeLine; decide, fun z nz => ?_⟩
    have s2 : SB p H (upd H1 z (.lst [.int 2, .int 5, .int 100, .int (10 ^ (5 : Int).toNat)])) := SB.put s1 (s1.free d1 nz)
    have d2 : Dr (upd H1 z (.lst [.int 2, .int 5, .int 100, .int (10 ^ (5 : Int).toNat)])) p (k + 1) := d1.put (d1.at nz)
    have hz : upd H1 z (.lst [.int 2, .int 5, .int 100, .int (10 ^ (5 : Int).toNat)]) z = some (.lst [.int 2, .int 5, .int 100, .int (10 ^ (5 : Int).toNat)]) := upd_same
    generalize upd H1 z (.lst [.int 2, .int 5, .int 100, .int (10 ^ (5 : Int).toNat)]) = H2 at s2 d2 hz
    obtain ⟨hi, eh, hh⟩ := pick4 (a := 2) (b := 5) (c := 100) (d := 10 ^ (5 : Int).toNat) (Int.emod_nonneg r (show (4 : Int) ≠ 0 by decide)) (Int.emod_lt_of_pos r (show (0 : Int) < 4 by decide))
    have hb : 0 < hi ∧ hi ≤ 100000 := by
      have e5 : (10 : Int) ^ (5 : Int).toNat = 100000 := by decide
      rw [e5] at hh
      omega
    refine ⟨.int r, rfl, .inl ⟨r, rfl, r, 4, rfl, rfl, (show (0 : Int) < 4 by decide), z, _, r % 4, .int hi, rfl, rfl, SqL.of hz, eh, ?_⟩⟩
    -- _law_far
    refine ⟨10, 14, rfl, rfl, ⟨by decide, by decide⟩, by show 3 ≤ sizeLine; decide, fun y ny => ?_⟩
    have s3 : SB p H (upd H2 y (.lst [.int 1, .int 1, .int (10 ^ (14 : Int).toNat)])) := SB.put s2 (s2.free d2 ny)
    have d3 : Dr (upd H2 y (.lst [.int 1, .int 1, .int (10 ^ (14 : Int).toNat)])) p (k + 1) := d2.put (d2.at ny)
    have hy : upd H2 y (.lst [.int 1, .int 1, .int (10 ^ (14 : Int).toNat)]) y = some (.lst [.int 1, .int 1, .int (10 ^ (14 : Int).toNat)]) := upd_same
    generalize upd H2 y (.lst [.int 1, .int 1, .int (10 ^ (14 : Int).toNat)]) = H3 at s3 d3 hy
    obtain ⟨fa, ef, hf⟩ := pick3 (a := 1) (b := 1) (c := 10 ^ (14 : Int).toNat) (Int.emod_nonneg (r / 4) (show (3 : Int) ≠ 0 by decide)) (Int.emod_lt_of_pos (r / 4) (show (0 : Int) < 3 by decide))
    have fb : 0 < fa ∧ fa ≤ 100000000000000 := by
      have e5 : (10 : Int) ^ (14 : Int).toNat = 100000000000000 := by decide
      rw [e5] at hf
      omega
    refine ⟨.int r, rfl, r, 4, rfl, rfl, ⟨by decide, by decide⟩, .inl ⟨r / 4, rfl, r / 4, 3, rfl, rfl, (show (0 : Int) < 3 by decide), y, _, r / 4 % 3, .int fa, rfl, rfl, SqL.of hy, ef, ?_⟩⟩
    refine ⟨.int (n : Nat), rfl, _, rfl, by omega, by omega, ?_⟩
    rw [show ((n : Nat) : Int).toNat = n from Int.toNat_natCast _]
    refine fun D nD => lc_range (lo := 0) (n := n) (fun i H' => SB p H3 H' ∧ ∃ k' ds, Dr H' p k' ∧ k' ≤ k + 1 + (i : Int) ∧ LI H' D ds ∧ ds.length = i ∧ ∀ v ∈ ds, 0 ≤ v ∧ v < 10000000000000000000) ?_ ?_ ?_
    · exact ⟨SB.put (SB.refl p H3) nD, k + 1, [], d3.put (d3.at nD), by omega, upd_same, rfl, fun v hv => absurd hv List.not_mem_nil⟩
    · rintro i H' hi' ⟨sb, k', ds, dr', hk', hD, hl, ok⟩
      refine ⟨rfl, .ref p, rfl, p, k', rfl, dr', by omega, fun H4 r2 s4 d4 r20 => .inl ⟨r2, rfl, .int hi, rfl, r2, hi, rfl, rfl, hb.1, .int fa, rfl, ?_⟩⟩
      have h0 := Int.emod_nonneg r2 (show hi ≠ 0 by omega)
      have h1 := Int.emod_lt_of_pos r2 (show 0 < hi by omega)
      refine ⟨r2 % hi, fa, rfl, rfl, .inl ⟨by omega, by omega⟩, ds.map V.int, s4.li dr' hD, ?_, ?_⟩
      · rw [List.length_map]
        exact small100 (by omega)
      · refine ⟨SB.put (sb.trans s4) nD, k' + 1, ds ++ [r2 % hi * fa], d4.put (d3.at nD), by omega, ?_, ?_, fun v hv => ?_⟩
        · show upd H4 D _ D = _
          rw [upd_same, List.map_append]
          rfl
        · rw [List.length_append, hl]
          rfl
        · rcases List.mem_append.mp hv with hv | hv
          · exact ok v hv
          · have ev : v = r2 % hi * fa := by simpa using hv
            subst ev
            have m0 := Int.mul_nonneg h0 (show 0 ≤ fa by omega)
            have m1 : r2 % hi * fa ≤ 99999 * fa := Int.mul_le_mul_of_nonneg_right (by omega) (by omega)
            omega
    · rintro H4 ⟨s4, k4, ds, d4, hk4, hD, hl, ok⟩
      have s04 := s3.trans s4
      have nD0 : H D = none := s3.free d3 nD
      exact q _ _ ds k4 s04 d4 (by omega) nD0 hD hl ok
theorem ok_bent (F : Fun K "_law_bent" "_law_bent" sBent f fd) (T : Bts mg) (C : Cal P w K mg base "_law_next" 1 ["_law_draws_here"] spNext) : FnOk P w K mg base CX0 2 f fd ["_law_draws_here", "_law_links"] spBent := by
  refine F.ok scBent (fun vs H Q E h => ?_) (fun cdv A outer s H vs Q E hr h => ?_)
  · obtain ⟨p, t, k, d, u, rfl, _⟩ := h
    rfl
  · obtain ⟨p, t, k, d, u, rfl, dr, hk, ⟨a, b, hT, hA, hB⟩, ok, q⟩ := h
    have n2 := ok.m
    have n3 := ok.l
    have n1 := ok.pos
    refine ⟨_, pss_cons (ps_par (i := 2) (j := 3) (by rfl) scBent.nd rfl rfl (by decide) rfl rfl
          (pa_cons (pe_callTy call_list_of (by rfl) T.list bt_ty_list (pa_cons (pe_ix ix_tup (pv 1) pe_int (fun _ _ => rfl)) pa_nil))
            (pa_cons (pe_callTy call_list_of (by rfl) T.list bt_ty_list (pa_cons (pe_ix ix_tup (pv 1) pe_int (fun _ _ => rfl)) pa_nil)) pa_nil)) (by rfl))
      (pss_cons (ps_set (i := 4) scBent.nd rfl (.inl rfl) (pe_callB call_len_seq (by rfl) T.len bt_len (pa_cons (pv 2) pa_nil)))
      (pss_cons (ps_for PassesOwn.never rfl (pi_range1 (by rfl) T.range (pa_cons (pe_op op_add pe_int (pe_op op_mod (pe_callTy call_int1 (by rfl) T.int bt_ty_int (pa_cons (pe_cal C hr (by rfl) (pa_cons (pv 0) pa_nil)) pa_nil)) pe_int)) pa_nil)) (pg_name (i := 5) scBent.nd rfl (.inl rfl))
        (pss_cons (ps_set (i := 6) scBent.nd rfl (.inl rfl) (pe_op op_mod (pe_callTy call_int1 (by rfl) T.int bt_ty_int (pa_cons (pe_cal C hr (by rfl) (pa_cons (pv 0) pa_nil)) pa_nil)) (pv 4)))
        (pss_one (ps_if (pt_cmpR op_eq (pe_op op_mod (pe_callTy call_int1 (by rfl) T.int bt_ty_int (pa_cons (pe_cal C hr (by rfl) (pa_cons (pv 0) pa_nil)) pa_nil)) pe_int) pe_int (nomark _))
          (pss_one (ps_asg (pe_op op_mod (pe_callTy call_int1 (by rfl) T.int bt_ty_int (pa_cons (pe_cal C hr (by rfl) (pa_cons (pv 0) pa_nil)) pa_nil)) (pe_op op_add (pv 6) pe_int)) (pg_sub (pv 2) (pv 6) set_list)))
          (pss_one (ps_asg (pe_op op_add (pe_op op_add (pv 6) pe_int) (pe_op op_mod (pe_callTy call_int1 (by rfl) T.int bt_ty_int (pa_cons (pe_cal C hr (by rfl) (pa_cons (pv 0) pa_nil)) pa_nil)) (pe_op op_sub (pv 4) (pv 6)))) (pg_sub (pv 3) (pv 6) set_list)))))))
      (pss_one (ps_ret (pe_tup (pa_cons (pv 2) (pa_cons (pv 3) pa_nil))))))), ?_⟩
    refine ⟨.ref t, rfl, t, _, 0, .ref a, rfl, rfl, SqT.of hT, atI_nat (j := 0) rfl, a, _, rfl, .inl (SqL.of hA), fun D nD => ?_⟩
    have s1 : Same H (upd H D (.lst (d.map V.int))) := same_new nD
    refine ⟨.ref t, rfl, t, _, 1, .ref b, rfl, rfl, SqT.of (s1 _ _ hT), atI_nat (j := 1) rfl, b, _, rfl, .inl (SqL.of (s1 _ _ hB)), fun U nU => ?_⟩
    have hD1 : LI (upd H D (.lst (d.map V.int))) D d := upd_same
    generalize upd H D (.lst (d.map V.int)) = H1 at s1 nU hD1
    have nDU : D ≠ U := ne_of_none hD1 nU
    have nU0 : H U = none := s1.free nU
    have npD : p ≠ D := dr.at nD
    have npU : p ≠ U := dr.at nU0
    have s2 : Same H (upd H1 U (.lst (u.map V.int))) := same_put s1 nU0
    have hU2 : LI (upd H1 U (.lst (u.map V.int))) U u := upd_same
    have hD2 : LI (upd H1 U (.lst (u.map V.int))) D d := same_new nU _ _ hD1
    refine ⟨.ref D, .ref U, rfl, ?_⟩
    have d2 : Dr (upd H1 U (.lst (u.map V.int))) p k := Same.dr s2 dr
    show tSeq _ _ _ _ (upd H1 U (.lst (u.map V.int)))
    generalize upd H1 U (.lst (u.map V.int)) = H2 at s2 hU2 hD2 d2
    refine ⟨.ref D, rfl, D, _, rfl, .inl (SqL.of hD2), ?_⟩
    rw [List.length_map]
    refine ⟨.ref p, rfl, p, k, rfl, d2, by omega, fun H3 r s3 d3 r0 => .inl ⟨r, rfl, r, 3, rfl, rfl, (show (0 : Int) < 3 by decide), 1, _, rfl, rfl, _, rfl, ?_⟩⟩
    have h30 := Int.emod_nonneg r (show (3 : Int) ≠ 0 by decide)
    have h31 := Int.emod_lt_of_pos r (show (0 : Int) < 3 by decide)
    refine ⟨by omega, by omega, for_range (lo := 0) (n := (1 + r % 3).toNat) (fun i σ H' => ∃ y5 y6 k' ds us, σ = [some (.ref p), some (.ref t), some (.ref D), some (.ref U), some (.int (d.length : Nat)), y5, y6] ∧ SB p H H' ∧ Dr H' p k' ∧ k' ≤ k + 1 + 3 * (i : Int) ∧ LI H' D ds ∧ LI H' U us ∧ OkP ds us ∧ ds.length = d.length) ?_ ?_ ?_⟩
    · exact ⟨none, none, k + 1, d, u, rfl, (SB.of s2).trans s3, d3, by omega, s3.li d2 hD2, s3.li d2 hU2, ok, rfl⟩
    · rintro i σ H' hi ⟨y5, y6, k', ds, us, rfl, sb, dr', hk', hD', hU', ok', hl⟩
      have hi3 : (i : Int) < 3 := by omega
      have ol := ok'.l
      refine ⟨.ref p, rfl, p, k', rfl, dr', by omega, fun H4 x s4 d4 x0 => .inl ⟨x, rfl, _, rfl, x, _, rfl, rfl, by show 0 < ((d.length : Nat) : Int); omega, ?_⟩⟩
      have a0 := Int.emod_nonneg x (show ((d.length : Nat) : Int) ≠ 0 by omega)
      have a1 := Int.emod_lt_of_pos x (show 0 < ((d.length : Nat) : Int) by omega)
      obtain ⟨at_, ea⟩ : ∃ y, x % ((d.length : Nat) : Int) = y := ⟨_, rfl⟩
      rw [ea] at a0 a1
      refine ⟨.ref p, rfl, p, k' + 1, rfl, d4, by omega, fun H5 y s5 d5 y0 => .inl ⟨y, rfl, y, 2, rfl, rfl, (show (0 : Int) < 2 by decide), rfl, _, rfl, ?_⟩⟩
      have s05 := (sb.trans s4).trans s5
      have hD5 := s5.li d4 (s4.li dr' hD')
      have hU5 := s5.li d4 (s4.li dr' hU')
      refine ite2 (fun _ => ?_) (fun _ => ?_)
      · refine ⟨.ref p, rfl, p, k' + 1 + 1, rfl, d5, by omega, fun H6 z s6 d6 z0 => .inl ⟨z, rfl, _, congrArg (fun q => some (some (V.int q))) ea, at_, 1, rfl, rfl, z, at_ + 1, rfl, rfl, by show 0 < at_ + 1; omega, ?_⟩⟩
        have h0 := Int.emod_nonneg z (show at_ + 1 ≠ 0 by omega)
        have h1 := Int.emod_lt_of_pos z (show 0 < at_ + 1 by omega)
        have hD6 := s6.li d5 hD5
        have hU6 := s6.li d5 hU5
        refine ⟨.ref D, rfl, _, congrArg (fun q => some (some (V.int q))) ea, D, _, at_, at_.toNat, rfl, rfl, hD6, ?_, ?_⟩
        · rw [List.length_map]
          exact ix0 a0 (by omega)
        · refine ⟨_, _, k' + 1 + 1 + 1, ds.set at_.toNat (z % (at_ + 1)), us, rfl, SB.put (s05.trans s6) nD, d6.put npD, by omega, ?_, ?_, ⟨okD_set0 ok'.dn (by omega) h0 (by omega), ok'.up, by rw [List.length_set]; exact ol, by rw [List.length_set]; omega⟩, by rw [List.length_set]; exact hl⟩
          · show upd H6 D _ D = _
            rw [upd_same, ← List.map_set]
          · show upd H6 D _ U = _
            rw [upd_ne nDU.symm]
            exact hU6
      · refine ⟨_, congrArg (fun q => some (some (V.int q))) ea, at_, 2, rfl, rfl, .ref p, rfl, p, k' + 1 + 1, rfl, d5, by omega, fun H6 z s6 d6 z0 => .inl ⟨z, rfl, _, rfl, _, congrArg (fun q => some (some (V.int q))) ea, _, at_, rfl, rfl, z, ((d.length : Nat) : Int) - at_, rfl, rfl, by show 0 < ((d.length : Nat) : Int) - at_; omega, at_ + 2, _, rfl, rfl, ?_⟩⟩
        have h0 := Int.emod_nonneg z (show ((d.length : Nat) : Int) - at_ ≠ 0 by omega)
        have h1 := Int.emod_lt_of_pos z (show 0 < ((d.length : Nat) : Int) - at_ by omega)
        have hD6 := s6.li d5 hD5
        have hU6 := s6.li d5 hU5
        refine ⟨.ref U, rfl, _, congrArg (fun q => some (some (V.int q))) ea, U, _, at_, at_.toNat, rfl, rfl, hU6, ?_, ?_⟩
        · rw [List.length_map]
          exact ix0 a0 (by omega)
        · refine ⟨_, _, k' + 1 + 1 + 1, ds, us.set at_.toNat (at_ + 2 + z % (((d.length : Nat) : Int) - at_)), rfl, SB.put (s05.trans s6) nU0, d6.put npU, by omega, ?_, ?_, ⟨ok'.dn, okU_set0 ok'.up (by omega) (by omega) (by omega), by rw [List.length_set]; exact ol, ok'.m⟩, hl⟩
          · show upd H6 U _ D = _
            rw [upd_ne nDU]
            exact hD6
          · show upd H6 U _ U = _
            rw [upd_same, ← List.map_set]
    · rintro σ H' ⟨y5, y6, k', ds, us, rfl, sb, dr', hk', hD', hU', ok', hl⟩
      refine ⟨.ref D, rfl, .ref U, rfl, by show 2 ≤ sizeLine; decide, fun z nz => ?_⟩
      have z0 := sb.free dr' nz
      exact q _ _ ds us k' (SB.put sb z0) (dr'.put (dr'.at nz)) (by omega) z0 (pr_two hD' hU' nz) ok' hl
end
end Lk
namespace Lk
open PySem PySem.Spec PyProof.Rows L2
theorem scTree : FnScope ["_law_draws_here", "_law_many", "_law_ahead", "_law_behind", "_law_left", "_law_low", "_law_high", "_law_pick", "_law_root"] ["_law_draws_here", "_law_many"] (defScope sTree) := ⟨rfl, rfl, rfl, by decide +kernel, rfl, by decide +kernel, by decide +kernel⟩
/-! ### the stretches that are left -/
def tot : List (Int × Int) → Int
  | [] => 0
  | m :: ms => (m.2 - m.1 + 1) + tot ms
theorem tot_app : ∀ a b : List (Int × Int), tot (a ++ b) = tot a + tot b
  | [], b => by
    show tot b = 0 + tot b
    omega
  | m :: a, b => by
    show (m.2 - m.1 + 1) + tot (a ++ b) = (m.2 - m.1 + 1) + tot a + tot b
    rw [tot_app a b]
    omega
def InR (n : Nat) (ms : List (Int × Int)) : Prop := ∀ m ∈ ms, 1 ≤ m.1 ∧ m.1 ≤ m.2 ∧ m.2 ≤ (n : Int)
theorem len_tot {n : Nat} : ∀ {ms : List (Int × Int)}, InR n ms → (ms.length : Int) ≤ tot ms
  | [], _ => Int.le_refl _
  | m :: ms, h => by
    have h1 := h m List.mem_cons_self
    have h2 := len_tot (ms := ms) fun x hx => h x (List.mem_cons_of_mem _ hx)
    show ((ms.length + 1 : Nat) : Int) ≤ (m.2 - m.1 + 1) + tot ms
    omega
def Cov (n : Nat) (ds us : List Int) (ms : List (Int × Int)) : Prop := ∀ j : Nat, j < n → (0 ≤ ds.getD j 0 ∧ ds.getD j 0 ≤ (j : Int) ∧ (j : Int) + 2 ≤ us.getD j 0 ∧ us.getD j 0 ≤ (n : Int) + 1) ∨ ∃ m ∈ ms, m.1 ≤ (j : Int) + 1 ∧ (j : Int) + 1 ≤ m.2
def cutL (lo root : Int) : List (Int × Int) := if decide (lo < root) = true then [(lo, root - 1)] else []
def cutR (root hi : Int) : List (Int × Int) := if decide (root < hi) = true then [(root + 1, hi)] else []
theorem cutL_tot {lo root : Int} (h : lo ≤ root) : tot (cutL lo root) = root - lo := by
  unfold cutL
  by_cases e : lo < root
  · rw [if_pos (decide_eq_true e)]
    show (root - 1 - lo + 1) + 0 = _
    omega
  · rw [if_neg (by rw [decide_eq_false e]; exact Bool.false_ne_true)]
    show (0 : Int) = _
    omega
theorem cutR_tot {root hi : Int} (h : root ≤ hi) : tot (cutR root hi) = hi - root := by
  unfold cutR
  by_cases e : root < hi
  · rw [if_pos (decide_eq_true e)]
    show (hi - (root + 1) + 1) + 0 = _
    omega
  · rw [if_neg (by rw [decide_eq_false e]; exact Bool.false_ne_true)]
    show (0 : Int) = _
    omega
theorem cutL_in {n : Nat} {lo root hi : Int} (h0 : 1 ≤ lo) (h2 : root ≤ hi) (h3 : hi ≤ (n : Int)) : InR n (cutL lo root) := fun m hm => by
  unfold cutL at hm
  by_cases e : lo < root
  · rw [if_pos (decide_eq_true e)] at hm
    have em : m = (lo, root - 1) := by simpa using hm
    subst em
    exact ⟨h0, by show lo ≤ root - 1; omega, by show root - 1 ≤ _; omega⟩
  · rw [if_neg (by rw [decide_eq_false e]; exact Bool.false_ne_true)] at hm
    cases hm
theorem cutR_in {n : Nat} {lo root hi : Int} (h0 : 1 ≤ lo) (h2 : lo ≤ root) (h3 : hi ≤ (n : Int)) : InR n (cutR root hi) := fun m hm => by
  unfold cutR at hm
  by_cases e : root < hi
  · rw [if_pos (decide_eq_true e)] at hm
    have em : m = (root + 1, hi) := by simpa using hm
    subst em
    exact ⟨by show 1 ≤ root + 1; omega, by show root + 1 ≤ hi; omega, h3⟩
  · rw [if_neg (by rw [decide_eq_false e]; exact Bool.false_ne_true)] at hm
    cases hm
theorem cov_step {n : Nat} {ds us : List Int} {ms : List (Int × Int)} {lo root hi : Int} (ld : ds.length = n) (lu : us.length = n) (h0 : 1 ≤ lo) (h1 : lo ≤ root) (h2 : root ≤ hi) (h3 : hi ≤ (n : Int)) (c : Cov n ds us (ms ++ [(lo, hi)])) :
    Cov n (ds.set (root - 1).toNat (lo - 1)) (us.set (root - 1).toNat (hi + 1)) (ms ++ cutL lo root ++ cutR root hi) := by
  intro j hj
  rw [getD_set _ _ _ _ (by omega), getD_set _ _ _ _ (by omega)]
  by_cases e : (root - 1).toNat = j
  · rw [if_pos e, if_pos e]
    exact .inl (by omega)
  · rw [if_neg e, if_neg e]
    rcases c j hj with h | ⟨m, hm, a, b⟩
    · exact .inl h
    · rcases List.mem_append.mp hm with hm | hm
      · exact .inr ⟨m, List.mem_append_left _ (List.mem_append_left _ hm), a, b⟩
      · have em : m = (lo, hi) := by simpa using hm
        subst em
        have a : lo ≤ (j : Int) + 1 := a
        have b : (j : Int) + 1 ≤ hi := b
        by_cases f : (j : Int) + 1 < root
        · refine .inr ⟨(lo, root - 1), List.mem_append_left _ (List.mem_append_right _ ?_), a, by show (j : Int) + 1 ≤ root - 1; omega⟩
          unfold cutL
          rw [if_pos (decide_eq_true (by omega))]
          exact List.mem_cons_self
        · refine .inr ⟨(root + 1, hi), List.mem_append_right _ ?_, by show root + 1 ≤ (j : Int) + 1; omega, b⟩
          unfold cutR
          rw [if_pos (decide_eq_true (by omega))]
          exact List.mem_cons_self
theorem cov_done {n : Nat} {ds us : List Int} (ld : ds.length = n) (lu : us.length = n) (n1 : 1 ≤ n) (n2 : n ≤ 16) (c : Cov n ds us []) : OkP ds us := by
  have h : ∀ j : Nat, j < n → 0 ≤ ds.getD j 0 ∧ ds.getD j 0 ≤ (j : Int) ∧ (j : Int) + 2 ≤ us.getD j 0 ∧ us.getD j 0 ≤ (n : Int) + 1 := fun j hj => by
    rcases c j hj with h | ⟨m, hm, _⟩
    · exact h
    · cases hm
  refine ⟨fun i hi => ?_, ⟨by omega, fun i hi => ?_⟩, by omega, by omega⟩
  · have := h i (by omega)
    exact ⟨this.1, this.2.1⟩
  · have := h i (by omega)
    rw [lu]
    exact ⟨this.2.2.1, this.2.2.2⟩
theorem pDs_nil (ms : List (Int × Int)) : PyData.eqv (.list (ms.map pD)) (.list []) = decide (ms = []) := by
  cases ms with
  | nil => simp [PyData.eqv, PyData.eqvAll]
  | cons m ms => simp [PyData.eqv, PyData.eqvAll]
theorem nil_shaped : SeqAt.shaped (.list []) = true := pDs_shaped []
theorem rep_zero (n : Nat) : (List.replicate n [V.int 0]).flatten = (List.replicate n (0 : Int)).map V.int := by
  induction n with
  | zero => rfl
  | succ n ih =>
    rw [List.replicate_succ, List.replicate_succ, List.flatten_cons, ih]
    rfl
theorem Tps.last {H : Hp} : ∀ {ts : List Addr} {ms : List (Int × Int)} {m : Int × Int}, Tps H ts (ms ++ [m]) → ∃ ts0 t, ts = ts0 ++ [t] ∧ Tps H ts0 ms ∧ H t = some (.tup [.int m.1, .int m.2])
  | _, [], m, h => by
    cases h with
    | cons a b =>
      cases b
      exact ⟨[], _, rfl, .nil, a⟩
  | _, n :: ms, m, h => by
    cases h with
    | cons a b =>
      obtain ⟨ts0, t, rfl, h2, h3⟩ := Tps.last b
      exact ⟨_ :: ts0, t, rfl, .cons a h2, h3⟩
theorem rep_one (b : Bool) (t : Addr) : (List.replicate ((if b = true then (1 : Int) else 0)).toNat [V.ref t]).flatten = ((if b = true then [t] else []).map V.ref) := by cases b <;> rfl
theorem tps_one {H : Hp} (b : Bool) {t : Addr} {m : Int × Int} (h : H t = some (.tup [.int m.1, .int m.2])) : Tps H (if b = true then [t] else []) (if b = true then [m] else []) := by
  cases b with
  | true => exact .cons h .nil
  | false => exact .nil
theorem b2n (b : Bool) : -(2 ^ 63) ≤ (if b = true then (1 : Int) else 0) ∧ (if b = true then (1 : Int) else 0) < 2 ^ 63 ∧ 1 * (if b = true then (1 : Int) else 0).toNat ≤ sizeLine := by cases b <;> decide
theorem eq_snoc {α : Type} {ms : List α} (h : ms ≠ []) : ∃ ms0 m, ms = ms0 ++ [m] := ⟨ms.dropLast, ms.getLast h, (List.dropLast_concat_getLast h).symm⟩
section
variable {P : Program} {w : World} {K : PySem.W.Frag} {mg : Str → Option Value} {base : Heap} {f : Addr} {fd : FuncData}
theorem ok_tree (F : Fun K "_law_tree" "_law_tree" sTree f fd) (T : Bts mg) (C : Cal P w K mg base "_law_next" 1 ["_law_draws_here"] spNext) : FnOk P w K mg base CX0 2 f fd ["_law_draws_here", "_law_many"] spAny := by
  refine F.ok scTree (fun vs H Q E h => ?_) (fun cdv A outer s H vs Q E hr h => ?_)
  · obtain ⟨p, k, n, rfl, _⟩ := h
    rfl
  · obtain ⟨p, k, n, rfl, dr, hk, n1, n2, q⟩ := h
    have hu64 : (A.deeper (envOfC "_law_tree" (defScope sTree) s.heap.objs.size f cdv)).units + 64 < cLine := hr.units
    refine ⟨_, pss_cons (ps_set (i := 2) scTree.nd rfl (.inl rfl) (pe_op op_rep (pe_lst (pa_cons pe_int pa_nil)) (pv 1)))
      (pss_cons (ps_set (i := 3) scTree.nd rfl (.inl rfl) (pe_op op_rep (pe_lst (pa_cons pe_int pa_nil)) (pv 1)))
      (pss_cons (ps_set (i := 4) scTree.nd rfl (.inl rfl) (pe_lst (pa_cons (pe_tup (pa_cons pe_int (pa_cons (pv 1) pa_nil))) pa_nil)))
      (pss_cons (ps_while PassesOwn.never (pt_cmpR (op_neD hu64) (pv 4) (pe_lst pa_nil) (nomark _))
        (pss_cons (ps_asg (pe_bm0 PySem.F.plainAttrs_list PySem.F.slot_list_pop PySem.F.type_list_pop mt_pop (pv 4)) (pg_tup (by rfl) (pgs_cons (pg_name (i := 5) scTree.nd rfl (.inl rfl)) (pgs_cons (pg_name (i := 6) scTree.nd rfl (.inl rfl)) pgs_nil))))
        (pss_cons (ps_set (i := 7) scTree.nd rfl (.inl rfl) (pe_callTy call_int1 (by rfl) T.int bt_ty_int (pa_cons (pe_cal C hr (by rfl) (pa_cons (pv 0) pa_nil)) pa_nil)))
        (pss_cons (ps_set (i := 8) scTree.nd rfl (.inl rfl) (pe_op op_add (pv 5) (pe_op op_mod (pe_callTy call_int1 (by rfl) T.int bt_ty_int (pa_cons (pe_op op_fdiv (pv 7) pe_int) pa_nil)) (pe_op op_add (pe_op op_sub (pv 6) (pv 5)) pe_int))))
        (C8.pss_cut (ps_if (PW.pt (pw_or (pt_cmpR op_eq (pe_op op_mod (pv 7) pe_int) pe_int (nomark _)) (pw_or1 (pt_cmpR op_eq (pe_op op_mod (pv 7) pe_int) pe_int (nomark _)))))
          (pss_one (ps_set (i := 8) scTree.nd rfl (.inl rfl) (pe_ix ix_list (pe_lst (pa_cons (pv 5) (pa_cons (pv 6) pa_nil))) (pe_op op_mod (pe_callTy call_int1 (by rfl) T.int bt_ty_int (pa_cons (pv 7) pa_nil)) pe_int) (fun _ _ => rfl)))) pss_nil)
        (pss_cons (ps_asg (pe_op op_sub (pv 5) pe_int) (pg_sub (pv 2) (pe_op op_sub (pv 8) pe_int) set_list))
        (pss_cons (ps_asg (pe_op op_add (pv 6) pe_int) (pg_sub (pv 3) (pe_op op_sub (pv 8) pe_int) set_list))
        (pss_one (ps_set (i := 4) scTree.nd rfl (.inl rfl) (pe_op op_cat (pe_op op_cat (pv 4)
            (pe_op op_rep (pe_lst (pa_cons (pe_tup (pa_cons (pv 5) (pa_cons (pe_op op_sub (pv 8) pe_int) pa_nil))) pa_nil)) (pe_callTy call_int1 (by rfl) T.int bt_ty_int (pa_cons (pe_cmpR op_lt (pv 5) (pv 8) (nomark _)) pa_nil))))
            (pe_op op_rep (pe_lst (pa_cons (pe_tup (pa_cons (pe_op op_add (pv 8) pe_int) (pa_cons (pv 6) pa_nil))) pa_nil)) (pe_callTy call_int1 (by rfl) T.int bt_ty_int (pa_cons (pe_cmpR op_lt (pv 8) (pv 6) (nomark _)) pa_nil)))))))))))))
      (pss_one (ps_ret (pe_tup (pa_cons (pv 2) (pa_cons (pv 3) pa_nil)))))))), ?_⟩
    -- ahead
    refine ⟨by show 1 ≤ sizeLine; decide, fun z nz => ?_⟩
    have s1 : Same H (upd H z (.lst [.int 0])) := same_new nz
    refine ⟨.int (n : Nat), rfl, z, _, [.int 0], rfl, rfl, upd_same, by omega, by omega, ?_, fun A1 nA => ?_⟩
    · rw [show ((n : Nat) : Int).toNat = n from Int.toNat_natCast _]
      exact small100' (by show 1 * n ≤ 100; omega)
    rw [show ((n : Nat) : Int).toNat = n from Int.toNat_natCast _, rep_zero]
    have nA0 : H A1 = none := s1.free nA
    have s2 : Same H (upd (upd H z (.lst [.int 0])) A1 (.lst ((List.replicate n (0 : Int)).map V.int))) := same_put s1 nA0
    have hA2 : LI (upd (upd H z (.lst [.int 0])) A1 (.lst ((List.replicate n (0 : Int)).map V.int))) A1 (List.replicate n (0 : Int)) := upd_same
    generalize upd (upd H z (.lst [.int 0])) A1 (.lst ((List.replicate n (0 : Int)).map V.int)) = H2 at s2 hA2
    -- behind
    refine ⟨by show 1 ≤ sizeLine; decide, fun y ny => ?_⟩
    have s3 : Same H2 (upd H2 y (.lst [.int 0])) := same_new ny
    refine ⟨.int (n : Nat), rfl, y, _, [.int 0], rfl, rfl, upd_same, by omega, by omega, ?_, fun B1 nB => ?_⟩
    · rw [show ((n : Nat) : Int).toNat = n from Int.toNat_natCast _]
      exact small100' (by show 1 * n ≤ 100; omega)
    rw [show ((n : Nat) : Int).toNat = n from Int.toNat_natCast _, rep_zero]
    have nB2 : H2 B1 = none := s3.free nB
    have nB0 : H B1 = none := s2.free nB2
    have nAB : A1 ≠ B1 := ne_of_none hA2 nB2
    have s4 : Same H2 (upd (upd H2 y (.lst [.int 0])) B1 (.lst ((List.replicate n (0 : Int)).map V.int))) := same_put s3 nB2
    have hB4 : LI (upd (upd H2 y (.lst [.int 0])) B1 (.lst ((List.replicate n (0 : Int)).map V.int))) B1 (List.replicate n (0 : Int)) := upd_same
    generalize upd (upd H2 y (.lst [.int 0])) B1 (.lst ((List.replicate n (0 : Int)).map V.int)) = H4 at s4 hB4
    have hA4 : LI H4 A1 (List.replicate n (0 : Int)) := s4 _ _ hA2
    have s04 := s2.trans s4
    have npA : p ≠ A1 := dr.at nA0
    have npB : p ≠ B1 := dr.at nB0
    -- left
    refine ⟨.int (n : Nat), rfl, by show 2 ≤ sizeLine; decide, fun t0 nt0 => ?_⟩
    have s5 : Same H4 (upd H4 t0 (.tup [.int 1, .int (n : Nat)])) := same_new nt0
    have ht5 : upd H4 t0 (.tup [.int 1, .int (n : Nat)]) t0 = some (.tup [.int 1, .int (n : Nat)]) := upd_same
    refine ⟨by show 1 ≤ sizeLine; decide, fun L0 nL0 => ?_⟩
    generalize upd H4 t0 (.tup [.int 1, .int (n : Nat)]) = H5 at s5 ht5 nL0
    have s6 : Same H5 (upd H5 L0 (.lst [.ref t0])) := same_new nL0
    have hL6 : PL (upd H5 L0 (.lst [.ref t0])) L0 [(1, (n : Int))] := ⟨[t0], upd_same, .cons (s6 _ _ ht5) .nil⟩
    have s56 := s5.trans s6
    have s06 := s04.trans s56
    have nL00 : H L0 = none := s04.free (s5.free nL0)
    show tSeq _ _ _ _ (upd H5 L0 (.lst [.ref t0]))
    generalize upd H5 L0 (.lst [.ref t0]) = H6 at s6 hL6 s56 s06
    refine ⟨fun m σ H' => ∃ (L : Addr) (y5 y6 y7 y8 : Option V) (ds us : List Int) (ms : List (Int × Int)) (k' : Int), σ = [some (.ref p), some (.int (n : Nat)), some (.ref A1), some (.ref B1), some (.ref L), y5, y6, y7, y8] ∧
        m = (tot ms).toNat ∧ SB p H H' ∧ Dr H' p k' ∧ (k' + tot ms ≤ k + n ∧ tot ms ≤ (n : Int)) ∧ LI H' A1 ds ∧ LI H' B1 us ∧ H L = none ∧ PL H' L ms ∧ ds.length = n ∧ us.length = n ∧ InR n ms ∧ Cov n ds us ms, ?_, ?_⟩
    · refine ⟨_, L0, none, none, none, none, List.replicate n 0, List.replicate n 0, [(1, (n : Int))], k, rfl, rfl, SB.of s06, Same.dr s06 dr, ⟨?_, ?_⟩, s56 _ _ hA4, s56 _ _ hB4, nL00, hL6, List.length_replicate, List.length_replicate, ?_, ?_⟩
      · show k + (((n : Int) - 1 + 1) + 0) ≤ k + n
        omega
      · show ((n : Int) - 1 + 1) + 0 ≤ (n : Int)
        omega
      · intro m hm
        have em : m = (1, (n : Int)) := by simpa using hm
        subst em
        exact ⟨Int.le_refl _, by show (1 : Int) ≤ (n : Int); omega, Int.le_refl _⟩
      · intro j hj
        exact .inr ⟨(1, (n : Int)), List.mem_cons_self, by show (1 : Int) ≤ (j : Int) + 1; omega, by show (j : Int) + 1 ≤ (n : Int); omega⟩
    · rintro m σ H' ⟨L, y5, y6, y7, y8, ds, us, ms, k', rfl, rfl, sb, dr', ⟨hkt, htn⟩, hA', hB', nL, hL, ld, lu, inr, cov⟩
      have lt := len_tot inr
      have k0 : 0 ≤ k' := by
        obtain ⟨_, _, _, h, _⟩ := dr'
        exact h
      refine ⟨.ref L, rfl, Nat.zero_le _, fun e0 ne0 => ?_⟩
      have sE : Same H' (upd H' e0 (.lst [])) := same_new ne0
      refine ⟨_, _, dp_pl (Same.pl sE hL), .lst (SqL.of upd_same) .nil, pDs_shaped _, nil_shaped, _, rfl, ?_⟩
      rw [pDs_nil]
      have sb1 := sb.trans (SB.of sE)
      have dr1 := Same.dr sE dr'
      have hA1 : LI (upd H' e0 (.lst [])) A1 ds := sE _ _ hA'
      have hB1 : LI (upd H' e0 (.lst [])) B1 us := sE _ _ hB'
      have hL1 := Same.pl sE hL
      generalize upd H' e0 (.lst []) = H1 at sE sb1 dr1 hA1 hB1 hL1
      by_cases hms : ms = []
      · -- done
        subst hms
        rw [decide_eq_true rfl]
        refine iteF ⟨.ref A1, rfl, .ref B1, rfl, by show 2 ≤ sizeLine; decide, fun r nr => ?_⟩
        have r0 := sb1.free dr1 nr
        have ok := cov_done ld lu n1 n2 cov
        have tn : tot ([] : List (Int × Int)) = 0 := rfl
        exact q _ _ ds us k' (SB.put sb1 r0) (dr1.put (dr1.at nr)) (by omega) r0 (pr_two hA1 hB1 nr) ok ld
      · rw [decide_eq_false hms]
        obtain ⟨ms0, ⟨lo, hi⟩, rfl⟩ := eq_snoc hms
        obtain ⟨ts, hLs, hts⟩ := hL1
        obtain ⟨ts0, tl, rfl, hts0, htl⟩ := hts.last
        have hio := inr (lo, hi) (List.mem_append_right _ List.mem_cons_self)
        have lo1 : 1 ≤ lo := hio.1
        have lohi : lo ≤ hi := hio.2.1
        have hin : hi ≤ (n : Int) := hio.2.2
        have inr0 : InR n ms0 := fun x hx => inr x (List.mem_append_left _ hx)
        have ltt := tot_app ms0 [(lo, hi)]
        have ltt2 : tot [(lo, hi)] = (hi - lo + 1) + 0 := rfl
        have lt0 := len_tot inr0
        refine iteT ⟨fun σ' H2 => ∃ (L : Addr) (y5 y6 y7 y8 : Option V) (ds us : List Int) (ms : List (Int × Int)) (k2 : Int), σ' = [some (.ref p), some (.int (n : Nat)), some (.ref A1), some (.ref B1), some (.ref L), y5, y6, y7, y8] ∧
            tot ms + 1 = tot (ms0 ++ [(lo, hi)]) ∧ SB p H H2 ∧ Dr H2 p k2 ∧ (k2 + tot ms ≤ k + n ∧ tot ms ≤ (n : Int)) ∧ LI H2 A1 ds ∧ LI H2 B1 us ∧ H L = none ∧ PL H2 L ms ∧ ds.length = n ∧ us.length = n ∧ InR n ms ∧ Cov n ds us ms, ?_, ?_⟩
        · rintro σ' H2 ⟨L, y5, y6, y7, y8, ds, us, ms, k2, e1, e2, e3⟩
          have := len_tot e3.2.2.2.2.2.2.2.2.2.1
          exact ⟨(tot ms).toNat, by omega, L, y5, y6, y7, y8, ds, us, ms, k2, e1, rfl, e3⟩
        -- low, high = left.pop()
        refine ⟨.ref L, rfl, .inl ⟨rfl, _, SqL.of hLs⟩, L, _, .ref tl, rfl, rfl, hLs, ?_, ?_⟩
        · rw [List.map_append, List.length_append]
          show (ts0.map V.ref ++ [V.ref tl])[(ts0.map V.ref).length + 1 - 1]? = _
          rw [Nat.add_sub_cancel, List.getElem?_append_right (Nat.le_refl _), Nat.sub_self]
          rfl
        have edl : ((ts0 ++ [tl]).map V.ref).dropLast = ts0.map V.ref := by
          rw [List.map_append]
          exact List.dropLast_concat
        rw [edl]
        have nLA : A1 ≠ L := ne_of hA1 hLs fun z => by
          have e := HO.lst.inj z
          have l1 := congrArg List.length e
          rw [List.length_map] at l1
          cases ds with
          | nil => simp at ld; omega
          | cons x r =>
            cases ts0 with
            | nil => simp at e
            | cons a b => simp at e
        have nLB : B1 ≠ L := ne_of hB1 hLs fun z => by
          have e := HO.lst.inj z
          cases us with
          | nil => simp at lu; omega
          | cons x r =>
            cases ts0 with
            | nil => simp at e
            | cons a b => simp at e
        have npL : p ≠ L := dr.at nL
        have sb2 : SB p H (upd H1 L (.lst (ts0.map V.ref))) := SB.put sb1 nL
        have dr2 := dr1.put (o := .lst (ts0.map V.ref)) npL
        have tp2 : ∀ t x y, H1 t = some (.tup [x, y]) → upd H1 L (.lst (ts0.map V.ref)) t = some (.tup [x, y]) := fun t x y e => by
          rw [upd_ne (ne_of e hLs (by intro z; cases z))]
          exact e
        have hA2 : LI (upd H1 L (.lst (ts0.map V.ref))) A1 ds := by
          show upd H1 L _ A1 = _
          rw [upd_ne nLA]
          exact hA1
        have hB2 : LI (upd H1 L (.lst (ts0.map V.ref))) B1 us := by
          show upd H1 L _ B1 = _
          rw [upd_ne nLB]
          exact hB1
        have hL2 : PL (upd H1 L (.lst (ts0.map V.ref))) L ms0 := ⟨ts0, upd_same, hts0.mono tp2⟩
        have htl2 := tp2 _ _ _ htl
        generalize upd H1 L (.lst (ts0.map V.ref)) = H2 at sb2 dr2 hA2 hB2 hL2 htl2
        refine ⟨tl, _, rfl, SqT.of htl2, rfl, _, _, rfl, _, _, rfl, rfl, ?_⟩
        -- pick = int(next(draws))
        refine ⟨.ref p, rfl, p, k', rfl, dr2, by omega, fun H3 pk s3 d3 pk0 => .inl ⟨pk, rfl, ?_⟩⟩
        have sb3 := sb2.trans s3
        have hA3 := s3.li dr2 hA2
        have hB3 := s3.li dr2 hB2
        have hL3 := s3.pl dr2 hL2
        -- root = ..
        refine ⟨.int lo, rfl, .int pk, rfl, pk, 4, rfl, rfl, ⟨by decide, by decide⟩, .inl ⟨pk / 4, rfl, .int hi, rfl, .int lo, rfl, hi, lo, rfl, rfl, _, _, rfl, rfl, pk / 4, hi - lo + 1, rfl, rfl, by show 0 < hi - lo + 1; omega, lo, _, rfl, rfl, ?_⟩⟩
        have r0 := Int.emod_nonneg (pk / 4) (show hi - lo + 1 ≠ 0 by omega)
        have r1 := Int.emod_lt_of_pos (pk / 4) (show 0 < hi - lo + 1 by omega)
        -- if ..
        refine ⟨fun σ' H4 => ∃ root, lo ≤ root ∧ root ≤ hi ∧ σ' = [some (.ref p), some (.int (n : Nat)), some (.ref A1), some (.ref B1), some (.ref L), some (.int lo), some (.int hi), some (.int pk), some (.int root)] ∧ Same H3 H4, ?_, ?_⟩
        · obtain ⟨v, ev, hv⟩ := pick2 (a := lo) (b := hi) (Int.emod_nonneg pk (show (2 : Int) ≠ 0 by decide)) (Int.emod_lt_of_pos pk (show (0 : Int) < 2 by decide))
          refine ⟨.int pk, rfl, pk, 4, rfl, rfl, (show (0 : Int) < 4 by decide), rfl, _, rfl, ite2 (fun _ => iteT ?_) (fun _ => ?_)⟩
          · refine ⟨.int lo, rfl, .int hi, rfl, by show 2 ≤ sizeLine; decide, fun x nx => ?_⟩
            exact ⟨.int pk, rfl, .inl ⟨pk, rfl, pk, 2, rfl, rfl, (show (0 : Int) < 2 by decide), x, _, pk % 2, .int v, rfl, rfl, SqL.of upd_same, ev, v, by omega, by omega, rfl, same_new nx⟩⟩
          · refine ⟨.int pk, rfl, pk, 4, rfl, rfl, (show (0 : Int) < 4 by decide), rfl, _, rfl, ite2 (fun _ => ?_) (fun _ => ?_)⟩
            · refine ⟨.int lo, rfl, .int hi, rfl, by show 2 ≤ sizeLine; decide, fun x nx => ?_⟩
              exact ⟨.int pk, rfl, .inl ⟨pk, rfl, pk, 2, rfl, rfl, (show (0 : Int) < 2 by decide), x, _, pk % 2, .int v, rfl, rfl, SqL.of upd_same, ev, v, by omega, by omega, rfl, same_new nx⟩⟩
            · exact ⟨lo + pk / 4 % (hi - lo + 1), by omega, by omega, rfl, Same.refl _⟩
        · rintro σ' H4 ⟨root, ra, rb, rfl, s4⟩
          have sb4 := sb3.trans (SB.of s4)
          have d4 := Same.dr s4 d3
          have hA4 : LI H4 A1 ds := s4 _ _ hA3
          have hB4 : LI H4 B1 us := s4 _ _ hB3
          have hL4 := Same.pl s4 hL3
          -- ahead[root - 1] = low - 1
          refine ⟨.int lo, rfl, lo, 1, rfl, rfl, .ref A1, rfl, .int root, rfl, root, 1, rfl, rfl, A1, _, root - 1, (root - 1).toNat, rfl, rfl, hA4, ?_, ?_⟩
          · rw [List.length_map, ld]
            exact ix_of (by omega) (by omega)
          have sb5 : SB p H (upd H4 A1 (.lst ((ds.map V.int).set (root - 1).toNat (.int (lo - 1))))) := SB.put sb4 nA0
          have d5 := d4.put (o := .lst ((ds.map V.int).set (root - 1).toNat (.int (lo - 1)))) npA
          have hA5 : LI (upd H4 A1 (.lst ((ds.map V.int).set (root - 1).toNat (.int (lo - 1))))) A1 (ds.set (root - 1).toNat (lo - 1)) := by
            show upd H4 A1 _ A1 = _
            rw [upd_same, ← List.map_set]
          have hB5 : LI (upd H4 A1 (.lst ((ds.map V.int).set (root - 1).toNat (.int (lo - 1))))) B1 us := by
            show upd H4 A1 _ B1 = _
            rw [upd_ne nAB.symm]
            exact hB4
          have hL5 : PL (upd H4 A1 (.lst ((ds.map V.int).set (root - 1).toNat (.int (lo - 1))))) L ms0 := by
            obtain ⟨ts, a, b⟩ := hL4
            refine ⟨ts, by rw [upd_ne nLA.symm]; exact a, b.mono fun t x y e => ?_⟩
            rw [upd_ne (ne_of e hA4 (by intro z; cases z))]
            exact e
          show tSeq _ _ _ _ (upd H4 A1 (.lst ((ds.map V.int).set (root - 1).toNat (.int (lo - 1)))))
          generalize upd H4 A1 (.lst ((ds.map V.int).set (root - 1).toNat (.int (lo - 1)))) = H5 at sb5 d5 hA5 hB5 hL5
          -- behind[root - 1] = high + 1
          refine ⟨.int hi, rfl, hi, 1, rfl, rfl, .ref B1, rfl, .int root, rfl, root, 1, rfl, rfl, B1, _, root - 1, (root - 1).toNat, rfl, rfl, hB5, ?_, ?_⟩
          · rw [List.length_map, lu]
            exact ix_of (by omega) (by omega)
          have sb6 : SB p H (upd H5 B1 (.lst ((us.map V.int).set (root - 1).toNat (.int (hi + 1))))) := SB.put sb5 nB0
          have d6 := d5.put (o := .lst ((us.map V.int).set (root - 1).toNat (.int (hi + 1)))) npB
          have hB6 : LI (upd H5 B1 (.lst ((us.map V.int).set (root - 1).toNat (.int (hi + 1))))) B1 (us.set (root - 1).toNat (hi + 1)) := by
            show upd H5 B1 _ B1 = _
            rw [upd_same, ← List.map_set]
          have hA6 : LI (upd H5 B1 (.lst ((us.map V.int).set (root - 1).toNat (.int (hi + 1))))) A1 (ds.set (root - 1).toNat (lo - 1)) := by
            show upd H5 B1 _ A1 = _
            rw [upd_ne nAB]
            exact hA5
          have hL6 : PL (upd H5 B1 (.lst ((us.map V.int).set (root - 1).toNat (.int (hi + 1))))) L ms0 := by
            obtain ⟨ts, a, b⟩ := hL5
            refine ⟨ts, by rw [upd_ne nLB.symm]; exact a, b.mono fun t x y e => ?_⟩
            rw [upd_ne (ne_of e hB5 (by intro z; cases z))]
            exact e
          generalize upd H5 B1 (.lst ((us.map V.int).set (root - 1).toNat (.int (hi + 1)))) = H6 at sb6 d6 hB6 hA6 hL6
          -- left = left + .. + ..
          refine ⟨.ref L, rfl, .int lo, rfl, .int root, rfl, root, 1, rfl, rfl, by show 2 ≤ sizeLine; decide, fun t1 nt1 => ⟨by show 1 ≤ sizeLine; decide, fun l1 nl1 => ?_⟩⟩
          have s7 : Same H6 (upd H6 t1 (.tup [.int lo, .int (root - 1)])) := same_new nt1
          have ht7 : upd H6 t1 (.tup [.int lo, .int (root - 1)]) t1 = some (.tup [.int lo, .int (root - 1)]) := upd_same
          generalize upd H6 t1 (.tup [.int lo, .int (root - 1)]) = H7 at s7 ht7 nl1
          have s8 : Same H7 (upd H7 l1 (.lst [.ref t1])) := same_new nl1
          have hl8 : upd H7 l1 (.lst [.ref t1]) l1 = some (.lst [.ref t1]) := upd_same
          generalize upd H7 l1 (.lst [.ref t1]) = H8 at s8 hl8
          refine ⟨.int lo, rfl, .int root, rfl, lo, root, rfl, rfl, .inr ⟨decide (lo < root), rfl, l1, _, _, rfl, rfl, hl8, (b2n _).1, (b2n _).2.1, (b2n _).2.2, fun r1 nr1 => ?_⟩⟩
          rw [rep_one]
          have s9 : Same H8 (upd H8 r1 (.lst ((if decide (lo < root) = true then [t1] else []).map V.ref))) := same_new nr1
          have s69 := (s7.trans s8).trans s9
          have hr9 : PL (upd H8 r1 (.lst ((if decide (lo < root) = true then [t1] else []).map V.ref))) r1 (cutL lo root) := ⟨_, upd_same, tps_one _ (m := (lo, root - 1)) (s9 _ _ (s8 _ _ ht7))⟩
          generalize upd H8 r1 (.lst ((if decide (lo < root) = true then [t1] else []).map V.ref)) = H9 at s9 s69 hr9
          obtain ⟨tsL, hL9, htL9⟩ := Same.pl s69 hL6
          obtain ⟨tsR, hr9, htR9⟩ := hr9
          have lL : tsL.length ≤ 16 := by
            have := htL9.len
            omega
          have lR : tsR.length ≤ 16 := by
            have a := htR9.len
            have b := len_tot (cutL_in (n := n) lo1 rb hin)
            have c := cutL_tot ra
            omega
          refine ⟨L, r1, _, _, rfl, rfl, hL9, hr9, ?_, fun c1 nc1 => ?_⟩
          · rw [List.length_map, List.length_map]
            exact small100' (by omega)
          rw [← List.map_append]
          have s10 : Same H9 (upd H9 c1 (.lst ((tsL ++ tsR).map V.ref))) := same_new nc1
          have hc10 : PL (upd H9 c1 (.lst ((tsL ++ tsR).map V.ref))) c1 (ms0 ++ cutL lo root) := ⟨_, upd_same, (Same.tps s10 htL9).app (Same.tps s10 htR9)⟩
          have s6a := s69.trans s10
          generalize upd H9 c1 (.lst ((tsL ++ tsR).map V.ref)) = H10 at s10 hc10 s6a
          refine ⟨.int root, rfl, root, 1, rfl, rfl, .int hi, rfl, by show 2 ≤ sizeLine; decide, fun t2 nt2 => ⟨by show 1 ≤ sizeLine; decide, fun l2 nl2 => ?_⟩⟩
          have s11 : Same H10 (upd H10 t2 (.tup [.int (root + 1), .int hi])) := same_new nt2
          have ht11 : upd H10 t2 (.tup [.int (root + 1), .int hi]) t2 = some (.tup [.int (root + 1), .int hi]) := upd_same
          generalize upd H10 t2 (.tup [.int (root + 1), .int hi]) = H11 at s11 ht11 nl2
          have s12 : Same H11 (upd H11 l2 (.lst [.ref t2])) := same_new nl2
          have hl12 : upd H11 l2 (.lst [.ref t2]) l2 = some (.lst [.ref t2]) := upd_same
          generalize upd H11 l2 (.lst [.ref t2]) = H12 at s12 hl12
          refine ⟨.int root, rfl, .int hi, rfl, root, hi, rfl, rfl, .inr ⟨decide (root < hi), rfl, l2, _, _, rfl, rfl, hl12, (b2n _).1, (b2n _).2.1, (b2n _).2.2, fun r2 nr2 => ?_⟩⟩
          rw [rep_one]
          have s13 : Same H12 (upd H12 r2 (.lst ((if decide (root < hi) = true then [t2] else []).map V.ref))) := same_new nr2
          have s103 := (s11.trans s12).trans s13
          have hr13 : PL (upd H12 r2 (.lst ((if decide (root < hi) = true then [t2] else []).map V.ref))) r2 (cutR root hi) := ⟨_, upd_same, tps_one _ (m := (root + 1, hi)) (s13 _ _ (s12 _ _ ht11))⟩
          generalize upd H12 r2 (.lst ((if decide (root < hi) = true then [t2] else []).map V.ref)) = H13 at s13 s103 hr13
          obtain ⟨tsC, hC13, htC13⟩ := Same.pl s103 hc10
          obtain ⟨tsQ, hr13, htQ13⟩ := hr13
          have lC : tsC.length ≤ 32 := by
            have a := htC13.len
            rw [List.length_append] at a
            have b := len_tot (cutL_in (n := n) lo1 rb hin)
            have c := cutL_tot ra
            omega
          have lQ : tsQ.length ≤ 16 := by
            have a := htQ13.len
            have b := len_tot (cutR_in (n := n) lo1 ra hin)
            have c := cutR_tot rb
            omega
          refine ⟨c1, r2, _, _, rfl, rfl, hC13, hr13, ?_, fun c2 nc2 => ?_⟩
          · rw [List.length_map, List.length_map]
            exact small100' (by omega)
          rw [← List.map_append]
          have s14 : Same H13 (upd H13 c2 (.lst ((tsC ++ tsQ).map V.ref))) := same_new nc2
          have hc14 : PL (upd H13 c2 (.lst ((tsC ++ tsQ).map V.ref))) c2 (ms0 ++ cutL lo root ++ cutR root hi) := ⟨_, upd_same, (Same.tps s14 htC13).app (Same.tps s14 htQ13)⟩
          have s6e := (s6a.trans s103).trans s14
          have nc20 : H c2 = none := (sb6.trans (SB.of (s6a.trans s103))).free (Same.dr (s6a.trans s103) d6) nc2
          have e1 := cutL_tot ra
          have e2 := cutR_tot rb
          have e3 := tot_app (ms0 ++ cutL lo root) (cutR root hi)
          have e4 := tot_app ms0 (cutL lo root)
          refine ⟨c2, _, _, _, _, _, _, _, k' + 1, rfl, by omega, sb6.trans (SB.of s6e), Same.dr s6e d6, ⟨by omega, by omega⟩, s6e _ _ hA6, s6e _ _ hB6, nc20, hc14, by rw [List.length_set]; exact ld, by rw [List.length_set]; exact lu, fun x hx => ?_, cov_step ld lu lo1 ra rb hin cov⟩
          rcases List.mem_append.mp hx with hx | hx
          · rcases List.mem_append.mp hx with hx | hx
            · exact inr0 x hx
            · exact cutL_in lo1 rb hin x hx
          · exact cutR_in lo1 ra hin x hx
end
end Lk
namespace Lk
open PySem PySem.Spec PyProof.Rows L2
/-! ### what repr is asked of -/
def iD (ns : List Int) : PyData := .list (ns.map PyData.int)
def rD (d u a c : List Int) : PyData := .list [.tuple [iD d, iD u], iD a, iD c]
def Sml (ns : List Int) : Prop := ∀ v ∈ ns, v.natAbs < 10 ^ 20
theorem log_lt {n k : Nat} (h : n < 2 ^ k) (hk : 0 < k) : n.log2 < k := by
  by_cases h0 : n = 0
  · subst h0
    rw [Nat.log2_zero]
    exact hk
  · exact (Nat.log2_lt h0).mpr h
theorem show_ints : ∀ {ns : List Int}, Sml ns → PyData.showableAll (ns.map PyData.int) = true
  | [], _ => by simp only [List.map_nil, PyData.showableAll]
  | v :: ns, h => by
    have h1 := h v List.mem_cons_self
    have h2 : v.natAbs < 2 ^ 1919 := Nat.lt_trans h1 (by decide)
    have h3 := log_lt h2 (by decide)
    have h4 := show_ints (ns := ns) fun x hx => h x (List.mem_cons_of_mem _ hx)
    simp only [List.map_cons, PyData.showableAll, PyData.showable, Bool.and_eq_true, decide_eq_true_eq]
    exact ⟨by omega, h4⟩
theorem nod_ints : ∀ ns : List Int, PyData.hasDictAll (ns.map PyData.int) = false
  | [] => by simp only [List.map_nil, PyData.hasDictAll]
  | v :: ns => by simp only [List.map_cons, PyData.hasDictAll, PyData.hasDict, nod_ints ns, Bool.or_self]
theorem dep_ints : ∀ ns : List Int, PyData.depthAll (ns.map PyData.int) = 0
  | [] => by simp only [List.map_nil, PyData.depthAll]
  | v :: ns => by simp only [List.map_cons, PyData.depthAll, PyData.depth, dep_ints ns, Nat.max_self]
theorem len_ints : ∀ {ns : List Int}, Sml ns → ((PyData.shownAll (ns.map PyData.int)).map (·.length)).sum ≤ 21 * ns.length ∧ (PyData.shownAll (ns.map PyData.int)).length = ns.length
  | [], _ => by simp [PyData.shownAll]
  | v :: ns, h => by
    have h1 := int_text_length_le10 (k := 20) (by decide) (h v List.mem_cons_self)
    have h2 := len_ints (ns := ns) fun x hx => h x (List.mem_cons_of_mem _ hx)
    have e : (PyData.shown (.int v)).length = (toString v).length := by
      show (Str.ofString (toString v)).length = _
      rw [PySem.ofString_length]
    simp only [List.map_cons, PyData.shownAll, List.sum_cons, List.length_cons]
    rw [e]
    omega
theorem len_iD {ns : List Int} (h : Sml ns) (hl : ns.length ≤ 16) : (iD ns).shown.length ≤ 400 := by
  obtain ⟨h1, h2⟩ := len_ints h
  have h3 := listText_len_le (PyData.shownAll (ns.map PyData.int))
  have e : (iD ns).shown = listText (PyData.shownAll (ns.map PyData.int)) := by simp only [iD, PyData.shown]
  rw [e]
  omega
theorem rD_show {d u a c : List Int} (hd : Sml d) (hu : Sml u) (ha : Sml a) (hc : Sml c) : (rD d u a c).showable = true := by
  simp only [rD, iD, PyData.showable, PyData.showableAll, show_ints hd, show_ints hu, show_ints ha, show_ints hc, Bool.and_self]
theorem rD_nod (d u a c : List Int) : (rD d u a c).hasDict = false := by
  simp only [rD, iD, PyData.hasDict, PyData.hasDictAll, nod_ints, Bool.or_self]
theorem rD_dep (d u a c : List Int) : (rD d u a c).depth ≤ 60 := by
  simp only [rD, iD, PyData.depth, PyData.depthAll, dep_ints]
  decide
theorem rD_len {d u a c : List Int} (hd : Sml d) (hu : Sml u) (ha : Sml a) (hc : Sml c) (ld : d.length ≤ 16) (lu : u.length ≤ 16) (la : a.length ≤ 16) (lc : c.length ≤ 16) : (rD d u a c).shown.length ≤ sizeLine := by
  have h1 := len_iD hd ld
  have h2 := len_iD hu lu
  have h3 := len_iD ha la
  have h4 := len_iD hc lc
  have h5 := tupleText_len_le [(iD d).shown, (iD u).shown]
  have h6 := listText_len_le [tupleText [(iD d).shown, (iD u).shown], (iD a).shown, (iD c).shown]
  simp only [List.map_cons, List.map_nil, List.sum_cons, List.sum_nil, List.length_cons, List.length_nil] at h5 h6
  have e : (rD d u a c).shown = listText [tupleText [(iD d).shown, (iD u).shown], (iD a).shown, (iD c).shown] := by simp only [rD, PyData.shown, PyData.shownAll]
  rw [e, sizeLine_eq]
  omega
theorem dp_ints {K : PySem.W.Frag} {H : Hp} : ∀ ns : List Int, DpAll K H (ns.map V.int) (ns.map PyData.int)
  | [] => .nil
  | v :: ns => .cons (.int v) (dp_ints ns)
theorem dp_iD {K : PySem.W.Frag} {H : Hp} {a : Addr} {ns : List Int} (h : LI H a ns) : Dp K H (.ref a) (iD ns) := .lst (SqL.of h) (dp_ints ns)
theorem dp_rD {K : PySem.W.Frag} {H : Hp} {r t a c : Addr} {d u as cs : List Int} (hr : H r = some (.lst [.ref t, .ref a, .ref c])) (hP : Pr H t d u) (hA : LI H a as) (hC : LI H c cs) : Dp K H (.ref r) (rD d u as cs) := by
  obtain ⟨x, y, hT, hx, hy⟩ := hP
  exact .lst (SqL.of hr) (.cons (.tup (SqT.of hT) (.cons (dp_iD hx) (.cons (dp_iD hy) .nil))) (.cons (dp_iD hA) (.cons (dp_iD hC) .nil)))
theorem okd_sml {d : List Int} (h : OkD d) (hl : d.length ≤ 16) : Sml d := fun v hv => by
  obtain ⟨i, hi, e⟩ := List.getElem_of_mem hv
  have := h i hi
  rw [List.getD_eq_getElem?_getD, List.getElem?_eq_getElem hi] at this
  have e2 : (some d[i]).getD 0 = v := e
  rw [e2] at this
  have e3 : (10 : Nat) ^ 20 = 100000000000000000000 := by decide
  omega
theorem oku_sml {u : List Int} (h : OkU u) (hl : u.length ≤ 16) : Sml u := fun v hv => by
  obtain ⟨i, hi, e⟩ := List.getElem_of_mem hv
  have := h.2 i hi
  rw [List.getD_eq_getElem?_getD, List.getElem?_eq_getElem hi] at this
  have e2 : (some u[i]).getD 0 = v := e
  rw [e2] at this
  have e3 : (10 : Nat) ^ 20 = 100000000000000000000 := by decide
  omega

/-! ### a def where the way it is called is known: no repr is under way -/
structure FnAt (A : Around) (P : Program) (w : World) (K : PySem.W.Frag) (mg : Str → Option Value) (base : Heap) (f : Addr) (fd : FuncData) (ps : List Str) (sp : Sp) : Prop where
  long : ∀ vs H Q E, sp vs H Q E → vs.length = ps.length
  does : ∀ (o : List Env) (s : Shared) (H : Hp) (args : Args) (us : List Value) (vs : List V) (Q : VK), Env0 P w K mg base A o s H → BindsTo s fd args (ps.zip us) → Vals vs us → sp vs H Q E0 →
    codeAny (model P w) A (.call (.ref f) args) (CR CX0 o P w H s Q E0) s
theorem fun_at {P : Program} {w : World} {K : PySem.W.Frag} {mg : Str → Option Value} {base : Heap} {A : Around} {x qual : Str} {st : Stmt} {f : Addr} {fd : FuncData} {N ps : List Str} {k : Nat} {sp : Sp}
    (F : Fun K x qual st f fd) (S : FnScope N ps (defScope st)) (room : Room (k + 1) A) (long : ∀ vs H Q E, sp vs H Q E → vs.length = ps.length)
    (body : ∀ (cdv : Value) (o : List Env) (s : Shared) (H : Hp) (vs : List V) (Q : VK), Room k (A.deeper (envOfC qual (defScope st) s.heap.objs.size f cdv)) → sp vs H Q E0 →
      ∃ t, PSs (cxOf CX0 P w K mg base N qual (defScope st) f cdv A o s H E0).nox (defBody st) t ∧ t { nx := fun _ H' => Q .non H', rt := Q } (start N vs) H) : FnAt A P w K mg base f fd ps sp := by
  obtain ⟨oc, od, kV, doc, pm, an, cdv, ct, osl, rfl, found, code⟩ := F.ex
  refine ⟨long, fun o s H args us vs Q env binds rel want => ?_⟩
  have n := long _ _ _ _ want
  have kin : K.In s.heap := env.mod.kin.keeps fun b ob e => (env.bs b ob e).1
  have nolim : s.heap.NoLimit := env.mod.nolimit.keeps fun b ob e => (env.bs b ob e).1
  have kinds : ∀ y ∈ ps.zip us, (defScope st).names.lookup y.1 = some .local ∨
      ((defScope st).names.lookup y.1 = some .cell ∧ ((cellsFrom (s.heap.objs.size + 1) (defScope st).names []).lookup y.1).isSome = true) := by
    rintro ⟨nm, v⟩ hy
    rcases S.par nm (List.of_mem_zip hy).1 with z | z
    · exact .inl z
    · exact .inr ⟨z, PySem.W.cellsFrom_some _ _ _ (.inl z)⟩
  refine codeAny_call_function room.depth (kin _ _ found) rfl S.co S.gen rfl (PySem.W.codeRec_of kin code) (binds _ _ _ _ ?_)
  refine wpAny_newFunctionEnv_cells S.kind kinds fun en he s1 call => ?_
  subst he
  refine ⟨nolim.keeps call.toInCall.keep, codeAny_func ?_⟩
  obtain ⟨t, term, reading⟩ := body cdv o s H vs Q (room.deeper _) want
  have inv := inv_start (CX := CX0) (E := E0) (cd := cdv) (f := f) (qual := qual) S room.hd env n rel call
  refine wpAny_mono (term.nox.run [] s1 (start N vs) H _ inv reading) (fun flow s' q => ?_) fun e s' q => q
  cases flow with
  | ret u =>
    obtain ⟨v, σ', H', J, r, z⟩ := q
    exact ⟨v, H', J.os, J.bare, J.base, J.hok, r, z⟩
  | next =>
    obtain ⟨σ', H', J, z⟩ := q
    exact ⟨.non, H', J.os, J.bare, J.base, J.hok, rfl, z⟩
  | brk =>
    obtain ⟨_, _, _, z⟩ := q
    exact z.elim
  | cont =>
    obtain ⟨_, _, _, z⟩ := q
    exact z.elim
theorem pe_at {X : Cx} {f : Addr} {fd : FuncData} {ps : List Str} {sp : Sp} {x : Str} {p pos : Pos} {e : Expr} {es : List Expr} {t : TA} (G : FnAt X.A X.prog X.w X.K X.mg X.base f fd ps sp) (hg : Gl X x) (hm : X.mg x = some (.ref f))
    (hk : PySem.W.keepIn X.K (.ref f) = true) (hb : Binds X.K fd ps []) (ha : PA X (e :: es) t) (hdb : (x == ("__debug__" : Str)) = false := by decide)
    (he : starEach (e :: es) X.env = (false, eval e X.env) :: starEach es X.env := by rfl) (hpl : (backTo pos (starEach es X.env)).any (·.1) = false := by rfl) : PE X (.Call (.Name x p) (e :: es) [] pos) (tCall sp [] E0 t) := by
  refine ⟨fun pins s σ H Q I h => ?_⟩
  refine wpAny_Call_Name_kw (ld_glob I hg hm ?_ hdb)
  refine PySem.W.callWith_K (h₀ := X.base) I.ok.mod.kin hk (thn (ha.run pos pins s σ H _ I h) fun us s1 back => ?_) he hpl
  obtain ⟨vs, H1, I1, rel, want⟩ := back
  rw [List.append_nil] at want
  refine ⟨I1.kIn, ?_⟩
  have n : us.length = ps.length := by
    rw [← rel.length]
    exact G.long _ _ _ _ want
  have bd := hb s1 us I1.kIn (by rw [List.append_nil]; exact n)
  rw [List.append_nil] at bd
  refine wpAny_call (codeAny_mono (G.does X.stack s1 H1 ⟨us, []⟩ us vs Q I1.env0 bd rel want) fun res s' q => ?_)
  cases res with
  | error _ => exact False.elim q
  | ok flow =>
    cases flow with
    | ret u => exact I1.after q
    | next => exact q.elim
    | brk => exact q.elim
    | cont => exact q.elim
end Lk
namespace Lk
open PySem PySem.Spec PyProof.Rows L2
abbrev sPairR : Stmt := top 36
abbrev nsPairR : List Str := ["_law_draws_here", "_law_links", "_law_many", "_law_some", "_law_more", "_law_kept", "_law_own", "_law_here", "_law_turn", "_law_ahead", "_law_every", "_law_spot", "_law_after", "_law_one", "_law_two", "_law_gone", "_law_come"]
theorem scPairR : FnScope nsPairR ["_law_draws_here", "_law_links"] (defScope sPairR) := ⟨rfl, rfl, rfl, by decide +kernel, rfl, by decide +kernel, by decide +kernel⟩
def spPairR : Sp := fun vs H Q _ => ∃ (p t : Addr) (k : Int) (d u : List Int), vs = [.ref p, .ref t] ∧ Dr H p k ∧ k ≤ 50000 ∧ Pr H t d u ∧ OkP d u ∧ ∀ H' k', SB p H H' → Dr H' p k' → k' ≤ k + 40 → Q (.bl true) H'
theorem at_of {α : Type} {xs : List α} {i : Int} (h0 : 0 ≤ i) (h1 : i < (xs.length : Int)) : ∃ v, xs[i.toNat]? = some v ∧ atI xs i = some v := by
  have hl : i.toNat < xs.length := by omega
  refine ⟨xs[i.toNat], List.getElem?_eq_getElem hl, ?_⟩
  have q := atI_nat (xs := xs) (j := i.toNat) (List.getElem?_eq_getElem hl)
  rw [show ((i.toNat : Nat) : Int) = i by omega] at q
  exact q
theorem Fwd.okA {d u e v : List Int} {x y : Int} (F : Fwd d u e v x y) (h : d.length ≤ 16) : OkP e v := ⟨F.oe, F.ov, by have := F.l1; have := F.l2; have := F.l3; omega, by have := F.l2; omega⟩
theorem Fwd.okB {d u e v : List Int} {x y : Int} (F : Fwd d u e v x y) (h : e.length ≤ 16) : OkP d u := ⟨F.od, F.ou, F.l1, by have := F.l2; omega⟩
section
variable {P : Program} {w : World} {K : PySem.W.Frag} {mg : Str → Option Value} {base : Heap} {f : Addr} {fd : FuncData} {A : Around}
theorem ok_pairr (F : Fun K "_law_pair_right" "_law_pair_right" sPairR f fd) (T : Bts mg) (room : Room 6 A) (quiet : A.guards = some [])
    (CN : Cal P w K mg base "_law_numbers" 2 ["_law_draws_here", "_law_many"] spNumsL) (CPr : Cal P w K mg base "price" 4 ["pair", "asked", "changed"] spPrice) (CC : Cal P w K mg base "cells_of" 3 ["up", "values"] spFill)
    (CA : Cal P w K mg base "_law_asked_cells" 5 ["_law_links", "_law_some"] spAsked) (CT : Cal P w K mg base "turned" 4 ["pair"] spTurned) (CF : Cal P w K mg base "forward_moves" 4 ["pair"] spFwdIn)
    (CB : Cal P w K mg base "back_moves" 4 ["pair"] spBackIn) (CX : Cal P w K mg base "_law_next" 1 ["_law_draws_here"] spNext) (CM : Cal P w K mg base "moved" 4 ["pair", "move"] spMoved) :
    FnAt A P w K mg base f fd ["_law_draws_here", "_law_links"] spPairR := by
  refine fun_at F scPairR room (fun vs H Q E h => ?_) (fun cdv outer s H vs Q hr h => ?_)
  · obtain ⟨p, t, k, d, u, rfl, _⟩ := h
    rfl
  · obtain ⟨p, t, k, d, u, rfl, dr, hk, hP, ok, q⟩ := h
    have n2 := ok.m
    have n3 := ok.l
    have n1 := ok.pos
    have hg : (A.deeper (envOfC "_law_pair_right" (defScope sPairR) s.heap.objs.size f cdv)).guards = some [] := quiet
    have hu : (A.deeper (envOfC "_law_pair_right" (defScope sPairR) s.heap.objs.size f cdv)).units + 64 < cLine := hr.units
    have hu65 : (A.deeper (envOfC "_law_pair_right" (defScope sPairR) s.heap.objs.size f cdv)).units + 65 < cLine := by
      have := hr.un
      omega
    refine ⟨_, pss_cons (ps_set (i := 2) scPairR.nd rfl (.inl rfl) (pe_callB call_len_seq (by rfl) T.len bt_len (pa_cons (pe_ix ix_tup (pv 1) pe_int (fun _ _ => rfl)) pa_nil)))
      (pss_cons (ps_par (i := 3) (j := 4) (by rfl) scPairR.nd rfl rfl (by decide) rfl rfl (pa_cons (pe_cal CN hr (by rfl) (pa_cons (pv 0) (pa_cons (pv 2) pa_nil))) (pa_cons (pe_cal CN hr (by rfl) (pa_cons (pv 0) (pa_cons (pv 2) pa_nil))) pa_nil)) (by rfl))
      (pss_cons (ps_set (i := 5) scPairR.nd rfl (.inl rfl) (pe_callB (call_reprD hg hu) (by rfl) T.repr bt_repr (pa_cons (pe_lst (pa_cons (pv 1) (pa_cons (pv 3) (pa_cons (pv 4) pa_nil)))) pa_nil)))
      (pss_cons (ps_set (i := 6) scPairR.nd rfl (.inl rfl) (pe_cal CPr hr (by rfl) (pa_cons (pv 1) (pa_cons (pv 3) (pa_cons (pv 4) pa_nil)))))
      (pss_cons (ps_if (PW.pt (pw_or (pt_cmpR op_ne (pe_callB (call_reprD hg hu) (by rfl) T.repr bt_repr (pa_cons (pe_lst (pa_cons (pv 1) (pa_cons (pv 3) (pa_cons (pv 4) pa_nil)))) pa_nil)) (pv 5) (nomark _))
          (pw_or1 (pt_cmpR op_ne (pv 6) (pe_op op_add (pe_callB (cr_sum rfl) (by rfl) T.sum bt_sum (pa_cons (pe_cal CC hr (by rfl) (pa_cons (pe_ix ix_tup (pv 1) pe_int (fun _ _ => rfl)) (pa_cons (pv 4) pa_nil))) pa_nil))
            (pe_callB (cr_sum rfl) (by rfl) T.sum bt_sum (pa_cons (pe_cal CA hr (by rfl) (pa_cons (pv 1) (pa_cons (pv 3) pa_nil))) pa_nil))) (nomark _)))))
        (pss_one ps_never) pss_nil)
      (pss_cons (ps_if (PW.pt (pw_or (pt_cmpR op_ne (pe_cal CPr hr (by rfl) (pa_cons (pe_cal CT hr (by rfl) (pa_cons (pv 1) pa_nil)) (pa_cons (pe_revL (pv 4)) (pa_cons (pe_revL (pv 3)) pa_nil)))) (pv 6) (nomark _))
          (pw_or1 (pt_cmpR op_ne (pe_callB (call_reprD hg hu) (by rfl) T.repr bt_repr (pa_cons (pe_lst (pa_cons (pv 1) (pa_cons (pv 3) (pa_cons (pv 4) pa_nil)))) pa_nil)) (pv 5) (nomark _)))))
        (pss_one ps_never) pss_nil)
      (pss_cons (ps_set (i := 7) scPairR.nd rfl (.inl rfl) (pv 1))
      (pss_cons (ps_for PassesOwn.never rfl (pi_range1 (by rfl) T.range (pa_cons pe_int pa_nil)) (pg_name (i := 8) scPairR.nd rfl (.inl rfl))
        (pss_cons (ps_set (i := 9) scPairR.nd rfl (.inl rfl) (pe_cal CF hr (by rfl) (pa_cons (pv 7) pa_nil)))
        (pss_cons (ps_set (i := 10) scPairR.nd rfl (.inl rfl) (pe_op op_cat (pv 9) (pe_cal CB hr (by rfl) (pa_cons (pv 7) pa_nil))))
        (pss_cons (ps_if (pt_cmpR (op_eqD hu) (pv 10) (pe_lst pa_nil) (nomark _)) (pss_one (ps_ret pe_bl)) pss_nil)
        (pss_cons (ps_set (i := 11) scPairR.nd rfl (.inl rfl) (pe_ix ix_list (pv 10) (pe_op op_mod (pe_callTy call_int1 (by rfl) T.int bt_ty_int (pa_cons (pe_cal CX hr (by rfl) (pa_cons (pv 0) pa_nil)) pa_nil)) (pe_callB call_len_seq (by rfl) T.len bt_len (pa_cons (pv 10) pa_nil))) (fun _ _ => rfl)))
        (C8.pss_cut (ps_set (i := 12) scPairR.nd rfl (.inl rfl) (pe_cal CM hr (by rfl) (pa_cons (pv 7) (pa_cons (pv 11) pa_nil))))
        (C8.pss_cut (ps_asg (pe_ifExp (pt_cmpR (op_inD hu65) (pv 11) (pv 9) (by rfl)) (pe_tup (pa_cons (pv 7) (pa_cons (pv 12) pa_nil))) (pe_tup (pa_cons (pv 12) (pa_cons (pv 7) pa_nil))))
            (pg_tup (by rfl) (pgs_cons (pg_name (i := 13) scPairR.nd rfl (.inl rfl)) (pgs_cons (pg_name (i := 14) scPairR.nd rfl (.inl rfl)) pgs_nil))))
        (pss_cons (ps_set (i := 15) scPairR.nd rfl (.inl rfl) (pe_ix ix_list (pe_cal CC hr (by rfl) (pa_cons (pe_ix ix_tup (pv 13) pe_int (fun _ _ => rfl)) (pa_cons (pv 4) pa_nil))) (pe_op op_sub (pe_ix ix_tup (pv 11) pe_int (fun _ _ => rfl)) pe_int) (fun _ _ => rfl)))
        (pss_cons (ps_set (i := 16) scPairR.nd rfl (.inl rfl) (pe_ix ix_list (pe_cal CA hr (by rfl) (pa_cons (pv 14) (pa_cons (pv 3) pa_nil))) (pe_op op_sub (pe_ix ix_tup (pv 11) pe_int (fun _ _ => rfl)) pe_int) (fun _ _ => rfl)))
        (pss_cons (ps_if (pt_cmpR op_ne (pe_op op_sub (pe_cal CPr hr (by rfl) (pa_cons (pv 14) (pa_cons (pv 3) (pa_cons (pv 4) pa_nil)))) (pe_cal CPr hr (by rfl) (pa_cons (pv 13) (pa_cons (pv 3) (pa_cons (pv 4) pa_nil))))) (pe_op op_sub (pv 16) (pv 15)) (nomark _))
          (pss_one ps_never) pss_nil)
        (pss_one (ps_set (i := 7) scPairR.nd rfl (.inl rfl) (pv 12)))))))))))))
      (pss_one (ps_ret pe_bl))))))))), ?_⟩
    -- many
    obtain ⟨D, U, hT, hD, hU⟩ := id hP
    refine ⟨.ref t, rfl, t, _, 0, .ref D, rfl, rfl, SqT.of hT, atI_nat (j := 0) rfl, D, _, rfl, .inl (SqL.of hD), ?_⟩
    rw [List.length_map]
    -- some, more
    refine ⟨.ref p, rfl, _, rfl, p, k, d.length, rfl, dr, by omega, n2, fun H1 S qs k1 s1 d1 hk1 nS hS1 lqs bqs => ?_⟩
    refine ⟨.ref p, rfl, _, rfl, p, k1, d.length, rfl, d1, by omega, n2, fun H2 M cs k2 s2 d2 hk2 nM hM lcs bcs => ⟨_, _, rfl, ?_⟩⟩
    have s02 := s1.trans s2
    have hP2 := s02.pr dr hP
    have hS := s2.li d1 hS1
    have sd := okd_sml ok.dn n2
    have su := oku_sml ok.up (by omega)
    have e20 : (10 : Nat) ^ 20 = 100000000000000000000 := by decide
    have sq : Sml qs := fun v hv => by
      have := bqs v hv
      omega
    have sc : Sml cs := fun v hv => by
      have := bcs v hv
      omega
    have nq : ∀ v ∈ qs, 0 ≤ v := fun v hv => (bqs v hv).1
    have nc : ∀ v ∈ cs, 0 ≤ v := fun v hv => (bcs v hv).1
    have rs := rD_show sd su sq sc
    have rl := rD_len sd su sq sc n2 (by omega) (by omega) (by omega)
    -- kept
    refine ⟨.ref t, rfl, .ref S, rfl, .ref M, rfl, by show 3 ≤ sizeLine; decide, fun z nz => ?_⟩
    have s3 : Same H2 (upd H2 z (.lst [.ref t, .ref S, .ref M])) := same_new nz
    refine ⟨z, _, rfl, dp_rD upd_same (Same.pr s3 hP2) (Same.li s3 hS) (Same.li s3 hM), rs, rD_nod _ _ _ _, rD_dep _ _ _ _, rl, ?_⟩
    show tSeq _ _ _ _ (upd H2 z (.lst [.ref t, .ref S, .ref M]))
    generalize upd H2 z (.lst [.ref t, .ref S, .ref M]) = H3 at s3
    -- own
    refine ⟨.ref t, rfl, .ref S, rfl, .ref M, rfl, t, S, M, d, u, qs, cs, rfl, Same.pr s3 hP2, ok, Same.li s3 hS, Same.li s3 hM, lqs, lcs, nq, nc, fun H4 s4 => ?_⟩
    have s24 := s3.trans s4
    -- the first test
    refine ⟨.ref t, rfl, .ref S, rfl, .ref M, rfl, by show 3 ≤ sizeLine; decide, fun z2 nz2 => ?_⟩
    have s5 : Same H4 (upd H4 z2 (.lst [.ref t, .ref S, .ref M])) := same_new nz2
    have s25 := s24.trans s5
    refine ⟨z2, _, rfl, dp_rD upd_same (Same.pr s25 hP2) (Same.li s25 hS) (Same.li s25 hM), rs, rD_nod _ _ _ _, rD_dep _ _ _ _, rl, ?_⟩
    generalize upd H4 z2 (.lst [.ref t, .ref S, .ref M]) = H5 at s5 s25
    refine ⟨_, rfl, rfl, _, rfl, iteNS rfl ?_⟩
    obtain ⟨D5, U5, hT5, hD5, hU5⟩ := Same.pr s25 hP2
    refine ⟨_, rfl, .ref t, rfl, t, _, 1, .ref U5, rfl, rfl, SqT.of hT5, atI_nat (j := 1) rfl, .ref M, rfl, U5, M, u, cs, rfl, hU5, Same.li s25 hM, ok.up, by omega, by omega, fun H6 r6 s6 nr6 hr6 => ?_⟩
    have s26 := s25.trans s6
    refine ⟨r6, _, rfl, SqL.of hr6, .ref t, rfl, .ref S, rfl, t, S, d, u, qs, rfl, Same.pr s26 hP2, ok, Same.li s26 hS, lqs, fun H7 r7 s7 nr7 hr7 => ?_⟩
    have s27 := s26.trans s7
    refine ⟨r7, _, rfl, SqL.of hr7, _, _, rfl, rfl, rfl, _, rfl, iteNS (congrArg V.int (price_cells ok.dn ok.up n3 lqs lcs)) ?_⟩
    -- the second test
    refine ⟨.ref t, rfl, t, d, u, rfl, Same.pr s27 hP2, ok, fun H8 r8 s8 nr8 hr8 => ?_⟩
    have s28 := s27.trans s8
    refine ⟨.ref M, rfl, M, _, rfl, SqL.of (Same.li s28 hM), fun x9 nx9 => ?_⟩
    have s9 : Same H8 (upd H8 x9 (.lst (cs.map V.int).reverse)) := same_new nx9
    have hx9 : LI (upd H8 x9 (.lst (cs.map V.int).reverse)) x9 cs.reverse := by
      show upd H8 x9 _ x9 = _
      rw [upd_same, List.map_reverse]
    generalize upd H8 x9 (.lst (cs.map V.int).reverse) = H9 at s9 hx9
    have s29 := s28.trans s9
    refine ⟨.ref S, rfl, S, _, rfl, SqL.of (Same.li s29 hS), fun x10 nx10 => ?_⟩
    have s10 : Same H9 (upd H9 x10 (.lst (qs.map V.int).reverse)) := same_new nx10
    have hx10 : LI (upd H9 x10 (.lst (qs.map V.int).reverse)) x10 qs.reverse := by
      show upd H9 x10 _ x10 = _
      rw [upd_same, List.map_reverse]
    generalize upd H9 x10 (.lst (qs.map V.int).reverse) = H10 at s10 hx10
    have s2a := s29.trans s10
    have okT : OkP (flip u.length u) (flip d.length d) := ⟨okD_flip ok.up, okU_flip ok.dn n1, by rw [len_flip, len_flip, n3], by rw [len_flip]; omega⟩
    refine ⟨r8, x9, x10, flip u.length u, flip d.length d, cs.reverse, qs.reverse, rfl, Same.pr (s9.trans s10) hr8, okT, Same.li s10 hx9, hx10, by rw [List.length_reverse, len_flip]; omega, by rw [List.length_reverse, len_flip]; omega,
      fun v hv => nc v (List.mem_reverse.mp hv), fun v hv => nq v (List.mem_reverse.mp hv), fun H11 s11 => ?_⟩
    have s2b := s2a.trans s11
    refine ⟨_, rfl, rfl, _, rfl, iteNS (congrArg V.int (price_flip ok.dn ok.up n3 lqs lcs)) ?_⟩
    refine ⟨.ref t, rfl, .ref S, rfl, .ref M, rfl, by show 3 ≤ sizeLine; decide, fun z3 nz3 => ?_⟩
    have s12 : Same H11 (upd H11 z3 (.lst [.ref t, .ref S, .ref M])) := same_new nz3
    have s2c := s2b.trans s12
    refine ⟨z3, _, rfl, dp_rD upd_same (Same.pr s2c hP2) (Same.li s2c hS) (Same.li s2c hM), rs, rD_nod _ _ _ _, rD_dep _ _ _ _, rl, ?_⟩
    generalize upd H11 z3 (.lst [.ref t, .ref S, .ref M]) = H12 at s12 s2c
    refine ⟨_, rfl, rfl, _, rfl, iteNS rfl ?_⟩
    -- here = links; the moves
    refine ⟨_, rfl, 6, rfl, by decide, by decide, for_range (lo := 0) (n := 6) (fun i σ H' => ∃ (t2 : Addr) (e v : List Int) (k' : Int) (y2 y5 y6 y8 y9 y10 y11 y12 y13 y14 y15 y16 : Option V),
        σ = [some (.ref p), some (.ref t), y2, some (.ref S), some (.ref M), y5, y6, some (.ref t2), y8, y9, y10, y11, y12, y13, y14, y15, y16] ∧ SB p H H' ∧ Dr H' p k' ∧ k' ≤ k2 + (i : Int) ∧ Pr H' t2 e v ∧ OkP e v ∧ e.length = d.length ∧ LI H' S qs ∧ LI H' M cs) ?_ ?_ ?_⟩
    · exact ⟨t, d, u, k2, _, _, _, none, none, none, none, none, none, none, none, none, rfl, s02.trans (SB.of s2c), Same.dr s2c d2, by omega, Same.pr s2c hP2, ok, rfl, Same.li s2c hS, Same.li s2c hM⟩
    · rintro i σ Ha hi ⟨t2, e, v, k', y2, y5, y6, y8, y9, y10, y11, y12, y13, y14, y15, y16, rfl, sb, dra, hk', hPa, oka, hl, hSa, hMa⟩
      have l1 := oka.l
      have l2 := oka.m
      -- ahead
      refine ⟨.ref t2, rfl, t2, e, v, rfl, hPa, oka, fun Hb Ah sB nAh hAh => ?_⟩
      -- every
      refine ⟨.ref Ah, rfl, .ref t2, rfl, t2, e, v, rfl, Same.pr sB hPa, oka, fun Hc Bk ms sC nBk hms hBk => ?_⟩
      have sAC := sB.trans sC
      have hAhc := Same.pl sC hAh
      obtain ⟨tsA, hA1, hA2⟩ := id hAhc
      obtain ⟨tsB, hB1, hB2⟩ := hBk
      have lA : tsA.length ≤ 16 := by
        have a := hA2.len
        have b := List.length_filter_le (fun m : Int × Int => decide (lk e m.1 = lk e m.2)) (someU v v.length)
        have c := someU_len v v.length
        have f1 : (fwdL e v).length ≤ (someU v v.length).length := b
        omega
      have lB : tsB.length ≤ 16 := by
        have a := hB2.len
        have b := List.length_filter_le (fun m : Int × Int => decide (lk v m.1 = lk v m.2)) (someD e e.length)
        have c := someD_len e e.length
        have f1 : (backL e v).length ≤ (someD e e.length).length := b
        have f2 := hms.length_eq
        omega
      refine ⟨Ah, Bk, _, _, rfl, rfl, hA1, hB1, ?_, fun Ev nEv => ?_⟩
      · rw [List.length_map, List.length_map]
        exact small100' (by omega)
      rw [← List.map_append]
      have sD : Same Hc (upd Hc Ev (.lst ((tsA ++ tsB).map V.ref))) := same_new nEv
      have hEv : upd Hc Ev (.lst ((tsA ++ tsB).map V.ref)) Ev = some (.lst ((tsA ++ tsB).map V.ref)) := upd_same
      have hTp : Tps (upd Hc Ev (.lst ((tsA ++ tsB).map V.ref))) (tsA ++ tsB) (fwdL e v ++ ms) := (Same.tps sD hA2).app (Same.tps sD hB2)
      show tSeq _ _ _ _ (upd Hc Ev (.lst ((tsA ++ tsB).map V.ref)))
      generalize upd Hc Ev (.lst ((tsA ++ tsB).map V.ref)) = Hd at sD hEv hTp
      have sAD := sAC.trans sD
      -- if every == []
      refine ⟨.ref Ev, rfl, Nat.zero_le _, fun e0 ne0 => ?_⟩
      have sE : Same Hd (upd Hd e0 (.lst [])) := same_new ne0
      refine ⟨_, _, dp_pl ⟨_, sE _ _ hEv, Same.tps sE hTp⟩, .lst (SqL.of upd_same) .nil, pDs_shaped _, nil_shaped, _, rfl, ?_⟩
      rw [pDs_nil]
      generalize upd Hd e0 (.lst []) = He at sE
      have sAE := sAD.trans sE
      have drE := Same.dr sAE dra
      have sbE := sb.trans (SB.of sAE)
      refine ite2 (fun _ => q _ k' sbE drE (by omega)) (fun hne => ?_)
      have hne' : fwdL e v ++ ms ≠ [] := fun z => hne (decide_eq_true z)
      have hTpE := Same.tps sE hTp
      have hlen := hTpE.len
      have hpos : 0 < (tsA ++ tsB).length := by
        rw [hlen]
        exact List.length_pos_iff.mpr hne'
      -- spot
      refine ⟨.ref Ev, rfl, .ref p, rfl, p, k', rfl, drE, by omega, fun Hf rr sF dF rr0 => .inl ⟨rr, rfl, ?_⟩⟩
      have hEvF : Hf Ev = some (.lst ((tsA ++ tsB).map V.ref)) := sF _ _ (drE.ne (sE _ _ hEv) rf_ne) (sE _ _ hEv)
      have hPlF : PL Hf Ev (fwdL e v ++ ms) := sF.pl drE ⟨_, sE _ _ hEv, hTpE⟩
      refine ⟨.ref Ev, rfl, Ev, _, rfl, .inl (SqL.of hEvF), ?_⟩
      rw [List.length_map]
      have h0 := Int.emod_nonneg rr (show (((tsA ++ tsB).length : Nat) : Int) ≠ 0 by omega)
      have h1 := Int.emod_lt_of_pos rr (show 0 < (((tsA ++ tsB).length : Nat) : Int) by omega)
      refine ⟨rr, _, rfl, rfl, by show 0 < (((tsA ++ tsB).length : Nat) : Int); omega, ?_⟩
      obtain ⟨vv, hvv, hat⟩ := at_of (xs := (tsA ++ tsB).map V.ref) h0 (by rw [List.length_map]; exact h1)
      obtain ⟨tm, htm, rfl⟩ := rf_of hvv
      obtain ⟨ts2, hts2, hTpF⟩ := hPlF
      have ets : ts2.map V.ref = (tsA ++ tsB).map V.ref := HO.lst.inj (Option.some.inj (hts2.symm.trans hEvF))
      have htm2 : (ts2.map V.ref)[(rr % (((tsA ++ tsB).length : Nat) : Int)).toNat]? = some (V.ref tm) := by
        rw [ets]
        exact hvv
      obtain ⟨tm2, htm3, em⟩ := rf_of htm2
      obtain rfl : tm = tm2 := V.ref.inj em
      obtain ⟨⟨x, y⟩, hmm, hM⟩ := hTpF.at htm3
      have hM : Hf tm = some (.tup [.int x, .int y]) := hM
      refine ⟨Ev, _, rr % (((tsA ++ tsB).length : Nat) : Int), .ref tm, rfl, rfl, SqL.of hEvF, hat, ?_⟩
      have hmem : (x, y) ∈ fwdL e v ∨ (x, y) ∈ backL e v := by
        rcases List.mem_append.mp (mem_of_take hmm) with hm | hm
        · exact .inl hm
        · exact .inr (hms.mem_iff.mp hm)
      have sbF := sbE.trans sF
      have hPF := sF.pr drE (Same.pr sAE hPa)
      have hSF := sF.li drE (Same.li sAE hSa)
      have hMF := sF.li drE (Same.li sAE hMa)
      have hAhF : PL Hf Ah (fwdL e v) := sF.pl drE (Same.pl (sD.trans sE) hAhc)
      -- after
      refine ⟨fun σ' Hg => ∃ (r : Addr) (e2 v2 : List Int), σ' = [some (.ref p), some (.ref t), y2, some (.ref S), some (.ref M), y5, y6, some (.ref t2), some (.int (0 + (i : Nat))), some (.ref Ah), some (.ref Ev), some (.ref tm), some (.ref r), y13, y14, y15, y16] ∧ Same Hf Hg ∧
          Pr Hg r e2 v2 ∧ ((x, y) ∈ fwdL e v → Fwd e v e2 v2 x y) ∧ ((x, y) ∉ fwdL e v → Fwd e2 v2 e v x y), ?_, ?_⟩
      · refine ⟨.ref t2, rfl, .ref tm, rfl, t2, tm, e, v, x, y, rfl, hPF, oka, hM, hmem, fun hin Hg r sG nr hR => ?_, fun hin Hg r sG nr hR => ?_⟩
        · exact ⟨r, _, _, rfl, sG, hR, fun h => fwd_of oka.dn oka.up oka.l h, fun h => absurd hin h⟩
        · exact ⟨r, _, _, rfl, sG, hR, fun h => absurd h hin, fun _ => back_of oka.dn oka.up oka.l (hmem.resolve_left hin)⟩
      · rintro σ' Hg ⟨r, e2, v2, rfl, sG, hR, fw1, fw2⟩
        have hPG := Same.pr sG hPF
        have hSG := Same.li sG hSF
        have hMG := Same.li sG hMF
        have okR : OkP e2 v2 ∧ e2.length = d.length := by
          by_cases hin : (x, y) ∈ fwdL e v
          · have W := fw1 hin
            exact ⟨W.okA l2, by have := W.l2; omega⟩
          · have W := fw2 hin
            exact ⟨W.okB l2, by have := W.l2; omega⟩
        -- one, two
        refine ⟨fun σ' Hh => ∃ (o w2 : Addr) (a1 b1 a2 b2 : List Int), σ' = [some (.ref p), some (.ref t), y2, some (.ref S), some (.ref M), y5, y6, some (.ref t2), some (.int (0 + (i : Nat))), some (.ref Ah), some (.ref Ev), some (.ref tm), some (.ref r), some (.ref o), some (.ref w2), y15, y16] ∧ Same Hg Hh ∧
            Pr Hg o a1 b1 ∧ Pr Hg w2 a2 b2 ∧ Fwd a1 b1 a2 b2 x y ∧ a1.length = d.length, ?_, ?_⟩
        · refine ⟨.ref tm, rfl, .ref Ah, rfl, _, _, dp_tp (sG _ _ hM), dp_pl (Same.pl sG hAhF), pD_shaped _, pDs_shaped _, _, rfl, ?_⟩
          rw [pD_any]
          refine ite2 (fun hz => ?_) (fun hz => ?_)
          · have hin : (x, y) ∈ fwdL e v := of_decide_eq_true hz
            refine ⟨.ref t2, rfl, .ref r, rfl, by show 2 ≤ sizeLine; decide, fun z nz => ?_⟩
            exact ⟨z, _, rfl, SqT.of upd_same, rfl, _, _, rfl, _, _, rfl, rfl, t2, r, e, v, e2, v2, rfl, same_new nz, hPG, hR, fw1 hin, hl⟩
          · have hin : (x, y) ∉ fwdL e v := fun c => hz (decide_eq_true c)
            refine ⟨.ref r, rfl, .ref t2, rfl, by show 2 ≤ sizeLine; decide, fun z nz => ?_⟩
            exact ⟨z, _, rfl, SqT.of upd_same, rfl, _, _, rfl, _, _, rfl, rfl, r, t2, e2, v2, e, v, rfl, same_new nz, hR, hPG, fw2 hin, okR.2⟩
        · rintro σ' Hh ⟨o, w2, a1, b1, a2, b2, rfl, sH, ho, hw, W, la⟩
          have x1 := W.x1
          have xy := W.xy
          have yn := W.yn
          have w1 := W.l1
          have w2' := W.l2
          have w3 := W.l3
          have okO : OkP a1 b1 := W.okB (by omega)
          have okW : OkP a2 b2 := W.okA (by omega)
          have sFH := sG.trans sH
          have hoH := Same.pr sH ho
          have hwH := Same.pr sH hw
          obtain ⟨Do, Uo, hTo, hDo, hUo⟩ := id hoH
          -- gone
          refine ⟨.ref o, rfl, o, _, 1, .ref Uo, rfl, rfl, SqT.of hTo, atI_nat (j := 1) rfl, .ref M, rfl, Uo, M, b1, cs, rfl, hUo, Same.li sFH hMF, W.ou, by omega, by omega, fun Hi r1 sI nr1 hr1 => ?_⟩
          have sFI := sFH.trans sI
          refine ⟨.ref tm, rfl, tm, _, 0, .int x, rfl, rfl, SqT.of (sFI _ _ hM), atI_nat (j := 0) rfl, x, 1, rfl, rfl, r1, _, x - 1, .int (lk (fillL b1 cs) x), rfl, rfl, SqL.of hr1, li_at x1 (by rw [len_fillL]; omega), ?_⟩
          -- come
          refine ⟨.ref w2, rfl, .ref S, rfl, w2, S, a2, b2, qs, rfl, Same.pr sI hwH, okW, Same.li sFI hSF, by omega, fun Hj r2 sJ nr2 hr2 => ?_⟩
          have sFJ := sFI.trans sJ
          have sHJ := sI.trans sJ
          refine ⟨.ref tm, rfl, tm, _, 1, .int y, rfl, rfl, SqT.of (sFJ _ _ hM), atI_nat (j := 1) rfl, y, 1, rfl, rfl, r2, _, y - 1, .int (lk (askedL a2 qs) y), rfl, rfl, SqL.of hr2, li_at (by omega) (by rw [len_askedL]; omega), ?_⟩
          -- the test
          refine ⟨.ref w2, rfl, .ref S, rfl, .ref M, rfl, w2, S, M, a2, b2, qs, cs, rfl, Same.pr sHJ hwH, okW, Same.li sFJ hSF, Same.li sFJ hMF, by omega, by omega, nq, nc, fun Hk sK => ?_⟩
          have sFK := sFJ.trans sK
          refine ⟨.ref o, rfl, .ref S, rfl, .ref M, rfl, o, S, M, a1, b1, qs, cs, rfl, Same.pr (sHJ.trans sK) hoH, okO, Same.li sFK hSF, Same.li sFK hMF, by omega, by omega, nq, nc, fun Hl sL => ?_⟩
          have sFL := sFK.trans sL
          refine ⟨_, _, rfl, rfl, _, rfl, _, rfl, _, _, rfl, rfl, rfl, _, rfl, iteNS (congrArg V.int (price_move W (by omega) (by omega))) ?_⟩
          -- here = after
          exact ⟨_, rfl, r, e2, v2, k' + 1, _, _, _, _, _, _, _, _, _, _, _, _, rfl, sbF.trans (SB.of sFL), Same.dr sFL dF, by omega, Same.pr (sH.trans ((sHJ.trans sK).trans sL)) hR, okR.1, okR.2, Same.li sFL hSF, Same.li sFL hMF⟩
    · rintro σ Ha ⟨t2, e, v, k', y2, y5, y6, y8, y9, y10, y11, y12, y13, y14, y15, y16, rfl, sb, dra, hk', _⟩
      exact q _ k' sb dra (by omega)
end
end Lk
namespace Lk
open PySem PySem.Spec PyProof.Rows L2
abbrev sLaw : Stmt := top 37
abbrev nsLaw : List Str := ["_law_script", "_law_draws_here", "_law_many", "_law_right", "_law_links", "_law_cell"]
theorem scLaw : FnScope nsLaw ["_law_script"] (defScope sLaw) := ⟨rfl, rfl, rfl, by decide +kernel, rfl, by decide +kernel, by decide +kernel⟩
def spLaw (K : PySem.W.Frag) : Sp := fun vs H Q _ => ∃ (a : Addr) (ns : List Int), vs = [.ref a] ∧ SqL K H a (ns.map V.int) ∧ ns.length ≤ 63 ∧ ∀ H', Q (.bl true) H'
theorem cut_ints {ns : List Int} {lo hi : Option Int} {x : V} (h : x ∈ cutV (ns.map V.int) lo hi) : ∃ c, x = V.int c := by
  unfold cutV at h
  obtain ⟨c, _, e⟩ := List.mem_map.mp (List.mem_of_mem_drop (List.mem_of_mem_take h))
  exact ⟨c, e.symm⟩
theorem SB.dr {p p2 : Addr} {H H' : Hp} {k : Int} (s : SB p H H') (n : p2 ≠ p) (d : Dr H p2 k) : Dr H' p2 k := by
  obtain ⟨a, b, h1, h2, h3⟩ := d
  exact ⟨a, b, h1, h2, s _ _ n h3⟩
section
variable {P : Program} {w : World} {K : PySem.W.Frag} {mg : Str → Option Value} {base : Heap} {f fP : Addr} {fd fdP : FuncData} {A : Around}
theorem ok_law (F : Fun K "law" "law" sLaw f fd) (T : Bts mg) (room : Room 7 A) (quiet : A.guards = some [])
    (FP : Fun K "_law_pair_right" "_law_pair_right" sPairR fP fdP) (gP : mg "_law_pair_right" = some (.ref fP)) (bP : Binds K fdP ["_law_draws_here", "_law_links"] [])
    (CD : Cal P w K mg base "_law_draws" 1 ["_law_cell"] spDraws) (CTr : Cal P w K mg base "_law_tree" 2 ["_law_draws_here", "_law_many"] spAny) (CAny : Cal P w K mg base "_law_any" 2 ["_law_draws_here", "_law_many"] spAny)
    (CBe : Cal P w K mg base "_law_bent" 2 ["_law_draws_here", "_law_links"] spBent)
    (CN : Cal P w K mg base "_law_numbers" 2 ["_law_draws_here", "_law_many"] spNumsL) (CPr : Cal P w K mg base "price" 4 ["pair", "asked", "changed"] spPrice) (CC : Cal P w K mg base "cells_of" 3 ["up", "values"] spFill)
    (CA : Cal P w K mg base "_law_asked_cells" 5 ["_law_links", "_law_some"] spAsked) (CT : Cal P w K mg base "turned" 4 ["pair"] spTurned) (CF : Cal P w K mg base "forward_moves" 4 ["pair"] spFwdIn)
    (CB : Cal P w K mg base "back_moves" 4 ["pair"] spBackIn) (CX : Cal P w K mg base "_law_next" 1 ["_law_draws_here"] spNext) (CM : Cal P w K mg base "moved" 4 ["pair", "move"] spMoved) :
    FnAt A P w K mg base f fd ["_law_script"] (spLaw K) := by
  refine fun_at F scLaw room (fun vs H Q E h => ?_) (fun cdv outer s H vs Q hr h => ?_)
  · obtain ⟨a, ns, rfl, _⟩ := h
    rfl
  · obtain ⟨a, ns, rfl, hS, hlen, q⟩ := h
    have G := ok_pairr (P := P) (w := w) (base := base) (A := A.deeper (envOfC "law" (defScope sLaw) s.heap.objs.size f cdv)) FP T hr quiet CN CPr CC CA CT CF CB CX CM
    refine ⟨_, pss_cons (ps_for PassesOwn.never rfl (pi_list (pe_lc (own := [("_law_cell", 5)]) (g := gName 5) (tt := tYes) rfl scLaw.nd
          (pi_list (pe_op op_cat (pe_slice sl_list (pv 0) po_none (po_some pe_int)) (pe_lst (pa_cons pe_int pa_nil))))
          (blkOk_by (own := [("_law_cell", 5)]) (N := nsLaw) (sc := defScope sLaw) (by decide +kernel)) (fun _ _ _ _ _ => pg_name (i := 5) scLaw.nd rfl (Or.inl rfl)) (fun _ _ _ _ _ => pts_nil)
          (fun _ _ _ _ _ => pe_cal CD hr (by rfl) (pa_cons (pv 5) pa_nil)))) (pg_name (i := 1) scLaw.nd rfl (.inl rfl))
        (pss_cons (ps_set (i := 2) scLaw.nd rfl (.inl rfl) (pe_op op_add pe_int (pe_op op_mod (pe_callTy call_int1 (by rfl) T.int bt_ty_int (pa_cons (pe_cal CX hr (by rfl) (pa_cons (pv 1) pa_nil)) pa_nil)) pe_int)))
        (pss_cons (ps_set (i := 3) scLaw.nd rfl (.inl rfl) (pe_cal CTr hr (by rfl) (pa_cons (pv 1) (pa_cons (pv 2) pa_nil))))
        (pss_one (ps_for PassesOwn.never rfl (pi_list (pe_lst (pa_cons (pe_cal CAny hr (by rfl) (pa_cons (pv 1) (pa_cons (pv 2) pa_nil))) (pa_cons (pv 3) (pa_cons (pe_cal CBe hr (by rfl) (pa_cons (pv 1) (pa_cons (pv 3) pa_nil))) pa_nil))))) (pg_name (i := 4) scLaw.nd rfl (.inl rfl))
          (pss_one (ps_if (pt_not (pt_val (pe_at G (by rfl) gP FP.kp bP (pa_cons (pv 1) (pa_cons (pv 4) pa_nil))))) (pss_one ps_never) pss_nil)))))))
      (pss_one (ps_ret pe_bl)), ?_⟩
    -- script[:5] + [0]
    refine ⟨.ref a, rfl, 5, rfl, a, _, rfl, hS, fun c nc => ⟨by show 1 ≤ sizeLine; decide, fun e ne => ?_⟩⟩
    have hl5 := cutV_length (ns.map V.int) none (some 5)
    rw [List.length_map] at hl5
    have hc : upd H c (.lst (cutV (ns.map V.int) none (some 5))) c = some (.lst (cutV (ns.map V.int) none (some 5))) := upd_same
    generalize eL : cutV (ns.map V.int) none (some 5) = L at hl5 hc ne
    have hL : ∀ x ∈ L, ∃ c, x = V.int c := fun x hx => cut_ints (by rw [eL]; exact hx)
    have s1 : Same H (upd H c (.lst L)) := same_new nc
    generalize upd H c (.lst L) = H1 at hc ne s1
    have s2 : Same H1 (upd H1 e (.lst [.int 0])) := same_new ne
    have he : upd H1 e (.lst [.int 0]) e = some (.lst [.int 0]) := upd_same
    generalize upd H1 e (.lst [.int 0]) = H2 at s2 he
    refine ⟨c, e, _, _, rfl, rfl, s2 _ _ hc, he, small100' (by show L.length + 1 ≤ 100; omega), fun z nz => ?_⟩
    have s3 : Same H2 (upd H2 z (.lst (L ++ [.int 0]))) := same_new nz
    have hz : upd H2 z (.lst (L ++ [.int 0])) z = some (.lst (L ++ [.int 0])) := upd_same
    have hM : ∀ x ∈ L ++ [V.int 0], ∃ c, x = V.int c := fun x hx => by
      rcases List.mem_append.mp hx with hx | hx
      · exact hL x hx
      · exact ⟨0, by simpa using hx⟩
    have lM : (L ++ [V.int 0]).length ≤ 64 := by
      rw [List.length_append, List.length_singleton]
      omega
    generalize upd H2 z (.lst (L ++ [.int 0])) = H3 at s3 hz
    generalize L ++ [V.int 0] = M at hz hM lM
    -- the draws
    refine ⟨z, rfl, ⟨_, SqL.of hz⟩, fun D nD => lc_list (K := K) (a := z) (xs := M) (fun i H' => Same H3 H' ∧ ∃ ps : List Addr, H' D = some (.lst (ps.map V.ref)) ∧ ps.length = i ∧ ps.Nodup ∧ ∀ p ∈ ps, Dr H' p 0) ?_ (fun i H' _ ⟨sm, _⟩ => SqL.of (sm _ _ hz)) ?_ ?_⟩
    · exact ⟨same_new nD, [], upd_same, rfl, List.nodup_nil, fun p hp => absurd hp List.not_mem_nil⟩
    · rintro i x H' hx ⟨sm, ps, hD, hpl, hnd, hdr⟩
      obtain ⟨ci, rfl⟩ := hM x (List.mem_of_getElem? hx)
      have hi := (List.getElem?_eq_some_iff.mp hx).1
      refine ⟨rfl, .int ci, rfl, ci, rfl, fun H4 p s4 np dp => ?_⟩
      refine ⟨ps.map V.ref, s4 _ _ hD, ?_, same_put (sm.trans s4) nD, ps ++ [p], ?_, ?_, ?_, fun p2 hp2 => ?_⟩
      · rw [List.length_map]
        exact small100 (by omega)
      · rw [upd_same, List.map_append]
        rfl
      · rw [List.length_append, hpl]
        rfl
      · refine List.nodup_append.mpr ⟨hnd, by simp, fun p2 h2 p3 h3 e => ?_⟩
        have e3 : p3 = p := by simpa using h3
        obtain ⟨_, _, _, _, hp2⟩ := hdr p2 h2
        rw [e, e3, np] at hp2
        cases hp2
      · have hD4 := s4 _ _ hD
        rcases List.mem_append.mp hp2 with h | h
        · have d2 := Same.dr s4 (hdr p2 h)
          exact d2.put fun z => (d2.ne hD4 rf_ne) z.symm
        · have e : p2 = p := by simpa using h
          subst e
          exact dp.put fun z => (dp.ne hD4 rf_ne) z.symm
    · rintro H4 ⟨s4, ps, hD, hpl, hnd, hdr⟩
      -- the outer loop
      refine ⟨D, rfl, ⟨_, SqL.of hD⟩, for_list (K := K) (a := D) (xs := ps.map V.ref) (fun i σ H' => ∃ y1 y2 y3 y4 y5, σ = [some (.ref a), y1, y2, y3, y4, y5] ∧ H' D = some (.lst (ps.map V.ref)) ∧ ∀ (j : Nat) p, i ≤ j → ps[j]? = some p → Dr H' p 0)
        ⟨_, _, _, _, _, rfl, hD, fun j p _ hj => hdr p (List.mem_of_getElem? hj)⟩ (fun i σ H' _ ⟨_, _, _, _, _, _, h, _⟩ => SqL.of h) ?_ ?_⟩
      · rintro i x σ H' hx ⟨y1, y2, y3, y4, y5, rfl, hD', hdr'⟩
        obtain ⟨p, hp, rfl⟩ := rf_of hx
        have dr := hdr' i p (Nat.le_refl _) hp
        have nDp : D ≠ p := dr.ne hD' rf_ne
        -- many
        refine ⟨.ref p, rfl, p, 0, rfl, dr, by decide, fun H5 r s5 d5 r0 => .inl ⟨r, rfl, r, 16, rfl, rfl, (show (0 : Int) < 16 by decide), 1, _, rfl, rfl, ?_⟩⟩
        have m0 := Int.emod_nonneg r (show (16 : Int) ≠ 0 by decide)
        have m1 := Int.emod_lt_of_pos r (show (0 : Int) < 16 by decide)
        obtain ⟨n, en⟩ : ∃ n : Nat, 1 + r % 16 = (n : Int) := ⟨(1 + r % 16).toNat, by omega⟩
        -- right
        refine ⟨.ref p, rfl, _, rfl, p, 0 + 1, n, congrArg (fun v => [V.ref p, V.int v]) en, d5, by decide, by omega, by omega, fun H6 tr d u k6 s6 d6 hk6 ntr hP6 ok6 l6 => ?_⟩
        have s56 := s5.trans s6
        -- the three pairs
        refine ⟨.ref p, rfl, _, rfl, p, k6, n, congrArg (fun v => [V.ref p, V.int v]) en, d6, by omega, by omega, by omega, fun H7 ta da ua k7 s7 d7 hk7 nta hP7 ok7 l7 => ?_⟩
        have hP67 := s7.pr d6 hP6
        refine ⟨.ref tr, rfl, .ref p, rfl, .ref tr, rfl, p, tr, k7, d, u, rfl, d7, by omega, hP67, ok6, fun H8 tb db ub k8 s8 d8 hk8 ntb hP8 ok8 l8 => ?_⟩
        have hP68 := s8.pr d7 hP67
        have hP78 := s8.pr d7 hP7
        have s58 := (s56.trans s7).trans s8
        refine ⟨by show 3 ≤ sizeLine; decide, fun b nb => ?_⟩
        have s9 : Same H8 (upd H8 b (.lst [.ref ta, .ref tr, .ref tb])) := same_new nb
        have hb9 : upd H8 b (.lst [.ref ta, .ref tr, .ref tb]) b = some (.lst [.ref ta, .ref tr, .ref tb]) := upd_same
        have nbp : b ≠ p := (d8.at nb).symm
        generalize upd H8 b (.lst [.ref ta, .ref tr, .ref tb]) = H9 at s9 hb9
        have d9 := Same.dr s9 d8
        have hall : ∀ (j : Nat) (x : V), ([V.ref ta, .ref tr, .ref tb])[j]? = some x → ∃ t d u, x = V.ref t ∧ Pr H9 t d u ∧ OkP d u := fun j x hj => by
          match j, hj with
          | 0, hj => exact ⟨ta, da, ua, (Option.some.inj hj).symm, Same.pr s9 hP78, ok7⟩
          | 1, hj => exact ⟨tr, d, u, (Option.some.inj hj).symm, Same.pr s9 hP68, ok6⟩
          | 2, hj => exact ⟨tb, db, ub, (Option.some.inj hj).symm, Same.pr s9 hP8, ok8⟩
          | j + 3, hj => cases hj
        refine ⟨b, rfl, ⟨_, SqL.of hb9⟩, for_list (K := K) (a := b) (xs := [.ref ta, .ref tr, .ref tb]) (fun j σ H' => ∃ y2 y3 y4 y5 k', σ = [some (.ref a), some (.ref p), y2, y3, y4, y5] ∧ SB p H9 H' ∧ Dr H' p k' ∧ k' ≤ k8 + 40 * (j : Int))
          ⟨_, _, _, _, k8, rfl, SB.refl p H9, d9, by omega⟩ (fun j σ H' _ ⟨_, _, _, _, _, _, sb, _⟩ => SqL.of (sb _ _ nbp hb9)) ?_ ?_⟩
        · rintro j x σ Ha hx ⟨y2, y3, y4, y5, k', rfl, sb, dra, hk'⟩
          obtain ⟨t, d3, u3, rfl, hP9, ok9⟩ := hall j x hx
          have hj : j < 3 := (List.getElem?_eq_some_iff.mp hx).1
          refine ⟨.ref p, rfl, .ref t, rfl, p, t, k', d3, u3, rfl, dra, by omega, sb.pr d9 hP9, ok9, fun Hb k2 s2 d2 hk2 => ⟨true, rfl, iteF ?_⟩⟩
          exact ⟨_, _, _, _, k2, rfl, sb.trans s2, d2, by omega⟩
        · rintro σ Ha ⟨y2, y3, y4, y5, k', rfl, sb, dra, _⟩
          have sAll : SB p H' Ha := (s58.trans (SB.of s9)).trans sb
          refine ⟨_, _, _, _, _, rfl, sAll _ _ nDp hD', fun j p2 hj hp2 => ?_⟩
          have ne : p2 ≠ p := fun e => by
            subst e
            obtain ⟨h1, e1⟩ := List.getElem?_eq_some_iff.mp hp
            obtain ⟨h2, e2⟩ := List.getElem?_eq_some_iff.mp hp2
            have := (List.getElem_inj hnd).mp (e1.trans e2.symm)
            omega
          exact sAll.dr ne (hdr' j p2 (by omega) hp2)
      · rintro σ Ha ⟨_, _, _, _, _, rfl, _⟩
        exact q _
end
end Lk
namespace Lk
open PySem PySem.Spec PyProof.Rows L2
/-- the law's call, from its promise where no repr is under way -/
theorem law_at {P : Program} {w : World} {K : PySem.W.Frag} {mg mb : Str → Option Value} {fa a : Addr} {fd : FuncData} {x : Str} {sp : Sp} {s1 : Shared} {us : List Value} {ns : List Int}
    (kin : K.In s1.heap) (glob : s1.heap.Ns mainGlobals mg) (blt : s1.heap.Ns builtinsNs mb) (boot : ∀ y : Str, y ≠ "__name__" → mb y = bootBuiltins y) (nolim : s1.heap.NoLimit) (quiet : s1.gens = #[])
    (obj : s1.heap.get? a = some { cls := .type "list", data := .seq us.toArray }) (allInts : IntsAre us ns) (few : ns.length ≤ sizeLine)
    (G : ∀ base : Heap, K.In base → base.Ns mainGlobals mg → FnAt callerA P w K mg base fa fd [x] sp) (binds : ∀ (s : Shared) (u : Value), BindsTo s fd ⟨[u], []⟩ [(x, u)])
    (promise : ∀ H : Hp, SqL K H a (ns.map V.int) → sp [.ref a] H (fun v _ => v = .bl true) E0) :
    codeAny (model P w) callerA (.call (.ref fa) ⟨[.ref a], []⟩) (fun r s' => r = .ok (.ret (.bool true)) ∧ PySem.OldK s1.heap s'.heap ∧ s'.os = s1.os ∧ AllBare s'.gens) s1 := by
  have rel := vals_ints allInts
  have lens := allInts.length
  have main : ∀ H : Hp, Only H → SqL K H a (ns.map V.int) → HOk P w H s1.heap → (∀ b u, H b = some u → b = a ∧ K.lookup a = none) →
      codeAny (model P w) callerA (.call (.ref fa) ⟨[.ref a], []⟩) (fun r s' => r = .ok (.ret (.bool true)) ∧ PySem.OldK s1.heap s'.heap ∧ s'.os = s1.os ∧ AllBare s'.gens) s1 := by
    intro H only sq hok alone
    have dicts : ∀ {b : Addr} {ob : Obj} {es : Array DictEntry} {ep : Nat}, s1.heap.get? b = some ob → ob.data = .dict es ep → H b = none := by
      intro b ob es ep e d
      cases z : H b with
      | none => rfl
      | some u =>
        obtain ⟨rfl, _⟩ := alone b u z
        rw [obj] at e
        cases e
        cases (show Data.seq us.toArray _ = Data.dict es ep from d)
    have names : ∀ {b : Addr} {m : Str → Option Value}, s1.heap.Ns b m → (hidT s1.heap H).Ns b m := by
      rintro b m ⟨ob, es, ep, e, d, r⟩
      exact ⟨ob, es, ep, hidT_get e (dicts e d), d, r⟩
    have kin2 : K.In (hidT s1.heap H) := fun b ob e => by
      refine hidT_get (kin b ob e) ?_
      cases z : H b with
      | none => rfl
      | some u =>
        obtain ⟨rfl, no⟩ := alone b u z
        rw [no] at e
        cases e
    have md : Mod K mg (hidT s1.heap H) := by
      obtain ⟨mc, c1, c2⟩ := nolim
      exact ⟨kin2, names glob, ⟨mb, names blt, boot⟩, ⟨mc, names c1, c2⟩⟩
    have env : Env0 P w K mg (hidT s1.heap H) callerA [] s1 H := by
      refine ⟨rfl, md, fun b ob e => of_hidT e, Nat.le_of_eq (hidT_size _ _), trivial, fun b hb => ?_, hok, .of_eq quiet⟩
      exact (List.not_mem_nil (show b ∈ ([] : List Addr) from hb)).elim
    refine codeAny_mono ((G _ kin2 (names glob)).does [] s1 H ⟨[.ref a], []⟩ [.ref a] [.ref a] _ env (binds s1 (.ref a)) (.cons rfl .nil) (promise H sq)) fun res s' z => ?_
    cases res with
    | error _ => exact z.elim
    | ok flow =>
      cases flow with
      | next => exact z.elim
      | brk => exact z.elim
      | cont => exact z.elim
      | ret u =>
        obtain ⟨v, H', os, bare, un, hok', rv, ev⟩ := z
        obtain rfl : v = V.bl true := ev
        obtain rfl : u = Value.bool true := rv
        refine ⟨rfl, PySem.OldK.of_keep fun b ob e => ?_, os, bare⟩
        rcases only b with n | ⟨o2, xs, n⟩
        · exact un.keep b ob e n (fun z => List.not_mem_nil (show b ∈ ([] : List Addr) from z)) (fun z => List.not_mem_nil z)
        · have k1 := (hok b _ n).1
          have k2 := (hok' b _ (un.frzs b o2 _ n)).1
          have e2 : ob = o2 := Option.some.inj (e.symm.trans k1)
          rw [e2]
          exact k2
  cases hk : K.lookup a with
  | some ob =>
    have e := kin a ob hk
    rw [obj] at e
    cases e
    refine main (fun _ => none) (fun _ => .inl rfl) (.inr ⟨_, us.toArray, _, hk, rfl, rfl, rfl, ?_, by simpa using rel⟩) (fun b u z => ?_) (fun b u z => ?_)
    · rw [List.size_toArray, lens]
      exact few
    · cases (show (none : Option HO) = some u from z)
    · cases (show (none : Option HO) = some u from z)
  | none =>
    refine main (fun b => if b = a then some (.frz { cls := .type "list", data := .seq us.toArray } (.lst (ns.map V.int))) else none) (fun b => ?_) (.inl (.inr ⟨{ cls := .type "list", data := .seq us.toArray }, if_pos rfl⟩)) (fun b u z => ?_) (fun b u z => ?_)
    · by_cases hb : b = a
      · exact .inr ⟨_, _, if_pos hb⟩
      · exact .inl (if_neg hb)
    · by_cases hb : b = a
      · have z2 := (if_pos hb).symm.trans z
        cases z2
        subst hb
        exact ⟨obj, by rw [List.length_map]; exact few, us, _, rel, obj⟩
      · have z2 := (if_neg hb).symm.trans z
        cases z2
    · by_cases hb : b = a
      · exact ⟨hb, hk⟩
      · have z2 := (if_neg hb).symm.trans z
        cases z2
theorem walk_at {l : PySem.W.OpenLaw} {n : Nat} {q : Program} {loose : List Str} {XP : (Str → Option Value) → Heap → Prop} {YP : World → Heap → Prop} {d : DefRec} {K : Params → PySem.W.Frag} {x : Str} {sp : PySem.W.Frag → Sp}
    (hn : l.most = some n) (hn2 : n ≤ sizeLine) (hdf : d.params.defaults = []) (hY : ∀ (w : World) (h : Heap), YP w h → (K w.params).In h)
    (F : ∀ (w : World) (mg : Str → Option Value) (fa : Addr) (h : Heap), (K w.params).In h → h.Ns mainGlobals mg → mg d.name = some (.ref fa) →
      ∃ fd : FuncData, (∀ (s : Shared) (u : Value), BindsTo s fd ⟨[u], []⟩ [(x, u)]) ∧ ∀ base : Heap, (K w.params).In base → base.Ns mainGlobals mg → FnAt callerA l.prog w (K w.params) mg base fa fd [x] (sp (K w.params)))
    (promise : ∀ (K : PySem.W.Frag) (H : Hp) (a : Addr) (ns : List Int), ns.length ≤ n → SqL K H a (ns.map V.int) → sp K [.ref a] H (fun v _ => v = .bl true) E0) :
    PySem.W.WalkO q loose XP YP l.row.toRowW d [] (fun f vs => PySem.call f vs) := by
  refine Att.attach_call hn hdf fun w s0 s1 mg mb fa o pm cd doc a us ns G Y _ _ _ hmg obj isInts few quiet => ?_
  have kin := hY w _ Y
  obtain ⟨fd, binds, make⟩ := F w mg fa _ kin G.T.g hmg
  exact law_at kin G.T.g G.T.b G.T.builtins G.T.nolimit quiet obj isInts (Nat.le_trans few hn2) make binds fun H sq => promise _ H a ns few sq

/-! ### what the top has written -/
def DefAt (K : PySem.W.Frag) (mg : Str → Option Value) (x : Str) (st : Stmt) : Prop := ∃ (f : Addr) (fd : FuncData), Fun K x x st f fd ∧ mg x = some (.ref f)
theorem def_at {K : PySem.W.Frag} {h : Heap} {mg : Str → Option Value} {x : Str} {st : Stmt} {f : Addr} {oc : Value} {od an : Option Addr} {osl : Array (Option Value)} {kV doc pm cdv ct : Value} (X : K.In h) (G : h.Ns mainGlobals mg)
    (a : PySem.W.nsIn K mainGlobals x = some (some (.ref f))) (l : K.lookup f = some ⟨oc, od, .func (PySem.W.fnOf x x (defArgs st) (defBody st) (defScope st) .none kV doc pm an cdv ct), osl⟩)
    (c : PySem.W.codeIn K cdv x = true) (k : PySem.W.keepIn K (.ref f) = true) : DefAt K mg x st := ⟨f, _, fun_mk (st := st) l c k, PySem.W.mg_of X G a⟩
theorem bts_at {K : PySem.W.Frag} {h : Heap} {mg : Str → Option Value} {t : Tok} (X : K.In h) (G : h.Ns mainGlobals mg)
    (z0 : PySem.W.nsIn K mainGlobals "isinstance" = some none)
    (z1 : PySem.W.nsIn K mainGlobals "int" = some none)
    (z2 : PySem.W.nsIn K mainGlobals "bool" = some none)
    (z3 : PySem.W.nsIn K mainGlobals "list" = some none)
    (z4 : PySem.W.nsIn K mainGlobals "tuple" = some none)
    (z5 : PySem.W.nsIn K mainGlobals "len" = some none)
    (z6 : PySem.W.nsIn K mainGlobals "enumerate" = some none)
    (z7 : PySem.W.nsIn K mainGlobals "range" = some none)
    (z8 : PySem.W.nsIn K mainGlobals "sorted" = some none)
    (z9 : PySem.W.nsIn K mainGlobals "all" = some none)
    (z10 : PySem.W.nsIn K mainGlobals "repr" = some none)
    (z11 : PySem.W.nsIn K mainGlobals "sum" = some none)
    (zm : PySem.W.nsIn K mainGlobals "MOST_PLACES" = some (some (.int 16 t))) : Bts mg :=
  ⟨PySem.W.mg_none_of X G z0, PySem.W.mg_none_of X G z1, PySem.W.mg_none_of X G z2, PySem.W.mg_none_of X G z3, PySem.W.mg_none_of X G z4, PySem.W.mg_none_of X G z5, PySem.W.mg_none_of X G z6, PySem.W.mg_none_of X G z7, PySem.W.mg_none_of X G z8, PySem.W.mg_none_of X G z9, PySem.W.mg_none_of X G z10, PySem.W.mg_none_of X G z11, t, PySem.W.mg_of X G zm⟩
theorem cal_mk {P : Program} {w : World} {K : PySem.W.Frag} {mg : Str → Option Value} {base : Heap} {x : Str} {st : Stmt} {k : Nat} {ps : List Str} {sp : Sp} (D : DefAt K mg x st)
    (bd : ∀ (kV doc pm : Value) (an : Option Addr) (cdv ct : Value) (us : List Value), us.length = ps.length → bindArgs (PySem.W.fnOf x x (defArgs st) (defBody st) (defScope st) .none kV doc pm an cdv ct) ⟨us, []⟩ = pure (ps.zip us))
    (ok : ∀ (f : Addr) (fd : FuncData), Fun K x x st f fd → FnOk P w K mg base CX0 k f fd ps sp) : Cal P w K mg base x k ps sp := by
  obtain ⟨f, fd, F, gm⟩ := D
  exact ⟨f, fd, ok f fd F, gm, F.kp, F.binds bd⟩
theorem all_mk {l : PySem.W.OpenLaw} {w : World} {K : PySem.W.Frag} {mg : Str → Option Value} {fa : Addr} (hfa : mg "law" = some (.ref fa)) (T : Bts mg)
    (D1 : DefAt K mg "is_whole" sWhole)
    (D2 : DefAt K mg "check_down" sCkDown)
    (D3 : DefAt K mg "check_up" sCkUp)
    (D4 : DefAt K mg "check_pair" sCkPair)
    (D5 : DefAt K mg "check_values" sCkVals)
    (D6 : DefAt K mg "steps_down" sStD)
    (D7 : DefAt K mg "steps_up" sStU)
    (D8 : DefAt K mg "filled" sFill)
    (D9 : DefAt K mg "cells_of" sCells)
    (D10 : DefAt K mg "forward_in" sFwdIn)
    (D11 : DefAt K mg "back_in" sBackIn)
    (D12 : DefAt K mg "gone_forward" sGoF)
    (D13 : DefAt K mg "gone_back" sGoB)
    (D14 : DefAt K mg "forward_moves" sFwds)
    (D15 : DefAt K mg "back_moves" sBacks)
    (D16 : DefAt K mg "moved" sMoved)
    (D17 : DefAt K mg "turned" sTurned)
    (D18 : DefAt K mg "check_numbers" sNums)
    (D19 : DefAt K mg "price" sPrice)
    (D20 : DefAt K mg "_law_draws" sDraws)
    (D21 : DefAt K mg "_law_next" sNext)
    (D22 : DefAt K mg "_law_any" sAny)
    (D23 : DefAt K mg "_law_tree" sTree)
    (D24 : DefAt K mg "_law_bent" sBent)
    (D25 : DefAt K mg "_law_numbers" sNumsL)
    (D26 : DefAt K mg "_law_asked_cells" sAsked)
    (D27 : DefAt K mg "_law_pair_right" sPairR)
    (D28 : DefAt K mg "law" sLaw)
    : ∃ fd : FuncData, (∀ (s : Shared) (v : Value), BindsTo s fd ⟨[v], []⟩ [("_law_script", v)]) ∧ ∀ base : Heap, K.In base → base.Ns mainGlobals mg → FnAt callerA l.prog w K mg base fa fd ["_law_script"] (spLaw K) := by
  obtain ⟨fL, fdL, FL, gL⟩ := D28
  obtain rfl : fa = fL := Value.ref.inj (Option.some.inj (hfa.symm.trans gL))
  obtain ⟨fP, fdP, FP, gP⟩ := D27
  have bP : Binds K fdP ["_law_draws_here", "_law_links"] [] := FP.binds fun _ _ _ _ _ _ us hl => match us, hl with | [_, _], _ => rfl
  have bL : Binds K fdL ["_law_script"] [] := FL.binds fun _ _ _ _ _ _ us hl => match us, hl with | [_], _ => rfl
  refine ⟨fdL, fun s v => ?_, fun base _ _ => ?_⟩
  · obtain ⟨oc, od, kV, doc, pm, an, cdv, ct, osl, rfl, _, _⟩ := FL.ex
    exact .of_eq rfl
  have C1 : Cal l.prog w K mg base "is_whole" 1 ["thing"] spWhole := cal_mk D1 (fun _ _ _ _ _ _ us hl => match us, hl with | [_], _ => rfl) fun f fd F => ok_whole F T
  have C2 : Cal l.prog w K mg base "check_down" 2 ["down"] spCkDown := cal_mk D2 (fun _ _ _ _ _ _ us hl => match us, hl with | [_], _ => rfl) fun f fd F => ok_ckdown F T C1
  have C3 : Cal l.prog w K mg base "check_up" 2 ["up"] spCkUp := cal_mk D3 (fun _ _ _ _ _ _ us hl => match us, hl with | [_], _ => rfl) fun f fd F => ok_ckup F T C1
  have C4 : Cal l.prog w K mg base "check_pair" 3 ["pair"] spCkPair := cal_mk D4 (fun _ _ _ _ _ _ us hl => match us, hl with | [_], _ => rfl) fun f fd F => ok_ckpair F T C2 C3
  have C5 : Cal l.prog w K mg base "check_values" 2 ["values", "places"] spCkVals := cal_mk D5 (fun _ _ _ _ _ _ us hl => match us, hl with | [_, _], _ => rfl) fun f fd F => ok_ckvals F T C1
  have C6 : Cal l.prog w K mg base "steps_down" 1 ["down", "place"] spStD := cal_mk D6 (fun _ _ _ _ _ _ us hl => match us, hl with | [_, _], _ => rfl) fun f fd F => ok_std F
  have C7 : Cal l.prog w K mg base "steps_up" 1 ["up", "place"] spStU := cal_mk D7 (fun _ _ _ _ _ _ us hl => match us, hl with | [_, _], _ => rfl) fun f fd F => ok_stu F T
  have C8 : Cal l.prog w K mg base "filled" 2 ["up", "values"] spFill := cal_mk D8 (fun _ _ _ _ _ _ us hl => match us, hl with | [_, _], _ => rfl) fun f fd F => ok_fill F T C7
  have C9 : Cal l.prog w K mg base "cells_of" 3 ["up", "values"] spFill := cal_mk D9 (fun _ _ _ _ _ _ us hl => match us, hl with | [_, _], _ => rfl) fun f fd F => ok_cells F T C3 C5 C8
  have C10 : Cal l.prog w K mg base "forward_in" 1 ["pair"] spFwdIn := cal_mk D10 (fun _ _ _ _ _ _ us hl => match us, hl with | [_], _ => rfl) fun f fd F => ok_fwdin F T
  have C11 : Cal l.prog w K mg base "back_in" 1 ["pair"] spBackIn := cal_mk D11 (fun _ _ _ _ _ _ us hl => match us, hl with | [_], _ => rfl) fun f fd F => ok_backin F T
  have C12 : Cal l.prog w K mg base "gone_forward" 1 ["pair", "move"] spGoF := cal_mk D12 (fun _ _ _ _ _ _ us hl => match us, hl with | [_, _], _ => rfl) fun f fd F => ok_gof F T
  have C13 : Cal l.prog w K mg base "gone_back" 1 ["pair", "move"] spGoB := cal_mk D13 (fun _ _ _ _ _ _ us hl => match us, hl with | [_, _], _ => rfl) fun f fd F => ok_gob F T
  have C14 : Cal l.prog w K mg base "forward_moves" 4 ["pair"] spFwdIn := cal_mk D14 (fun _ _ _ _ _ _ us hl => match us, hl with | [_], _ => rfl) fun f fd F => ok_fwds F C4 C10
  have C15 : Cal l.prog w K mg base "back_moves" 4 ["pair"] spBackIn := cal_mk D15 (fun _ _ _ _ _ _ us hl => match us, hl with | [_], _ => rfl) fun f fd F => ok_backs F C4 C11
  have C16 : Cal l.prog w K mg base "moved" 4 ["pair", "move"] spMoved := cal_mk D16 (fun _ _ _ _ _ _ us hl => match us, hl with | [_, _], _ => rfl) fun f fd F => ok_moved F T C4 C1 C10 C11 C12 C13
  have C17 : Cal l.prog w K mg base "turned" 4 ["pair"] spTurned := cal_mk D17 (fun _ _ _ _ _ _ us hl => match us, hl with | [_], _ => rfl) fun f fd F => ok_turned F T C4
  have C18 : Cal l.prog w K mg base "check_numbers" 2 ["numbers", "places"] spNums := cal_mk D18 (fun _ _ _ _ _ _ us hl => match us, hl with | [_, _], _ => rfl) fun f fd F => ok_nums F T C1
  have C19 : Cal l.prog w K mg base "price" 4 ["pair", "asked", "changed"] spPrice := cal_mk D19 (fun _ _ _ _ _ _ us hl => match us, hl with | [_, _, _], _ => rfl) fun f fd F => ok_price F T C4 C18 C6 C7
  have C20 : Cal l.prog w K mg base "_law_draws" 1 ["_law_cell"] spDraws := cal_mk D20 (fun _ _ _ _ _ _ us hl => match us, hl with | [_], _ => rfl) fun f fd F => ok_draws F T
  have C21 : Cal l.prog w K mg base "_law_next" 1 ["_law_draws_here"] spNext := cal_mk D21 (fun _ _ _ _ _ _ us hl => match us, hl with | [_], _ => rfl) fun f fd F => ok_next F T
  have C22 : Cal l.prog w K mg base "_law_any" 2 ["_law_draws_here", "_law_many"] spAny := cal_mk D22 (fun _ _ _ _ _ _ us hl => match us, hl with | [_, _], _ => rfl) fun f fd F => ok_any F T C21
  have C23 : Cal l.prog w K mg base "_law_tree" 2 ["_law_draws_here", "_law_many"] spAny := cal_mk D23 (fun _ _ _ _ _ _ us hl => match us, hl with | [_, _], _ => rfl) fun f fd F => ok_tree F T C21
  have C24 : Cal l.prog w K mg base "_law_bent" 2 ["_law_draws_here", "_law_links"] spBent := cal_mk D24 (fun _ _ _ _ _ _ us hl => match us, hl with | [_, _], _ => rfl) fun f fd F => ok_bent F T C21
  have C25 : Cal l.prog w K mg base "_law_numbers" 2 ["_law_draws_here", "_law_many"] spNumsL := cal_mk D25 (fun _ _ _ _ _ _ us hl => match us, hl with | [_, _], _ => rfl) fun f fd F => ok_numsl F T C21
  have C26 : Cal l.prog w K mg base "_law_asked_cells" 5 ["_law_links", "_law_some"] spAsked := cal_mk D26 (fun _ _ _ _ _ _ us hl => match us, hl with | [_, _], _ => rfl) fun f fd F => ok_asked F C17 C9
  exact ok_law FL T ⟨rfl, by decide, by decide⟩ rfl FP gP bP C20 C23 C22 C24 C25 C19 C9 C26 C17 C14 C15 C21 C16
end Lk
open PySem PySem.W PyProof.Rows
set_option maxHeartbeats 0 in
theorem PySem.Challenge.cw_linksums_k72_whole_prices_by_cells_holds : PySem.Challenge.rw_linksums_k72_whole_prices_by_cells.Holds := by
  w_on; o_law; k_head; (case hw => w_witness2)
  k_fill
  refine Lk.walk_at (l := PySem.Challenge.rw_linksums_k72_whole_prices_by_cells) (n := 63) (x := "_law_script") (sp := Lk.spLaw) rfl (by decide) rfl (fun w h Y => PySem.W.kIn_of Y) ?F (fun _ _ a ns few sq => ⟨a, ns, rfl, sq, few, fun _ => rfl⟩)
  case F =>
    intro w mg fa h KX G hmg
    refine' Lk.all_mk hmg ?T ?D1 ?D2 ?D3 ?D4 ?D5 ?D6 ?D7 ?D8 ?D9 ?D10 ?D11 ?D12 ?D13 ?D14 ?D15 ?D16 ?D17 ?D18 ?D19 ?D20 ?D21 ?D22 ?D23 ?D24 ?D25 ?D26 ?D27 ?D28
    (case T => refine' Lk.bts_at KX G ?z0 ?z1 ?z2 ?z3 ?z4 ?z5 ?z6 ?z7 ?z8 ?z9 ?z10 ?z11 ?zm; (case z0 => k_is); (case z1 => k_is); (case z2 => k_is); (case z3 => k_is); (case z4 => k_is); (case z5 => k_is); (case z6 => k_is); (case z7 => k_is); (case z8 => k_is); (case z9 => k_is); (case z10 => k_is); (case z11 => k_is); (case zm => k_is))
    (case D1 => refine' Lk.def_at KX G ?a ?l ?c ?k; (case a => k_is); (case l => k_is); (case c => k_is); (case k => k_is))
    (case D2 => refine' Lk.def_at KX G ?a ?l ?c ?k; (case a => k_is); (case l => k_is); (case c => k_is); (case k => k_is))
    (case D3 => refine' Lk.def_at KX G ?a ?l ?c ?k; (case a => k_is); (case l => k_is); (case c => k_is); (case k => k_is))
    (case D4 => refine' Lk.def_at KX G ?a ?l ?c ?k; (case a => k_is); (case l => k_is); (case c => k_is); (case k => k_is))
    (case D5 => refine' Lk.def_at KX G ?a ?l ?c ?k; (case a => k_is); (case l => k_is); (case c => k_is); (case k => k_is))
    (case D6 => refine' Lk.def_at KX G ?a ?l ?c ?k; (case a => k_is); (case l => k_is); (case c => k_is); (case k => k_is))
    (case D7 => refine' Lk.def_at KX G ?a ?l ?c ?k; (case a => k_is); (case l => k_is); (case c => k_is); (case k => k_is))
    (case D8 => refine' Lk.def_at KX G ?a ?l ?c ?k; (case a => k_is); (case l => k_is); (case c => k_is); (case k => k_is))
    (case D9 => refine' Lk.def_at KX G ?a ?l ?c ?k; (case a => k_is); (case l => k_is); (case c => k_is); (case k => k_is))
    (case D10 => refine' Lk.def_at KX G ?a ?l ?c ?k; (case a => k_is); (case l => k_is); (case c => k_is); (case k => k_is))
    (case D11 => refine' Lk.def_at KX G ?a ?l ?c ?k; (case a => k_is); (case l => k_is); (case c => k_is); (case k => k_is))
    (case D12 => refine' Lk.def_at KX G ?a ?l ?c ?k; (case a => k_is); (case l => k_is); (case c => k_is); (case k => k_is))
    (case D13 => refine' Lk.def_at KX G ?a ?l ?c ?k; (case a => k_is); (case l => k_is); (case c => k_is); (case k => k_is))
    (case D14 => refine' Lk.def_at KX G ?a ?l ?c ?k; (case a => k_is); (case l => k_is); (case c => k_is); (case k => k_is))
    (case D15 => refine' Lk.def_at KX G ?a ?l ?c ?k; (case a => k_is); (case l => k_is); (case c => k_is); (case k => k_is))
    (case D16 => refine' Lk.def_at KX G ?a ?l ?c ?k; (case a => k_is); (case l => k_is); (case c => k_is); (case k => k_is))
    (case D17 => refine' Lk.def_at KX G ?a ?l ?c ?k; (case a => k_is); (case l => k_is); (case c => k_is); (case k => k_is))
    (case D18 => refine' Lk.def_at KX G ?a ?l ?c ?k; (case a => k_is); (case l => k_is); (case c => k_is); (case k => k_is))
    (case D19 => refine' Lk.def_at KX G ?a ?l ?c ?k; (case a => k_is); (case l => k_is); (case c => k_is); (case k => k_is))
    (case D20 => refine' Lk.def_at KX G ?a ?l ?c ?k; (case a => k_is); (case l => k_is); (case c => k_is); (case k => k_is))
    (case D21 => refine' Lk.def_at KX G ?a ?l ?c ?k; (case a => k_is); (case l => k_is); (case c => k_is); (case k => k_is))
    (case D22 => refine' Lk.def_at KX G ?a ?l ?c ?k; (case a => k_is); (case l => k_is); (case c => k_is); (case k => k_is))
    (case D23 => refine' Lk.def_at KX G ?a ?l ?c ?k; (case a => k_is); (case l => k_is); (case c => k_is); (case k => k_is))
    (case D24 => refine' Lk.def_at KX G ?a ?l ?c ?k; (case a => k_is); (case l => k_is); (case c => k_is); (case k => k_is))
    (case D25 => refine' Lk.def_at KX G ?a ?l ?c ?k; (case a => k_is); (case l => k_is); (case c => k_is); (case k => k_is))
    (case D26 => refine' Lk.def_at KX G ?a ?l ?c ?k; (case a => k_is); (case l => k_is); (case c => k_is); (case k => k_is))
    (case D27 => refine' Lk.def_at KX G ?a ?l ?c ?k; (case a => k_is); (case l => k_is); (case c => k_is); (case k => k_is))
    (case D28 => refine' Lk.def_at KX G ?a ?l ?c ?k; (case a => k_is); (case l => k_is); (case c => k_is); (case k => k_is))
#print axioms PySem.Challenge.cw_linksums_k72_whole_prices_by_cells_holds
