import PyProof.Rows.All
import Wide.All
import OpenK.AllK
import Wide.FinOn
import HandS.ForMost
import HandS.Evl
import HandS.Walk
import HandS.Zip
import HandS.TupAny
import HandS.TupMul
import HandS.IsInst
import HandS.Style
import HandS.Conv
import HandS.Codes
import HandS.Deep
import HandS.SortInts
import KE.GoesEnum
import KE.KTupSum
import KE.SortData
import KE.KDictWalk
import KE.KDictList
import HandS.DictTup
import KE.KDictDisplayH
import HandS.SetKeys
import KE.KExcSuper
import HandS.ExcSuper
import HandS.ExcInit
import KE.Datum
import HandS.WordsExc
import HandS.ExcOwn
import HandS.Star
import HandS.TupLen
import HandS.CallLocal
import HandS.NoneIn
import HandS.ExcIs
import HandS.ExcCtx
import HandS.OwnEq
import PySem.Challenge.RW_noneleft_k46_whole_told_books
section
set_option linter.all false
set_option Elab.async false
/-! M1: crowds as lists of ints; sums, order; kernels; least elements. Plain Lean. -/
namespace NL

def vadd (a b : List Int) : List Int := List.zipWith (· + ·) a b
def vsub (a b : List Int) : List Int := List.zipWith (· - ·) a b
def vle (a b : List Int) : Bool := (List.zipWith (fun x y => decide (x ≤ y)) a b).all id
def dot (a b : List Int) : Int := (List.zipWith (· * ·) a b).sum
def zeros (k : Nat) : List Int := List.replicate k 0
/-- a crowd of k kinds -/
def Dom (k : Nat) (c : List Int) : Prop := c.length = k ∧ ∀ x ∈ c, 0 ≤ x

theorem dom_nil {c : List Int} (h : Dom 0 c) : c = [] := List.eq_nil_of_length_eq_zero h.1
theorem dom_cons {k : Nat} {c : List Int} (h : Dom (k + 1) c) : ∃ x r, c = x :: r ∧ 0 ≤ x ∧ Dom k r := by
  obtain ⟨hl, hp⟩ := h
  cases c with
  | nil => simp at hl
  | cons x r =>
    refine ⟨x, r, rfl, hp x (by simp), ?_, fun y hy => hp y (by simp [hy])⟩
    simpa using hl
theorem Dom.cons {k : Nat} {x : Int} {r : List Int} (hx : 0 ≤ x) (h : Dom k r) : Dom (k + 1) (x :: r) :=
  ⟨by simp [h.1], fun y hy => by
    rcases List.mem_cons.mp hy with rfl | hy
    · exact hx
    · exact h.2 y hy⟩
theorem dom_zeros (k : Nat) : Dom k (zeros k) := ⟨by simp [zeros], fun x hx => by
  have := List.eq_of_mem_replicate hx
  omega⟩
theorem zeros_succ (k : Nat) : zeros (k + 1) = 0 :: zeros k := rfl
theorem sum_zeros : ∀ k, (zeros k).sum = 0
  | 0 => rfl
  | k + 1 => by rw [zeros_succ, List.sum_cons, sum_zeros k]; rfl
theorem Dom.sum_nonneg : ∀ {k : Nat} {c : List Int}, Dom k c → 0 ≤ c.sum
  | 0, c, h => by rw [dom_nil h]; simp
  | k + 1, c, h => by
    obtain ⟨x, r, rfl, hx, hr⟩ := dom_cons h
    have := Dom.sum_nonneg hr
    rw [List.sum_cons]; omega
theorem Dom.eq_zeros : ∀ {k : Nat} {c : List Int}, Dom k c → c.sum = 0 → c = zeros k
  | 0, c, h, _ => by rw [dom_nil h]; rfl
  | k + 1, c, h, e => by
    obtain ⟨x, r, rfl, hx, hr⟩ := dom_cons h
    have := Dom.sum_nonneg hr
    rw [List.sum_cons] at e
    have ex : x = 0 := by omega
    have er : r.sum = 0 := by omega
    rw [ex, Dom.eq_zeros hr er, zeros_succ]

theorem vadd_cons (x y : Int) (a b : List Int) : vadd (x :: a) (y :: b) = (x + y) :: vadd a b := rfl
theorem vsub_cons (x y : Int) (a b : List Int) : vsub (x :: a) (y :: b) = (x - y) :: vsub a b := rfl
theorem vle_cons (x y : Int) (a b : List Int) : vle (x :: a) (y :: b) = (decide (x ≤ y) && vle a b) := by simp [vle]
theorem dot_cons (x y : Int) (a b : List Int) : dot (x :: a) (y :: b) = x * y + dot a b := by simp [dot]
theorem vle_cons_iff {x y : Int} {a b : List Int} : vle (x :: a) (y :: b) = true ↔ x ≤ y ∧ vle a b = true := by rw [vle_cons]; simp

theorem Dom.add : ∀ {k : Nat} {a b : List Int}, Dom k a → Dom k b → Dom k (vadd a b)
  | 0, a, b, ha, hb => by rw [dom_nil ha]; exact ⟨rfl, by simp [vadd]⟩
  | k + 1, a, b, ha, hb => by
    obtain ⟨x, r, rfl, hx, hr⟩ := dom_cons ha
    obtain ⟨y, s, rfl, hy, hs⟩ := dom_cons hb
    rw [vadd_cons]
    exact (Dom.add hr hs).cons (by omega)
theorem Dom.sub : ∀ {k : Nat} {a b : List Int}, Dom k a → Dom k b → vle a b = true → Dom k (vsub b a)
  | 0, a, b, ha, hb, _ => by rw [dom_nil hb]; exact ⟨rfl, by simp [vsub]⟩
  | k + 1, a, b, ha, hb, h => by
    obtain ⟨x, r, rfl, hx, hr⟩ := dom_cons ha
    obtain ⟨y, s, rfl, hy, hs⟩ := dom_cons hb
    obtain ⟨h1, h2⟩ := vle_cons_iff.mp h
    rw [vsub_cons]
    exact (Dom.sub hr hs h2).cons (by omega)
theorem sum_add : ∀ {k : Nat} {a b : List Int}, a.length = k → b.length = k → (vadd a b).sum = a.sum + b.sum
  | 0, a, b, ha, hb => by rw [List.eq_nil_of_length_eq_zero ha, List.eq_nil_of_length_eq_zero hb]; rfl
  | k + 1, x :: r, y :: s, ha, hb => by
    have := sum_add (k := k) (a := r) (b := s) (by simpa using ha) (by simpa using hb)
    rw [vadd_cons, List.sum_cons, List.sum_cons, List.sum_cons, this]; omega
theorem sum_sub : ∀ {k : Nat} {a b : List Int}, a.length = k → b.length = k → (vsub a b).sum = a.sum - b.sum
  | 0, a, b, ha, hb => by rw [List.eq_nil_of_length_eq_zero ha, List.eq_nil_of_length_eq_zero hb]; rfl
  | k + 1, x :: r, y :: s, ha, hb => by
    have := sum_sub (k := k) (a := r) (b := s) (by simpa using ha) (by simpa using hb)
    rw [vsub_cons, List.sum_cons, List.sum_cons, List.sum_cons, this]; omega
theorem add_sub : ∀ {k : Nat} {a b : List Int}, a.length = k → b.length = k → vadd a (vsub b a) = b
  | 0, a, b, ha, hb => by rw [List.eq_nil_of_length_eq_zero ha, List.eq_nil_of_length_eq_zero hb]; rfl
  | k + 1, x :: r, y :: s, ha, hb => by
    rw [vsub_cons, vadd_cons, add_sub (k := k) (by simpa using ha) (by simpa using hb)]
    congr 1; omega
theorem sub_add : ∀ {k : Nat} {a b : List Int}, a.length = k → b.length = k → vsub (vadd a b) a = b
  | 0, a, b, ha, hb => by rw [List.eq_nil_of_length_eq_zero ha, List.eq_nil_of_length_eq_zero hb]; rfl
  | k + 1, x :: r, y :: s, ha, hb => by
    rw [vadd_cons, vsub_cons, sub_add (k := k) (by simpa using ha) (by simpa using hb)]
    congr 1; omega
theorem vadd_comm : ∀ (a b : List Int), vadd a b = vadd b a
  | [], [] => rfl
  | [], _ :: _ => rfl
  | _ :: _, [] => rfl
  | x :: a, y :: b => by rw [vadd_cons, vadd_cons, vadd_comm a b, Int.add_comm]
theorem vadd_assoc : ∀ (a b c : List Int), vadd (vadd a b) c = vadd a (vadd b c)
  | [], _, _ => by simp [vadd]
  | _ :: _, [], _ => by simp [vadd]
  | _ :: _, _ :: _, [] => by simp [vadd]
  | x :: a, y :: b, z :: c => by simp only [vadd_cons, vadd_assoc a b c, Int.add_assoc]
theorem vadd_zeros : ∀ {k : Nat} {a : List Int}, a.length = k → vadd a (zeros k) = a
  | 0, a, h => by rw [List.eq_nil_of_length_eq_zero h]; rfl
  | k + 1, x :: r, h => by rw [zeros_succ, vadd_cons, vadd_zeros (by simpa using h)]; simp
theorem zeros_vadd {k : Nat} {a : List Int} (h : a.length = k) : vadd (zeros k) a = a := by rw [vadd_comm, vadd_zeros h]
theorem vsub_zeros : ∀ {k : Nat} {a : List Int}, a.length = k → vsub a (zeros k) = a
  | 0, a, h => by rw [List.eq_nil_of_length_eq_zero h]; rfl
  | k + 1, x :: r, h => by rw [zeros_succ, vsub_cons, vsub_zeros (by simpa using h)]; simp

theorem vle_refl : ∀ a : List Int, vle a a = true
  | [] => rfl
  | x :: a => vle_cons_iff.mpr ⟨Int.le_refl _, vle_refl a⟩
theorem vle_trans : ∀ {k : Nat} {a b c : List Int}, a.length = k → b.length = k → c.length = k → vle a b = true → vle b c = true → vle a c = true
  | 0, a, b, c, ha, _, _, _, _ => by rw [List.eq_nil_of_length_eq_zero ha]; rfl
  | k + 1, x :: a, y :: b, z :: c, ha, hb, hc, h1, h2 => by
    obtain ⟨p1, q1⟩ := vle_cons_iff.mp h1
    obtain ⟨p2, q2⟩ := vle_cons_iff.mp h2
    exact vle_cons_iff.mpr ⟨by omega, vle_trans (k := k) (by simpa using ha) (by simpa using hb) (by simpa using hc) q1 q2⟩
theorem vle_sum : ∀ {k : Nat} {a b : List Int}, a.length = k → b.length = k → vle a b = true → a.sum ≤ b.sum
  | 0, a, b, ha, hb, _ => by rw [List.eq_nil_of_length_eq_zero ha, List.eq_nil_of_length_eq_zero hb]; simp
  | k + 1, x :: a, y :: b, ha, hb, h => by
    obtain ⟨p1, q1⟩ := vle_cons_iff.mp h
    have := vle_sum (k := k) (by simpa using ha) (by simpa using hb) q1
    rw [List.sum_cons, List.sum_cons]; omega
theorem vle_eq : ∀ {k : Nat} {a b : List Int}, a.length = k → b.length = k → vle a b = true → b.sum ≤ a.sum → a = b
  | 0, a, b, ha, hb, _, _ => by rw [List.eq_nil_of_length_eq_zero ha, List.eq_nil_of_length_eq_zero hb]
  | k + 1, x :: a, y :: b, ha, hb, h, e => by
    obtain ⟨p1, q1⟩ := vle_cons_iff.mp h
    have la : a.length = k := by simpa using ha
    have lb : b.length = k := by simpa using hb
    have := vle_sum la lb q1
    rw [List.sum_cons, List.sum_cons] at e
    rw [vle_eq la lb q1 (by omega), show x = y by omega]
theorem vle_add : ∀ {k : Nat} {a b : List Int}, a.length = k → Dom k b → vle a (vadd a b) = true
  | 0, a, b, ha, _ => by rw [List.eq_nil_of_length_eq_zero ha]; rfl
  | k + 1, x :: a, b, ha, hb => by
    obtain ⟨y, s, rfl, hy, hs⟩ := dom_cons hb
    rw [vadd_cons]
    exact vle_cons_iff.mpr ⟨by omega, vle_add (by simpa using ha) hs⟩
theorem zeros_vle : ∀ {k : Nat} {a : List Int}, Dom k a → vle (zeros k) a = true
  | 0, a, h => by rw [dom_nil h]; rfl
  | k + 1, a, h => by
    obtain ⟨x, r, rfl, hx, hr⟩ := dom_cons h
    rw [zeros_succ]
    exact vle_cons_iff.mpr ⟨hx, zeros_vle hr⟩
theorem sub_vle : ∀ {k : Nat} {a b : List Int}, Dom k a → b.length = k → vle (vsub b a) b = true
  | 0, a, b, ha, hb => by rw [List.eq_nil_of_length_eq_zero hb]; rfl
  | k + 1, a, y :: b, ha, hb => by
    obtain ⟨x, r, rfl, hx, hr⟩ := dom_cons ha
    rw [vsub_cons]
    exact vle_cons_iff.mpr ⟨by omega, sub_vle hr (by simpa using hb)⟩
/-- q within b - a: a + q within b -/
theorem add_vle : ∀ {k : Nat} {a b q : List Int}, a.length = k → b.length = k → q.length = k → vle q (vsub b a) = true → vle (vadd a q) b = true
  | 0, a, b, q, ha, hb, hq, _ => by rw [List.eq_nil_of_length_eq_zero ha]; rfl
  | k + 1, x :: a, y :: b, z :: q, ha, hb, hq, h => by
    rw [vsub_cons] at h
    obtain ⟨p1, q1⟩ := vle_cons_iff.mp h
    rw [vadd_cons]
    exact vle_cons_iff.mpr ⟨by omega, add_vle (k := k) (by simpa using ha) (by simpa using hb) (by simpa using hq) q1⟩
theorem dot_add : ∀ {k : Nat} {a b h : List Int}, a.length = k → b.length = k → h.length = k → dot (vadd a b) h = dot a h + dot b h
  | 0, a, b, h, ha, hb, hh => by rw [List.eq_nil_of_length_eq_zero ha, List.eq_nil_of_length_eq_zero hb]; rfl
  | k + 1, x :: a, y :: b, z :: h, ha, hb, hh => by
    rw [vadd_cons, dot_cons, dot_cons, dot_cons, dot_add (k := k) (by simpa using ha) (by simpa using hb) (by simpa using hh), Int.add_mul]; omega
theorem dot_sub : ∀ {k : Nat} {a b h : List Int}, a.length = k → b.length = k → h.length = k → dot (vsub a b) h = dot a h - dot b h
  | 0, a, b, h, ha, hb, hh => by rw [List.eq_nil_of_length_eq_zero ha, List.eq_nil_of_length_eq_zero hb]; rfl
  | k + 1, x :: a, y :: b, z :: h, ha, hb, hh => by
    rw [vsub_cons, dot_cons, dot_cons, dot_cons, dot_sub (k := k) (by simpa using ha) (by simpa using hb) (by simpa using hh), Int.sub_mul]; omega
theorem dot_zeros : ∀ (k : Nat) (h : List Int), dot (zeros k) h = 0
  | 0, h => by simp [zeros, dot]
  | k + 1, [] => by simp [zeros, dot]
  | k + 1, z :: h => by rw [zeros_succ, dot_cons, dot_zeros k h]; simp
theorem Dom.len {k : Nat} {c : List Int} (h : Dom k c) : c.length = k := h.1
theorem vsub_len {k : Nat} {a b : List Int} (ha : a.length = k) (hb : b.length = k) : (vsub a b).length = k := by simp [vsub, ha, hb]
theorem vadd_len {k : Nat} {a b : List Int} (ha : a.length = k) (hb : b.length = k) : (vadd a b).length = k := by simp [vadd, ha, hb]

/-! ### items by place -/
def at_ (c : List Int) (i : Nat) : Int := c.getD i 0
theorem at_cons_zero (x : Int) (c : List Int) : at_ (x :: c) 0 = x := rfl
theorem at_cons_succ (x : Int) (c : List Int) (i : Nat) : at_ (x :: c) (i + 1) = at_ c i := rfl
theorem at_nil (i : Nat) : at_ [] i = 0 := rfl
theorem at_add : ∀ {k : Nat} {a b : List Int} (i : Nat), a.length = k → b.length = k → at_ (vadd a b) i = at_ a i + at_ b i
  | 0, a, b, i, ha, hb => by rw [List.eq_nil_of_length_eq_zero ha, List.eq_nil_of_length_eq_zero hb]; rfl
  | k + 1, x :: a, y :: b, 0, ha, hb => rfl
  | k + 1, x :: a, y :: b, i + 1, ha, hb => by
    rw [vadd_cons, at_cons_succ, at_cons_succ, at_cons_succ, at_add (k := k) i (by simpa using ha) (by simpa using hb)]
theorem at_sub : ∀ {k : Nat} {a b : List Int} (i : Nat), a.length = k → b.length = k → at_ (vsub a b) i = at_ a i - at_ b i
  | 0, a, b, i, ha, hb => by rw [List.eq_nil_of_length_eq_zero ha, List.eq_nil_of_length_eq_zero hb]; rfl
  | k + 1, x :: a, y :: b, 0, ha, hb => rfl
  | k + 1, x :: a, y :: b, i + 1, ha, hb => by
    rw [vsub_cons, at_cons_succ, at_cons_succ, at_cons_succ, at_sub (k := k) i (by simpa using ha) (by simpa using hb)]
theorem at_vle : ∀ {k : Nat} {a b : List Int} (i : Nat), a.length = k → b.length = k → vle a b = true → at_ a i ≤ at_ b i
  | 0, a, b, i, ha, hb, _ => by rw [List.eq_nil_of_length_eq_zero ha, List.eq_nil_of_length_eq_zero hb]; exact Int.le_refl _
  | k + 1, x :: a, y :: b, i, ha, hb, h => by
    obtain ⟨p1, q1⟩ := vle_cons_iff.mp h
    cases i with
    | zero => exact p1
    | succ i =>
      rw [at_cons_succ, at_cons_succ]
      exact at_vle (k := k) i (by simpa using ha) (by simpa using hb) q1
theorem Dom.at_nonneg {k : Nat} {c : List Int} (h : Dom k c) (i : Nat) : 0 ≤ at_ c i := by
  unfold at_
  rw [List.getD_eq_getElem?_getD]
  cases e : c[i]? with
  | none => simp
  | some v => exact h.2 v (List.mem_of_getElem? e)
theorem sum_pos_at : ∀ {k : Nat} {c : List Int}, Dom k c → 0 < c.sum → ∃ i, i < k ∧ 0 < at_ c i
  | 0, c, h, hp => by rw [dom_nil h] at hp; simp at hp
  | k + 1, c, h, hp => by
    obtain ⟨x, r, rfl, hx, hr⟩ := dom_cons h
    by_cases h0 : 0 < x
    · exact ⟨0, by omega, h0⟩
    · rw [List.sum_cons] at hp
      obtain ⟨i, hi, h1⟩ := sum_pos_at hr (by omega)
      exact ⟨i + 1, by omega, h1⟩
theorem at_le_sum : ∀ {k : Nat} {c : List Int} (i : Nat), Dom k c → at_ c i ≤ c.sum
  | 0, c, i, h => by rw [dom_nil h, at_nil]; simp
  | k + 1, c, i, h => by
    obtain ⟨x, r, rfl, hx, hr⟩ := dom_cons h
    have := hr.sum_nonneg
    rw [List.sum_cons]
    cases i with
    | zero => rw [at_cons_zero]; omega
    | succ i => rw [at_cons_succ]; have := at_le_sum i hr; omega
theorem mem_le_sum {k : Nat} {c : List Int} (h : Dom k c) {x : Int} (hx : x ∈ c) : x ≤ c.sum := by
  obtain ⟨i, e⟩ := List.mem_iff_getElem?.mp hx
  have := at_le_sum i h
  unfold at_ at this
  rw [List.getD_eq_getElem?_getD, e] at this
  exact this

/-! ### kernels: sets of crowds closed under sums and differences; their least elements -/
structure Ker (k : Nat) (S : List Int → Prop) : Prop where
  zero : S (zeros k)
  add : ∀ {a b}, Dom k a → Dom k b → S a → S b → S (vadd a b)
  sub : ∀ {a b}, Dom k a → Dom k b → S a → S b → vle a b = true → S (vsub b a)
def Mn (k : Nat) (S : List Int → Prop) (c : List Int) : Prop :=
  Dom k c ∧ S c ∧ 0 < c.sum ∧ ∀ d, Dom k d → S d → 0 < d.sum → vle d c = true → d = c
/-- holds no crowd of T but nobody -/
def Clean (k : Nat) (T : List Int → Prop) (c : List Int) : Prop := ∀ d, Dom k d → T d → 0 < d.sum → vle d c = true → False

section
variable {k : Nat} {S : List Int → Prop}
theorem exists_mn : ∀ (n : Nat) {c : List Int}, c.sum.toNat ≤ n → Dom k c → S c → 0 < c.sum → ∃ m, Mn k S m ∧ vle m c = true
  | 0, c, hn, h, hs, hp => by omega
  | n + 1, c, hn, h, hs, hp => by
    by_cases hm : ∃ d, Dom k d ∧ S d ∧ 0 < d.sum ∧ vle d c = true ∧ d ≠ c
    · obtain ⟨d, hd, sd, pd, ld, ne⟩ := hm
      have h1 := vle_sum hd.1 h.1 ld
      have h2 : ¬ c.sum ≤ d.sum := fun z => ne (vle_eq hd.1 h.1 ld z)
      obtain ⟨m, hm, lm⟩ := exists_mn n (c := d) (by omega) hd sd pd
      exact ⟨m, hm, vle_trans hm.1.1 hd.1 h.1 lm ld⟩
    · refine ⟨c, ⟨h, hs, hp, fun d hd sd pd ld => ?_⟩, vle_refl c⟩
      by_cases e : d = c
      · exact e
      · exact absurd ⟨d, hd, sd, pd, ld, e⟩ hm
theorem mn_within {c : List Int} (h : Dom k c) (hs : S c) (hp : 0 < c.sum) : ∃ m, Mn k S m ∧ vle m c = true := exists_mn _ (Nat.le_refl _) h hs hp
/-- .. one that has a member of a kind that the crowd has -/
theorem mn_at (K : Ker k S) : ∀ (n : Nat) {c : List Int}, c.sum.toNat ≤ n → Dom k c → S c → ∀ i, 0 < at_ c i → ∃ m, Mn k S m ∧ vle m c = true ∧ 0 < at_ m i
  | 0, c, hn, h, hs, i, hi => by
    have := at_le_sum i h
    omega
  | n + 1, c, hn, h, hs, i, hi => by
    have h0 := at_le_sum i h
    obtain ⟨m, hm, lm⟩ := mn_within h hs (by omega)
    by_cases h1 : 0 < at_ m i
    · exact ⟨m, hm, lm, h1⟩
    · have dm := hm.1.sub h lm
      have e1 := sum_sub h.1 hm.1.1
      have e2 := at_sub i h.1 hm.1.1
      have hz := hm.1.at_nonneg i
      have hmp := hm.2.2.1
      obtain ⟨q, hq, lq, hqi⟩ := mn_at K n (c := vsub c m) (by omega) dm (K.sub hm.1 h hm.2.1 hs lm) i (by omega)
      exact ⟨q, hq, vle_trans hq.1.1 dm.1 h.1 lq (sub_vle hm.1 h.1), hqi⟩
theorem mn_clean {c d : List Int} (hc : Mn k S c) (hd : Dom k d) (ld : vle d c = true) (ne : d.sum < c.sum) : Clean k S d := fun e he se pe le => by
  have hl := vle_trans he.1 hd.1 hc.1.1 le ld
  have := hc.2.2.2 e he se pe hl
  subst this
  have := vle_sum he.1 hd.1 le
  omega
theorem clean_sub {c d : List Int} (hc : Clean k S c) (hdc : Dom k c) (hd : Dom k d) (ld : vle d c = true) : Clean k S d := fun e he se pe le =>
  hc e he se pe (vle_trans he.1 hd.1 hdc.1 le ld)
/-- a kernel with the same crowds has the same least ones -/
theorem Mn.congr {S' : List Int → Prop} (h : ∀ c, Dom k c → (S c ↔ S' c)) {c : List Int} (m : Mn k S c) : Mn k S' c :=
  ⟨m.1, (h c m.1).mp m.2.1, m.2.2.1, fun d hd sd pd ld => m.2.2.2 d hd ((h d hd).mpr sd) pd ld⟩
theorem Mn.iff {S' : List Int → Prop} (h : ∀ c, Dom k c → (S c ↔ S' c)) (c : List Int) : Mn k S c ↔ Mn k S' c :=
  ⟨fun m => m.congr h, fun m => m.congr fun c hc => (h c hc).symm⟩
end

/-! ### hours of a pair (modulus, hours) -/
def hr (p : Int × List Int) (c : List Int) : Int := if 0 < p.1 then dot c p.2 % p.1 else dot c p.2
def PairOk (k : Nat) (p : Int × List Int) : Prop := 0 ≤ p.1 ∧ p.1 ≠ 1 ∧ p.2.length = k
def Zv (vs : List (Int × List Int)) (c : List Int) : Prop := ∀ p ∈ vs, hr p c = 0
theorem hr_zeros (k : Nat) (p : Int × List Int) : hr p (zeros k) = 0 := by
  unfold hr; rw [dot_zeros]; split <;> simp
theorem hr_add {k : Nat} {p : Int × List Int} (hp : p.2.length = k) {a b : List Int} (ha : a.length = k) (hb : b.length = k) : hr p (vadd a b) = if 0 < p.1 then (hr p a + hr p b) % p.1 else hr p a + hr p b := by
  unfold hr
  split
  · rw [dot_add ha hb hp, Int.add_emod]
  · rw [dot_add ha hb hp]
theorem hr_sub_zero {k : Nat} {p : Int × List Int} (hp : p.2.length = k) {a b : List Int} (ha : a.length = k) (hb : b.length = k) (e : hr p a = hr p b) : hr p (vsub b a) = 0 := by
  unfold hr at *
  split
  · rename_i h
    rw [if_pos h, if_pos h] at e
    rw [dot_sub hb ha hp]
    rw [Int.sub_emod, e, Int.sub_self, Int.zero_emod]
  · rename_i h
    rw [if_neg h, if_neg h] at e
    rw [dot_sub hb ha hp, e]; omega
theorem ker_hr {k : Nat} {S : List Int → Prop} (K : Ker k S) {p : Int × List Int} (hp : p.2.length = k) : Ker k (fun c => S c ∧ hr p c = 0) where
  zero := ⟨K.zero, hr_zeros k p⟩
  add := fun {a b} ha hb sa sb => ⟨K.add ha hb sa.1 sb.1, by rw [hr_add hp ha.1 hb.1, sa.2, sb.2]; split <;> simp⟩
  sub := fun {a b} ha hb sa sb l => ⟨K.sub ha hb sa.1 sb.1 l, hr_sub_zero hp ha.1 hb.1 (by rw [sa.2, sb.2])⟩
theorem ker_zv {k : Nat} : ∀ {vs : List (Int × List Int)}, (∀ p ∈ vs, p.2.length = k) → Ker k (Zv vs) := fun {vs} h =>
  { zero := fun p _ => hr_zeros k p
    add := fun {a b} ha hb sa sb p hp => by rw [hr_add (h p hp) ha.1 hb.1, sa p hp, sb p hp]; split <;> simp
    sub := fun {a b} ha hb sa sb l p hp => hr_sub_zero (h p hp) ha.1 hb.1 (by rw [sa p hp, sb p hp]) }
theorem zv_append {vs : List (Int × List Int)} {p : Int × List Int} (c : List Int) : Zv (vs ++ [p]) c ↔ (Zv vs c ∧ hr p c = 0) := by
  unfold Zv
  constructor
  · intro h
    exact ⟨fun q hq => h q (by simp [hq]), h p (by simp)⟩
  · rintro ⟨h1, h2⟩ q hq
    rcases List.mem_append.mp hq with hq | hq
    · exact h1 q hq
    · rw [List.mem_singleton.mp hq]; exact h2

/-! ### crowds reached by least ones, one after another, greedily -/
inductive GR (k : Nat) (S : List Int → Prop) (p : Int × List Int) (ok : Int → Int → Prop) : List Int → List Int → Prop
  | zero : GR k S p ok [] (zeros k)
  | step {hs c q : List Int} : GR k S p ok hs c → Clean k (fun c => S c ∧ hr p c = 0) c → Mn k S q → ok (hr p c) (hr p q) → GR k S p ok (hr p c :: hs) (vadd c q)
/-- the program's own rule -/
def okStep (p : Int × List Int) (h s : Int) : Prop := 0 < p.1 ∨ h * s ≤ 0
section
variable {k : Nat} {S : List Int → Prop} {p : Int × List Int} {ok : Int → Int → Prop}
theorem GR.dom (K : Ker k S) {hs c : List Int} (g : GR k S p ok hs c) : Dom k c ∧ S c := by
  induction g with
  | zero => exact ⟨dom_zeros k, K.zero⟩
  | step g _ hq _ ih => exact ⟨ih.1.add hq.1, K.add ih.1 hq.1 ih.2 hq.2.1⟩
theorem GR.sum_le (K : Ker k S) {B : Int} (hB : ∀ q, Mn k S q → q.sum ≤ B) {hs c : List Int} (g : GR k S p ok hs c) : c.sum ≤ (hs.length : Int) * B := by
  induction g with
  | zero => rw [sum_zeros]; simp
  | @step hs c q g _ hq _ ih =>
    have hd := g.dom K
    rw [sum_add hd.1.1 hq.1.1, List.length_cons]
    have := hB q hq
    push_cast
    rw [Int.add_mul]
    omega
theorem GR.prev (K : Ker k S) {hs c : List Int} (g : GR k S p ok hs c) : ∀ h ∈ hs, ∃ d, Dom k d ∧ S d ∧ vle d c = true ∧ d.sum < c.sum ∧ hr p d = h := by
  induction g with
  | zero => intro h hh; simp at hh
  | @step hs c q g _ hq _ ih =>
    have hd := g.dom K
    have e := sum_add hd.1.1 hq.1.1
    have hl := vle_add hd.1.1 hq.1
    have pq := hq.2.2.1
    intro h hh
    rcases List.mem_cons.mp hh with rfl | hh
    · exact ⟨c, hd.1, hd.2, hl, by omega, rfl⟩
    · obtain ⟨d, h1, h2, h3, h4, h5⟩ := ih h hh
      exact ⟨d, h1, h2, vle_trans h1.1 hd.1.1 (vadd_len hd.1.1 hq.1.1) h3 hl, by omega, h5⟩
theorem GR.nodup (K : Ker k S) (hp : p.2.length = k) {hs c : List Int} (g : GR k S p ok hs c) : hs.Nodup := by
  induction g with
  | zero => exact List.nodup_nil
  | @step hs c q g hcl hq _ ih =>
    have hd := g.dom K
    refine List.nodup_cons.mpr ⟨fun hm => ?_, ih⟩
    obtain ⟨d, h1, h2, h3, h4, h5⟩ := g.prev K _ hm
    refine hcl (vsub c d) (h1.sub hd.1 h3) ⟨K.sub h1 hd.1 h2 hd.2 h3, hr_sub_zero hp h1.1 hd.1.1 h5⟩ ?_ (sub_vle h1 hd.1.1)
    rw [sum_sub hd.1.1 h1.1]; omega
/-- hours that are told on the way -/
theorem GR.clock (hp : 0 < p.1) {hs c : List Int} (g : GR k S p ok hs c) : ∀ h ∈ hs, 0 ≤ h ∧ h < p.1 := by
  induction g with
  | zero => intro h hh; simp at hh
  | @step hs c q g _ _ _ ih =>
    intro h hh
    rcases List.mem_cons.mp hh with rfl | hh
    · unfold hr; rw [if_pos hp]; exact ⟨Int.emod_nonneg _ (by omega), Int.emod_lt_of_pos _ hp⟩
    · exact ih h hh
end
theorem len_split (lo : Int) : ∀ l : List Int, l.length = (l.filter (· ≠ lo)).length + (l.filter (· = lo)).length
  | [] => rfl
  | x :: l => by
    have ih := len_split lo l
    by_cases e : x = lo
    · simp [e] at ih ⊢; omega
    · simp [e] at ih ⊢; omega
theorem nodup_range : ∀ (n : Nat) (lo : Int) (l : List Int), l.Nodup → (∀ h ∈ l, lo ≤ h ∧ h < lo + n) → l.length ≤ n
  | 0, lo, l, _, h => by
    cases l with
    | nil => simp
    | cons x r => have := h x (by simp); omega
  | n + 1, lo, l, hn, h => by
    have h1 : (l.filter (· ≠ lo)).length ≤ n := nodup_range n (lo + 1) _ (hn.filter _) fun x hx => by
      obtain ⟨m, hne⟩ := List.mem_filter.mp hx
      have := h x m
      have hne' : x ≠ lo := by simpa using hne
      push_cast at this
      omega
    have h2 : l.length ≤ (l.filter (· ≠ lo)).length + 1 := by
      have e := len_split lo l
      have : (l.filter (· = lo)).length ≤ 1 := by
        have hnd := hn.filter (fun x => decide (x = lo))
        have hall : ∀ x ∈ l.filter (· = lo), x = lo := fun x hx => by simpa using (List.mem_filter.mp hx).2
        generalize l.filter (fun x => decide (x = lo)) = r at hnd hall
        match r, hnd, hall with
        | [], _, _ => simp
        | [_], _, _ => simp
        | x :: y :: r, hnd, hall =>
          have ex := hall x (by simp)
          have ey := hall y (by simp)
          rw [ex, ey] at hnd
          simp at hnd
      omega
    omega
end NL
end
section
set_option linter.all false
set_option Elab.async false
/-! M2: units; greedy completeness; bounds. -/
namespace NL

/-! ### by place -/
theorem vle_of_at : ∀ {k : Nat} {a b : List Int}, a.length = k → b.length = k → (∀ i, i < k → at_ a i ≤ at_ b i) → vle a b = true
  | 0, a, b, ha, hb, _ => by rw [List.eq_nil_of_length_eq_zero ha]; rfl
  | k + 1, x :: a, y :: b, ha, hb, h => vle_cons_iff.mpr ⟨h 0 (by omega), vle_of_at (k := k) (by simpa using ha) (by simpa using hb) fun i hi => h (i + 1) (by omega)⟩
theorem ext_at : ∀ {k : Nat} {a b : List Int}, a.length = k → b.length = k → (∀ i, i < k → at_ a i = at_ b i) → a = b
  | 0, a, b, ha, hb, _ => by rw [List.eq_nil_of_length_eq_zero ha, List.eq_nil_of_length_eq_zero hb]
  | k + 1, x :: a, y :: b, ha, hb, h => by
    have h0 : x = y := h 0 (by omega)
    rw [h0, ext_at (k := k) (by simpa using ha) (by simpa using hb) fun i hi => h (i + 1) (by omega)]

/-! ### units -/
def uni : Nat → Nat → List Int
  | 0, _ => []
  | k + 1, 0 => 1 :: zeros k
  | k + 1, i + 1 => 0 :: uni k i
theorem uni_dom : ∀ (k i : Nat), Dom k (uni k i)
  | 0, _ => ⟨rfl, by simp [uni]⟩
  | k + 1, 0 => (dom_zeros k).cons (by omega)
  | k + 1, i + 1 => (uni_dom k i).cons (by omega)
theorem uni_sum : ∀ {k i : Nat}, i < k → (uni k i).sum = 1
  | k + 1, 0, _ => by simp [uni, sum_zeros]
  | k + 1, i + 1, h => by
    have := uni_sum (k := k) (i := i) (by omega)
    simp [uni, this]
theorem at_zeros : ∀ (k i : Nat), at_ (zeros k) i = 0
  | 0, i => rfl
  | k + 1, 0 => rfl
  | k + 1, i + 1 => at_zeros k i
theorem at_uni : ∀ {k i : Nat} (j : Nat), i < k → at_ (uni k i) j = if i = j then 1 else 0
  | k + 1, 0, 0, _ => rfl
  | k + 1, 0, j + 1, _ => by
    show at_ (zeros k) j = _
    rw [at_zeros]; simp
  | k + 1, i + 1, 0, _ => by simp [uni, at_cons_zero]
  | k + 1, i + 1, j + 1, h => by
    have := at_uni (k := k) (i := i) j (by omega)
    show at_ (uni k i) j = _
    rw [this]; simp
theorem uni_vle {k i : Nat} {c : List Int} (hi : i < k) (h : Dom k c) (hp : 0 < at_ c i) : vle (uni k i) c = true :=
  vle_of_at (uni_dom k i).1 h.1 fun j hj => by
    rw [at_uni j hi]
    have := h.at_nonneg j
    split
    · rename_i e; subst e; omega
    · exact this
theorem dot_uni : ∀ {k i : Nat} {h : List Int}, i < k → h.length = k → dot (uni k i) h = at_ h i
  | k + 1, 0, x :: h, _, hl => by
    show dot (1 :: zeros k) (x :: h) = x
    rw [dot_cons, dot_zeros]; omega
  | k + 1, i + 1, x :: h, hi, hl => by
    show dot (0 :: uni k i) (x :: h) = at_ h i
    rw [dot_cons, dot_uni (by omega) (by simpa using hl)]; omega
theorem ker_true (k : Nat) : Ker k (fun _ => True) := ⟨trivial, fun _ _ _ _ => trivial, fun _ _ _ _ _ => trivial⟩
theorem mn_true {k : Nat} {c : List Int} : Mn k (fun _ => True) c ↔ ∃ i, i < k ∧ c = uni k i := by
  constructor
  · rintro ⟨hd, _, hp, hm⟩
    obtain ⟨i, hi, hpi⟩ := sum_pos_at hd hp
    refine ⟨i, hi, (hm _ (uni_dom k i) trivial ?_ (uni_vle hi hd hpi)).symm⟩
    rw [uni_sum hi]; omega
  · rintro ⟨i, hi, rfl⟩
    refine ⟨uni_dom k i, trivial, by rw [uni_sum hi]; omega, fun d hd _ pd ld => ?_⟩
    refine vle_eq hd.1 (uni_dom k i).1 ld ?_
    rw [uni_sum hi]; omega
theorem uni_inj {k i j : Nat} (hi : i < k) (hj : j < k) (e : uni k i = uni k j) : i = j := by
  have h := at_uni (k := k) (i := i) i hi
  rw [e, at_uni i hj] at h
  simp at h
  exact h.symm

/-! ### a balance -/
section
variable {k : Nat} {S : List Int → Prop} {p : Int × List Int}
theorem hr_bal (h0 : p.1 = 0) (c : List Int) : hr p c = dot c p.2 := by unfold hr; rw [h0]; rfl
theorem hr_addB (h0 : p.1 = 0) (hp : p.2.length = k) {a b : List Int} (ha : a.length = k) (hb : b.length = k) : hr p (vadd a b) = hr p a + hr p b := by
  rw [hr_bal h0, hr_bal h0, hr_bal h0, dot_add ha hb hp]
theorem hr_subB (h0 : p.1 = 0) (hp : p.2.length = k) {a b : List Int} (ha : a.length = k) (hb : b.length = k) : hr p (vsub a b) = hr p a - hr p b := by
  rw [hr_bal h0, hr_bal h0, hr_bal h0, dot_sub ha hb hp]
theorem neg_piece (K : Ker k S) (h0 : p.1 = 0) (hp : p.2.length = k) : ∀ (n : Nat) {r : List Int}, r.sum.toNat ≤ n → Dom k r → S r → hr p r < 0 → ∃ q, Mn k S q ∧ vle q r = true ∧ hr p q < 0 := by
  intro n
  induction n with
  | zero =>
    intro r hn hd hs hh
    have := hd.sum_nonneg
    have e := hd.eq_zeros (by omega)
    rw [e, hr_zeros] at hh; omega
  | succ n ih =>
    intro r hn hd hs hh
    have h1 := hd.sum_nonneg
    by_cases hz : r.sum = 0
    · rw [hd.eq_zeros hz, hr_zeros] at hh; omega
    · obtain ⟨m, hm, lm⟩ := mn_within hd hs (by omega)
      by_cases hneg : hr p m < 0
      · exact ⟨m, hm, lm, hneg⟩
      · have e := sum_sub hd.1 hm.1.1
        have e2 := hr_subB h0 hp hd.1 hm.1.1
        have pm := hm.2.2.1
        have dr := hm.1.sub hd lm
        obtain ⟨q, hq, lq, hh⟩ := ih (r := vsub r m) (by omega) dr (K.sub hm.1 hd hm.2.1 hs lm) (by omega)
        exact ⟨q, hq, vle_trans hq.1.1 dr.1 hd.1 lq (sub_vle hm.1 hd.1), hh⟩
theorem pos_piece (K : Ker k S) (h0 : p.1 = 0) (hp : p.2.length = k) : ∀ (n : Nat) {r : List Int}, r.sum.toNat ≤ n → Dom k r → S r → 0 < hr p r → ∃ q, Mn k S q ∧ vle q r = true ∧ 0 < hr p q := by
  intro n
  induction n with
  | zero =>
    intro r hn hd hs hh
    have := hd.sum_nonneg
    have e := hd.eq_zeros (by omega)
    rw [e, hr_zeros] at hh; omega
  | succ n ih =>
    intro r hn hd hs hh
    have h1 := hd.sum_nonneg
    by_cases hz : r.sum = 0
    · rw [hd.eq_zeros hz, hr_zeros] at hh; omega
    · obtain ⟨m, hm, lm⟩ := mn_within hd hs (by omega)
      by_cases hneg : 0 < hr p m
      · exact ⟨m, hm, lm, hneg⟩
      · have e := sum_sub hd.1 hm.1.1
        have e2 := hr_subB h0 hp hd.1 hm.1.1
        have pm := hm.2.2.1
        have dr := hm.1.sub hd lm
        obtain ⟨q, hq, lq, hh⟩ := ih (r := vsub r m) (by omega) dr (K.sub hm.1 hd hm.2.1 hs lm) (by omega)
        exact ⟨q, hq, vle_trans hq.1.1 dr.1 hd.1 lq (sub_vle hm.1 hd.1), hh⟩

/-- whatever rule finds a next piece as long as something is left, the least crowd is reached -/
theorem gr_reach {ok : Int → Int → Prop} (K : Ker k S) (hp : p.2.length = k) {x : List Int} (hx : Mn k (fun c => S c ∧ hr p c = 0) x)
    (next : ∀ c r, Dom k c → S c → Clean k (fun c => S c ∧ hr p c = 0) c → vle c x = true → r = vsub x c → Dom k r → S r → 0 < r.sum → ∃ q, Mn k S q ∧ vle q r = true ∧ ok (hr p c) (hr p q)) :
    ∀ (n : Nat) {hs c : List Int}, (x.sum - c.sum).toNat ≤ n → GR k S p ok hs c → vle c x = true → ∃ hs', GR k S p ok hs' x := by
  have fin : ∀ {hs c : List Int}, GR k S p ok hs c → vle c x = true → x.sum ≤ c.sum → ∃ hs', GR k S p ok hs' x := fun {hs c} g l h => by
    have e := vle_eq (g.dom K).1.1 hx.1.1 l h
    exact ⟨hs, e ▸ g⟩
  intro n
  induction n with
  | zero => intro hs c hn g l; exact fin g l (by omega)
  | succ n ih =>
    intro hs c hn g l
    by_cases h : x.sum ≤ c.sum
    · exact fin g l h
    · have hd := g.dom K
      have e := sum_sub hx.1.1 hd.1.1
      have dr := hd.1.sub hx.1 l
      have hcl := mn_clean hx hd.1 l (by omega)
      obtain ⟨q, hq, lq, hok⟩ := next c _ hd.1 hd.2 hcl l rfl dr (K.sub hd.1 hx.1 hd.2 hx.2.1.1 l) (by omega)
      have e2 := sum_add hd.1.1 hq.1.1
      have pq := hq.2.2.1
      exact ih (by omega) (g.step hcl hq hok) (add_vle hd.1.1 hx.1.1 hq.1.1 lq)
theorem gr_all (K : Ker k S) (hp0 : 0 ≤ p.1) (hp : p.2.length = k) {x : List Int} (hx : Mn k (fun c => S c ∧ hr p c = 0) x) : ∃ hs, GR k S p (okStep p) hs x := by
  refine gr_reach K hp hx (fun c r hc sc hcl l er hr' sr pr => ?_) _ (Nat.le_refl _) .zero (zeros_vle hx.1)
  by_cases hc0 : 0 < p.1
  · obtain ⟨q, hq, lq⟩ := mn_within hr' sr pr
    exact ⟨q, hq, lq, .inl hc0⟩
  · have h0 : p.1 = 0 := by omega
    have e := hr_subB h0 hp hx.1.1 hc.1
    rw [hx.2.1.2, ← er] at e
    rcases Int.lt_trichotomy (hr p c) 0 with h | h | h
    · obtain ⟨q, hq, lq, hh⟩ := pos_piece K h0 hp _ (Nat.le_refl _) hr' sr (by omega)
      exact ⟨q, hq, lq, .inr (Int.mul_nonpos_of_nonpos_of_nonneg (by omega) (by omega))⟩
    · obtain ⟨q, hq, lq⟩ := mn_within hr' sr pr
      exact ⟨q, hq, lq, .inr (by rw [h]; simp)⟩
    · obtain ⟨q, hq, lq, hh⟩ := neg_piece K h0 hp _ (Nat.le_refl _) hr' sr (by omega)
      exact ⟨q, hq, lq, .inr (Int.mul_nonpos_of_nonneg_of_nonpos (by omega) (by omega))⟩

/-! ### how far the search goes -/
theorem gr_clock_le (K : Ker k S) (hp : p.2.length = k) (hc : 0 < p.1) {ok : Int → Int → Prop} {B : Int} (h0 : 0 ≤ B) (hB : ∀ q, Mn k S q → q.sum ≤ B) {hs c : List Int} (g : GR k S p ok hs c) : c.sum ≤ p.1 * B := by
  have h1 := g.sum_le K hB
  have h2 := nodup_range p.1.toNat 0 hs (g.nodup K hp) fun h hh => by
    have := g.clock hc h hh
    omega
  have h3 : (hs.length : Int) ≤ p.1 := by omega
  have := Int.mul_le_mul_of_nonneg_right h3 h0
  omega
theorem sgn {h s : Int} (e : h * s ≤ 0) : (h ≤ 0 ∨ s ≤ 0) ∧ (0 ≤ h ∨ 0 ≤ s) := by
  constructor
  · by_cases h1 : h ≤ 0
    · exact .inl h1
    · by_cases h2 : s ≤ 0
      · exact .inr h2
      · have := Int.mul_pos (a := h) (b := s) (by omega) (by omega)
        omega
  · by_cases h1 : 0 ≤ h
    · exact .inl h1
    · by_cases h2 : 0 ≤ s
      · exact .inr h2
      · have := Int.mul_pos_of_neg_of_neg (a := h) (b := s) (by omega) (by omega)
        omega
theorem GR.bal (K : Ker k S) (h0 : p.1 = 0) (hp : p.2.length = k) {M : Int} (hM0 : 0 ≤ M) (hM : ∀ q, Mn k S q → -M ≤ hr p q ∧ hr p q ≤ M) {hs c : List Int} (g : GR k S p (okStep p) hs c) :
    (-M ≤ hr p c ∧ hr p c ≤ M) ∧ ∀ h ∈ hs, -M ≤ h ∧ h ≤ M := by
  induction g with
  | zero => exact ⟨by rw [hr_zeros]; omega, fun h hh => by simp at hh⟩
  | @step hs c q g _ hq hok ih =>
    have hd := g.dom K
    have := hM q hq
    rw [hr_addB h0 hp hd.1.1 hq.1.1]
    refine ⟨?_, fun h hh => ?_⟩
    · rcases hok with z | z
      · omega
      · have := sgn z
        omega
    · rcases List.mem_cons.mp hh with rfl | hh
      · exact ih.1
      · exact ih.2 h hh
theorem gr_bal_le (K : Ker k S) (h0 : p.1 = 0) (hp : p.2.length = k) {B M : Int} (hB0 : 0 ≤ B) (hB : ∀ q, Mn k S q → q.sum ≤ B) (hM0 : 0 ≤ M) (hM : ∀ q, Mn k S q → -M ≤ hr p q ∧ hr p q ≤ M)
    {hs c : List Int} (g : GR k S p (okStep p) hs c) : c.sum ≤ (2 * M + 1) * B := by
  have h1 := g.sum_le K hB
  have hb := (g.bal K h0 hp hM0 hM).2
  have h2 := nodup_range (2 * M + 1).toNat (-M) hs (g.nodup K hp) fun h hh => by
    have := hb h hh
    omega
  have h3 : (hs.length : Int) ≤ 2 * M + 1 := by omega
  have := Int.mul_le_mul_of_nonneg_right h3 hB0
  omega
/-- hours of a crowd of at most so many members -/
theorem dot_bound : ∀ {k : Nat} {c h : List Int} {M : Int}, Dom k c → h.length = k → (∀ x ∈ h, -M ≤ x ∧ x ≤ M) → -(c.sum * M) ≤ dot c h ∧ dot c h ≤ c.sum * M
  | 0, c, h, M, hc, hl, _ => by rw [dom_nil hc]; simp [dot]
  | k + 1, c, y :: h, M, hc, hl, hM => by
    obtain ⟨x, r, rfl, hx, hr⟩ := dom_cons hc
    have ih := dot_bound (k := k) (h := h) (M := M) hr (by simpa using hl) fun z hz => hM z (by simp [hz])
    have hy := hM y (by simp)
    rw [dot_cons, List.sum_cons, Int.add_mul]
    have a1 := Int.mul_le_mul_of_nonneg_left hy.2 hx
    have a2 := Int.mul_le_mul_of_nonneg_left hy.1 hx
    rw [Int.mul_neg] at a2
    omega
end

/-! ### bounds for the law's own search -/
theorem bound_clock {k : Nat} {S : List Int → Prop} {p : Int × List Int} (K : Ker k S) (hp : p.2.length = k) (hc : 0 < p.1) {B : Int} (h0 : 0 ≤ B) (hB : ∀ q, Mn k S q → q.sum ≤ B)
    {x : List Int} (hx : Mn k (fun c => S c ∧ hr p c = 0) x) : x.sum ≤ p.1 * B := by
  obtain ⟨hs, g⟩ := gr_all K (by omega) hp hx
  exact gr_clock_le K hp hc h0 hB g
theorem at_mem : ∀ {h : List Int} {i : Nat}, i < h.length → at_ h i ∈ h
  | x :: h, 0, _ => by simp [at_]
  | x :: h, i + 1, hi => by
    have := at_mem (h := h) (i := i) (by simpa using hi)
    rw [at_cons_succ]
    exact List.mem_cons_of_mem _ this
/-- one balance with hours from -2 to 2: at most four members -/
def okFour (h s : Int) : Prop := (h ≤ 0 → 0 < s) ∧ (0 < h → s ≤ 0)
theorem bound_four {k : Nat} {p : Int × List Int} (h0 : p.1 = 0) (hp : p.2.length = k) (h2 : ∀ x ∈ p.2, -2 ≤ x ∧ x ≤ 2) {x : List Int} (hx : Mn k (fun c => True ∧ hr p c = 0) x) : x.sum ≤ 4 := by
  have K := ker_true k
  have hq1 : ∀ q, Mn k (fun _ => True) q → q.sum ≤ 1 := fun q hq => by
    obtain ⟨i, hi, rfl⟩ := mn_true.mp hq
    rw [uni_sum hi]; omega
  have hq2 : ∀ q, Mn k (fun _ => True) q → -2 ≤ hr p q ∧ hr p q ≤ 2 := fun q hq => by
    obtain ⟨i, hi, rfl⟩ := mn_true.mp hq
    rw [hr_bal h0, dot_uni hi hp]
    exact h2 _ (at_mem (by omega))
  by_cases hz : ∃ q, Mn k (fun _ => True) q ∧ vle q x = true ∧ 0 < hr p q
  · obtain ⟨q0, hq0, lq0, pq0⟩ := hz
    obtain ⟨hs, g⟩ : ∃ hs, GR k (fun _ => True) p okFour hs x := by
      refine gr_reach K hp hx (fun c r hc sc hcl l er hr' sr pr => ?_) _ (Nat.le_refl _) .zero (zeros_vle hx.1)
      have e := hr_subB h0 hp hx.1.1 hc.1
      rw [hx.2.1.2, ← er] at e
      rcases Int.lt_trichotomy (hr p c) 0 with h | h | h
      · obtain ⟨q, hq, lq, hh⟩ := pos_piece K h0 hp _ (Nat.le_refl _) hr' sr (by omega)
        exact ⟨q, hq, lq, fun _ => hh, fun z => by omega⟩
      · have hs0 : c.sum = 0 := by
          by_cases hs : 0 < c.sum
          · exact (hcl c hc ⟨trivial, h⟩ hs (vle_refl c)).elim
          · have := hc.sum_nonneg; omega
        have ec := hc.eq_zeros hs0
        rw [ec, vsub_zeros hx.1.1] at er
        exact ⟨q0, hq0, by rw [er]; exact lq0, fun _ => pq0, fun z => by omega⟩
      · obtain ⟨q, hq, lq, hh⟩ := neg_piece K h0 hp _ (Nat.le_refl _) hr' sr (by omega)
        exact ⟨q, hq, lq, fun z => by omega, fun _ => by omega⟩
    have rng : ∀ {hs c : List Int}, GR k (fun _ => True) p okFour hs c → (-1 ≤ hr p c ∧ hr p c ≤ 2) ∧ ∀ h ∈ hs, -1 ≤ h ∧ h ≤ 2 := by
      intro hs c g
      induction g with
      | zero => exact ⟨by rw [hr_zeros]; omega, fun h hh => by simp at hh⟩
      | @step hs c q g _ hq hok ih =>
        have hd := g.dom K
        have := hq2 q hq
        rw [hr_addB h0 hp hd.1.1 hq.1.1]
        refine ⟨?_, fun h hh => ?_⟩
        · obtain ⟨o1, o2⟩ := hok
          by_cases hz : hr p c ≤ 0
          · have := o1 hz; omega
          · have := o2 (by omega); omega
        · rcases List.mem_cons.mp hh with rfl | hh
          · exact ih.1
          · exact ih.2 h hh
    have h1 := g.sum_le K hq1
    have h2 := nodup_range 4 (-1) hs (g.nodup K hp) fun h hh => by
      have := (rng g).2 h hh
      omega
    omega
  · -- no piece above 0
    by_cases hn : ∃ q, Mn k (fun _ => True) q ∧ vle q x = true ∧ hr p q < 0
    · obtain ⟨q, hq, lq, nq⟩ := hn
      have dr := hq.1.sub hx.1 lq
      have e := hr_subB h0 hp hx.1.1 hq.1.1
      rw [hx.2.1.2] at e
      obtain ⟨q2, hq2', lq2, hh⟩ := pos_piece K h0 hp _ (Nat.le_refl _) dr trivial (by omega)
      exact absurd ⟨q2, hq2', vle_trans hq2'.1.1 dr.1 hx.1.1 lq2 (sub_vle hq.1 hx.1.1), hh⟩ hz
    · obtain ⟨q, hq, lq⟩ := mn_within (S := fun _ => True) hx.1 trivial hx.2.2.1
      have e0 : hr p q = 0 := by
        rcases Int.lt_trichotomy (hr p q) 0 with h | h | h
        · exact absurd ⟨q, hq, lq, h⟩ hn
        · exact h
        · exact absurd ⟨q, hq, lq, h⟩ hz
      have e := hx.2.2.2 q hq.1 ⟨trivial, e0⟩ hq.2.2.1 lq
      have := hq1 q hq
      rw [← e]; omega
end NL
end
section
set_option linter.all false
set_option Elab.async false
/-! M3: drawn namings; how large a least crowd is; two balances. -/
namespace NL
abbrev Pr := Int × List Int

/-! ### only clocks -/
def prodM (vs : List Pr) : Int := vs.foldl (fun a p => a * p.1) 1
theorem prodM_snoc (vs : List Pr) (p : Pr) : prodM (vs ++ [p]) = prodM vs * p.1 := by simp [prodM, List.foldl_append]
theorem snoc_cases {α : Type} (l : List α) : l = [] ∨ ∃ r x, l = r ++ [x] := by
  cases h : l.reverse with
  | nil => left; simpa using h
  | cons x r =>
    right
    refine ⟨r.reverse, x, ?_⟩
    have := congrArg List.reverse h
    simpa using this
theorem prodM_pos : ∀ (n : Nat) {vs : List Pr}, vs.length = n → (∀ p ∈ vs, 0 < p.1) → 0 < prodM vs := by
  intro n
  induction n with
  | zero => intro vs hn h; rw [List.eq_nil_of_length_eq_zero hn]; decide
  | succ n ih =>
    intro vs hn h
    rcases snoc_cases vs with rfl | ⟨us, p, rfl⟩
    · simp at hn
    · rw [prodM_snoc]
      exact Int.mul_pos (ih (by simpa using hn) fun q hq => h q (by simp [hq])) (h p (by simp))
theorem mn_snoc {k : Nat} {vs : List Pr} {p : Pr} {c : List Int} : Mn k (Zv (vs ++ [p])) c ↔ Mn k (fun c => Zv vs c ∧ hr p c = 0) c := Mn.iff (fun c _ => zv_append c) c
theorem zv_nil (c : List Int) : Zv [] c ↔ True := ⟨fun _ => trivial, fun _ p hp => by simp at hp⟩
theorem mn_nil {k : Nat} {c : List Int} : Mn k (Zv []) c ↔ Mn k (fun _ => True) c := Mn.iff (fun c _ => zv_nil c) c
theorem uni_le {k : Nat} {q : List Int} (h : Mn k (fun _ => True) q) : q.sum = 1 := by
  obtain ⟨i, hi, rfl⟩ := mn_true.mp h
  exact uni_sum hi
theorem clocks_le {k : Nat} : ∀ (n : Nat) {vs : List Pr}, vs.length = n → (∀ p ∈ vs, 0 < p.1 ∧ p.2.length = k) → ∀ q, Mn k (Zv vs) q → q.sum ≤ prodM vs := by
  intro n
  induction n with
  | zero =>
    intro vs hn h q hq
    rw [List.eq_nil_of_length_eq_zero hn] at hq ⊢
    rw [uni_le (mn_nil.mp hq)]; decide
  | succ n ih =>
    intro vs hn h q hq
    rcases snoc_cases vs with rfl | ⟨us, p, rfl⟩
    · simp at hn
    · have hu : ∀ p ∈ us, 0 < p.1 ∧ p.2.length = k := fun q hq => h q (by simp [hq])
      have hp := h p (by simp)
      rw [prodM_snoc, Int.mul_comm]
      have h0 := prodM_pos n (vs := us) (by simpa using hn) fun q hq => (hu q hq).1
      exact bound_clock (ker_zv fun q hq => (hu q hq).2) hp.2 hp.1 (by omega) (ih (by simpa using hn) hu) (mn_snoc.mp hq)

/-! ### the shapes that are drawn -/
def clockLists (k : Nat) : List (List Int) :=
  [[], [2], [3], [4], [5], [6], [2, 2], [2, 3], [3, 2]] ++ if k < 3 then [[7], [8], [9], [10], [11], [12], [2, 4], [3, 3], [6, 2], [4, 3], [2, 2, 2], [2, 2, 3]] else []
def Small (h : List Int) : Prop := ∀ x ∈ h, -2 ≤ x ∧ x ≤ 2
inductive Named (k : Nat) : List Pr → Prop
  | clocks {vs : List Pr} : vs.map (·.1) ∈ clockLists k → (∀ p ∈ vs, p.2.length = k) → Named k vs
  | bal {h : List Int} : h.length = k → Small h → Named k [(0, h)]
  | balClock {h g : List Int} {m : Int} : k ≤ 3 → 2 ≤ m → m ≤ 4 → (k = 3 → m = 2) → h.length = k → g.length = k → Small h → Named k [(0, h), (m, g)]
  | clockBal {h g : List Int} {m : Int} : k ≤ 3 → 2 ≤ m → m ≤ 4 → (k = 3 → m = 2) → h.length = k → g.length = k → Small h → Named k [(m, g), (0, h)]
  | two {h g : List Int} : k ≤ 3 → h.length = k → g.length = k → Small h → Small g → Named k [(0, h), (0, g)]
theorem clock_ok {k : Nat} {ms : List Int} (h : ms ∈ clockLists k) : (∀ m ∈ ms, 2 ≤ m) ∧ ms.foldl (· * ·) 1 ≤ 12 ∧ (3 ≤ k → ms.foldl (· * ·) 1 ≤ 6) := by
  unfold clockLists at h
  rcases List.mem_append.mp h with h | h
  · simp only [List.mem_cons, List.not_mem_nil, or_false] at h
    rcases h with rfl | rfl | rfl | rfl | rfl | rfl | rfl | rfl | rfl <;> simp
  · split at h
    · rename_i hk
      simp only [List.mem_cons, List.not_mem_nil, or_false] at h
      rcases h with rfl | rfl | rfl | rfl | rfl | rfl | rfl | rfl | rfl | rfl | rfl | rfl <;> simp <;> omega
    · simp at h
theorem prodM_map (vs : List Pr) : prodM vs = (vs.map (·.1)).foldl (· * ·) 1 := by
  unfold prodM
  rw [List.foldl_map]
theorem Named.ok {k : Nat} {vs : List Pr} (h : Named k vs) : ∀ p ∈ vs, PairOk k p := by
  cases h with
  | clocks hm hl =>
    intro p hp
    have := (clock_ok hm).1 p.1 (List.mem_map_of_mem hp)
    exact ⟨by omega, by omega, hl p hp⟩
  | bal hl _ => intro p hp; rw [List.mem_singleton.mp hp]; exact ⟨by simp, by simp, hl⟩
  | balClock _ h2 _ _ hl gl _ =>
    intro p hp
    simp only [List.mem_cons, List.not_mem_nil, or_false] at hp
    rcases hp with rfl | rfl
    · exact ⟨by simp, by simp, hl⟩
    · exact ⟨by show (0:Int) ≤ _; omega, by show _ ≠ (1:Int); omega, gl⟩
  | clockBal _ h2 _ _ hl gl _ =>
    intro p hp
    simp only [List.mem_cons, List.not_mem_nil, or_false] at hp
    rcases hp with rfl | rfl
    · exact ⟨by show (0:Int) ≤ _; omega, by show _ ≠ (1:Int); omega, gl⟩
    · exact ⟨by simp, by simp, hl⟩
  | two _ hl gl _ _ =>
    intro p hp
    simp only [List.mem_cons, List.not_mem_nil, or_false] at hp
    rcases hp with rfl | rfl
    · exact ⟨by simp, by simp, hl⟩
    · exact ⟨by simp, by simp, gl⟩
theorem Named.len {k : Nat} {vs : List Pr} (h : Named k vs) : ∀ p ∈ vs, p.2.length = k := fun p hp => (h.ok p hp).2.2

/-! ### how far told_book's searches go -/
def GrBound (k : Nat) (S : List Int → Prop) (p : Pr) (B : Int) : Prop := ∀ hs c, GR k S p (okStep p) hs c → c.sum ≤ B
structure Runs (k : Nat) (vs : List Pr) (B : Nat) : Prop where
  le : B ≤ 100
  pow : (B + 1) ^ k ≤ 1100000
  gr : ∀ (i : Nat) (p : Pr), vs[i]? = some p → GrBound k (Zv (vs.take i)) p B
theorem gr_congr {k : Nat} {S S' : List Int → Prop} (h : ∀ c, Dom k c → (S c ↔ S' c)) (K : Ker k S) {p : Pr} {ok : Int → Int → Prop} {hs c : List Int} (g : GR k S p ok hs c) : GR k S' p ok hs c := by
  induction g with
  | zero => exact .zero
  | step g hc hq hok ih => exact ih.step (fun d hd td => hc d hd ⟨(h d hd).mpr td.1, td.2⟩) (hq.congr h) hok
theorem grB_congr {k : Nat} {S S' : List Int → Prop} (h : ∀ c, Dom k c → (S c ↔ S' c)) (K : Ker k S') {p : Pr} {B : Int} (g : GrBound k S p B) : GrBound k S' p B := fun hs c x => g hs c (gr_congr (fun c hc => (h c hc).symm) K x)
theorem bal_le {k : Nat} {S : List Int → Prop} (K : Ker k S) {h : List Int} (hl : h.length = k) (hs : Small h) {B : Int} (hB : ∀ q, Mn k S q → q.sum ≤ B) (h0 : 0 ≤ B) : GrBound k S (0, h) ((2 * (B * 2) + 1) * B) := fun hs' c g => by
  refine gr_bal_le K rfl hl h0 hB (M := B * 2) (by omega) (fun q hq => ?_) g
  rw [hr_bal rfl]
  have := dot_bound (M := 2) hq.1 hl hs
  have := hB q hq
  show -(B * 2) ≤ dot q h ∧ dot q h ≤ B * 2
  omega
theorem four_le {k : Nat} {h : List Int} (hl : h.length = k) (hs : Small h) {q : List Int} (hq : Mn k (Zv [(0, h)]) q) : q.sum ≤ 4 := by
  refine bound_four (p := (0, h)) rfl hl hs (Mn.congr (fun c _ => ?_) hq)
  show Zv [(0, h)] c ↔ _
  unfold Zv
  simp
theorem clock_le {k : Nat} {g : List Int} {m : Int} (hm : 0 < m) (hl : g.length = k) {q : List Int} (hq : Mn k (Zv [(m, g)]) q) : q.sum ≤ m := by
  have := clocks_le 1 (vs := [(m, g)]) rfl (fun p hp => by rw [List.mem_singleton.mp hp]; exact ⟨hm, hl⟩) q hq
  simpa [prodM] using this
theorem ker_nil (k : Nat) : Ker k (Zv []) := ker_zv fun p hp => by simp at hp
theorem grB_mono {k : Nat} {S : List Int → Prop} {p : Pr} {B C : Int} (g : GrBound k S p B) (h : B ≤ C) : GrBound k S p C := fun hs c x => Int.le_trans (g hs c x) h
theorem grB_clock {k : Nat} {S : List Int → Prop} (K : Ker k S) {m : Int} {g : List Int} (hm : 0 < m) (hl : g.length = k) {B : Int} (h0 : 0 ≤ B) (hB : ∀ q, Mn k S q → q.sum ≤ B) : GrBound k S (m, g) (m * B) := fun hs c x => gr_clock_le K hl hm h0 hB x
theorem one_le {k : Nat} : ∀ q, Mn k (Zv []) q → q.sum ≤ 1 := fun q hq => by rw [uni_le (mn_nil.mp hq)]; omega
theorem pow_mono_le {a b : Nat} : ∀ {j k : Nat}, a ≤ b → 1 ≤ b → j ≤ k → a ^ j ≤ b ^ k := fun {j k} h h1 hjk => Nat.le_trans (Nat.pow_le_pow_left h j) (Nat.pow_le_pow_right h1 hjk)
theorem prodM_take_le {vs : List Pr} (h : ∀ p ∈ vs, 0 < p.1) : ∀ (n i : Nat), vs.length - i = n → prodM (vs.take i) ≤ prodM vs := by
  intro n
  induction n with
  | zero => intro i hi; rw [List.take_of_length_le (by omega)]; exact Int.le_refl _
  | succ n ih =>
    intro i hi
    have hlt : i < vs.length := by omega
    have h1 := ih (i + 1) (by omega)
    rw [List.take_add_one, List.getElem?_eq_getElem hlt] at h1
    simp only [Option.toList] at h1
    rw [prodM_snoc] at h1
    have hp := h _ (List.getElem_mem hlt)
    have h0 := prodM_pos _ (vs := vs.take i) rfl fun q hq => h q (List.mem_of_mem_take hq)
    have := Int.mul_le_mul_of_nonneg_left (show (1:Int) ≤ vs[i].1 by omega) (show 0 ≤ prodM (vs.take i) by omega)
    omega
theorem Named.runs {k : Nat} (hk : k ≤ 4) {vs : List Pr} (h : Named k vs) : ∃ B, Runs k vs B := by
  cases h with
  | clocks hm hl =>
    obtain ⟨c1, c2, _⟩ := clock_ok hm
    have pos : ∀ p ∈ vs, 0 < p.1 := fun p hp => by
      have := c1 p.1 (List.mem_map_of_mem hp)
      omega
    rw [← prodM_map] at c2
    refine ⟨12, by omega, Nat.le_trans (pow_mono_le (b := 13) (k := 4) (by omega) (by omega) hk) (by decide), fun i p hp => ?_⟩
    obtain ⟨hlt, he⟩ := List.getElem?_eq_some_iff.mp hp
    have hpm : p ∈ vs := List.mem_of_getElem? hp
    have ht : ∀ p ∈ vs.take i, 0 < p.1 ∧ p.2.length = k := fun q hq => ⟨pos q (List.mem_of_mem_take hq), hl q (List.mem_of_mem_take hq)⟩
    have h0 := prodM_pos _ (vs := vs.take i) rfl fun q hq => (ht q hq).1
    have h1 := grB_clock (S := Zv (vs.take i)) (ker_zv fun q hq => (ht q hq).2) (pos p hpm) (hl p hpm) (by omega) (clocks_le _ rfl ht)
    refine grB_mono h1 ?_
    have h2 := prodM_take_le pos _ (i + 1) rfl
    rw [List.take_add_one, hp] at h2
    simp only [Option.toList] at h2
    rw [prodM_snoc, Int.mul_comm] at h2
    push_cast
    omega
  | bal hl hs =>
    refine ⟨5, by omega, Nat.le_trans (pow_mono_le (b := 6) (k := 4) (by omega) (by omega) hk) (by decide), fun i p hp => ?_⟩
    cases i with
    | zero => cases hp; exact bal_le (ker_nil k) hl hs one_le (by omega)
    | succ i => simp at hp
  | @balClock h g m h3 h2 h4 hm2 hl gl hs =>
    refine ⟨68, by omega, Nat.le_trans (pow_mono_le (b := 69) (k := 3) (by omega) (by omega) h3) (by decide), fun i p hp => ?_⟩
    match i, hp with
    | 0, hp => cases hp; exact grB_mono (bal_le (ker_nil k) hl hs one_le (by omega)) (by decide)
    | 1, hp =>
      cases hp
      refine grB_mono (grB_clock (S := Zv [(0, h)]) (ker_zv fun q hq => by rw [List.mem_singleton.mp hq]; exact hl) (by omega) gl (B := 4) (by omega) fun q hq => four_le hl hs hq) ?_
      push_cast
      omega
    | i + 2, hp => simp at hp
  | @clockBal h g m h3 h2 h4 hm2 hl gl hs =>
    refine ⟨68, by omega, Nat.le_trans (pow_mono_le (b := 69) (k := 3) (by omega) (by omega) h3) (by decide), fun i p hp => ?_⟩
    match i, hp with
    | 0, hp =>
      cases hp
      refine grB_mono (grB_clock (ker_nil k) (by omega) gl (B := 1) (by omega) one_le) ?_
      push_cast
      omega
    | 1, hp =>
      cases hp
      exact bal_le (S := Zv [(m, g)]) (ker_zv fun q hq => by rw [List.mem_singleton.mp hq]; exact gl) hl hs (B := 4) (fun q hq => Int.le_trans (clock_le (by omega) gl hq) h4) (by omega)
    | i + 2, hp => simp at hp
  | @two h g h3 hl gl hs gs =>
    refine ⟨68, by omega, Nat.le_trans (pow_mono_le (b := 69) (k := 3) (by omega) (by omega) h3) (by decide), fun i p hp => ?_⟩
    match i, hp with
    | 0, hp => cases hp; exact grB_mono (bal_le (ker_nil k) hl hs one_le (by omega)) (by decide)
    | 1, hp =>
      cases hp
      exact bal_le (S := Zv [(0, h)]) (ker_zv fun q hq => by rw [List.mem_singleton.mp hq]; exact hl) gl gs (B := 4) (fun q hq => four_le hl hs hq) (by omega)
    | i + 2, hp => simp at hp

/-! ### how many crowds there are -/
def code (n : Int) : List Int → Int
  | [] => 0
  | x :: r => x + (n + 1) * code n r
theorem code_range {n : Int} (hn : 0 ≤ n) : ∀ {k : Nat} {c : List Int}, Dom k c → (∀ x ∈ c, x ≤ n) → 0 ≤ code n c ∧ code n c < (n + 1) ^ k
  | 0, c, h, _ => by rw [dom_nil h]; simp [code]
  | k + 1, c, h, hx => by
    obtain ⟨x, r, rfl, h0, hr⟩ := dom_cons h
    have ih := code_range hn hr fun y hy => hx y (by simp [hy])
    have hxn := hx x (by simp)
    unfold code
    have a1 := Int.mul_nonneg (show 0 ≤ n + 1 by omega) ih.1
    have a2 := Int.mul_le_mul_of_nonneg_left (show code n r ≤ (n + 1) ^ k - 1 by omega) (show 0 ≤ n + 1 by omega)
    have e : (n + 1) ^ (k + 1) = (n + 1) * (n + 1) ^ k := by rw [Int.pow_succ, Int.mul_comm]
    rw [Int.mul_sub, Int.mul_one] at a2
    rw [e]
    omega
theorem code_inj {n : Int} (hn : 0 ≤ n) : ∀ {k : Nat} {c d : List Int}, Dom k c → Dom k d → (∀ x ∈ c, x ≤ n) → (∀ x ∈ d, x ≤ n) → code n c = code n d → c = d
  | 0, c, d, hc, hd, _, _, _ => by rw [dom_nil hc, dom_nil hd]
  | k + 1, c, d, hc, hd, hx, hy, e => by
    obtain ⟨x, r, rfl, h0, hr⟩ := dom_cons hc
    obtain ⟨y, s, rfl, g0, hs⟩ := dom_cons hd
    have hxn := hx x (by simp)
    have hyn := hy y (by simp)
    unfold code at e
    have e1 : x = y := by
      have a := congrArg (· % (n + 1)) e
      simp only [Int.add_mul_emod_self_left] at a
      rwa [Int.emod_eq_of_lt h0 (by omega), Int.emod_eq_of_lt g0 (by omega)] at a
    subst e1
    have e2 : (n + 1) * code n r = (n + 1) * code n s := by omega
    have e3 := Int.eq_of_mul_eq_mul_left (show n + 1 ≠ 0 by omega) e2
    rw [code_inj hn hr hs (fun z hz => hx z (by simp [hz])) (fun z hz => hy z (by simp [hz])) e3]
theorem count_le {k n : Nat} {l : List (List Int)} (hn : l.Nodup) (h : ∀ c ∈ l, Dom k c ∧ c.sum ≤ n) : l.length ≤ (n + 1) ^ k := by
  have hx : ∀ c ∈ l, ∀ x ∈ c, x ≤ (n : Int) := fun c hc x hx => Int.le_trans (mem_le_sum (h c hc).1 hx) (h c hc).2
  have h1 : (l.map (code n)).Nodup := by
    rw [List.nodup_iff_pairwise_ne, List.pairwise_map]
    rw [List.nodup_iff_pairwise_ne] at hn
    refine hn.imp_of_mem fun {a b} ha hb ne e => ne (code_inj (n := n) (by omega) (h a ha).1 (h b hb).1 (hx a ha) (hx b hb) e)
  have h2 := nodup_range ((n + 1) ^ k) 0 _ h1 fun z hz => by
    obtain ⟨c, hc, rfl⟩ := List.mem_map.mp hz
    have := code_range (n := n) (by omega) (h c hc).1 (hx c hc)
    push_cast
    omega
  simpa using h2
end NL
end
section
set_option linter.all false
set_option Elab.async false
/-! M4: two balances; the law's own bound; the cross product. -/
namespace NL

/-! ### two balances -/
theorem zv_two {u v c : List Int} : Zv [(0, u), (0, v)] c ↔ dot c u = 0 ∧ dot c v = 0 := by
  unfold Zv
  simp only [List.mem_cons, List.not_mem_nil, or_false, forall_eq_or_imp, forall_eq]
  rw [hr_bal rfl, hr_bal rfl]
theorem zv_one {u c : List Int} : Zv [(0, u)] c ↔ dot c u = 0 := by
  unfold Zv
  simp only [List.mem_cons, List.not_mem_nil, or_false, forall_eq]
  rw [hr_bal rfl]
theorem dot_par : ∀ {k : Nat} {c u v : List Int} (s t : Int), c.length = k → u.length = k → v.length = k → (∀ j, j < k → s * at_ v j = t * at_ u j) → s * dot c v = t * dot c u
  | 0, c, u, v, s, t, hc, _, _, _ => by rw [List.eq_nil_of_length_eq_zero hc]; simp [dot]
  | k + 1, x :: c, y :: u, z :: v, s, t, hc, hu, hv, h => by
    have h0 : s * z = t * y := h 0 (by omega)
    have ih := dot_par (k := k) (c := c) (u := u) (v := v) s t (by simpa using hc) (by simpa using hu) (by simpa using hv) fun j hj => h (j + 1) (by omega)
    rw [dot_cons, dot_cons, Int.mul_add, Int.mul_add, ih]
    have : s * (x * z) = t * (x * y) := by
      rw [Int.mul_left_comm, h0, Int.mul_left_comm]
    omega
/-- parallel hours: one of them tells all -/
theorem par_le {k : Nat} {u v : List Int} (hu : u.length = k) (hv : v.length = k) (su : Small u) (sv : Small v) (h : ∀ i j, i < k → j < k → at_ u i * at_ v j = at_ v i * at_ u j) {x : List Int} (hx : Mn k (Zv [(0, u), (0, v)]) x) : x.sum ≤ 4 := by
  by_cases hz : ∃ i, i < k ∧ at_ u i ≠ 0
  · obtain ⟨i, hi, ne⟩ := hz
    refine four_le hu su (Mn.congr (fun c hc => ?_) hx)
    rw [zv_two, zv_one]
    refine ⟨fun z => z.1, fun z => ⟨z, ?_⟩⟩
    have e := dot_par (c := c) (at_ u i) (at_ v i) hc.1 hu hv fun j hj => h i j hi hj
    rw [z, Int.mul_zero] at e
    exact (Int.mul_eq_zero.mp e).resolve_left ne
  · have e0 : u = zeros k := ext_at hu (dom_zeros k).1 fun i hi => by
      rw [at_zeros]
      exact Decidable.byContradiction fun z => hz ⟨i, hi, z⟩
    refine four_le hv sv (Mn.congr (fun c hc => ?_) hx)
    rw [zv_two, zv_one]
    refine ⟨fun z => z.2, fun z => ⟨?_, z⟩⟩
    have e := dot_par (c := c) (u := v) (v := u) 1 0 hc.1 hv hu fun j hj => by rw [e0, at_zeros]; simp
    omega

/-- the row of two balances of three kinds -/
def cross (u v : List Int) : List Int := [at_ u 1 * at_ v 2 - at_ u 2 * at_ v 1, at_ u 2 * at_ v 0 - at_ u 0 * at_ v 2, at_ u 0 * at_ v 1 - at_ u 1 * at_ v 0]
theorem len3 {c : List Int} (h : c.length = 3) : ∃ a b d, c = [a, b, d] := by
  match c, h with
  | [a, b, d], _ => exact ⟨a, b, d, rfl⟩
theorem len2 {c : List Int} (h : c.length = 2) : ∃ a b, c = [a, b] := by
  match c, h with
  | [a, b], _ => exact ⟨a, b, rfl⟩
theorem dot3 (a b c x y z : Int) : dot [a, b, c] [x, y, z] = a * x + b * y + c * z := by simp [dot]; omega
theorem dot2 (a b x y : Int) : dot [a, b] [x, y] = a * x + b * y := by simp [dot]
theorem two_le {k : Nat} (hk : k ≤ 3) {u v : List Int} (hu : u.length = k) (hv : v.length = k) (su : Small u) (sv : Small v) (h3 : k = 3 → cross u v = [0, 0, 0]) {x : List Int} (hx : Mn k (Zv [(0, u), (0, v)]) x) : x.sum ≤ 4 := by
  match k, hk with
  | 0, _ =>
    rw [dom_nil hx.1]; simp
  | 1, _ =>
    refine par_le hu hv su sv (fun i j hi hj => ?_) hx
    have : i = 0 := by omega
    have : j = 0 := by omega
    subst i j
    rw [Int.mul_comm]
  | 2, _ =>
    obtain ⟨a, b, rfl⟩ := len2 hu
    obtain ⟨c, d, rfl⟩ := len2 hv
    by_cases e : a * d = b * c
    · refine par_le hu hv su sv (fun i j hi hj => ?_) hx
      have h' : (i = 0 ∨ i = 1) ∧ (j = 0 ∨ j = 1) := by omega
      rcases h' with ⟨rfl | rfl, rfl | rfl⟩ <;> simp [at_]
      · rw [Int.mul_comm]
      · rw [e, Int.mul_comm]
      · rw [← e, Int.mul_comm]
      · rw [Int.mul_comm]
    · obtain ⟨y, z, rfl⟩ := len2 hx.1.1
      have h1 := zv_two.mp hx.2.1
      rw [dot2, dot2] at h1
      obtain ⟨h1, h2⟩ := h1
      have ne : a * d - b * c ≠ 0 := by omega
      have ey : y = 0 := by
        have : (a * d - b * c) * y = 0 := by grind
        exact (Int.mul_eq_zero.mp this).resolve_left ne
      have ez : z = 0 := by
        have : (a * d - b * c) * z = 0 := by grind
        exact (Int.mul_eq_zero.mp this).resolve_left ne
      subst ey ez
      have := hx.2.2.1
      simp at this
  | 3, _ =>
    obtain ⟨a, b, c, rfl⟩ := len3 hu
    obtain ⟨d, e, f, rfl⟩ := len3 hv
    have h := h3 rfl
    simp [cross, at_] at h
    obtain ⟨q1, q2, q3⟩ := h
    refine par_le hu hv su sv (fun i j hi hj => ?_) hx
    have h' : (i = 0 ∨ i = 1 ∨ i = 2) ∧ (j = 0 ∨ j = 1 ∨ j = 2) := by omega
    rcases h' with ⟨rfl | rfl | rfl, rfl | rfl | rfl⟩ <;> simp [at_] <;> grind

/-! ### the law's own bound -/
def mostOf (vs : List Pr) : Int := vs.foldl (fun a p => if 0 < p.1 then a * p.1 else a) (if (vs.filter fun p => p.1 = 0) = [] then 1 else 4)
theorem filter_none {vs : List Pr} (h : ∀ p ∈ vs, 0 < p.1) : (vs.filter fun p => p.1 = 0) = [] := by
  rw [List.filter_eq_nil_iff]
  intro p hp
  have := h p hp
  simp; omega
theorem fold_pos : ∀ (vs : List Pr) (a : Int), (∀ p ∈ vs, 0 < p.1) → vs.foldl (fun a p => if 0 < p.1 then a * p.1 else a) a = vs.foldl (fun a p => a * p.1) a
  | [], a, _ => rfl
  | p :: vs, a, h => by
    rw [List.foldl_cons, List.foldl_cons, if_pos (h p (by simp)), fold_pos vs _ fun q hq => h q (by simp [hq])]
theorem most_clocks {vs : List Pr} (h : ∀ p ∈ vs, 0 < p.1) : mostOf vs = prodM vs := by
  unfold mostOf prodM
  rw [filter_none h, if_pos rfl, fold_pos vs 1 h]
/-- the case in which the law reckons a row -/
def Special (k : Nat) (vs : List Pr) : Prop := k = 3 ∧ ∃ u v, vs = [(0, u), (0, v)] ∧ cross u v ≠ [0, 0, 0]
theorem zv_swap {p q : Pr} {c : List Int} : Zv [p, q] c ↔ Zv [q, p] c := by
  unfold Zv
  simp only [List.mem_cons, List.not_mem_nil, or_false, forall_eq_or_imp, forall_eq]
  exact And.comm
theorem most_le {k : Nat} {vs : List Pr} (h : Named k vs) (hs : ¬ Special k vs) {x : List Int} (hx : Mn k (Zv vs) x) : x.sum ≤ mostOf vs := by
  cases h with
  | clocks hm hl =>
    have pos : ∀ p ∈ vs, 0 < p.1 := fun p hp => by
      have := (clock_ok hm).1 p.1 (List.mem_map_of_mem hp)
      omega
    rw [most_clocks pos]
    exact clocks_le _ rfl (fun p hp => ⟨pos p hp, hl p hp⟩) x hx
  | bal hl sh => exact four_le hl sh hx
  | @balClock h g m h3 h2 h4 hm2 hl gl sh =>
    have hm : mostOf [(0, h), (m, g)] = m * 4 := by
      simp [mostOf, show ¬ m = 0 by omega, show 0 < m by omega, Int.mul_comm]
    rw [hm]
    exact bound_clock (S := Zv [(0, h)]) (p := (m, g)) (ker_zv fun q hq => by rw [List.mem_singleton.mp hq]; exact hl) gl (show 0 < m by omega) (B := 4) (by omega) (fun q hq => four_le hl sh hq) (mn_snoc (vs := [(0, h)]).mp hx)
  | @clockBal h g m h3 h2 h4 hm2 hl gl sh =>
    have hm : mostOf [(m, g), (0, h)] = m * 4 := by
      simp [mostOf, show ¬ m = 0 by omega, show 0 < m by omega, Int.mul_comm]
    rw [hm]
    exact bound_clock (S := Zv [(0, h)]) (p := (m, g)) (ker_zv fun q hq => by rw [List.mem_singleton.mp hq]; exact hl) gl (show 0 < m by omega) (B := 4) (by omega) (fun q hq => four_le hl sh hq)
      (mn_snoc (vs := [(0, h)]).mp (Mn.congr (fun c _ => zv_swap) hx))
  | @two h g h3 hl gl sh sg =>
    have hm : mostOf [(0, h), (0, g)] = 4 := by simp [mostOf]
    rw [hm]
    refine two_le h3 hl gl sh sg (fun e => ?_) hx
    exact Decidable.byContradiction fun ne => hs ⟨e, h, g, rfl, ne⟩
theorem most_small {k : Nat} {vs : List Pr} (h : Named k vs) : 0 ≤ mostOf vs ∧ mostOf vs ≤ 16 := by
  cases h with
  | clocks hm hl =>
    have pos : ∀ p ∈ vs, 0 < p.1 := fun p hp => by
      have := (clock_ok hm).1 p.1 (List.mem_map_of_mem hp)
      omega
    rw [most_clocks pos]
    have := prodM_pos _ (vs := vs) rfl pos
    have h2 := (clock_ok hm).2.1
    rw [← prodM_map] at h2
    omega
  | bal hl hs => simp [mostOf]
  | @balClock h g m h3 h2 h4 hm2 hl gl sh =>
    simp [mostOf, show ¬ m = 0 by omega, show 0 < m by omega]; omega
  | @clockBal h g m h3 h2 h4 hm2 hl gl sh =>
    simp [mostOf, show ¬ m = 0 by omega, show 0 < m by omega]; omega
  | @two h g h3 hl gl sh sg => simp [mostOf]

/-! ### the row's least crowd -/
/-- m is the greatest number from 1 to 8 that divides all -/
structure Whole (r : List Int) (m : Int) : Prop where
  lo : 1 ≤ m
  hi : m ≤ 8
  dv : ∀ x ∈ r, x % m = 0
  top : ∀ n, 1 ≤ n → n ≤ 8 → (∀ x ∈ r, x % n = 0) → n ≤ m
theorem cross_small {u v : List Int} (hu : u.length = 3) (hv : v.length = 3) (su : Small u) (sv : Small v) : ∀ x ∈ cross u v, -8 ≤ x ∧ x ≤ 8 := by
  have bd : ∀ {a b c d : Int}, (-2 ≤ a ∧ a ≤ 2) → (-2 ≤ b ∧ b ≤ 2) → (-2 ≤ c ∧ c ≤ 2) → (-2 ≤ d ∧ d ≤ 2) → -8 ≤ a * b - c * d ∧ a * b - c * d ≤ 8 := by
    intro a b c d ha hb hc hd
    have e1 : a = -2 ∨ a = -1 ∨ a = 0 ∨ a = 1 ∨ a = 2 := by omega
    have e2 : c = -2 ∨ c = -1 ∨ c = 0 ∨ c = 1 ∨ c = 2 := by omega
    rcases e1 with rfl | rfl | rfl | rfl | rfl <;> rcases e2 with rfl | rfl | rfl | rfl | rfl <;> omega
  have m1 : ∀ i, i < 3 → -2 ≤ at_ u i ∧ at_ u i ≤ 2 := fun i hi => su _ (at_mem (by omega))
  have m2 : ∀ i, i < 3 → -2 ≤ at_ v i ∧ at_ v i ≤ 2 := fun i hi => sv _ (at_mem (by omega))
  intro x hx
  simp only [cross, List.mem_cons, List.not_mem_nil, or_false] at hx
  rcases hx with rfl | rfl | rfl
  · exact bd (m1 1 (by omega)) (m2 2 (by omega)) (m1 2 (by omega)) (m2 1 (by omega))
  · exact bd (m1 2 (by omega)) (m2 0 (by omega)) (m1 0 (by omega)) (m2 2 (by omega))
  · exact bd (m1 0 (by omega)) (m2 1 (by omega)) (m1 1 (by omega)) (m2 0 (by omega))
/-- behind the division nothing from 2 on divides all -/
theorem whole_gcd {a b c m : Int} (hw : Whole [a, b, c] m) (hs : ∀ x ∈ [a, b, c], -8 ≤ x ∧ x ≤ 8) (ne : [a, b, c] ≠ [0, 0, 0]) : Nat.gcd (a / m).natAbs (Nat.gcd (b / m).natAbs (c / m).natAbs) = 1 := by
  have ea : a = m * (a / m) := (Int.mul_ediv_cancel' (Int.dvd_of_emod_eq_zero (hw.dv a (by simp)))).symm
  have eb : b = m * (b / m) := (Int.mul_ediv_cancel' (Int.dvd_of_emod_eq_zero (hw.dv b (by simp)))).symm
  have ec : c = m * (c / m) := (Int.mul_ediv_cancel' (Int.dvd_of_emod_eq_zero (hw.dv c (by simp)))).symm
  generalize hg : Nat.gcd (a / m).natAbs (Nat.gcd (b / m).natAbs (c / m).natAbs) = g
  have h1 : g ∣ (a / m).natAbs := hg ▸ Nat.gcd_dvd_left _ _
  have h23 : g ∣ Nat.gcd (b / m).natAbs (c / m).natAbs := hg ▸ Nat.gcd_dvd_right _ _
  have h2 : g ∣ (b / m).natAbs := Nat.dvd_trans h23 (Nat.gcd_dvd_left _ _)
  have h3 : g ∣ (c / m).natAbs := Nat.dvd_trans h23 (Nat.gcd_dvd_right _ _)
  have d1 : (g : Int) ∣ a / m := Int.ofNat_dvd_left.mpr h1
  have d2 : (g : Int) ∣ b / m := Int.ofNat_dvd_left.mpr h2
  have d3 : (g : Int) ∣ c / m := Int.ofNat_dvd_left.mpr h3
  have D1 : m * g ∣ a := by rw [ea]; exact Int.mul_dvd_mul_left m d1
  have D2 : m * g ∣ b := by rw [eb]; exact Int.mul_dvd_mul_left m d2
  have D3 : m * g ∣ c := by rw [ec]; exact Int.mul_dvd_mul_left m d3
  have gpos : 0 < g := by
    by_cases hz : g = 0
    · subst hz
      have za : a = 0 := by simpa using D1
      have zb : b = 0 := by simpa using D2
      have zc : c = 0 := by simpa using D3
      exact absurd (by rw [za, zb, zc]) ne
    · omega
  have mp := hw.lo
  have mg : 0 < m * (g : Int) := Int.mul_pos (by omega) (by omega)
  have le8 : m * (g : Int) ≤ 8 := by
    have key : ∀ x, x ∈ [a, b, c] → x ≠ 0 → m * (g : Int) ∣ x → m * (g : Int) ≤ 8 := fun x hx nx hd => by
      have := hs x hx
      have h := Int.le_of_dvd (show 0 < (x.natAbs : Int) by omega) (Int.dvd_natAbs.mpr hd)
      omega
    by_cases za : a = 0
    · by_cases zb : b = 0
      · by_cases zc : c = 0
        · exact absurd (by rw [za, zb, zc]) ne
        · exact key c (by simp) zc D3
      · exact key b (by simp) zb D2
    · exact key a (by simp) za D1
  have top := hw.top (m * g) (by omega) le8 fun x hx => by
    simp only [List.mem_cons, List.not_mem_nil, or_false] at hx
    rcases hx with rfl | rfl | rfl
    · exact Int.emod_eq_zero_of_dvd D1
    · exact Int.emod_eq_zero_of_dvd D2
    · exact Int.emod_eq_zero_of_dvd D3
  by_cases h : g = 1
  · exact h
  · have : m * 2 ≤ m * (g : Int) := Int.mul_le_mul_of_nonneg_left (by omega) (by omega)
    omega
end NL
end
section
set_option linter.all false
set_option Elab.async false
/-! M5: the row's crowd is the one least crowd. -/
namespace NL
theorem cross_dot {a b c d e f : Int} {r0 r1 r2 : Int} (h : cross [a, b, c] [d, e, f] = [r0, r1, r2]) : r0 * a + r1 * b + r2 * c = 0 ∧ r0 * d + r1 * e + r2 * f = 0 := by
  simp [cross, at_] at h
  obtain ⟨rfl, rfl, rfl⟩ := h
  constructor <;> grind
theorem cross_par {a b c d e f : Int} {r0 r1 r2 x y z : Int} (h : cross [a, b, c] [d, e, f] = [r0, r1, r2]) (h1 : x * a + y * b + z * c = 0) (h2 : x * d + y * e + z * f = 0) :
    r0 * y = r1 * x ∧ r0 * z = r2 * x ∧ r1 * z = r2 * y := by
  simp [cross, at_] at h
  obtain ⟨rfl, rfl, rfl⟩ := h
  refine ⟨?_, ?_, ?_⟩ <;> grind
/-- R nonneg, coprime; x nonneg, not nobody, along R: R is within x -/
theorem along {A B C x y z : Int} (hA : 0 ≤ A) (hB : 0 ≤ B) (hC : 0 ≤ C) (g : Nat.gcd A.natAbs (Nat.gcd B.natAbs C.natAbs) = 1) (hx : 0 ≤ x) (hy : 0 ≤ y) (hz : 0 ≤ z) (pos : 0 < x + y + z)
    (e1 : A * y = B * x) (e2 : A * z = C * x) (e3 : B * z = C * y) : A ≤ x ∧ B ≤ y ∧ C ≤ z := by
  -- one place with a member there and in the row
  have key : ∀ {P Q R u v w : Int}, 0 ≤ P → 0 ≤ Q → 0 ≤ R → Nat.gcd P.natAbs (Nat.gcd Q.natAbs R.natAbs) = 1 → 0 < u → 0 ≤ v → 0 ≤ w → P * v = Q * u → P * w = R * u → P ≤ u ∧ Q ≤ v ∧ R ≤ w := by
    intro P Q R u v w hP hQ hR hg hu hv hw f1 f2
    have hP0 : P ≠ 0 := by
      intro z
      subst z
      have q0 : Q * u = 0 := by omega
      have r0 : R * u = 0 := by omega
      have q1 : Q = 0 := (Int.mul_eq_zero.mp q0).resolve_right (by omega)
      have r1 : R = 0 := (Int.mul_eq_zero.mp r0).resolve_right (by omega)
      subst q1 r1
      simp at hg
    obtain ⟨p, rfl⟩ := Int.eq_ofNat_of_zero_le hP
    obtain ⟨q, rfl⟩ := Int.eq_ofNat_of_zero_le hQ
    obtain ⟨r, rfl⟩ := Int.eq_ofNat_of_zero_le hR
    obtain ⟨n, rfl⟩ := Int.eq_ofNat_of_zero_le (show 0 ≤ u by omega)
    obtain ⟨m, rfl⟩ := Int.eq_ofNat_of_zero_le hv
    obtain ⟨l, rfl⟩ := Int.eq_ofNat_of_zero_le hw
    have f1' : p * m = q * n := by exact_mod_cast f1
    have f2' : p * l = r * n := by exact_mod_cast f2
    have hg' : Nat.gcd p (Nat.gcd q r) = 1 := hg
    have hp0 : p ≠ 0 := by intro z; exact hP0 (by rw [z]; rfl)
    have d : p ∣ n := by
      have d1 : p ∣ q * n := ⟨m, f1'.symm⟩
      have d2 : p ∣ r * n := ⟨l, f2'.symm⟩
      have d3 : p ∣ Nat.gcd (q * n) (r * n) := Nat.dvd_gcd d1 d2
      rw [Nat.gcd_mul_right] at d3
      exact Nat.Coprime.dvd_of_dvd_mul_left (show Nat.Coprime p (Nat.gcd q r) from hg') d3
    obtain ⟨t, rfl⟩ := d
    have ht : 1 ≤ t := by
      by_cases h0 : t = 0
      · subst h0; simp at hu
      · omega
    have em : m = q * t := by
      have : p * m = p * (q * t) := by rw [f1']; exact Nat.mul_left_comm _ _ _
      exact Nat.eq_of_mul_eq_mul_left (by omega) this
    have el : l = r * t := by
      have : p * l = p * (r * t) := by rw [f2']; exact Nat.mul_left_comm _ _ _
      exact Nat.eq_of_mul_eq_mul_left (by omega) this
    subst em el
    have h1 := Nat.mul_le_mul_left p ht
    have h2 := Nat.mul_le_mul_left q ht
    have h3 := Nat.mul_le_mul_left r ht
    rw [Nat.mul_one] at h1 h2 h3
    exact ⟨by exact_mod_cast h1, by exact_mod_cast h2, by exact_mod_cast h3⟩
  by_cases px : 0 < x
  · exact key hA hB hC g px hy hz e1 e2
  · by_cases py : 0 < y
    · have := key (P := B) (Q := A) (R := C) hB hA hC (by rw [Nat.gcd_left_comm]; exact g) py hx hz e1.symm e3
      exact ⟨this.2.1, this.1, this.2.2⟩
    · have := key (P := C) (Q := A) (R := B) hC hA hB (by rw [Nat.gcd_comm B.natAbs] at g; rw [Nat.gcd_left_comm]; exact g) (show 0 < z by omega) hx hy e2.symm e3.symm
      exact ⟨this.2.1, this.2.2, this.1⟩
theorem abs_nn (x : Int) : 0 ≤ (if x < 0 then -x else x) := by split <;> omega
theorem natAbs_abs (x : Int) : (if x < 0 then -x else x).natAbs = x.natAbs := by split <;> omega
/-- what the law tells of the row -/
theorem special_mn {u v : List Int} (hu : u.length = 3) (hv : v.length = 3) (su : Small u) (sv : Small v) {r0 r1 r2 m : Int} (hc : cross u v = [r0, r1, r2]) (ne : [r0, r1, r2] ≠ [0, 0, 0]) (hw : Whole [r0, r1, r2] m) (x : List Int) :
    Mn 3 (Zv [(0, u), (0, v)]) x ↔ (¬ (min (r0 / m) (min (r1 / m) (r2 / m)) < 0 ∧ 0 < max (r0 / m) (max (r1 / m) (r2 / m))) ∧
      x = [if r0 / m < 0 then -(r0 / m) else r0 / m, if r1 / m < 0 then -(r1 / m) else r1 / m, if r2 / m < 0 then -(r2 / m) else r2 / m]) := by
  have hsm := cross_small hu hv su sv
  rw [hc] at hsm
  have hg := whole_gcd hw hsm ne
  obtain ⟨a, b, c, rfl⟩ := len3 hu
  obtain ⟨d, e, f, rfl⟩ := len3 hv
  have ea : r0 = m * (r0 / m) := (Int.mul_ediv_cancel' (Int.dvd_of_emod_eq_zero (hw.dv r0 (by simp)))).symm
  have eb : r1 = m * (r1 / m) := (Int.mul_ediv_cancel' (Int.dvd_of_emod_eq_zero (hw.dv r1 (by simp)))).symm
  have ec : r2 = m * (r2 / m) := (Int.mul_ediv_cancel' (Int.dvd_of_emod_eq_zero (hw.dv r2 (by simp)))).symm
  obtain ⟨c1, c2⟩ := cross_dot hc
  have mp := hw.lo
  generalize r0 / m = s0 at *
  generalize r1 / m = s1 at *
  generalize r2 / m = s2 at *
  subst ea eb ec
  have c1' : s0 * a + s1 * b + s2 * c = 0 := by
    have : m * (s0 * a + s1 * b + s2 * c) = 0 := by grind
    exact (Int.mul_eq_zero.mp this).resolve_left (by omega)
  have c2' : s0 * d + s1 * e + s2 * f = 0 := by
    have : m * (s0 * d + s1 * e + s2 * f) = 0 := by grind
    exact (Int.mul_eq_zero.mp this).resolve_left (by omega)
  have zv3 : ∀ {x y z : Int}, Zv [(0, [a, b, c]), (0, [d, e, f])] [x, y, z] ↔ (x * a + y * b + z * c = 0 ∧ x * d + y * e + z * f = 0) := by
    intro x y z
    rw [zv_two, dot3, dot3]
  have par : ∀ {x y z : Int}, Zv [(0, [a, b, c]), (0, [d, e, f])] [x, y, z] → s0 * y = s1 * x ∧ s0 * z = s2 * x ∧ s1 * z = s2 * y := by
    intro x y z hz
    obtain ⟨h1, h2⟩ := zv3.mp hz
    obtain ⟨p1, p2, p3⟩ := cross_par hc h1 h2
    have cl : ∀ {s t w y : Int}, m * s * y = m * t * w → s * y = t * w := fun {s t w y} h => by
      have : m * (s * y) = m * (t * w) := by rw [← Int.mul_assoc, ← Int.mul_assoc]; exact h
      exact Int.eq_of_mul_eq_mul_left (by omega) this
    exact ⟨cl p1, cl p2, cl p3⟩
  -- the signs agree
  have signs : ∀ {x y z : Int}, 0 ≤ x → 0 ≤ y → 0 ≤ z → 0 < x + y + z → Zv [(0, [a, b, c]), (0, [d, e, f])] [x, y, z] → (0 ≤ s0 ∧ 0 ≤ s1 ∧ 0 ≤ s2) ∨ (s0 ≤ 0 ∧ s1 ≤ 0 ∧ s2 ≤ 0) := by
    intro x y z hx hy hz hp hZ
    obtain ⟨p1, p2, p3⟩ := par hZ
    have sg : ∀ {s t x y : Int}, 0 < x → 0 ≤ y → s * y = t * x → (0 ≤ s → 0 ≤ t) ∧ (s ≤ 0 → t ≤ 0) := by
      intro s t x y hx hy h
      constructor
      · intro hs
        have := Int.mul_nonneg hs hy
        exact Decidable.byContradiction fun hn => by
          have := Int.mul_neg_of_neg_of_pos (show t < 0 by omega) hx
          omega
      · intro hs
        have := Int.mul_nonpos_of_nonpos_of_nonneg hs hy
        exact Decidable.byContradiction fun hn => by
          have := Int.mul_pos (show 0 < t by omega) hx
          omega
    by_cases px : 0 < x
    · have q1 := sg px hy p1
      have q2 := sg px hz p2
      by_cases h : 0 ≤ s0
      · exact .inl ⟨h, q1.1 h, q2.1 h⟩
      · exact .inr ⟨by omega, q1.2 (by omega), q2.2 (by omega)⟩
    · by_cases py : 0 < y
      · have q1 := sg py hx p1.symm
        have q2 := sg py hz p3
        by_cases h : 0 ≤ s1
        · exact .inl ⟨q1.1 h, h, q2.1 h⟩
        · exact .inr ⟨q1.2 (by omega), by omega, q2.2 (by omega)⟩
      · have q1 := sg (show 0 < z by omega) hx p2.symm
        have q2 := sg (show 0 < z by omega) hy p3.symm
        by_cases h : 0 ≤ s2
        · exact .inl ⟨q1.1 h, q2.1 h, h⟩
        · exact .inr ⟨q1.2 (by omega), q2.2 (by omega), by omega⟩
  have dom3 : ∀ {x y z : Int}, Dom 3 [x, y, z] ↔ (0 ≤ x ∧ 0 ≤ y ∧ 0 ≤ z) := by
    intro x y z
    unfold Dom
    simp
  have vle3 : ∀ {x y z x' y' z' : Int}, vle [x, y, z] [x', y', z'] = true ↔ (x ≤ x' ∧ y ≤ y' ∧ z ≤ z') := by
    intro x y z x' y' z'
    rw [vle_cons_iff, vle_cons_iff, vle_cons_iff]
    simp [vle]
  have hg' : Nat.gcd (if s0 < 0 then -s0 else s0).natAbs (Nat.gcd (if s1 < 0 then -s1 else s1).natAbs (if s2 < 0 then -s2 else s2).natAbs) = 1 := by
    rw [natAbs_abs, natAbs_abs, natAbs_abs]; exact hg
  have n0 := abs_nn s0
  have n1 := abs_nn s1
  have n2 := abs_nn s2
  -- every crowd of the kernel holds R
  have holds : ∀ {x y z : Int}, 0 ≤ x → 0 ≤ y → 0 ≤ z → 0 < x + y + z → Zv [(0, [a, b, c]), (0, [d, e, f])] [x, y, z] → (if s0 < 0 then -s0 else s0) ≤ x ∧ (if s1 < 0 then -s1 else s1) ≤ y ∧ (if s2 < 0 then -s2 else s2) ≤ z := by
    intro x y z hx hy hz hp hZ
    obtain ⟨p1, p2, p3⟩ := par hZ
    have ng : ∀ {s t x y : Int}, s * y = t * x → (-s) * y = (-t) * x := fun {s t x y} h => by rw [Int.neg_mul, Int.neg_mul, h]
    have sg := signs hx hy hz hp hZ
    rcases sg with ⟨g0, g1, g2⟩ | ⟨g0, g1, g2⟩
    · have a0 : (if s0 < 0 then -s0 else s0) = s0 := if_neg (by omega)
      have a1 : (if s1 < 0 then -s1 else s1) = s1 := if_neg (by omega)
      have a2 : (if s2 < 0 then -s2 else s2) = s2 := if_neg (by omega)
      rw [a0, a1, a2] at hg' ⊢
      exact along g0 g1 g2 hg' hx hy hz hp p1 p2 p3
    · have a0 : (if s0 < 0 then -s0 else s0) = -s0 := by split <;> omega
      have a1 : (if s1 < 0 then -s1 else s1) = -s1 := by split <;> omega
      have a2 : (if s2 < 0 then -s2 else s2) = -s2 := by split <;> omega
      rw [a0, a1, a2] at hg' ⊢
      exact along (by omega) (by omega) (by omega) hg' hx hy hz hp (ng p1) (ng p2) (ng p3)
  have mixed : (min s0 (min s1 s2) < 0 ∧ 0 < max s0 (max s1 s2)) ↔ ¬ ((0 ≤ s0 ∧ 0 ≤ s1 ∧ 0 ≤ s2) ∨ (s0 ≤ 0 ∧ s1 ≤ 0 ∧ s2 ≤ 0)) := by omega
  have Rz : ((0 ≤ s0 ∧ 0 ≤ s1 ∧ 0 ≤ s2) ∨ (s0 ≤ 0 ∧ s1 ≤ 0 ∧ s2 ≤ 0)) → Zv [(0, [a, b, c]), (0, [d, e, f])] [if s0 < 0 then -s0 else s0, if s1 < 0 then -s1 else s1, if s2 < 0 then -s2 else s2] := by
    intro sg
    rw [zv3]
    rcases sg with ⟨g0, g1, g2⟩ | ⟨g0, g1, g2⟩
    · rw [if_neg (show ¬ s0 < 0 by omega), if_neg (show ¬ s1 < 0 by omega), if_neg (show ¬ s2 < 0 by omega)]
      exact ⟨c1', c2'⟩
    · rw [show (if s0 < 0 then -s0 else s0) = -s0 by split <;> omega, show (if s1 < 0 then -s1 else s1) = -s1 by split <;> omega, show (if s2 < 0 then -s2 else s2) = -s2 by split <;> omega]
      simp only [Int.neg_mul]
      omega
  have Rpos : 0 < (if s0 < 0 then -s0 else s0) + (if s1 < 0 then -s1 else s1) + (if s2 < 0 then -s2 else s2) := by
    have h : ¬ (s0 = 0 ∧ s1 = 0 ∧ s2 = 0) := by
      rintro ⟨rfl, rfl, rfl⟩
      simp at ne
    split <;> split <;> split <;> omega
  rw [mixed]
  constructor
  · intro hx
    obtain ⟨x, y, z, rfl⟩ := len3 hx.1.1
    obtain ⟨h1, h2, h3⟩ := dom3.mp hx.1
    have hp : 0 < x + y + z := by
      have := hx.2.2.1
      simp at this
      omega
    have sg := signs h1 h2 h3 hp hx.2.1
    refine ⟨fun z => z sg, ?_⟩
    exact (hx.2.2.2 _ (dom3.mpr ⟨n0, n1, n2⟩) (Rz sg) (by simp; omega) (vle3.mpr (holds h1 h2 h3 hp hx.2.1))).symm
  · rintro ⟨sg, rfl⟩
    have sg := Decidable.not_not.mp sg
    refine ⟨dom3.mpr ⟨n0, n1, n2⟩, Rz sg, by simp; omega, fun w hw sw pw lw => ?_⟩
    obtain ⟨x, y, z, rfl⟩ := len3 hw.1
    obtain ⟨h1, h2, h3⟩ := dom3.mp hw
    have hp : 0 < x + y + z := by simp at pw; omega
    have hh := holds h1 h2 h3 hp sw
    have hl := vle3.mp lw
    rw [show x = (if s0 < 0 then -s0 else s0) by omega, show y = (if s1 < 0 then -s1 else s1) by omega, show z = (if s2 < 0 then -s2 else s2) by omega]
end NL
end
section
set_option linter.all false
set_option Elab.async false
/-! M6: the law's own search; told_book's search. -/
namespace NL

/-! ### the last kind of a crowd -/
structure IsLast (c : List Int) (m : Nat) : Prop where
  is : m = 0 ∨ 0 < at_ c m
  top : ∀ i, 0 < at_ c i → i ≤ m
theorem IsLast.uniq {c : List Int} {m n : Nat} (h : IsLast c m) (g : IsLast c n) : m = n := by
  have a : m ≤ n := by
    rcases h.is with z | z
    · omega
    · exact g.top m z
  have b : n ≤ m := by
    rcases g.is with z | z
    · omega
    · exact h.top n z
  omega
def lastK : List Int → Nat
  | [] => 0
  | x :: r => if ∃ y ∈ r, 0 < y then lastK r + 1 else 0
theorem at_pos_mem {c : List Int} {i : Nat} (h : 0 < at_ c i) : ∃ y ∈ c, 0 < y := by
  unfold at_ at h
  rw [List.getD_eq_getElem?_getD] at h
  cases e : c[i]? with
  | none => rw [e] at h; simp at h
  | some v => rw [e] at h; exact ⟨v, List.mem_of_getElem? e, h⟩
theorem lastK_is : ∀ c : List Int, IsLast c (lastK c)
  | [] => ⟨.inl rfl, fun i h => by rw [at_nil] at h; omega⟩
  | x :: r => by
    have ih := lastK_is r
    unfold lastK
    split
    · rename_i h
      refine ⟨.inr ?_, fun i hi => ?_⟩
      · rw [at_cons_succ]
        rcases ih.is with z | z
        · obtain ⟨y, hy, hp⟩ := h
          obtain ⟨j, hj⟩ := List.mem_iff_getElem?.mp hy
          have hj2 : 0 < at_ r j := by unfold at_; rw [List.getD_eq_getElem?_getD, hj]; exact hp
          have := ih.top j hj2
          have e : j = lastK r := by omega
          rw [← e]; exact hj2
        · exact z
      · cases i with
        | zero => omega
        | succ i => rw [at_cons_succ] at hi; have := ih.top i hi; omega
    · rename_i h
      refine ⟨.inl rfl, fun i hi => ?_⟩
      cases i with
      | zero => omega
      | succ i => rw [at_cons_succ] at hi; exact absurd (at_pos_mem hi) h

/-! ### the law's search -/
def kids (k : Nat) (found : List (List Int)) (c : List Int) : List (List Int) :=
  ((List.range' (lastK c) (k - lastK c)).map fun j => vadd c (uni k j)).filter fun o => !(found.any fun f => vle f o)
def laterOf (k : Nat) (found wave : List (List Int)) : List (List Int) := wave.flatMap (kids k found)
def zvB (vs : List Pr) (c : List Int) : Bool := vs.all fun p => decide (hr p c = 0)
theorem zvB_iff {vs : List Pr} {c : List Int} : zvB vs c = true ↔ Zv vs c := by
  unfold zvB Zv
  simp
def lb (k : Nat) (vs : List Pr) : Nat → List (List Int) × List (List Int)
  | 0 => ([], [zeros k])
  | n + 1 =>
    let s := lb k vs n
    let l := laterOf k s.1 s.2
    (s.1 ++ l.filter (zvB vs), l.filter fun c => !zvB vs c)
theorem add_uni_dom {k j : Nat} {c : List Int} (h : Dom k c) : Dom k (vadd c (uni k j)) := h.add (uni_dom k j)
theorem at_add_uni {k j : Nat} {c : List Int} (hj : j < k) (h : Dom k c) (i : Nat) : at_ (vadd c (uni k j)) i = at_ c i + if j = i then 1 else 0 := by
  rw [at_add i h.1 (uni_dom k j).1, at_uni i hj]
theorem last_add {k j : Nat} {c : List Int} (hj : j < k) (h : Dom k c) (hl : lastK c ≤ j) : IsLast (vadd c (uni k j)) j := by
  refine ⟨.inr ?_, fun i hi => ?_⟩
  · rw [at_add_uni hj h, if_pos rfl]
    have := h.at_nonneg j
    omega
  · rw [at_add_uni hj h] at hi
    by_cases e : j = i
    · omega
    · rw [if_neg e] at hi
      have := (lastK_is c).top i (by omega)
      omega
theorem mem_kids {k : Nat} {found : List (List Int)} {c x : List Int} : x ∈ kids k found c ↔ (∃ j, lastK c ≤ j ∧ j < k ∧ x = vadd c (uni k j)) ∧ ∀ f ∈ found, ¬ vle f x = true := by
  unfold kids
  rw [List.mem_filter, List.mem_map]
  have e : ∀ x, ((!(found.any fun f => vle f x)) = true) ↔ ∀ f ∈ found, ¬ vle f x = true := fun x => by simp
  rw [e]
  refine and_congr_left fun _ => ?_
  constructor
  · rintro ⟨j, hj, rfl⟩
    rw [List.mem_range'_1] at hj
    exact ⟨j, hj.1, by omega, rfl⟩
  · rintro ⟨j, h1, h2, rfl⟩
    exact ⟨j, List.mem_range'_1.mpr ⟨h1, by omega⟩, rfl⟩
theorem vadd_cancel {k : Nat} {a b c : List Int} (ha : a.length = k) (hb : b.length = k) (hc : c.length = k) (e : vadd a c = vadd b c) : a = b := by
  have := congrArg (fun z => vsub z c) e
  simp only [vadd_comm a c, vadd_comm b c] at this
  rwa [sub_add hc ha, sub_add hc hb] at this
theorem later_nodup {k : Nat} {found wave : List (List Int)} (hn : wave.Nodup) (hd : ∀ c ∈ wave, Dom k c) : (laterOf k found wave).Nodup := by
  unfold laterOf
  rw [List.nodup_iff_pairwise_ne] at hn ⊢
  rw [List.pairwise_flatMap]
  refine ⟨fun c hc => ?_, hn.imp_of_mem fun {a b} ha hb ne x hx y hy e => ?_⟩
  · unfold kids
    refine List.Pairwise.filter _ ?_
    rw [List.pairwise_map]
    have h1 : (List.range' (lastK c) (k - lastK c)).Nodup := List.nodup_range'
    rw [List.nodup_iff_pairwise_ne] at h1
    refine h1.imp_of_mem fun {i j} hi hj ne e => ne ?_
    rw [List.mem_range'_1] at hi hj
    rw [vadd_comm c, vadd_comm c] at e
    exact uni_inj (by omega) (by omega) (vadd_cancel (uni_dom k i).1 (uni_dom k j).1 (hd c hc).1 e)
  · subst e
    obtain ⟨⟨i, hi, hik, rfl⟩, _⟩ := mem_kids.mp hx
    obtain ⟨⟨j, hj, hjk, e⟩, _⟩ := mem_kids.mp hy
    have l1 := last_add hik (hd a ha) hi
    have l2 := last_add hjk (hd b hb) hj
    rw [← e] at l2
    have eij := l1.uniq l2
    subst eij
    exact ne (vadd_cancel (hd a ha).1 (hd b hb).1 (uni_dom k i).1 e)
/-- what stands behind n rounds -/
structure LB (k : Nat) (T : List Int → Prop) (n : Nat) (f w : List (List Int)) : Prop where
  fn : f.Nodup
  wn : w.Nodup
  fm : ∀ x, x ∈ f ↔ Mn k T x ∧ x.sum ≤ n
  wm : ∀ c, c ∈ w ↔ Dom k c ∧ c.sum = n ∧ Clean k T c
theorem lb_zero (k : Nat) (T : List Int → Prop) : LB k T 0 [] [zeros k] := by
  refine ⟨List.nodup_nil, by simp, fun x => ?_, fun c => ?_⟩
  · simp
    intro h
    exact h.2.2.1
  · rw [List.mem_singleton]
    constructor
    · rintro rfl
      refine ⟨dom_zeros k, by rw [sum_zeros]; rfl, fun d hd _ pd ld => ?_⟩
      have := vle_sum hd.1 (dom_zeros k).1 ld
      rw [sum_zeros] at this
      omega
    · rintro ⟨h, e, _⟩
      exact h.eq_zeros (by simpa using e)
theorem lb_step {k : Nat} {T : List Int → Prop} {n : Nat} {f w : List (List Int)} (h : LB k T n f w) (tb : List Int → Bool) (ht : ∀ c, tb c = true ↔ T c) :
    LB k T (n + 1) (f ++ (laterOf k f w).filter tb) ((laterOf k f w).filter fun c => !tb c) := by
  have hd : ∀ c ∈ w, Dom k c := fun c hc => ((h.wm c).mp hc).1
  have ln := later_nodup (found := f) h.wn hd
  have lm : ∀ x, x ∈ laterOf k f w ↔ Dom k x ∧ x.sum = (n : Int) + 1 ∧ ∀ d, Dom k d → T d → 0 < d.sum → vle d x = true → d = x := by
    intro x
    unfold laterOf
    rw [List.mem_flatMap]
    constructor
    · rintro ⟨c, hc, hx⟩
      obtain ⟨⟨j, hj, hjk, rfl⟩, hno⟩ := mem_kids.mp hx
      obtain ⟨dc, sc, cl⟩ := (h.wm c).mp hc
      have dx := add_uni_dom (k := k) (j := j) dc
      have es : (vadd c (uni k j)).sum = (n : Int) + 1 := by rw [sum_add dc.1 (uni_dom k j).1, uni_sum hjk, sc]
      refine ⟨dx, es, fun d hd td pd ld => ?_⟩
      obtain ⟨m, hm, lm⟩ := mn_within hd td pd
      have l2 := vle_trans hm.1.1 hd.1 dx.1 lm ld
      have s1 := vle_sum hm.1.1 hd.1 lm
      have s2 := vle_sum hd.1 dx.1 ld
      by_cases hs : m.sum ≤ n
      · exact absurd l2 (hno m ((h.fm m).mpr ⟨hm, hs⟩))
      · exact vle_eq hd.1 dx.1 ld (by omega)
    · rintro ⟨dx, sx, ac⟩
      obtain ⟨i0, hi0, hp0⟩ := sum_pos_at dx (by omega)
      have hL := lastK_is x
      have pj : 0 < at_ x (lastK x) := by
        rcases hL.is with z | z
        · have := hL.top i0 hp0
          rw [show lastK x = i0 by omega]; exact hp0
        · exact z
      have jk : lastK x < k := by
        by_cases hh : lastK x < k
        · exact hh
        · unfold at_ at pj
          rw [List.getD_eq_getElem?_getD, List.getElem?_eq_none (by rw [dx.1]; omega)] at pj
          simp at pj
      have ud := uni_dom k (lastK x)
      have ul := uni_vle jk dx pj
      have dc := ud.sub dx ul
      have ec := add_sub ud.1 dx.1
      have sc : (vsub x (uni k (lastK x))).sum = n := by rw [sum_sub dx.1 ud.1, uni_sum jk, sx]; omega
      have lc := sub_vle ud dx.1
      refine ⟨vsub x (uni k (lastK x)), (h.wm _).mpr ⟨dc, sc, fun d hd td pd ld => ?_⟩, mem_kids.mpr ⟨⟨lastK x, ?_, jk, by rw [vadd_comm, ec]⟩, fun m hm lm => ?_⟩⟩
      · have e := ac d hd td pd (vle_trans hd.1 dc.1 dx.1 ld lc)
        subst e
        have := vle_sum hd.1 dc.1 ld
        omega
      · have hl2 := lastK_is (vsub x (uni k (lastK x)))
        rcases hl2.is with z | z
        · omega
        · refine hL.top _ ?_
          rw [at_sub _ dx.1 ud.1, at_uni _ jk] at z
          split at z <;> omega
      · obtain ⟨hmn, hms⟩ := (h.fm m).mp hm
        have e := ac m hmn.1 hmn.2.1 hmn.2.2.1 lm
        subst e
        omega
  refine ⟨?_, ln.filter _, fun x => ?_, fun c => ?_⟩
  · rw [List.nodup_append]
    refine ⟨h.fn, ln.filter _, fun a ha b hb e => ?_⟩
    subst e
    have h1 := ((h.fm a).mp ha).2
    have h2 := ((lm a).mp (List.mem_filter.mp hb).1).2.1
    omega
  · rw [List.mem_append, List.mem_filter, h.fm, lm, ht]
    constructor
    · rintro (⟨a, b⟩ | ⟨⟨dx, sx, ac⟩, tx⟩)
      · exact ⟨a, by omega⟩
      · exact ⟨⟨dx, tx, by omega, ac⟩, by omega⟩
    · rintro ⟨hm, hs⟩
      by_cases hle : x.sum ≤ n
      · exact .inl ⟨hm, hle⟩
      · exact .inr ⟨⟨hm.1, by omega, hm.2.2.2⟩, hm.2.1⟩
  · rw [List.mem_filter, lm]
    have e : ((!tb c) = true) ↔ ¬ T c := by
      rw [← ht]; simp
    rw [e]
    constructor
    · rintro ⟨⟨dx, sx, ac⟩, nt⟩
      refine ⟨dx, by omega, fun d hd td pd ld => ?_⟩
      have := ac d hd td pd ld
      subst this
      exact nt td
    · rintro ⟨dx, sx, cl⟩
      have sx' : c.sum = (n : Int) + 1 := by omega
      exact ⟨⟨dx, sx', fun d hd td pd ld => (cl d hd td pd ld).elim⟩, fun tc => cl c dx tc (by omega) (vle_refl c)⟩
theorem lb_ok (k : Nat) (vs : List Pr) : ∀ n, LB k (Zv vs) n (lb k vs n).1 (lb k vs n).2
  | 0 => lb_zero k _
  | n + 1 => lb_step (lb_ok k vs n) (zvB vs) fun _ => zvB_iff

/-! ### told_book's search -/
section
variable {k : Nat} {S : List Int → Prop} {p : Pr}
/-- the crowds that come to nought -/
abbrev Tp (S : List Int → Prop) (p : Pr) : List Int → Prop := fun c => S c ∧ hr p c = 0
/-- at the start of a size: F found, A the crowds put so far -/
structure LInv (k : Nat) (S : List Int → Prop) (p : Pr) (s : Int) (F : List (List Int)) (A : List Int → Prop) : Prop where
  gr : ∀ c, A c → ∃ hs, GR k S p (okStep p) hs c
  z : A (zeros k)
  ex : ∀ c, A c → c.sum < s → Clean k (Tp S p) c → ∀ q, Mn k S q → okStep p (hr p c) (hr p q) → A (vadd c q)
  fn : F.Nodup
  fm : ∀ x, x ∈ F ↔ Mn k (Tp S p) x ∧ x.sum < s
/-- within a size: behind i crowds of L -/
structure LIn (k : Nat) (S : List Int → Prop) (p : Pr) (s : Int) (L : List (List Int)) (i : Nat) (F : List (List Int)) (A : List Int → Prop) : Prop where
  gr : ∀ c, A c → ∃ hs, GR k S p (okStep p) hs c
  z : A (zeros k)
  ex : ∀ c, A c → (c.sum < s ∨ c ∈ L.take i) → Clean k (Tp S p) c → ∀ q, Mn k S q → okStep p (hr p c) (hr p q) → A (vadd c q)
  fn : F.Nodup
  fm : ∀ x, x ∈ F ↔ Mn k (Tp S p) x ∧ (x.sum < s ∨ x ∈ L.take i)
  ln : L.Nodup
  lm : ∀ c, c.sum = s → (A c ↔ c ∈ L)
  ls : ∀ c ∈ L, c.sum = s
theorem linv_start (K : Ker k S) : LInv k S p 0 [] (fun c => c = zeros k) := by
  refine ⟨fun c e => ⟨[], by rw [e]; exact .zero⟩, rfl, fun c e hs => ?_, List.nodup_nil, fun x => ?_⟩
  · rw [e, sum_zeros] at hs; omega
  · simp
    intro h
    have := h.2.2.1
    omega
theorem lin_start {s : Int} {F : List (List Int)} {A : List Int → Prop} {L : List (List Int)} (h : LInv k S p s F A) (ln : L.Nodup) (lm : ∀ c, c ∈ L ↔ (A c ∧ c.sum = s)) : LIn k S p s L 0 F A :=
  ⟨h.gr, h.z, fun c hc hs => h.ex c hc (by simpa using hs), h.fn, fun x => by rw [h.fm]; simp, ln, fun c hs => ⟨fun a => (lm c).mpr ⟨a, hs⟩, fun m => ((lm c).mp m).1⟩, fun c hc => ((lm c).mp hc).2⟩
theorem LIn.dom (K : Ker k S) {s : Int} {L F : List (List Int)} {i : Nat} {A : List Int → Prop} (h : LIn k S p s L i F A) {c : List Int} (a : A c) : Dom k c ∧ S c := by
  obtain ⟨hs, g⟩ := h.gr c a
  exact g.dom K
theorem mem_take_succ {α : Type} {L : List α} {i : Nat} {c x : α} (hi : L[i]? = some c) : x ∈ L.take (i + 1) ↔ x ∈ L.take i ∨ x = c := by
  rw [List.take_add_one, hi]
  simp
theorem not_mem_take {α : Type} {L : List α} {i : Nat} {c : α} (hn : L.Nodup) (hi : L[i]? = some c) : c ∉ L.take i := by
  intro h
  obtain ⟨j, hj⟩ := List.mem_iff_getElem?.mp h
  rw [List.getElem?_take] at hj
  split at hj
  · rename_i hlt
    obtain ⟨h1, e1⟩ := List.getElem?_eq_some_iff.mp hi
    obtain ⟨h2, e2⟩ := List.getElem?_eq_some_iff.mp hj
    have := (List.getElem_inj hn).mp (e1.trans e2.symm)
    omega
  · cases hj
variable {s : Int} {L F : List (List Int)} {i : Nat} {A : List Int → Prop} {c : List Int}
/-- a crowd that holds a found one -/
theorem lin_skip (K : Ker k S) (h : LIn k S p s L i F A) (hi : L[i]? = some c) {f : List Int} (hf : f ∈ F) (lf : vle f c = true) : LIn k S p s L (i + 1) F A := by
  have hc := List.mem_of_getElem? hi
  have ac := (h.lm c (h.ls c hc)).mpr hc
  have hm := ((h.fm f).mp hf)
  refine ⟨h.gr, h.z, fun d hd hs cl => ?_, h.fn, fun x => ?_, h.ln, h.lm, h.ls⟩
  · rw [mem_take_succ hi] at hs
    rcases hs with hs | hs | rfl
    · exact h.ex d hd (.inl hs) cl
    · exact h.ex d hd (.inr hs) cl
    · exact (cl f hm.1.1 hm.1.2.1 hm.1.2.2.1 lf).elim
  · rw [h.fm, mem_take_succ hi]
    refine and_congr_right fun mx => ⟨fun z => z.elim .inl fun z => .inr (.inl z), fun z => ?_⟩
    rcases z with z | z | rfl
    · exact .inl z
    · exact .inr z
    · have e := mx.2.2.2 f hm.1.1 hm.1.2.1 hm.1.2.2.1 lf
      subst e
      exact hm.2
/-- behind the first test -/
theorem lin_mn (K : Ker k S) (h : LIn k S p s L i F A) (hi : L[i]? = some c) (no : ∀ f ∈ F, ¬ vle f c = true) {d : List Int} (hd : Dom k d) (td : Tp S p d) (pd : 0 < d.sum) (ld : vle d c = true) : d = c := by
  have hc := List.mem_of_getElem? hi
  have hs := h.ls c hc
  have ac := (h.lm c hs).mpr hc
  have dc := (h.dom K ac).1
  obtain ⟨m, hm, lm⟩ := mn_within hd td pd
  have l2 := vle_trans hm.1.1 hd.1 dc.1 lm ld
  have s1 := vle_sum hm.1.1 hd.1 lm
  have s2 := vle_sum hd.1 dc.1 ld
  by_cases hlt : m.sum < s
  · exact absurd l2 (no m ((h.fm m).mpr ⟨hm, .inl hlt⟩))
  · exact vle_eq hd.1 dc.1 ld (by omega)
theorem lin_found (K : Ker k S) (h : LIn k S p s L i F A) (hi : L[i]? = some c) (no : ∀ f ∈ F, ¬ vle f c = true) (h0 : hr p c = 0) (hs0 : 0 < s) : LIn k S p s L (i + 1) (F ++ [c]) A := by
  have hc := List.mem_of_getElem? hi
  have hs := h.ls c hc
  have ac := (h.lm c hs).mpr hc
  have dc := h.dom K ac
  have mc : Mn k (Tp S p) c := ⟨dc.1, ⟨dc.2, h0⟩, by omega, fun d hd td pd ld => lin_mn K h hi no hd td pd ld⟩
  have nc : c ∉ F := fun hf => no c hf (vle_refl c)
  refine ⟨h.gr, h.z, fun d hd hs cl => ?_, ?_, fun x => ?_, h.ln, h.lm, h.ls⟩
  · rw [mem_take_succ hi] at hs
    rcases hs with hs | hs | rfl
    · exact h.ex d hd (.inl hs) cl
    · exact h.ex d hd (.inr hs) cl
    · exact (cl d dc.1 ⟨dc.2, h0⟩ (by omega) (vle_refl d)).elim
  · rw [List.nodup_append]
    refine ⟨h.fn, by simp, fun a ha b hb e => ?_⟩
    rw [List.mem_singleton] at hb
    subst e
    subst hb
    exact nc ha
  · rw [List.mem_append, List.mem_singleton, h.fm, mem_take_succ hi]
    constructor
    · rintro (⟨a, b⟩ | rfl)
      · exact ⟨a, b.elim .inl fun z => .inr (.inl z)⟩
      · exact ⟨mc, .inr (.inr rfl)⟩
    · rintro ⟨mx, z | z | z⟩
      · exact .inl ⟨mx, .inl z⟩
      · exact .inl ⟨mx, .inr z⟩
      · exact .inr z
theorem lin_clean (K : Ker k S) (h : LIn k S p s L i F A) (hi : L[i]? = some c) (no : ∀ f ∈ F, ¬ vle f c = true) (hz : ¬ (hr p c = 0 ∧ 0 < s)) : Clean k (Tp S p) c := fun d hd td pd ld => by
  have e := lin_mn K h hi no hd td pd ld
  subst e
  have hc := List.mem_of_getElem? hi
  have hs := h.ls d hc
  exact hz ⟨td.2, by omega⟩
theorem lin_expand (K : Ker k S) (h : LIn k S p s L i F A) (hi : L[i]? = some c) (no : ∀ f ∈ F, ¬ vle f c = true) (hz : ¬ (hr p c = 0 ∧ 0 < s)) {A' : List Int → Prop}
    (hA : ∀ x, A' x ↔ A x ∨ ∃ q, Mn k S q ∧ okStep p (hr p c) (hr p q) ∧ x = vadd c q) : LIn k S p s L (i + 1) F A' := by
  have hc := List.mem_of_getElem? hi
  have hs := h.ls c hc
  have ac := (h.lm c hs).mpr hc
  have dc := h.dom K ac
  have cl := lin_clean K h hi no hz
  obtain ⟨hs', g⟩ := h.gr c ac
  have big : ∀ q, Mn k S q → s < (vadd c q).sum := fun q hq => by
    rw [sum_add dc.1.1 hq.1.1]
    have := hq.2.2.1
    omega
  refine ⟨fun d hd => ?_, (hA _).mpr (.inl h.z), fun d hd hsd cld q hq hok => ?_, h.fn, fun x => ?_, h.ln, fun d hd => ?_, h.ls⟩
  · rcases (hA d).mp hd with z | ⟨q, hq, hok, rfl⟩
    · exact h.gr d z
    · exact ⟨_, g.step cl hq hok⟩
  · rcases (hA d).mp hd with z | ⟨q', hq', hok', rfl⟩
    · rw [mem_take_succ hi] at hsd
      rcases hsd with hsd | hsd | rfl
      · exact (hA _).mpr (.inl (h.ex d z (.inl hsd) cld q hq hok))
      · exact (hA _).mpr (.inl (h.ex d z (.inr hsd) cld q hq hok))
      · exact (hA _).mpr (.inr ⟨q, hq, hok, rfl⟩)
    · have b := big q' hq'
      rcases hsd with hsd | hsd
      · omega
      · have := h.ls _ (List.mem_of_mem_take hsd)
        omega
  · rw [h.fm, mem_take_succ hi]
    refine and_congr_right fun mx => ⟨fun z => z.elim .inl fun z => .inr (.inl z), fun z => ?_⟩
    rcases z with z | z | rfl
    · exact .inl z
    · exact .inr z
    · exact absurd ⟨mx.2.1.2, by have := mx.2.2.1; omega⟩ hz
  · rw [← h.lm d hd, hA]
    refine ⟨fun z => ?_, .inl⟩
    rcases z with z | ⟨q, hq, _, rfl⟩
    · exact z
    · have := big q hq
      omega
/-- what is reached by processed crowds is put -/
theorem gr_in {A : List Int → Prop} {s : Int} (hz : A (zeros k)) (ex : ∀ c, A c → c.sum < s → Clean k (Tp S p) c → ∀ q, Mn k S q → okStep p (hr p c) (hr p q) → A (vadd c q)) (K : Ker k S)
    {hs c : List Int} (g : GR k S p (okStep p) hs c) : c.sum ≤ s → A c := by
  induction g with
  | zero => intro _; exact hz
  | @step hs c q g cl hq hok ih =>
    intro hs
    have d := g.dom K
    rw [sum_add d.1.1 hq.1.1] at hs
    have := hq.2.2.1
    exact ex c (ih (by omega)) (by omega) cl q hq hok
theorem lin_end (K : Ker k S) (hp0 : 0 ≤ p.1) (hp : p.2.length = k) (h : LIn k S p s L L.length F A) : LInv k S p (s + 1) F A := by
  have full : L.take L.length = L := List.take_length
  refine ⟨h.gr, h.z, fun c hc hs => h.ex c hc ?_, h.fn, fun x => ?_⟩
  · rw [full]
    by_cases e : c.sum = s
    · exact .inr ((h.lm c e).mp hc)
    · exact .inl (by omega)
  · rw [h.fm, full]
    refine and_congr_right fun mx => ⟨fun z => ?_, fun z => ?_⟩
    · rcases z with z | z
      · omega
      · have := h.ls x z; omega
    · by_cases e : x.sum = s
      · obtain ⟨hs, g⟩ := gr_all K hp0 hp mx
        exact .inr ((h.lm x e).mp (gr_in (s := s) h.z (fun c hc hs => h.ex c hc (.inl hs)) K g (by omega)))
      · exact .inl (by omega)
theorem linv_end (K : Ker k S) (hp0 : 0 ≤ p.1) (hp : p.2.length = k) (h : LInv k S p s F A) (all : ∀ c, A c → c.sum < s) (x : List Int) : x ∈ F ↔ Mn k (Tp S p) x := by
  rw [h.fm]
  refine ⟨fun z => z.1, fun mx => ⟨mx, ?_⟩⟩
  obtain ⟨hs, g⟩ := gr_all K hp0 hp mx
  have key : ∀ {hs c : List Int}, GR k S p (okStep p) hs c → A c := by
    intro hs c g
    induction g with
    | zero => exact h.z
    | step g cl hq hok ih => exact h.ex _ ih (all _ ih) cl _ hq hok
  exact all x (key g)
end

/-! ### two ordered lists of the same things -/
theorem sorted_uniq {α : Type} {R : α → α → Prop} (anti : ∀ a b, R a b → R b a → a = b) {l1 l2 : List α} (p : l1.Perm l2) (h1 : l1.Pairwise R) (h2 : l2.Pairwise R) : l1 = l2 :=
  p.eq_of_pairwise (fun a b _ _ h g => anti a b h g) h1 h2
theorem perm_of_mem {l1 l2 : List (List Int)} (n1 : l1.Nodup) (n2 : l2.Nodup) (h : ∀ x, x ∈ l1 ↔ x ∈ l2) : l1.Perm l2 := (List.perm_ext_iff_of_nodup n1 n2).mpr h
end NL
end
section
set_option linter.all false
/-! M7: covers, and crowds that are cleared. -/
namespace NL
def Idx (m : Nat) (c : List Int) : Prop := ∀ i ∈ c, 0 ≤ i ∧ i < (m : Int)
def bat (bs : List (List Int)) (i : Int) : List Int := bs.getD i.toNat []
def sumB (k : Nat) (bs : List (List Int)) (c : List Int) : List Int := c.foldl (fun a i => vadd a (bat bs i)) (zeros k)
theorem sumB_snoc (k : Nat) (bs : List (List Int)) (c : List Int) (i : Int) : sumB k bs (c ++ [i]) = vadd (sumB k bs c) (bat bs i) := by
  unfold sumB; rw [List.foldl_append]; rfl
theorem sumB_perm (k : Nat) (bs : List (List Int)) {c d : List Int} (h : c.Perm d) : sumB k bs c = sumB k bs d := by
  unfold sumB
  refine h.foldl_eq' (fun x _ y _ z => ?_) _
  rw [vadd_assoc, vadd_comm (bat bs x), ← vadd_assoc]
theorem bat_mem {bs : List (List Int)} {i : Int} (h : 0 ≤ i ∧ i < (bs.length : Int)) : bat bs i ∈ bs := by
  unfold bat
  have : i.toNat < bs.length := by omega
  rw [List.getD_eq_getElem?_getD, List.getElem?_eq_getElem this]
  exact List.getElem_mem this
theorem sumB_dom {k : Nat} {bs : List (List Int)} (hb : ∀ b ∈ bs, Dom k b) : ∀ {c : List Int}, Idx bs.length c → Dom k (sumB k bs c) := fun {c} hc => by
  have : ∀ (l : List Int) (a : List Int), Idx bs.length l → Dom k a → Dom k (l.foldl (fun a i => vadd a (bat bs i)) a) := by
    intro l
    induction l with
    | nil => intro a _ h; exact h
    | cons i l ih =>
      intro a hi h
      exact ih _ (fun j hj => hi j (List.mem_cons_of_mem _ hj)) (h.add (hb _ (bat_mem (hi i (List.mem_cons_self ..)))))
  exact this c _ hc (dom_zeros k)
theorem sumB_ker {k : Nat} {S : List Int → Prop} (K : Ker k S) {bs : List (List Int)} (hb : ∀ b ∈ bs, Dom k b ∧ S b) : ∀ {c : List Int}, Idx bs.length c → S (sumB k bs c) := fun {c} hc => by
  have : ∀ (l : List Int) (a : List Int), Idx bs.length l → Dom k a → S a → S (l.foldl (fun a i => vadd a (bat bs i)) a) := by
    intro l
    induction l with
    | nil => intro a _ _ h; exact h
    | cons i l ih =>
      intro a hi hd h
      have hm := hb _ (bat_mem (hi i (List.mem_cons_self ..)))
      exact ih _ (fun j hj => hi j (List.mem_cons_of_mem _ hj)) (hd.add hm.1) (K.add hd hm.1 h hm.2)
  exact this c _ hc (dom_zeros k) K.zero
theorem sumB_sum {k : Nat} {bs : List (List Int)} {B : Int} (hb : ∀ b ∈ bs, Dom k b ∧ b.sum ≤ B) : ∀ {c : List Int}, Idx bs.length c → (sumB k bs c).sum ≤ c.length * B := fun {c} hc => by
  have : ∀ (l : List Int) (a : List Int), Idx bs.length l → Dom k a → (l.foldl (fun a i => vadd a (bat bs i)) a).sum ≤ a.sum + l.length * B := by
    intro l
    induction l with
    | nil => intro a _ _; simp
    | cons i l ih =>
      intro a hi hd
      have hm := hb _ (bat_mem (hi i (List.mem_cons_self ..)))
      have h1 := ih _ (fun j hj => hi j (List.mem_cons_of_mem _ hj)) (hd.add hm.1)
      rw [sum_add hd.1 hm.1.1] at h1
      rw [List.length_cons]
      push_cast
      rw [Int.add_mul]
      show (l.foldl (fun a i => vadd a (bat bs i)) (vadd a (bat bs i))).sum ≤ _
      have := hm.2
      omega
  have := this c _ hc (dom_zeros k)
  rw [sum_zeros] at this
  unfold sumB
  omega
/-- how much is lacking -/
def lack : List Int → List Int → Int
  | w :: ws, x :: xs => (if x < w then w - x else 0) + lack ws xs
  | _, _ => 0
theorem lack_nonneg : ∀ ws xs : List Int, 0 ≤ lack ws xs
  | w :: ws, x :: xs => by
    have := lack_nonneg ws xs
    unfold lack
    split <;> omega
  | [], _ => by unfold lack; omega
  | _ :: _, [] => by unfold lack; omega
theorem lack_zeros : ∀ {k : Nat} {ws : List Int}, Dom k ws → lack ws (zeros k) = ws.sum
  | 0, ws, h => by rw [dom_nil h]; rfl
  | k + 1, ws, h => by
    obtain ⟨x, r, rfl, hx, hr⟩ := dom_cons h
    rw [zeros_succ]
    show (if (0 : Int) < x then x - 0 else 0) + lack r (zeros k) = _
    rw [lack_zeros hr, List.sum_cons]
    split <;> omega
theorem lack_mono : ∀ {k : Nat} {ws xs b : List Int}, ws.length = k → xs.length = k → Dom k b → lack ws (vadd xs b) ≤ lack ws xs
  | 0, ws, xs, b, h1, h2, h3 => by
    rw [List.eq_nil_of_length_eq_zero h1]
    unfold lack; omega
  | k + 1, w :: ws, x :: xs, b, h1, h2, h3 => by
    obtain ⟨y, r, rfl, hy, hr⟩ := dom_cons h3
    have := lack_mono (ws := ws) (xs := xs) (by simpa using h1) (by simpa using h2) hr
    rw [vadd_cons]
    unfold lack
    split <;> split <;> omega
theorem lack_add : ∀ {k : Nat} {ws xs b : List Int} {j : Nat}, ws.length = k → xs.length = k → Dom k b → 0 < at_ b j → at_ xs j < at_ ws j → lack ws (vadd xs b) + 1 ≤ lack ws xs
  | 0, ws, xs, b, j, h1, h2, h3, h4, h5 => by
    rw [dom_nil h3, at_nil] at h4; omega
  | k + 1, w :: ws, x :: xs, b, 0, h1, h2, h3, h4, h5 => by
    obtain ⟨y, r, rfl, hy, hr⟩ := dom_cons h3
    have := lack_mono (ws := ws) (xs := xs) (by simpa using h1) (by simpa using h2) hr
    rw [at_cons_zero] at h4
    rw [at_cons_zero, at_cons_zero] at h5
    rw [vadd_cons]
    unfold lack
    split <;> (try split) <;> omega
  | k + 1, w :: ws, x :: xs, b, j + 1, h1, h2, h3, h4, h5 => by
    obtain ⟨y, r, rfl, hy, hr⟩ := dom_cons h3
    rw [at_cons_succ] at h4
    rw [at_cons_succ, at_cons_succ] at h5
    have := lack_add (ws := ws) (xs := xs) (j := j) (by simpa using h1) (by simpa using h2) hr h4 h5
    rw [vadd_cons]
    unfold lack
    split <;> split <;> omega
/-- the kinds that lack -/
def shorts (k : Nat) (ws xs : List Int) : List Nat := (List.range k).filter fun j => decide (at_ xs j < at_ ws j)
theorem shorts_nil {k : Nat} {ws xs : List Int} (h1 : ws.length = k) (h2 : xs.length = k) (h : shorts k ws xs = []) : vle ws xs = true := by
  refine vle_of_at h1 h2 fun i hi => ?_
  have : i ∉ shorts k ws xs := by rw [h]; simp
  unfold shorts at this
  rw [List.mem_filter] at this
  simp only [List.mem_range, decide_eq_true_eq, not_and] at this
  have := this hi
  omega
theorem shorts_head {k : Nat} {ws xs : List Int} {j : Nat} {r : List Nat} (h : shorts k ws xs = j :: r) : j < k ∧ at_ xs j < at_ ws j := by
  have : j ∈ shorts k ws xs := by rw [h]; exact List.mem_cons_self ..
  unfold shorts at this
  rw [List.mem_filter] at this
  simpa using this
end NL
end
section
set_option linter.all false
set_option Elab.async false
/-! M8: the law's search, one step. -/
namespace NL
theorem IsLast.of_list {c : List Int} {m : Int} (hm : m ∈ (0 : Int) :: ((List.range c.length).filter fun j => decide (0 < at_ c j)).map fun (j : Nat) => (j : Int)) (top : ∀ y, y ∈ (0 : Int) :: ((List.range c.length).filter fun j => decide (0 < at_ c j)).map (fun (j : Nat) => (j : Int)) → y ≤ m) : m = (lastK c : Int) := by
  have h0 := top 0 (List.mem_cons_self ..)
  have key : IsLast c m.toNat := by
    refine ⟨?_, fun i hi => ?_⟩
    · rcases List.mem_cons.mp hm with e | e
      · exact .inl (by omega)
      · obtain ⟨j, hj, rfl⟩ := List.mem_map.mp e
        rw [List.mem_filter] at hj
        exact .inr (by simpa using hj.2)
    · have hil : i < c.length := by
        by_cases hh : i < c.length
        · exact hh
        · unfold at_ at hi
          rw [List.getD_eq_getElem?_getD, List.getElem?_eq_none (by omega)] at hi
          simp at hi
      have := top (i : Int) (List.mem_cons_of_mem _ (List.mem_map.mpr ⟨i, List.mem_filter.mpr ⟨List.mem_range.mpr hil, decide_eq_true hi⟩, rfl⟩))
      omega
  have := key.uniq (lastK_is c)
  omega
theorem bump : ∀ {k j : Nat} {c : List Int}, c.length = k → j < k → c.take j ++ [at_ c j + 1] ++ c.drop (j + 1) = vadd c (uni k j)
  | 0, j, c, _, hj => by omega
  | k + 1, 0, x :: c, h, _ => by
    have hc : c.length = k := by simpa using h
    show [x + 1] ++ c = (x + 1) :: vadd c (zeros k)
    rw [vadd_zeros hc]; rfl
  | k + 1, j + 1, x :: c, h, hj => by
    have hc : c.length = k := by simpa using h
    have := bump (k := k) (j := j) (c := c) hc (by omega)
    show x :: (c.take j ++ [at_ c j + 1] ++ c.drop (j + 1)) = (x + 0) :: vadd c (uni k j)
    rw [this, Int.add_zero]
/-- the first j of a crowd's next ones -/
def kidsTo (k : Nat) (found : List (List Int)) (c : List Int) (j : Nat) : List (List Int) :=
  ((List.range' (lastK c) j).map fun j => vadd c (uni k j)).filter fun o => !(found.any fun f => vle f o)
theorem kidsTo_all (k : Nat) (found : List (List Int)) (c : List Int) : kidsTo k found c (k - lastK c) = kids k found c := rfl
theorem kidsTo_succ (k : Nat) (found : List (List Int)) (c : List Int) (j : Nat) : kidsTo k found c (j + 1) = kidsTo k found c j ++ (if (found.any fun f => vle f (vadd c (uni k (lastK c + j)))) then [] else [vadd c (uni k (lastK c + j))]) := by
  unfold kidsTo
  rw [List.range'_1_concat, List.map_append, List.filter_append]
  congr 1
  rw [List.map_cons, List.map_nil, List.filter_cons, List.filter_nil]
  cases (found.any fun f => vle f (vadd c (uni k (lastK c + j)))) <;> rfl
theorem kidsTo_len (k : Nat) (found : List (List Int)) (c : List Int) (j : Nat) : (kidsTo k found c j).length ≤ j := by
  unfold kidsTo
  refine Nat.le_trans (List.length_filter_le ..) ?_
  rw [List.length_map, List.length_range']; exact Nat.le_refl _
theorem flat_len {k : Nat} {found : List (List Int)} : ∀ {l : List (List Int)}, (l.flatMap (kids k found)).length ≤ k * l.length
  | [] => by simp
  | c :: l => by
    have h1 := kidsTo_len k found c (k - lastK c)
    rw [kidsTo_all] at h1
    have h2 := flat_len (k := k) (found := found) (l := l)
    rw [List.flatMap_cons, List.length_append, List.length_cons, Nat.mul_succ]
    omega
theorem flat_take {k : Nat} {found l : List (List Int)} {i : Nat} {c : List Int} (h : l[i]? = some c) : (l.take (i + 1)).flatMap (kids k found) = (l.take i).flatMap (kids k found) ++ kids k found c := by
  rw [List.take_add_one, h, List.flatMap_append]
  simp
theorem lb_wave_len {k n : Nat} (hk : k ≤ 4) (hn : n ≤ 16) (vs : List Pr) : (lb k vs n).2.length ≤ 83521 := by
  have h := lb_ok k vs n
  have := count_le (k := k) (n := 16) h.wn fun c hc => by
    obtain ⟨h1, h2, _⟩ := (h.wm c).mp hc
    exact ⟨h1, by omega⟩
  have h3 : (16 + 1) ^ k ≤ (16 + 1) ^ 4 := Nat.pow_le_pow_right (by omega) hk
  omega
theorem lb_found_len {k n : Nat} (hk : k ≤ 4) (hn : n ≤ 16) (vs : List Pr) : (lb k vs n).1.length ≤ 83521 := by
  have h := lb_ok k vs n
  have := count_le (k := k) (n := 16) h.fn fun c hc => by
    obtain ⟨h1, h2⟩ := (h.fm c).mp hc
    exact ⟨h1.1, by omega⟩
  have h3 : (16 + 1) ^ k ≤ (16 + 1) ^ 4 := Nat.pow_le_pow_right (by omega) hk
  omega
theorem lb_succ1 (k : Nat) (vs : List Pr) (n : Nat) : (lb k vs (n + 1)).1 = (lb k vs n).1 ++ (laterOf k (lb k vs n).1 (lb k vs n).2).filter (zvB vs) := rfl
theorem lb_succ2 (k : Nat) (vs : List Pr) (n : Nat) : (lb k vs (n + 1)).2 = (laterOf k (lb k vs n).1 (lb k vs n).2).filter fun c => !zvB vs c := rfl
theorem later_dom {k n : Nat} {vs : List Pr} {x : List Int} (h : x ∈ laterOf k (lb k vs n).1 (lb k vs n).2) : Dom k x ∧ x.sum = n + 1 := by
  unfold laterOf at h
  obtain ⟨c, hc, hx⟩ := List.mem_flatMap.mp h
  obtain ⟨⟨j, hj, hjk, rfl⟩, _⟩ := mem_kids.mp hx
  obtain ⟨dc, sc, _⟩ := ((lb_ok k vs n).wm c).mp hc
  exact ⟨add_uni_dom dc, by rw [sum_add dc.1 (uni_dom k j).1, uni_sum hjk, sc]⟩
theorem lastK_lt {k : Nat} {c : List Int} (hk : 1 ≤ k) (h : c.length = k) : lastK c < k := by
  rcases (lastK_is c).is with z | z
  · omega
  · by_cases hh : lastK c < k
    · exact hh
    · unfold at_ at z
      rw [List.getD_eq_getElem?_getD, List.getElem?_eq_none (by rw [h]; omega)] at z
      simp at z
end NL
end
section
set_option linter.all false
set_option Elab.async false
set_option maxRecDepth 100000
/-! C1: readings that leave all that was tracked as it was, with what is told of the value (EvP). -/
namespace NL
open PySem L2
open Evl (Ex Ev EvT)

/-- what is told of a value -/
structure Rp where
  p : V → Hp → Prop
  up : ∀ {v : V} {H H' : Hp}, Ex H H' → p v H → p v H'
def Rp.v (x : V) : Rp := ⟨fun v _ => v = x, fun _ h => h⟩
def AllP : List V → List Rp → Hp → Prop
  | [], [], _ => True
  | v :: vs, R :: Rs, H => R.p v H ∧ AllP vs Rs H
  | _, _, _ => False
theorem AllP.up : ∀ {vs : List V} {Rs : List Rp} {H H' : Hp}, Ex H H' → AllP vs Rs H → AllP vs Rs H'
  | [], [], _, _, _, h => h
  | v :: vs, R :: Rs, _, _, e, h => ⟨R.up e h.1, AllP.up e h.2⟩
  | [], _ :: _, _, _, _, h => h.elim
  | _ :: _, [], _, _, _, h => h.elim
theorem AllP.length : ∀ {vs : List V} {Rs : List Rp} {H : Hp}, AllP vs Rs H → vs.length = Rs.length
  | [], [], _, _ => rfl
  | v :: vs, R :: Rs, _, h => by rw [List.length_cons, List.length_cons, AllP.length h.2]
  | [], _ :: _, _, h => h.elim
  | _ :: _, [], _, h => h.elim
theorem AllP.get : ∀ {vs : List V} {Rs : List Rp} {H : Hp} {i : Nat} {v : V}, AllP vs Rs H → vs[i]? = some v → ∃ R, Rs[i]? = some R ∧ R.p v H
  | [], [], _, i, v, _, e => by simp at e
  | x :: vs, R :: Rs, _, 0, v, h, e => by simp at e; subst e; exact ⟨R, rfl, h.1⟩
  | x :: vs, R :: Rs, _, i + 1, v, h, e => by
    obtain ⟨R', e', p⟩ := AllP.get (i := i) h.2 (by simpa using e)
    exact ⟨R', by simpa using e', p⟩
  | [], _ :: _, _, _, _, h, _ => h.elim
  | _ :: _, [], _, _, _, h, _ => h.elim
theorem AllP.get2 : ∀ {vs : List V} {Rs : List Rp} {H : Hp} {i : Nat} {R : Rp}, AllP vs Rs H → Rs[i]? = some R → ∃ v, vs[i]? = some v ∧ R.p v H
  | [], [], _, i, v, _, e => by simp at e
  | x :: vs, R :: Rs, _, 0, v, h, e => by simp at e; subst e; exact ⟨x, rfl, h.1⟩
  | x :: vs, R :: Rs, _, i + 1, v, h, e => by
    obtain ⟨R', e', p⟩ := AllP.get2 (i := i) h.2 (by simpa using e)
    exact ⟨R', by simpa using e', p⟩
  | [], _ :: _, _, _, _, h, _ => h.elim
  | _ :: _, [], _, _, _, h, _ => h.elim
theorem AllP.append : ∀ {vs ws : List V} {Rs Ss : List Rp} {H : Hp}, AllP vs Rs H → AllP ws Ss H → AllP (vs ++ ws) (Rs ++ Ss) H
  | [], _, [], _, _, _, h => h
  | v :: vs, _, R :: Rs, _, _, h, g => ⟨h.1, AllP.append h.2 g⟩
  | [], _, _ :: _, _, _, h, _ => h.elim
  | _ :: _, _, [], _, _, h, _ => h.elim
theorem AllP.take : ∀ {vs : List V} {Rs : List Rp} {H : Hp} (n : Nat), AllP vs Rs H → AllP (vs.take n) (Rs.take n) H
  | _, _, _, 0, _ => by simp [AllP]
  | [], [], _, n + 1, _ => by simp [AllP]
  | v :: vs, R :: Rs, _, n + 1, h => ⟨h.1, AllP.take n h.2⟩
  | [], _ :: _, _, _, h => h.elim
  | _ :: _, [], _, _, h => h.elim
theorem AllP.drop : ∀ {vs : List V} {Rs : List Rp} {H : Hp} (n : Nat), AllP vs Rs H → AllP (vs.drop n) (Rs.drop n) H
  | _, _, _, 0, h => h
  | [], [], _, n + 1, h => h
  | v :: vs, R :: Rs, _, n + 1, h => AllP.drop n h.2
  | [], _ :: _, _, _, h => h.elim
  | _ :: _, [], _, _, h => h.elim
theorem AllP.snoc {vs : List V} {Rs : List Rp} {H : Hp} {v : V} {R : Rp} (h : AllP vs Rs H) (g : R.p v H) : AllP (vs ++ [v]) (Rs ++ [R]) H := h.append ⟨g, trivial⟩
/-- ints alone -/
theorem allP_ints : ∀ {vs : List V} {ns : List Int} {H : Hp}, AllP vs (ns.map fun n => Rp.v (.int n)) H ↔ vs = ns.map V.int
  | [], [], _ => by simp [AllP]
  | v :: vs, n :: ns, H => by
    have ih := allP_ints (vs := vs) (ns := ns) (H := H)
    show (v = V.int n ∧ AllP vs _ H) ↔ _
    rw [ih]; simp
  | [], _ :: _, _ => by simp [AllP]
  | _ :: _, [], _ => by simp [AllP]
theorem allP_bls : ∀ {vs : List V} {ns : List Bool} {H : Hp}, AllP vs (ns.map fun n => Rp.v (.bl n)) H ↔ vs = ns.map V.bl
  | [], [], _ => by simp [AllP]
  | v :: vs, n :: ns, H => by
    have ih := allP_bls (vs := vs) (ns := ns) (H := H)
    show (v = V.bl n ∧ AllP vs _ H) ↔ _
    rw [ih]; simp
  | [], _ :: _, _ => by simp [AllP]
  | _ :: _, [], _ => by simp [AllP]

/-- a tuple of ints; a list of ints; a list, a tuple of things -/
def tupI (ns : List Int) : Rp := ⟨fun v H => ∃ a, v = .ref a ∧ H a = some (.tup (ns.map V.int)), fun e ⟨a, h1, h2⟩ => ⟨a, h1, e a _ h2⟩⟩
def lstI (ns : List Int) : Rp := ⟨fun v H => ∃ a, v = .ref a ∧ H a = some (.lst (ns.map V.int)), fun e ⟨a, h1, h2⟩ => ⟨a, h1, e a _ h2⟩⟩
def lstR (Rs : List Rp) : Rp := ⟨fun v H => ∃ a xs, v = .ref a ∧ H a = some (.lst xs) ∧ AllP xs Rs H, fun e ⟨a, xs, h1, h2, h3⟩ => ⟨a, xs, h1, e a _ h2, h3.up e⟩⟩
def tupR (Rs : List Rp) : Rp := ⟨fun v H => ∃ a xs, v = .ref a ∧ H a = some (.tup xs) ∧ AllP xs Rs H, fun e ⟨a, xs, h1, h2, h3⟩ => ⟨a, xs, h1, e a _ h2, h3.up e⟩⟩
theorem tupI_of {ns : List Int} {v : V} {H : Hp} : (tupR (ns.map fun n => Rp.v (.int n))).p v H ↔ (tupI ns).p v H := by
  constructor
  · rintro ⟨a, xs, h1, h2, h3⟩
    rw [allP_ints] at h3
    exact ⟨a, h1, by rw [h2, h3]⟩
  · rintro ⟨a, h1, h2⟩
    exact ⟨a, _, h1, h2, allP_ints.mpr rfl⟩
theorem lstI_of {ns : List Int} {v : V} {H : Hp} : (lstR (ns.map fun n => Rp.v (.int n))).p v H ↔ (lstI ns).p v H := by
  constructor
  · rintro ⟨a, xs, h1, h2, h3⟩
    rw [allP_ints] at h3
    exact ⟨a, h1, by rw [h2, h3]⟩
  · rintro ⟨a, h1, h2⟩
    exact ⟨a, _, h1, h2, allP_ints.mpr rfl⟩
/-- crowds in a list, in a tuple -/
abbrev lstT (cs : List (List Int)) : Rp := lstR (cs.map tupI)
abbrev tupT (cs : List (List Int)) : Rp := tupR (cs.map tupI)

def EvP (te : TE) (σ : L2.St) (H : Hp) (R : Rp) : Prop := ∀ H1, Ex H H1 → ∀ Q : VK, (∀ v H2, Ex H1 H2 → R.p v H2 → Q v H2) → te σ H1 Q
/-- an operation's own answer -/
def Gi (f : Hp → VK → Prop) (H : Hp) (R : Rp) : Prop := ∀ Q : VK, (∀ v H2, Ex H H2 → R.p v H2 → Q v H2) → f H Q
def EvA (ta : TA) (σ : L2.St) (H : Hp) (Rs : List Rp) : Prop := ∀ H1, Ex H H1 → ∀ Q : List V → Hp → Prop, (∀ vs H2, Ex H1 H2 → AllP vs Rs H2 → Q vs H2) → ta σ H1 Q
section
variable {K : PySem.W.Frag} {σ : L2.St} {H H' H1 : Hp} {ta tb te tc : TE} {t u : TT} {x y z v : V} {R Ra Rb Rc : Rp}
theorem EvP.mono (e : Ex H H') (h : EvP te σ H R) : EvP te σ H' R := fun H1 a Q q => h H1 (e.trans a) Q q
theorem EvA.mono {ta : TA} {Rs : List Rp} (e : Ex H H') (h : EvA ta σ H Rs) : EvA ta σ H' Rs := fun H1 a Q q => h H1 (e.trans a) Q q
theorem EvP.weak (h : EvP te σ H R) (w : ∀ v H1, Ex H H1 → R.p v H1 → Rc.p v H1) : EvP te σ H Rc := fun H1 a Q q => h H1 a Q fun v H2 e2 p => q v H2 e2 (w v H2 (a.trans e2) p)
theorem ep_of (h : Ev te σ H v) : EvP te σ H (Rp.v v) := fun H1 a Q q => h H1 a Q fun H2 e2 => q v H2 e2 rfl
theorem ev_of (h : EvP te σ H (Rp.v v)) : Ev te σ H v := fun H1 a Q q => h H1 a Q fun v' H2 e2 p => by cases (show v' = v from p); exact q H2 e2
theorem ep_var {i : Nat} (h : σ[i]? = some (some v)) (hp : R.p v H) : EvP (tVar i) σ H R := fun H1 e Q q => ⟨v, h, q v H1 (Ex.refl H1) (R.up e hp)⟩
theorem Gi.now {f : Hp → VK → Prop} (h : ∀ Q : VK, Q v H → f H Q) (p : R.p v H) : Gi f H R := fun Q q => h Q (q v H (Ex.refl H) p)
theorem Gi.new {f : Hp → VK → Prop} {o : HO} (h : ∀ Q : VK, (∀ p, H p = none → Q (.ref p) (upd H p o)) → f H Q) (hp : ∀ p, H p = none → R.p (.ref p) (upd H p o)) : Gi f H R := fun Q q => h Q fun p hn => q (.ref p) _ (Ex.new hn) (hp p hn)
theorem ep_op {r : R2} (ha : EvP ta σ H Ra) (hb : EvP tb σ H Rb) (hr : ∀ x y H1, Ex H H1 → Ra.p x H1 → Rb.p y H1 → Gi (r x y) H1 R) : EvP (tOp r ta tb) σ H R := fun H1 e Q q =>
  ha H1 e _ fun x H2 e2 px => hb H2 (e.trans e2) _ fun y H3 e3 py => hr x y H3 ((e.trans e2).trans e3) (Ra.up e3 px) py Q fun v H4 e4 pv => q v H4 ((e2.trans e3).trans e4) pv
theorem ea_nil : EvA tNil σ H [] := fun H1 _ _ q => q [] H1 (Ex.refl H1) trivial
theorem ea_cons {tr : TA} {Rs : List Rp} (h : EvP te σ H R) (hr : EvA tr σ H Rs) : EvA (tCons te tr) σ H (R :: Rs) := fun H1 e _ q =>
  h H1 e _ fun x H2 e2 px => hr H2 (e.trans e2) _ fun vs H3 e3 pv => q _ H3 (e2.trans e3) ⟨R.up e3 px, pv⟩
theorem ep_cb {r : List V → Hp → VK → Prop} {ta : TA} {Rs : List Rp} (h : EvA ta σ H Rs) (hr : ∀ vs H1, Ex H H1 → AllP vs Rs H1 → Gi (r vs) H1 R) : EvP (tCB r ta) σ H R := fun H1 e Q q =>
  h H1 e _ fun vs H2 e2 pv => hr vs H2 (e.trans e2) pv Q fun v H3 e3 p => q v H3 (e2.trans e3) p
theorem ep_call {sp : Sp} {E : XK} {ta : TA} {Rs : List Rp} (h : EvA ta σ H Rs) (hr : ∀ vs H1, Ex H H1 → AllP vs Rs H1 → Gi (fun H Q => sp (vs ++ []) H Q E) H1 R) : EvP (tCall sp [] E ta) σ H R := fun H1 e Q q =>
  h H1 e _ fun vs H2 e2 pv => hr vs H2 (e.trans e2) pv Q fun v H3 e3 p => q v H3 (e2.trans e3) p
theorem run_call {sp : Sp} {E : XK} {ta : TA} {Rs : List Rp} {Q : VK} (h : EvA ta σ H Rs) (k : ∀ vs H1, Ex H H1 → AllP vs Rs H1 → sp vs H1 Q E) : tCall sp [] E ta σ H Q :=
  h H (Ex.refl H) _ fun vs H1 e p => by
    show sp (vs ++ []) H1 Q E
    rw [List.append_nil]
    exact k vs H1 e p
/-- a def that leaves all as it was -/
def Pur (ok : List V → Hp → Rp → Prop) : Sp := fun vs H Q _ => ∃ R, ok vs H R ∧ ∀ v H', Ex H H' → R.p v H' → Q v H'
theorem ep_pur {ok : List V → Hp → Rp → Prop} {E : XK} {ta : TA} {Rs : List Rp} (h : EvA ta σ H Rs) (hr : ∀ vs H1, Ex H H1 → AllP vs Rs H1 → ok vs H1 R) : EvP (tCall (Pur ok) [] E ta) σ H R :=
  ep_call h fun vs H1 e p Q q => ⟨R, by rw [List.append_nil]; exact hr vs H1 e p, q⟩
theorem ep_tup {ta : TA} {Rs : List Rp} (h : EvA ta σ H Rs) (hl : Rs.length ≤ 1000) : EvP (tTup ta) σ H (tupR Rs) := fun H1 e Q q =>
  h H1 e _ fun vs H2 e2 pv => ⟨by rw [pv.length]; exact Nat.le_trans hl (by decide), fun p hp => q (.ref p) _ (e2.trans (Ex.new hp)) ⟨p, vs, rfl, upd_same, pv.up (Ex.new hp)⟩⟩
theorem ep_lst {ta : TA} {Rs : List Rp} (h : EvA ta σ H Rs) (hl : Rs.length ≤ 1000) : EvP (tLst ta) σ H (lstR Rs) := fun H1 e Q q =>
  h H1 e _ fun vs H2 e2 pv => ⟨by rw [pv.length]; exact Nat.le_trans hl (by decide), fun p hp => q (.ref p) _ (e2.trans (Ex.new hp)) ⟨p, vs, rfl, upd_same, pv.up (Ex.new hp)⟩⟩
theorem ep_if {b : Bool} (h : EvT t σ H b) (h1 : b = true → EvP ta σ H R) (h2 : b = false → EvP tb σ H R) : EvP (tIf t ta tb) σ H R := fun H1 e Q q => h H1 e _ fun H2 e2 => by
  cases b with
  | true =>
    show ta σ H2 Q
    exact h1 rfl H2 (e.trans e2) Q fun v H3 e3 => q v H3 (e2.trans e3)
  | false =>
    show tb σ H2 Q
    exact h2 rfl H2 (e.trans e2) Q fun v H3 e3 => q v H3 (e2.trans e3)
theorem et_ep {b : Bool} (h : EvP te σ H (Rp.v (.bl b))) : EvT (tTest te) σ H b := Evl.et_test (ev_of h)
theorem et_epB {b : Bool} (h : EvP te σ H (Rp.v (.bl b))) : EvT (tB te) σ H b := Evl.et_B (ev_of h)

/-! ### statements -/
variable {D : Ends} {tu tw tz : TS}
theorem p_set {i : Nat} (h : EvP te σ H R) (k : ∀ v H1, Ex H H1 → R.p v H1 → tz D (σ.set i (some v)) H1) : tSeq (tAsg te (gName i)) tz D σ H := h H (Ex.refl H) _ fun v H1 e p => k v H1 e p
theorem l_set {i : Nat} (h : EvP te σ H R) (k : ∀ v H1, Ex H H1 → R.p v H1 → D.nx (σ.set i (some v)) H1) : tAsg te (gName i) D σ H := h H (Ex.refl H) _ fun v H1 e p => k v H1 e p
theorem p_ret (h : EvP te σ H R) (k : ∀ v H1, Ex H H1 → R.p v H1 → D.rt v H1) : tRet te D σ H := h H (Ex.refl H) _ k
theorem p_if {b : Bool} (h : EvT t σ H b) (h1 : b = true → ∀ H1, Ex H H1 → tu { D with nx := tz D } σ H1) (h2 : b = false → ∀ H1, Ex H H1 → tw { D with nx := tz D } σ H1) : tSeq (tIfS t tu tw) tz D σ H := Evl.q_if h h1 h2
theorem p_when {b : Bool} (h : EvT t σ H b) (h1 : b = true → ∀ H1, Ex H H1 → tu { D with nx := tz D } σ H1) (h2 : b = false → ∀ H1, Ex H H1 → tz D σ H1) : tSeq (tIfS t tu tNext) tz D σ H := Evl.q_when h h1 h2
/-- a test that does not hold -/
theorem p_skip (h : EvT t σ H false) (k : ∀ H1, Ex H H1 → tz D σ H1) : tSeq (tIfS t tu tNext) tz D σ H := Evl.q_when h (fun z => by cases z) fun _ => k
/-- xs.append(e), the list at l -/
theorem p_app {l : Addr} {xs : List V} (hl : H l = some (.lst xs)) (ha : Ev ta σ H (.ref l)) (h : EvP te σ H R) (hz : xs.length < sizeLine) (k : ∀ v H1, Ex H H1 → R.p v H1 → tz D σ (upd H1 l (.lst (xs ++ [v])))) :
    tSeq (tDrop (tBM K "list" rAppend ta (tCons te tNil))) tz D σ H :=
  ha H (Ex.refl H) _ fun H1 e1 => ⟨.inl ⟨rfl, _, SqL.of (e1 l _ hl)⟩, h H1 e1 _ fun v H2 e2 p => ⟨l, xs, v, rfl, rfl, e2 l _ (e1 l _ hl), hz, k v H2 (e1.trans e2) p⟩⟩
theorem l_app {l : Addr} {xs : List V} (hl : H l = some (.lst xs)) (ha : Ev ta σ H (.ref l)) (h : EvP te σ H R) (hz : xs.length < sizeLine) (k : ∀ v H1, Ex H H1 → R.p v H1 → D.nx σ (upd H1 l (.lst (xs ++ [v])))) :
    tDrop (tBM K "list" rAppend ta (tCons te tNil)) D σ H :=
  ha H (Ex.refl H) _ fun H1 e1 => ⟨.inl ⟨rfl, _, SqL.of (e1 l _ hl)⟩, h H1 e1 _ fun v H2 e2 p => ⟨l, xs, v, rfl, rfl, e2 l _ (e1 l _ hl), hz, k v H2 (e1.trans e2) p⟩⟩
end
end NL
end
section
set_option linter.all false
set_option Elab.async false
set_option maxRecDepth 100000
/-! R1: enumerate over a tuple. -/
namespace PySem
open Sem (wp)
open PyProof.Rows
open AutoSeq1 (wpAny_loadPart')
theorem nl_meets_enumT (l : Addr) (items : Array Value) (n : Nat) (dct : Option Addr) (sl : Array (Option Value)) :
    Meets (Builtin.«enumerate.__new__» ⟨[.type "enumerate", .ref l], []⟩) (fun _ R s => s.heap.get? l = some { cls := .type "tuple", dict := dct, data := .seq items n, slots := sl } ∧
      R (.ok (.ret (.ref (s.heap.push { cls := .type "tuple_iterator", data := .fields #[.ref l, .int 0 0] }).objs.size)))
        { s with heap := (s.heap.push { cls := .type "tuple_iterator", data := .fields #[.ref l, .int 0 0] }).push { cls := .type "enumerate", data := .fields #[.none, .bool false, .ref s.heap.objs.size, rawInt 0, .none, .none] } }) :=
  .of_wp fun prog w A R s h => by
    obtain ⟨hp, g, d, tk, os⟩ := s; obtain ⟨hl, h⟩ := h
    have hsub := sub_enumerate
    have hL : Heap.IsTuple (Shared.heap ⟨hp, g, d, tk, os⟩) l items := ⟨_, hl, rfl, n, rfl⟩
    wp_walk using wpAny_loadPart' hl
    refine wpAny_stack_any fun st => wpAny_pure ?_
    split
    · rename_i c _ _ _ _ _
      cases (c == Value.type "enumerate")
      · wp_walk using wpAny_loadPart' hl, wpAny_pyIter_tuple hL
        exact ⟨_, rfl, h⟩
      · wp_walk using wpAny_loadPart' hl, wpAny_pyIter_tuple hL
        exact ⟨_, rfl, h⟩
    · wp_walk using wpAny_loadPart' hl, wpAny_pyIter_tuple hL
      exact ⟨_, rfl, h⟩
section
variable {prog : Program} {w : World} {A : Around} {E : Value → Shared → Prop} {s : Shared}
theorem nl_call_enumT {l : Addr} {items : Array Value} {Q : Value → Shared → Prop} (hL : s.heap.IsTuple l items)
    (h : ∀ h', IsEnum h' (s.heap.objs.size + 1) s.heap.objs.size 0 .none → h'.IsTupleIter s.heap.objs.size l 0 → h'.objs.size = s.heap.objs.size + 2 →
      (∀ b o, s.heap.get? b = some o → h'.get? b = some o) → Q (.ref (s.heap.objs.size + 1)) { s with heap := h' }) :
    wpAny (model prog w) A (call (.type "enumerate") [.ref l]) Q E s := by
  obtain ⟨⟨c, dct, dt, sl⟩, hl, hc, n, hd⟩ := hL
  replace hc : c = .type "tuple" := hc
  replace hd : dt = .seq items n := hd
  subst hc hd
  refine callType_new F.called_enumerate (by decide) (F.typeCall_enumerate_1 _) (F.newCall_enumerate_1 _) (fun obj => F.args_object_init_2 obj _) F.entry_enumerate_new
    (nl_meets_enumT l items n dct sl) ⟨hl, ?_⟩
  have hz : (s.heap.push { cls := .type "tuple_iterator", data := .fields #[.ref l, .int 0 0] }).objs.size = s.heap.objs.size + 1 := Heap.size_push ..
  show _ ∧ _
  rw [hz]
  have he : IsEnum ((s.heap.push { cls := .type "tuple_iterator", data := .fields #[.ref l, .int 0 0] }).push
      { cls := .type "enumerate", data := .fields #[.none, .bool false, .ref s.heap.objs.size, rawInt 0, .none, .none] }) (s.heap.objs.size + 1) s.heap.objs.size 0 .none := by
    have := Heap.get?_push_size (s.heap.push { cls := .type "tuple_iterator", data := .fields #[.ref l, .int 0 0] })
      (o := { cls := .type "enumerate", data := .fields #[.none, .bool false, .ref s.heap.objs.size, rawInt 0, .none, .none] }) rfl
    rw [hz] at this; exact this
  refine ⟨⟨_, he, rfl⟩, h _ he ⟨_, Heap.get?_push_of_some _ (Heap.get?_push_size _ rfl), rfl, rfl⟩ (by rw [Heap.size_push, hz]) fun b o x => Heap.get?_push_of_some _ (Heap.get?_push_of_some _ x)⟩
end
end PySem
namespace NL
open PySem PySem.Spec PyProof.Rows L2
/-- the tuple at a as it stands at each turn, the item and its place in a new pair -/
def IteT (K : PySem.W.Frag) (a : Addr) : It :=
  ⟨fun i H => ∃ (xs : List V) (x : V), SqT K H a xs ∧ xs[i]? = some x, fun i H v H' => ∃ T x, v = .ref T ∧ H T = none ∧ H' = upd H T (.tup [.int (i : Nat), x]) ∧ ∀ xs, SqT K H a xs → xs[i]? = some x, fun i H => ∃ xs : List V, SqT K H a xs ∧ xs.length ≤ i⟩
theorem turn_enumT {P : Program} {w : World} {K : PySem.W.Frag} {elts : List Expr} {kk : Nat} {tpos : Pos} (a e it : Addr) :
    Turn P w K (.Tuple elts kk tpos) (IteT K a) [e, it] e (fun i h => (∃ old, IsEnum h e it ((i : Nat) : Int) old) ∧ h.IsTupleIter it a i ∧ e ≠ it ∧ a ≠ it) where
  mem := by simp
  obj := fun i h st b hb => by
    obtain ⟨⟨old, he⟩, ⟨o, ho, hc, hd⟩, _⟩ := st
    have e' : b = e ∨ b = it := by simpa using hb
    rcases e' with z | z
    · rw [z]; exact ⟨_, he, fun v q => nomatch q⟩
    · rw [z]; exact ⟨o, ho, fun v q => by rw [hd] at q; cases q⟩
  keep := fun i h h' st k => let ⟨⟨old, he⟩, hi, hne⟩ := st; ⟨⟨old, k e (by simp) _ he⟩, hi.at fun o q => k it (by simp) o q, hne⟩
  item := by
    intro X hP hw hK hc i pins s σ H E I hf st hg
    subst hP hw hK
    obtain ⟨⟨old, he⟩, hit, hne, hai⟩ := st
    obtain ⟨xs, x, hq, hx⟩ := hg
    obtain ⟨its, rv, p, hz⟩ := I.tuple hq
    obtain ⟨u, hu, ru⟩ := rv.get hx
    have hel : e < s.heap.objs.size := Heap.lt_size he
    have hil : it < s.heap.objs.size := by obtain ⟨_, q, _⟩ := hit; exact Heap.lt_size q
    have hlt : i < its.toArray.size := by
      have := (List.getElem?_eq_some_iff.mp hu).1
      simpa using this
    obtain ⟨op, hop, hpc⟩ := id p
    have hea : a ≠ e := by
      intro z; subst z
      have he' : s.heap.get? a = some _ := he
      rw [he'] at hop; cases hop; have z := hpc.1; simp at z
    have D := Draws.tuple (prog := X.prog) (w := X.w) (A := X.A.in1) (show X.A.in1.handled = none from I.ok.hd hc) it a hai its.toArray
    refine wpAny_pyNext_enum_itemD D he ⟨hit, p⟩ hlt hne (by simp; exact ⟨hne, fun z => hea z.symm⟩) fun x' h' tk hPx ho hit' hT hsz hk => ?_
    have hxu : x' = u := by
      have : its.toArray[i]? = some u := by simpa using hu
      have h2 : its.toArray[i]? = some x' := hPx
      rw [this] at h2; exact (Option.some.inj h2).symm
    subst hxu
    refine ⟨_, rfl, wpAny_letOwnedTupleGo_enum (s := { s with heap := h', toks := tk + 1 }) ho fun h'' he' sb => ?_⟩
    have hT2 : h''.get? s.heap.objs.size = some { cls := .type "tuple", data := .seq #[.int i tk, x'] } := (sb.2 _ (Nat.ne_of_gt hel)).trans hT
    have new : ObjOk X.prog X.w (upd H s.heap.objs.size (.tup [.int (i : Nat), x])) h'' s.heap.objs.size (.tup [.int (i : Nat), x]) :=
      ⟨by show 2 ≤ sizeLine; decide, [.int i tk, x'], .cons ⟨_, rfl⟩ (.cons ru .nil), ⟨_, hT2, rfl, _, rfl⟩⟩
    have I1 : Inv X pins σ (upd H s.heap.objs.size (.tup [.int (i : Nat), x])) { s with heap := h'', toks := tk + 1 } :=
      I.turnedNew (ch := [e, it]) (fun b ob hb q => (sb.2 b (fun z => hb (by simp [z]))).trans (hk b ob (fun z => hb (by simp [z])) (fun z => hb (by simp [z])) q)) hf (Nat.le_refl _) new
    refine ⟨.ref s.heap.objs.size, _, I1, rfl, ⟨_, x, rfl, I.hok.fresh (Nat.le_refl _), rfl, fun ys hy => by rw [I.tuple_inj hy hq]; exact hx⟩, ⟨⟨x', ?_⟩, hit'.1.at fun o q => (sb.2 it (Ne.symm hne)).trans q, hne, hai⟩, fun b hb => ?_⟩
    · have e1 : ((i + 1 : Nat) : Int) = (i : Int) + 1 := by omega
      rw [e1]; exact he'
    · have hb' : b < s.heap.objs.size := by
        have e' : b = e ∨ b = it := by simpa using hb
        rcases e' with z | z
        · rw [z]; exact hel
        · rw [z]; exact hil
      rw [upd_ne (Nat.ne_of_lt hb')]
      exact (hf b hb).1
  done := by
    intro X hP hw hK hc i pins s σ H E I hf st hg
    subst hP hw hK
    obtain ⟨⟨old, he⟩, hit, hne, hai⟩ := st
    obtain ⟨xs, hq, hx⟩ := hg
    obtain ⟨its, rv, p, hz⟩ := I.tuple hq
    obtain ⟨f0, f1, f2, f3, f4, f5⟩ := hf it (by simp)
    have hl := rv.length
    have hn : its.toArray[i]? = none := by simp; omega
    have D : Draws X.prog X.w X.A.in1 it [it, a] i (fun _ _ => True) (fun j h => j = i ∧ h.IsTupleIter it a j ∧ h.IsTuple a its.toArray) :=
      { live := fun _ _ st => let ⟨o, ho, _⟩ := st.2.1; ⟨o, ho⟩
        frame := fun _ _ _ st hk => ⟨st.1, st.2.1.at fun o e => hk it (by simp) o e, st.2.2.at fun o e => hk a (by simp) o e⟩
        item := fun j s Q E hj st _ => absurd st.1 (Nat.ne_of_lt hj)
        done := fun s Q E st hE => wpAny_nextOf_tuple_end (show X.A.in1.handled = none from I.ok.hd hc) st.2.1 st.2.2 hn hE }
    exact wpAny_pyNext_enum_endD D he ⟨rfl, hit, p⟩ fun h' eb => ⟨rfl, I.turned (t' := s.toks) (fun b o hb q => eb b o hb q) f0 f1 f3 f4 f5⟩
  self := fun A i s Q E st h => let ⟨⟨_, he⟩, _⟩ := st; wpAny_pyIter_enum he h
def iEnumT (K : PySem.W.Frag) (ta : TA) : TI := fun σ H R => ta σ H fun vs H1 => ∃ a xs, vs = [.ref a] ∧ SqT K H1 a xs ∧ R (IteT K a) H1
theorem pi_enumT {X : Cx} {e : Expr} {ta : TA} {p pos tpos : Pos} {elts : List Expr} {kk : Nat} (hg : Gl X "enumerate") (hm : X.mg "enumerate" = none) (ha : PA X [e] ta) (hs : starEach [e] X.env = [(false, eval e X.env)] := by rfl) :
    PI X (.Tuple elts kk tpos) (.Call (.Name "enumerate" p) [e] [] pos) (iEnumT X.K ta) := by
  refine ⟨fun pins s σ H R I h => ?_⟩
  refine Call_ (ld_blt I hg hm boot_enumerate (PyProof.Rows.callWith_type1 (thn (ha.run pos pins s σ H _ I h) fun us s1 ⟨vs, H1, I1, r1, q1⟩ => ?_) hs rfl))
  obtain ⟨a, xs, ex, hq, q⟩ := q1
  subst ex
  cases r1 with
  | cons r rr =>
    cases rr
    cases r
    obtain ⟨its, rv, p', hz⟩ := I1.tuple hq
    have hal : a < s1.heap.objs.size := p'.lt
    refine nl_call_enumT p' fun h' he hit hsz hk => wpAny_pyIter_enum he ?_
    have I2 : Inv X pins σ H1 { s1 with heap := h' } := I1.kept (t' := s1.toks) hk
    refine ⟨s1.heap.objs.size + 1, [s1.heap.objs.size + 1, s1.heap.objs.size], _, _, H1, rfl, I2, turn_enumT a (s1.heap.objs.size + 1) s1.heap.objs.size, ⟨⟨.none, he⟩, hit, Nat.succ_ne_self _, Nat.ne_of_lt hal⟩, fun b hb => ?_, q⟩
    have e' : b = s1.heap.objs.size + 1 ∨ b = s1.heap.objs.size := by simpa using hb
    have hle : s1.heap.objs.size ≤ b := by
      rcases e' with z | z
      · rw [z]; exact Nat.le_add_right _ _
      · rw [z]; exact Nat.le_refl _
    exact I1.fpOk hle (I1.hok.fresh hle)
theorem walk_enumT {K : PySem.W.Frag} {a : Addr} {xs : List V} : Walk (IteT K a) xs.length (fun H => SqT K H a xs) (YPair (fun i => some (.int (i : Nat))) (fun i => xs[i]?)) := by
  refine ⟨fun i _ hi q => ⟨xs, xs[i], q, by simp [hi]⟩, fun _ q => ⟨xs, q, Nat.le_refl _⟩, fun i H v H' _ q y => ?_⟩
  obtain ⟨T, x, h1, h2, h3, h4⟩ := y
  exact ⟨T, .int (i : Nat), x, h1, h2, h3, rfl, h4 xs q⟩
theorem walk_zipT {K : PySem.W.Frag} {a b : Addr} {xs ys : List V} {n : Nat} (hn : n = min xs.length ys.length) : Walk (RZ.ItzT K a b) n (fun H => SqT K H a xs ∧ SqT K H b ys) (YPair (fun i => xs[i]?) (fun i => ys[i]?)) := by
  subst hn
  refine ⟨fun i _ hi q => ?_, fun _ q => ⟨xs, ys, q.1, q.2, by omega⟩, fun i H v H' _ q y => ?_⟩
  · have h1 : i < xs.length := by omega
    have h2 : i < ys.length := by omega
    exact ⟨xs, ys, xs[i], ys[i], q.1, q.2, by simp [h1], by simp [h2]⟩
  · obtain ⟨T, x, z, h1, h2, h3, h4, h5⟩ := y
    exact ⟨T, x, z, h1, h2, h3, h4 xs q.1, h5 ys q.2⟩
end NL
end
section
set_option linter.all false
set_option Elab.async false
set_option maxRecDepth 100000
/-! C2: comprehensions, built-ins, over C1. -/
namespace NL
open PySem L2
open Evl (Ex Ev EvT)

/-- every tuple is kept -/
def Tk (H H' : Hp) : Prop := ∀ a xs, H a = some (.tup xs) → H' a = some (.tup xs)
theorem Tk.of {H H' : Hp} (e : Ex H H') : Tk H H' := fun a xs h => e a _ h
theorem Tk.trans {H H1 H2 : Hp} (a : Tk H H1) (b : Tk H1 H2) : Tk H H2 := fun c xs h => b c xs (a c xs h)
theorem Tk.refl (H : Hp) : Tk H H := fun _ _ h => h
theorem Tk.lst {H : Hp} {l : Addr} {xs : List V} {o : HO} (h : H l = some (.lst xs)) : Tk H (upd H l o) := fun a ys ha => by
  rw [upd_ne (ne_of ha h (by intro z; cases z))]; exact ha
theorem Tk.new {H : Hp} {l : Addr} {o : HO} (h : H l = none) : Tk H (upd H l o) := Tk.of (Ex.new h)
class Stab (R : Rp) : Prop where
  st : ∀ {v : V} {H H' : Hp}, Tk H H' → R.p v H → R.p v H'
instance (x : V) : Stab (Rp.v x) := ⟨fun _ h => h⟩
instance (ns : List Int) : Stab (tupI ns) := ⟨fun t ⟨a, h1, h2⟩ => ⟨a, h1, t a _ h2⟩⟩
theorem AllP.stab : ∀ {vs : List V} {Rs : List Rp} {H H' : Hp}, (∀ R ∈ Rs, Stab R) → Tk H H' → AllP vs Rs H → AllP vs Rs H'
  | [], [], _, _, _, _, h => h
  | v :: vs, R :: Rs, _, _, s, e, h => ⟨(s R (by simp)).st e h.1, AllP.stab (fun R' hR => s R' (by simp [hR])) e h.2⟩
  | [], _ :: _, _, _, _, _, h => h.elim
  | _ :: _, [], _, _, _, _, h => h.elim
theorem stab_tupR {Rs : List Rp} (h : ∀ R ∈ Rs, Stab R) : Stab (tupR Rs) := ⟨fun t ⟨a, xs, h1, h2, h3⟩ => ⟨a, xs, h1, t a _ h2, h3.stab h t⟩⟩
theorem allTup_stab (cs : List (List Int)) : ∀ R ∈ cs.map tupI, Stab R := fun R hR => by
  obtain ⟨c, _, rfl⟩ := List.mem_map.mp hR
  exact inferInstance
theorem AllP.tk {vs : List V} {cs : List (List Int)} {H H' : Hp} (h : AllP vs (cs.map tupI) H) (t : Tk H H') : AllP vs (cs.map tupI) H' := h.stab (allTup_stab cs) t

/-- what a walked thing gives: n turns, of each item what is told -/
def EvW (wi : TI) (σ : L2.St) (H : Hp) (n : Nat) (item : Nat → V → Hp → Prop) : Prop :=
  ∀ H1, Ex H H1 → ∀ R : It → Hp → Prop, (∀ J H2 G Y, Ex H1 H2 → Walk J n G Y → (∀ H3, Ex H2 H3 → G H3) → (∀ i H3 x H4, i < n → Ex H2 H3 → Y i H3 x H4 → Ex H3 H4 ∧ item i x H4) → R J H2) → wi σ H1 R
section
variable {K : PySem.W.Frag} {σ : L2.St} {H H' H1 : Hp} {ta tb te tl : TE} {tt : TT} {R : Rp} {g : TG} {vs : List Nat} {wi : TI} {n : Nat} {item : Nat → V → Hp → Prop}
theorem sqL_of {a : Addr} {xs : List V} (h : H a = some (.lst xs)) : SqL K H a xs := SqL.of h
theorem sqT_of {a : Addr} {xs : List V} (h : H a = some (.tup xs)) : SqT K H a xs := Or.inl (Or.inl h)
theorem ew_lst {Rs : List Rp} (h : EvP tl σ H (lstR Rs)) : EvW (iList K tl) σ H Rs.length (fun i x H => ∃ R, Rs[i]? = some R ∧ R.p x H) := fun H1 e R q =>
  h H1 e _ fun v H2 e2 ⟨a, xs, hv, ha, hp⟩ => ⟨a, hv, ⟨xs, sqL_of ha⟩, q _ _ _ _ e2 (by rw [← hp.length]; exact walk_list) (fun H3 e3 => sqL_of (e3 a _ ha)) fun i H3 x H4 hi e3 y => by
    obtain ⟨rfl, hx⟩ := y
    obtain ⟨R', hR, p⟩ := hp.get hx
    exact ⟨Ex.refl _, R', hR, R'.up e3 p⟩⟩
theorem ew_tup {Rs : List Rp} (h : EvP tl σ H (tupR Rs)) : EvW (iTup K tl) σ H Rs.length (fun i x H => ∃ R, Rs[i]? = some R ∧ R.p x H) := fun H1 e R q =>
  h H1 e _ fun v H2 e2 ⟨a, xs, hv, ha, hp⟩ => ⟨a, hv, ⟨xs, sqT_of ha⟩, q _ _ _ _ e2 (by rw [← hp.length]; exact walk_tup) (fun H3 e3 => sqT_of (e3 a _ ha)) fun i H3 x H4 hi e3 y => by
    obtain ⟨rfl, hx⟩ := y
    obtain ⟨R', hR, p⟩ := hp.get hx
    exact ⟨Ex.refl _, R', hR, R'.up e3 p⟩⟩
theorem ew_tupI {ns : List Int} (h : EvP tl σ H (tupI ns)) : EvW (iTup K tl) σ H ns.length (fun i x _ => ∃ n, ns[i]? = some n ∧ x = .int n) := fun H1 e R q =>
  h H1 e _ fun v H2 e2 ⟨a, hv, ha⟩ => ⟨a, hv, ⟨_, sqT_of ha⟩, q _ _ _ _ e2 (by simpa using walk_tup (K := K) (a := a) (xs := ns.map V.int)) (fun H3 e3 => sqT_of (e3 a _ ha)) fun i H3 x H4 hi e3 y => by
    obtain ⟨rfl, hx⟩ := y
    rw [List.getElem?_map] at hx
    cases hn : ns[i]? with
    | none => rw [hn] at hx; cases hx
    | some m => rw [hn] at hx; exact ⟨Ex.refl _, m, hn, (Option.some.inj hx).symm⟩⟩
theorem ew_lstI {ns : List Int} (h : EvP tl σ H (lstI ns)) : EvW (iList K tl) σ H ns.length (fun i x _ => ∃ n, ns[i]? = some n ∧ x = .int n) := fun H1 e R q =>
  h H1 e _ fun v H2 e2 ⟨a, hv, ha⟩ => ⟨a, hv, ⟨_, sqL_of ha⟩, q _ _ _ _ e2 (by simpa using walk_list (K := K) (a := a) (xs := ns.map V.int)) (fun H3 e3 => sqL_of (e3 a _ ha)) fun i H3 x H4 hi e3 y => by
    obtain ⟨rfl, hx⟩ := y
    rw [List.getElem?_map] at hx
    cases hn : ns[i]? with
    | none => rw [hn] at hx; cases hx
    | some m => rw [hn] at hx; exact ⟨Ex.refl _, m, hn, (Option.some.inj hx).symm⟩⟩
theorem ew_range1 {j : Int} {ta : TA} (h : EvA ta σ H [Rp.v (.int j)]) (hj : j ≤ 1000000) (hj0 : 0 ≤ j) : EvW (iRng1 ta) σ H j.toNat (fun i x _ => x = .int i) := fun H1 e R q =>
  h H1 e _ fun vs H2 e2 p => ⟨j, (by
    match vs, p with
    | [v], p => rw [show v = V.int j from p.1]), by omega, by omega, q _ _ _ _ e2 walk_range (fun _ _ => trivial) fun i H3 x H4 hi e3 y => by
    obtain ⟨rfl, rfl⟩ := y
    exact ⟨Ex.refl _, by show V.int (0 + (i : Int)) = V.int (i : Int); rw [Int.zero_add]⟩⟩
theorem ew_range2 {lo hi : Int} {ta : TA} (h : EvA ta σ H [Rp.v (.int lo), Rp.v (.int hi)]) (h0 : 0 ≤ lo) (h1 : lo ≤ 1000000) (h2 : 0 ≤ hi) (h3 : hi ≤ 1000000) : EvW (iRng2 ta) σ H (hi - lo).toNat (fun i x _ => x = .int (lo + i)) := fun H1 e R q =>
  h H1 e _ fun vs H2 e2 p => ⟨lo, hi, (by
    match vs, p with
    | [v, w], p => rw [show v = V.int lo from p.1, show w = V.int hi from p.2.1]), by omega, q _ _ _ _ e2 walk_range (fun _ _ => trivial) fun i H3 x H4 hi e3 y => by
    obtain ⟨rfl, rfl⟩ := y
    exact ⟨Ex.refl _, rfl⟩⟩
/-- a new pair at each turn -/
def itP (Ix Iy : Nat → V → Hp → Prop) : Nat → V → Hp → Prop := fun i v H => ∃ T x y, v = .ref T ∧ H T = some (.tup [x, y]) ∧ Ix i x H ∧ Iy i y H
theorem ew_zipT {Rs Ss : List Rp} {ta : TA} (h : EvA ta σ H [tupR Rs, tupR Ss]) (hl : Rs.length = Ss.length) : EvW (RZ.iZipA K ta) σ H Rs.length (itP (fun i x H => ∃ R, Rs[i]? = some R ∧ R.p x H) (fun i x H => ∃ R, Ss[i]? = some R ∧ R.p x H)) := fun H1 e R q =>
  h H1 e _ fun vs H2 e2 p => by
    match vs, p with
    | [v, w], p =>
      obtain ⟨⟨a, xs, rfl, ha, pa⟩, ⟨b, ys, rfl, hb, pb⟩, _⟩ := p
      refine ⟨a, b, xs, ys, rfl, .inr ⟨sqT_of ha, sqT_of hb, q _ _ _ _ e2 (walk_zipT (n := Rs.length) (by rw [pa.length, pb.length, hl]; simp)) (fun H3 e3 => ⟨sqT_of (e3 a _ ha), sqT_of (e3 b _ hb)⟩) fun i H3 x H4 hi e3 y => ?_⟩⟩
      obtain ⟨T, x1, y1, rfl, hT, rfl, hx, hy⟩ := y
      obtain ⟨R1, hR1, p1⟩ := pa.get hx
      obtain ⟨R2, hR2, p2⟩ := pb.get hy
      exact ⟨Ex.new hT, T, x1, y1, rfl, upd_same, ⟨R1, hR1, R1.up (e3.trans (Ex.new hT)) p1⟩, ⟨R2, hR2, R2.up (e3.trans (Ex.new hT)) p2⟩⟩
theorem ew_zipL {Rs Ss : List Rp} {ta : TA} (h : EvA ta σ H [lstR Rs, lstR Ss]) (hl : Rs.length = Ss.length) : EvW (RZ.iZipA K ta) σ H Rs.length (itP (fun i x H => ∃ R, Rs[i]? = some R ∧ R.p x H) (fun i x H => ∃ R, Ss[i]? = some R ∧ R.p x H)) := fun H1 e R q =>
  h H1 e _ fun vs H2 e2 p => by
    match vs, p with
    | [v, w], p =>
      obtain ⟨⟨a, xs, rfl, ha, pa⟩, ⟨b, ys, rfl, hb, pb⟩, _⟩ := p
      refine ⟨a, b, xs, ys, rfl, .inl ⟨sqL_of ha, sqL_of hb, q _ _ _ _ e2 (walk_zip (n := Rs.length) (by rw [pa.length, pb.length, hl]; simp)) (fun H3 e3 => ⟨sqL_of (e3 a _ ha), sqL_of (e3 b _ hb)⟩) fun i H3 x H4 hi e3 y => ?_⟩⟩
      obtain ⟨T, x1, y1, rfl, hT, rfl, hx, hy⟩ := y
      obtain ⟨R1, hR1, p1⟩ := pa.get hx
      obtain ⟨R2, hR2, p2⟩ := pb.get hy
      exact ⟨Ex.new hT, T, x1, y1, rfl, upd_same, ⟨R1, hR1, R1.up (e3.trans (Ex.new hT)) p1⟩, ⟨R2, hR2, R2.up (e3.trans (Ex.new hT)) p2⟩⟩
theorem ew_enumT {Rs : List Rp} {ta : TA} (h : EvA ta σ H [tupR Rs]) : EvW (iEnumT K ta) σ H Rs.length (itP (fun i x _ => x = .int i) (fun i x H => ∃ R, Rs[i]? = some R ∧ R.p x H)) := fun H1 e R q =>
  h H1 e _ fun vs H2 e2 p => by
    match vs, p with
    | [v], p =>
      obtain ⟨⟨a, xs, rfl, ha, pa⟩, _⟩ := p
      refine ⟨a, xs, rfl, sqT_of ha, q _ _ _ _ e2 (by rw [← pa.length]; exact walk_enumT) (fun H3 e3 => sqT_of (e3 a _ ha)) fun i H3 x H4 hi e3 y => ?_⟩
      obtain ⟨T, x1, y1, rfl, hT, rfl, hx, hy⟩ := y
      obtain ⟨R2, hR2, p2⟩ := pa.get hy
      exact ⟨Ex.new hT, T, x1, y1, rfl, upd_same, (Option.some.inj hx).symm, ⟨R2, hR2, R2.up (e3.trans (Ex.new hT)) p2⟩⟩
theorem ew_enumL {Rs : List Rp} {ta : TA} (h : EvA ta σ H [lstR Rs]) : EvW (iEnum K ta) σ H Rs.length (itP (fun i x _ => x = .int i) (fun i x H => ∃ R, Rs[i]? = some R ∧ R.p x H)) := fun H1 e R q =>
  h H1 e _ fun vs H2 e2 p => by
    match vs, p with
    | [v], p =>
      obtain ⟨⟨a, xs, rfl, ha, pa⟩, _⟩ := p
      refine ⟨a, xs, rfl, sqL_of ha, q _ _ _ _ e2 (by rw [← pa.length]; exact walk_enum) (fun H3 e3 => sqL_of (e3 a _ ha)) fun i H3 x H4 hi e3 y => ?_⟩
      obtain ⟨T, x1, y1, rfl, hT, rfl, hx, hy⟩ := y
      obtain ⟨R2, hR2, p2⟩ := pa.get hy
      exact ⟨Ex.new hT, T, x1, y1, rfl, upd_same, (Option.some.inj hx).symm, ⟨R2, hR2, R2.up (e3.trans (Ex.new hT)) p2⟩⟩

theorem EvW.len {m : Nat} (h : EvW wi σ H n item) (e : n = m) : EvW wi σ H m item := e ▸ h
/-- what the kept turns give -/
def kept {α : Type} (n : Nat) (f : Nat → Bool) (r : Nat → α) : List α := ((List.range n).filter f).map r
theorem kept_yes {α : Type} {n : Nat} {f : Nat → Bool} {r : Nat → α} (h : f n = true) : kept (n + 1) f r = kept n f r ++ [r n] := by
  simp [kept, List.range_succ, List.filter_append, h]
theorem kept_no {α : Type} {n : Nat} {f : Nat → Bool} {r : Nat → α} (h : f n = false) : kept (n + 1) f r = kept n f r := by
  simp [kept, List.range_succ, List.filter_append, h]
theorem kept_len {α : Type} (n : Nat) (f : Nat → Bool) (r : Nat → α) : (kept n f r).length ≤ n := by
  have := List.length_filter_le f (List.range n)
  simp [kept] at *
  omega
theorem kept_all {α : Type} (n : Nat) (r : Nat → α) : kept n (fun _ => true) r = (List.range n).map r := by
  unfold kept
  rw [List.filter_eq_self.mpr (by simp)]
theorem mem_kept {α : Type} {n : Nat} {f : Nat → Bool} {r : Nat → α} {x : α} : x ∈ kept n f r ↔ ∃ i, i < n ∧ f i = true ∧ r i = x := by
  unfold kept
  simp [List.mem_map, List.mem_filter, and_assoc]
/-- a list that is new since H0 -/
def lstN (H0 : Hp) (Rs : List Rp) : Rp := ⟨fun v H => ∃ a xs, v = .ref a ∧ H0 a = none ∧ H a = some (.lst xs) ∧ AllP xs Rs H, fun e ⟨a, xs, h1, h0, h2, h3⟩ => ⟨a, xs, h1, h0, e a _ h2, h3.up e⟩⟩
theorem none_of {H H' : Hp} {a : Addr} (e : Ex H H') (h : H' a = none) : H a = none := by
  cases hz : H a with
  | none => rfl
  | some o => rw [e a o hz] at h; cases h
theorem lstN_R {H0 : Hp} {Rs : List Rp} {v : V} {H : Hp} (h : (lstN H0 Rs).p v H) : (lstR Rs).p v H := let ⟨a, xs, h1, _, h2, h3⟩ := h; ⟨a, xs, h1, h2, h3⟩
theorem ep_lcN {σs : Nat → L2.St → Hp → Prop} {f : Nat → Bool} {Rs : Nat → Rp} (hw : EvW wi σ H n item) (hn : n < sizeLine) (st : ∀ i, i < n → Stab (Rs i))
    (turn : ∀ i x H', i < n → Ex H H' → item i x H' → ∀ Q : L2.St → Hp → Prop, (∀ σ2 H2, Ex H' H2 → σs i σ2 H2 → Q σ2 H2) → g x (wipe σ vs) H' Q)
    (wp : ∀ i σ2 H2, i < n → σs i σ2 H2 → wipe σ2 vs = wipe σ vs)
    (tst : ∀ i σ2 H2, i < n → Ex H H2 → σs i σ2 H2 → EvT tt σ2 H2 (f i))
    (elt : ∀ i σ2 H2, i < n → Ex H H2 → σs i σ2 H2 → f i = true → EvP te σ2 H2 (Rs i)) :
    EvP (tLc wi g tt te vs) σ H (lstN H (kept n f Rs)) := fun H1 e Q q => hw H1 e _ fun J H2 G Y e2 W hG hY => fun D hD => by
  have allS : ∀ i, i ≤ n → ∀ R ∈ kept i f Rs, Stab R := fun i hi R hR => by
    obtain ⟨j, hj, _, rfl⟩ := mem_kept.mp hR
    exact st j (by omega)
  refine lc_it W (fun i H' => Ex H2 H' ∧ ∃ acc, H' D = some (.lst acc) ∧ AllP acc (kept i f Rs) H') ⟨Ex.new hD, [], upd_same, by simp [kept, AllP]⟩ (fun i H' _ p => hG H' p.1) ?_ ?_
  · rintro i x H3 H4 hi ⟨e3, acc, hacc, pacc⟩ y
    obtain ⟨e4, hit⟩ := hY i H3 x H4 hi e3 y
    have a4 := (e.trans e2).trans (e3.trans e4)
    refine turn i x H4 hi a4 hit _ fun σ2 H5 e5 s5 => ⟨wp i σ2 H5 hi s5, ?_⟩
    have a5 := a4.trans e5
    refine tst i σ2 H5 hi a5 s5 H5 (Ex.refl _) _ fun H6 e6 => ?_
    cases hf : f i with
    | false =>
      refine ⟨((e3.trans e4).trans e5).trans e6, acc, e6 D _ (e5 D _ (e4 D _ hacc)), ?_⟩
      rw [kept_no hf]
      exact pacc.up ((e4.trans e5).trans e6)
    | true =>
      refine elt i σ2 H5 hi a5 s5 hf H6 e6 _ fun v H7 e7 pv => ⟨acc, e7 D _ (e6 D _ (e5 D _ (e4 D _ hacc))), ?_, ?_⟩
      · have := kept_len i f Rs
        rw [pacc.length]; omega
      · have hD7 := e7 D _ (e6 D _ (e5 D _ (e4 D _ hacc)))
        refine ⟨Ex.mut ((((e3.trans e4).trans e5).trans e6).trans e7) hD, _, upd_same, ?_⟩
        rw [kept_yes hf]
        exact ((pacc.up (((e4.trans e5).trans e6).trans e7)).stab (allS i (by omega)) (Tk.lst hD7)).snoc ((st i hi).st (Tk.lst hD7) pv)
  · rintro H' ⟨e3, acc, hacc, pacc⟩
    exact q (.ref D) H' (e2.trans e3) ⟨D, acc, rfl, none_of ((e.trans e2)) hD, hacc, pacc⟩
theorem ep_lcG {σs : Nat → L2.St → Hp → Prop} {f : Nat → Bool} {Rs : Nat → Rp} (hw : EvW wi σ H n item) (hn : n < sizeLine) (st : ∀ i, i < n → Stab (Rs i))
    (turn : ∀ i x H', i < n → Ex H H' → item i x H' → ∀ Q : L2.St → Hp → Prop, (∀ σ2 H2, Ex H' H2 → σs i σ2 H2 → Q σ2 H2) → g x (wipe σ vs) H' Q)
    (wp : ∀ i σ2 H2, i < n → σs i σ2 H2 → wipe σ2 vs = wipe σ vs)
    (tst : ∀ i σ2 H2, i < n → Ex H H2 → σs i σ2 H2 → EvT tt σ2 H2 (f i))
    (elt : ∀ i σ2 H2, i < n → Ex H H2 → σs i σ2 H2 → f i = true → EvP te σ2 H2 (Rs i)) :
    EvP (tLc wi g tt te vs) σ H (lstR (kept n f Rs)) :=
  (ep_lcN (σs := σs) hw hn st turn wp tst elt).weak fun v H1 _ p => lstN_R p
/-- the target is a name -/
theorem ep_lc1 {j : Nat} {f : Nat → Bool} {Rs : Nat → Rp} (hw : EvW wi σ H n item) (hn : n < sizeLine) (st : ∀ i, i < n → Stab (Rs i)) (wp : ∀ x, wipe ((wipe σ vs).set j (some x)) vs = wipe σ vs)
    (tst : ∀ i x H2, i < n → Ex H H2 → item i x H2 → EvT tt ((wipe σ vs).set j (some x)) H2 (f i))
    (elt : ∀ i x H2, i < n → Ex H H2 → item i x H2 → f i = true → EvP te ((wipe σ vs).set j (some x)) H2 (Rs i)) : EvP (tLc wi (gName j) tt te vs) σ H (lstR (kept n f Rs)) :=
  ep_lcG (σs := fun i σ2 H2 => ∃ x, item i x H2 ∧ σ2 = (wipe σ vs).set j (some x)) hw hn st (fun i x H' _ _ hi Q q => q _ H' (Ex.refl _) ⟨x, hi, rfl⟩)
    (fun i σ2 H2 _ ⟨x, _, e⟩ => by rw [e]; exact wp x) (fun i σ2 H2 hi e ⟨x, hx, es⟩ => by rw [es]; exact tst i x H2 hi e hx) (fun i σ2 H2 hi e ⟨x, hx, es⟩ hf => by rw [es]; exact elt i x H2 hi e hx hf)
theorem ep_lc1N {j : Nat} {f : Nat → Bool} {Rs : Nat → Rp} (hw : EvW wi σ H n item) (hn : n < sizeLine) (st : ∀ i, i < n → Stab (Rs i)) (wp : ∀ x, wipe ((wipe σ vs).set j (some x)) vs = wipe σ vs)
    (tst : ∀ i x H2, i < n → Ex H H2 → item i x H2 → EvT tt ((wipe σ vs).set j (some x)) H2 (f i))
    (elt : ∀ i x H2, i < n → Ex H H2 → item i x H2 → f i = true → EvP te ((wipe σ vs).set j (some x)) H2 (Rs i)) : EvP (tLc wi (gName j) tt te vs) σ H (lstN H (kept n f Rs)) :=
  ep_lcN (σs := fun i σ2 H2 => ∃ x, item i x H2 ∧ σ2 = (wipe σ vs).set j (some x)) hw hn st (fun i x H' _ _ hi Q q => q _ H' (Ex.refl _) ⟨x, hi, rfl⟩)
    (fun i σ2 H2 _ ⟨x, _, e⟩ => by rw [e]; exact wp x) (fun i σ2 H2 hi e ⟨x, hx, es⟩ => by rw [es]; exact tst i x H2 hi e hx) (fun i σ2 H2 hi e ⟨x, hx, es⟩ hf => by rw [es]; exact elt i x H2 hi e hx hf)
/-- the target is a pair of names -/
theorem ep_lc2 {j l : Nat} {f : Nat → Bool} {Rs : Nat → Rp} {Ix Iy : Nat → V → Hp → Prop} (hw : EvW wi σ H n (itP Ix Iy)) (hn : n < sizeLine) (st : ∀ i, i < n → Stab (Rs i)) (wp : ∀ x y, wipe (((wipe σ vs).set j (some x)).set l (some y)) vs = wipe σ vs)
    (tst : ∀ i x y H2, i < n → Ex H H2 → Ix i x H2 → Iy i y H2 → EvT tt (((wipe σ vs).set j (some x)).set l (some y)) H2 (f i))
    (elt : ∀ i x y H2, i < n → Ex H H2 → Ix i x H2 → Iy i y H2 → f i = true → EvP te (((wipe σ vs).set j (some x)).set l (some y)) H2 (Rs i)) : EvP (tLc wi (gTup K 2 (gCons (gName j) (gCons (gName l) gNil))) tt te vs) σ H (lstR (kept n f Rs)) :=
  ep_lcG (σs := fun i σ2 H2 => ∃ x y, Ix i x H2 ∧ Iy i y H2 ∧ σ2 = ((wipe σ vs).set j (some x)).set l (some y)) hw hn st
    (fun i x H' _ _ ⟨T, x1, y1, e1, hT, h1, h2⟩ Q q => ⟨T, [x1, y1], e1, sqT_of hT, rfl, x1, [y1], rfl, y1, [], rfl, rfl, q _ H' (Ex.refl _) ⟨x1, y1, h1, h2, rfl⟩⟩)
    (fun i σ2 H2 _ ⟨x, y, _, _, e⟩ => by rw [e]; exact wp x y) (fun i σ2 H2 hi e ⟨x, y, hx, hy, es⟩ => by rw [es]; exact tst i x y H2 hi e hx hy) (fun i σ2 H2 hi e ⟨x, y, hx, hy, es⟩ hf => by rw [es]; exact elt i x y H2 hi e hx hy hf)

/-! ### tests -/
theorem et_yes : EvT tYes σ H true := fun H1 _ _ q => q H1 (Ex.refl H1)

/-! ### built-ins -/
theorem kept_bl {n : Nat} {b : Nat → Bool} : kept n (fun _ => true) (fun i => Rp.v (.bl (b i))) = ((List.range n).map b).map fun c => Rp.v (.bl c) := by
  rw [kept_all, List.map_map]; rfl
theorem kept_int {n : Nat} {b : Nat → Int} : kept n (fun _ => true) (fun i => Rp.v (.int (b i))) = ((List.range n).map b).map fun c => Rp.v (.int c) := by
  rw [kept_all, List.map_map]; rfl
theorem ep_all {bs : List Bool} (h : EvP tl σ H (lstR (bs.map fun b => Rp.v (.bl b)))) : EvP (tCB (rAll K) (tCons tl tNil)) σ H (Rp.v (.bl (bs.all id))) :=
  ep_cb (ea_cons h ea_nil) fun vs H1 _ p => by
    match vs, p with
    | [v], p =>
      obtain ⟨⟨a, xs, rfl, ha, pa⟩, _⟩ := p
      rw [allP_bls] at pa
      subst pa
      exact Gi.now (fun Q q => ⟨a, bs, rfl, sqL_of ha, q⟩) rfl
theorem ep_any {bs : List Bool} (h : EvP tl σ H (lstR (bs.map fun b => Rp.v (.bl b)))) : EvP (tCB (rAny K) (tCons tl tNil)) σ H (Rp.v (.bl (bs.any id))) :=
  ep_cb (ea_cons h ea_nil) fun vs H1 _ p => by
    match vs, p with
    | [v], p =>
      obtain ⟨⟨a, xs, rfl, ha, pa⟩, _⟩ := p
      rw [allP_bls] at pa
      subst pa
      exact Gi.now (fun Q q => ⟨a, bs, rfl, sqL_of ha, q⟩) rfl
theorem ep_sum {ns : List Int} (h : EvP tl σ H (lstR (ns.map fun b => Rp.v (.int b)))) : EvP (tCB (rSum K) (tCons tl tNil)) σ H (Rp.v (.int ns.sum)) :=
  ep_cb (ea_cons h ea_nil) fun vs H1 _ p => by
    match vs, p with
    | [v], p =>
      obtain ⟨⟨a, xs, rfl, ha, pa⟩, _⟩ := p
      rw [allP_ints] at pa
      subst pa
      exact Gi.now (fun Q q => ⟨a, ns, rfl, sqL_of ha, q⟩) rfl
/-- len of a list, of a tuple; tuple(list); an item by its place -/
def rLenS (K : PySem.W.Frag) : List V → Hp → VK → Prop := fun xs H Q => ∃ p ys, xs = [.ref p] ∧ (SqL K H p ys ∨ SqT K H p ys) ∧ Q (.int ys.length) H
theorem call_lenS {X : Cx} : CallR X (.builtin "len") (rLenS X.K) := call_len_seq
theorem ep_lenL {Rs : List Rp} (h : EvP tl σ H (lstR Rs)) : EvP (tCB (rLenS K) (tCons tl tNil)) σ H (Rp.v (.int Rs.length)) :=
  ep_cb (ea_cons h ea_nil) fun vs H1 _ p => by
    match vs, p with
    | [v], p =>
      obtain ⟨⟨a, xs, rfl, ha, pa⟩, _⟩ := p
      rw [← pa.length]
      exact Gi.now (fun Q q => ⟨a, xs, rfl, .inl (sqL_of ha), q⟩) rfl
theorem ep_lenT {Rs : List Rp} (h : EvP tl σ H (tupR Rs)) : EvP (tCB (rLenS K) (tCons tl tNil)) σ H (Rp.v (.int Rs.length)) :=
  ep_cb (ea_cons h ea_nil) fun vs H1 _ p => by
    match vs, p with
    | [v], p =>
      obtain ⟨⟨a, xs, rfl, ha, pa⟩, _⟩ := p
      rw [← pa.length]
      exact Gi.now (fun Q q => ⟨a, xs, rfl, .inr (sqT_of ha), q⟩) rfl
def rTupOf (K : PySem.W.Frag) : List V → Hp → VK → Prop := fun xs H Q => ∃ p ys, xs = [.ref p] ∧ ((SqL K H p ys ∧ ∀ l, H l = none → Q (.ref l) (upd H l (.tup ys))) ∨ (SqT K H p ys ∧ Q (.ref p) H))
theorem call_tupOf {X : Cx} : CallR X (.type "tuple") (rTupOf X.K) := call_tuple_of
theorem ep_tupleL {Rs : List Rp} (h : EvP tl σ H (lstR Rs)) : EvP (tCB (rTupOf K) (tCons tl tNil)) σ H (tupR Rs) :=
  ep_cb (ea_cons h ea_nil) fun vs H1 _ p => by
    match vs, p with
    | [v], p =>
      obtain ⟨⟨a, xs, rfl, ha, pa⟩, _⟩ := p
      exact Gi.new (o := .tup xs) (fun Q q => ⟨a, xs, rfl, .inl ⟨sqL_of ha, q⟩⟩) fun p hp => ⟨p, xs, rfl, upd_same, pa.up (Ex.new hp)⟩
theorem ep_ixT {Rs : List Rp} {i : Nat} (h : EvP ta σ H (tupR Rs)) (hi : EvP tb σ H (Rp.v (.int i))) (hR : Rs[i]? = some R) : EvP (tOp (rIxT K) ta tb) σ H R :=
  ep_op h hi fun x y H1 _ px py => by
    obtain ⟨a, xs, rfl, ha, pa⟩ := px
    cases (show y = V.int i from py)
    obtain ⟨v, hv, pv⟩ := pa.get2 hR
    exact Gi.now (fun Q q => ⟨a, xs, i, v, rfl, rfl, sqT_of ha, atI_nat hv, q⟩) pv
theorem ep_ixTI {ns : List Int} {i : Nat} {n : Int} (h : EvP ta σ H (tupI ns)) (hi : EvP tb σ H (Rp.v (.int i))) (hR : ns[i]? = some n) : EvP (tOp (rIxT K) ta tb) σ H (Rp.v (.int n)) :=
  ep_op h hi fun x y H1 _ px py => by
    obtain ⟨a, rfl, ha⟩ := px
    cases (show y = V.int i from py)
    exact Gi.now (fun Q q => ⟨a, _, i, .int n, rfl, rfl, sqT_of ha, atI_nat (by rw [List.getElem?_map, hR]; rfl), q⟩) rfl
theorem ep_ixL {Rs : List Rp} {i : Nat} (h : EvP ta σ H (lstR Rs)) (hi : EvP tb σ H (Rp.v (.int i))) (hR : Rs[i]? = some R) : EvP (tOp (rIxL K) ta tb) σ H R :=
  ep_op h hi fun x y H1 _ px py => by
    obtain ⟨a, xs, rfl, ha, pa⟩ := px
    cases (show y = V.int i from py)
    obtain ⟨v, hv, pv⟩ := pa.get2 hR
    exact Gi.now (fun Q q => ⟨a, xs, i, v, rfl, rfl, sqL_of ha, atI_nat hv, q⟩) pv
/-- two ints -/
theorem ep_I0 {f : Int → Int → V} {i j : Int} (ha : EvP ta σ H (Rp.v (.int i))) (hb : EvP tb σ H (Rp.v (.int j))) : EvP (tOp (rI0 f) ta tb) σ H (Rp.v (f i j)) :=
  ep_of (Evl.ev_op (ev_of ha) (ev_of hb) Evl.rv_I0)
theorem ep_I {C : Int → Int → Prop} {f : Int → Int → V} {i j : Int} (ha : EvP ta σ H (Rp.v (.int i))) (hb : EvP tb σ H (Rp.v (.int j))) (hc : C i j) : EvP (tOp (rI C f) ta tb) σ H (Rp.v (f i j)) :=
  ep_of (Evl.ev_op (ev_of ha) (ev_of hb) (Evl.rv_I hc))
theorem ep_c {v : V} : EvP (tC v) σ H (Rp.v v) := ep_of Evl.ev_c
theorem ep_v {i : Nat} {v : V} (h : σ[i]? = some (some v)) : EvP (tVar i) σ H (Rp.v v) := ep_of (Evl.ev_var h)
theorem tupR_I {ns : List Int} (h : EvP te σ H (tupI ns)) : EvP te σ H (tupR (ns.map fun n => Rp.v (.int n))) := h.weak fun v H1 _ p => tupI_of.mpr p
theorem tupI_R {ns : List Int} (h : EvP te σ H (tupR (ns.map fun n => Rp.v (.int n)))) : EvP te σ H (tupI ns) := h.weak fun v H1 _ p => tupI_of.mp p
theorem EvP.cast {R' : Rp} (h : EvP te σ H R) (e : R = R') : EvP te σ H R' := e ▸ h
end
end NL
end
section
set_option linter.all false
set_option Elab.async false
set_option maxRecDepth 100000
set_option maxHeartbeats 4000000
/-! R2: (0,) * k for k from 1 on; sum of a tuple. -/
namespace NL
open PySem PySem.Spec PyProof.Rows L2
theorem tuple_mul1 (l : Addr) (items : Array Value) (n : Nat) (dd : Option Addr) (sl : Array (Option Value)) (u : Tok) :
    Meets (Builtin.«tuple.__mul__» ⟨[.ref l, .int 1 u], []⟩) (fun _ R s => s.heap.get? l = some { cls := .type "tuple", dict := dd, data := .seq items n, slots := sl } ∧
      R (.ok (.ret (Value.ref l))) s) :=
  .of_wp fun prog w A R s h => by
    obtain ⟨hp, g, d, tk, os⟩ := s
    obtain ⟨hl, h⟩ := h
    have f1 := AutoSeq1.idx_int
    have c1 : (items.isEmpty || (1 : Int) == 1) = true := by simp
    wp_walk using wpAny_loadPart' hl
    exact ⟨_, rfl, h⟩
section
variable {X : Cx}
/-- (x,) * k: the tuple itself for k = 1, a new one beyond -/
def rRep1 : R2 := fun x y H Q => ∃ l k z, x = .ref l ∧ y = .int k ∧ H l = some (.tup [z]) ∧ 1 ≤ k ∧ k ≤ 1000 ∧ (k = 1 → Q (.ref l) H) ∧ (k ≠ 1 → ∀ p, H p = none → Q (.ref p) (upd H p (.tup (List.replicate k.toNat z))))
theorem op_repT1 : OpR X (binaryOp .Mult) rRep1 := by
  intro pins s σ H x y v u Q I rx ry h
  obtain ⟨l, k, z, rfl, rfl, hT, h1, h2, q1, q2⟩ := h
  by_cases hk : k = 1
  · subst hk
    cases rx
    obtain ⟨t, rfl⟩ := ry
    obtain ⟨its, r, ⟨⟨cls, dd, data, sl⟩, ho, hc, n, hd⟩, hs⟩ := I.tuple (.inl (.inl hT))
    simp only at hc hd
    subst hc hd
    refine wpAny_binaryOp_repeat_ref (T := "tuple") (U := "int") (by decide) ⟨_, ho, rfl⟩ (fun s' => typeIs_int s' 1 t) noFill_tuple_mul F.fills_int_mul F.slot_int_rmul repeat_tuple F.slot_int_index.lookup
      (call_meets F.slot_int_rmul (typeIs_int s 1 t) F.entry_int_rmul (F.args_int_rmul_2 _ _) (int_rmul_tuple 1 t l its.toArray n dd sl)
        ⟨ho, rfl, ⟨_, ho, rfl⟩, call_meets F.slot_tuple_mul ⟨_, ho, rfl⟩ F.entry_tuple_mul (F.args_tuple_mul_2 _ _) (tuple_mul1 l its.toArray n dd sl t) ⟨ho, ?_⟩⟩)
    exact ⟨.ref l, H, I, rfl, q1 rfl⟩
  · refine op_repT pins s σ H (.ref l) (.int k) v u Q I rx ry ⟨l, k, [z], rfl, rfl, .inl (.inl hT), by simp, by omega, h2, by simp, fun p hp => ?_⟩
    have e : (List.replicate k.toNat [z]).flatten = List.replicate k.toNat z := by
      generalize k.toNat = m
      induction m with
      | zero => rfl
      | succ m ih => rw [List.replicate_succ, List.flatten_cons, ih, List.replicate_succ]; rfl
    rw [e]
    exact q2 hk p hp
def rSumT : List V → Hp → VK → Prop := fun vs H Q => ∃ (a : Addr) (ns : List Int), vs = [V.ref a] ∧ H a = some (.tup (ns.map V.int)) ∧ Q (.int ns.sum) H
theorem cr_sumT (hc : X.calm = true) : CallR X (.builtin "sum") rSumT := by
  intro pins s σ H vs us Q I r h
  obtain ⟨a, ns, rfl, hs, q⟩ := h
  obtain ⟨its, rv, hl, _⟩ := I.tuple (.inl (.inl hs))
  rw [Vals.ref1 r]
  obtain ⟨xs, e⟩ := rv.ints.allInts.items
  have hn : numsOf (intItems xs).toList = ns := by rw [← e]; exact rv.ints.numsOf
  rw [nums_intItems] at hn
  rw [e] at hl
  refine PySem.W.ktm_sumG (I.ok.hd hc) hl fun h' tk t' hk => ⟨.int _, H, I.kept hk, ⟨t', ?_⟩, q⟩
  rw [preSum_eq, List.take_of_length_le (by simp), hn]
end
section
variable {K : PySem.W.Frag} {σ : L2.St} {H : Hp} {ta tb te tl : TE}
theorem ep_rep {k : Int} {z : V} (ha : EvP ta σ H (tupR [Rp.v z])) (hb : EvP tb σ H (Rp.v (.int k))) (h1 : 1 ≤ k) (h2 : k ≤ 1000) : EvP (tOp rRep1 ta tb) σ H (tupR (List.replicate k.toNat (Rp.v z))) :=
  ep_op ha hb fun x y H1 _ px py => by
    obtain ⟨a, xs, rfl, ha, pa⟩ := px
    cases (show y = V.int k from py)
    match xs, pa with
    | [v], pa =>
      cases (show v = z from pa.1)
      have all : ∀ m H, AllP (List.replicate m z) (List.replicate m (Rp.v z)) H := fun m H => by
        induction m with
        | zero => trivial
        | succ m ih => exact ⟨rfl, ih⟩
      intro Q q
      refine ⟨a, k, z, rfl, rfl, ha, h1, h2, fun e => q _ H1 (Evl.Ex.refl _) ?_, fun _ p hp => q _ _ (Evl.Ex.new hp) ⟨p, _, rfl, upd_same, all _ _⟩⟩
      subst e
      exact ⟨a, _, rfl, ha, all 1 _⟩
theorem ep_sumT {ns : List Int} (h : EvP tl σ H (tupI ns)) : EvP (tCB rSumT (tCons tl tNil)) σ H (Rp.v (.int ns.sum)) :=
  ep_cb (ea_cons h ea_nil) fun vs H1 _ p => by
    match vs, p with
    | [v], p =>
      obtain ⟨⟨a, rfl, ha⟩, _⟩ := p
      exact Gi.now (fun Q q => ⟨a, ns, rfl, ha, q⟩) rfl
end
end NL
end
section
set_option linter.all false
set_option Elab.async false
set_option maxRecDepth 100000
/-! C3: any values; isinstance of built-in classes. -/
namespace NL
open PySem PySem.Spec PyProof.Rows L2
open Evl (Ex Ev EvT)
inductive Any where
  | non | bl (b : Bool) | int (i : Int) | str (x : Str) | tup (l : List Any) | lst (l : List Any) | dic
mutual
def anyR : Any → Rp
  | .non => Rp.v .non
  | .bl b => Rp.v (.bl b)
  | .int i => Rp.v (.int i)
  | .str x => Rp.v (.str x)
  | .tup l => tupR (anyRs l)
  | .lst l => lstR (anyRs l)
  | .dic => ⟨fun v H => ∃ a, v = .ref a ∧ H a = some (.dT []), fun e ⟨a, h1, h2⟩ => ⟨a, h1, e _ _ h2⟩⟩
def anyRs : List Any → List Rp
  | [] => []
  | a :: as => anyR a :: anyRs as
end
theorem anyRs_map : ∀ l : List Any, anyRs l = l.map anyR
  | [] => rfl
  | a :: as => by rw [anyRs, List.map_cons, anyRs_map as]
theorem anyR_tup (l : List Any) : anyR (.tup l) = tupR (l.map anyR) := by rw [anyR, anyRs_map]
theorem anyR_lst (l : List Any) : anyR (.lst l) = lstR (l.map anyR) := by rw [anyR, anyRs_map]
theorem anyR_ints (ns : List Int) {v : V} {H : Hp} : (anyR (.tup (ns.map Any.int))).p v H ↔ (tupI ns).p v H := by
  rw [anyR_tup, List.map_map, ← tupI_of]
  have e : (anyR ∘ Any.int) = fun n => Rp.v (.int n) := by funext n; simp [anyR]
  rw [e]
def Any.ty : Any → String
  | .non => "NoneType"
  | .bl _ => "bool"
  | .int _ => "int"
  | .str _ => "str"
  | .tup _ => "tuple"
  | .lst _ => "list"
  | .dic => "dict"
def isT (n : String) (t : String) : Bool := t == n || (t == "bool" && n == "int")
theorem kit_all : ∀ t ∈ ["NoneType", "bool", "int", "str", "tuple", "list", "dict"], ∀ n ∈ ["int", "bool", "tuple", "list"], kitB t n = some (isT n t) := by decide +kernel
theorem ty_mem (a : Any) : a.ty ∈ ["NoneType", "bool", "int", "str", "tuple", "list", "dict"] := by cases a <;> simp [Any.ty]
theorem any_ty {K : PySem.W.Frag} {a : Any} {x : V} {H : Hp} (h : (anyR a).p x H) : TyX K H x (.type a.ty) := by
  cases a with
  | non => simp only [anyR] at h; cases (show x = V.non from h); exact .base .non
  | bl b => simp only [anyR] at h; cases (show x = V.bl b from h); exact .base (.bl b)
  | int i => simp only [anyR] at h; cases (show x = V.int i from h); exact .base (.int i)
  | str y => simp only [anyR] at h; cases (show x = V.str y from h); exact .base (.str y)
  | tup l => simp only [anyR] at h; obtain ⟨a, xs, rfl, ha, _⟩ := h; exact .base (.tup ha)
  | lst l => simp only [anyR] at h; obtain ⟨a, xs, rfl, ha, _⟩ := h; exact .base (.lst ha)
  | dic => simp only [anyR] at h; obtain ⟨a, rfl, ha⟩ := h; exact .base (.dT ha)
section
variable {K : PySem.W.Frag} {σ : L2.St} {H : Hp} {ta tb te tl tx : TE} {a : Any}
theorem ep_isi {n : String} (hx : EvP tx σ H (anyR a)) (hn : n ∈ ["int", "bool", "tuple", "list"] := by decide) : EvP (tCB (rIsi K) (tCons tx (tCons (tC (.ty n)) tNil))) σ H (Rp.v (.bl (isT n a.ty))) :=
  ep_cb (ea_cons hx (ea_cons ep_c ea_nil)) fun vs H1 _ p => by
    match vs, p with
    | [x, c], p =>
      cases (show c = V.ty n from p.2.1)
      exact Gi.now (fun Q q => ⟨x, .ty n, .type a.ty, .type n, _, rfl, .ty n, any_ty p.1, kit_ty (kit_all _ (ty_mem a) _ hn), q⟩) rfl
/-- a and b as values -/
theorem ep_and {b c : Bool} (h1 : EvP ta σ H (Rp.v (.bl b))) (h2 : b = true → EvP tb σ H (Rp.v (.bl c))) : EvP (tAndV ta tb) σ H (Rp.v (.bl (b && c))) := ep_of (Evl.ev_andV (ev_of h1) fun h => ev_of (h2 h))
theorem ep_or {b c : Bool} (h1 : EvP ta σ H (Rp.v (.bl b))) (h2 : b = false → EvP tb σ H (Rp.v (.bl c))) : EvP (tOrV ta tb) σ H (Rp.v (.bl (b || c))) := ep_of (Evl.ev_orV (ev_of h1) fun h => ev_of (h2 h))
theorem ep_not {b : Bool} (h1 : EvP ta σ H (Rp.v (.bl b))) : EvP (tNotV ta) σ H (Rp.v (.bl (!b))) := ep_of (Evl.ev_notV (ev_of h1))
theorem et_I0 {p : Int → Int → Bool} {i j : Int} (ha : EvP ta σ H (Rp.v (.int i))) (hb : EvP tb σ H (Rp.v (.int j))) : EvT (tTest (tOp (rI0 fun i j => .bl (p i j)) ta tb)) σ H (p i j) := et_ep (ep_I0 ha hb)
theorem et_eqI {i j : Int} (ha : EvP ta σ H (Rp.v (.int i))) (hb : EvP tb σ H (Rp.v (.int j))) : EvT (tTest (tOp rEq ta tb)) σ H (decide (i = j)) :=
  (Evl.et_is (et_ep (ep_of (Evl.ev_op (ev_of ha) (ev_of hb) (Evl.rv_eq rfl)))) (by simp))
theorem et_neI {i j : Int} (ha : EvP ta σ H (Rp.v (.int i))) (hb : EvP tb σ H (Rp.v (.int j))) : EvT (tTest (tOp rNe ta tb)) σ H (!decide (i = j)) :=
  (Evl.et_is (et_ep (ep_of (Evl.ev_op (ev_of ha) (ev_of hb) (Evl.rv_ne rfl)))) (by simp))
theorem ep_eqI {i j : Int} (ha : EvP ta σ H (Rp.v (.int i))) (hb : EvP tb σ H (Rp.v (.int j))) : EvP (tOp rEq ta tb) σ H (Rp.v (.bl (decide (i = j)))) :=
  (ep_of (Evl.ev_op (ev_of ha) (ev_of hb) (Evl.rv_eq rfl))).cast (by simp)
end
end NL
end
section
set_option linter.all false
set_option Elab.async false
set_option maxRecDepth 100000
/-! C4: the rules with the written part named apart (within a comprehension's block the context is another term). -/
namespace NL
open PySem PySem.Spec PyProof.Rows L2
section
variable {X : Cx} {K : PySem.W.Frag} {e : Expr} {ta te : TE} {f : Str} {pos : Pos}
theorem kTupOf (h : X.K = K) : CallR X (.type "tuple") (rTupOf K) := h ▸ call_tupOf
theorem kListOf (h : X.K = K) : CallR X (.type "list") (fun xs H Q => ∃ p ys, xs = [.ref p] ∧ (SqL K H p ys ∨ SqT K H p ys) ∧ ∀ l, H l = none → Q (.ref l) (upd H l (.lst ys))) := h ▸ call_list_of
theorem kLenS (h : X.K = K) : CallR X (.builtin "len") (rLenS K) := h ▸ call_lenS
theorem kIsi (h : X.K = K) : CallR X (.builtin "isinstance") (rIsi K) := h ▸ call_isi
theorem kIsiT (h : X.K = K) : CallR X (.builtin "isinstance") (rIsiT K) := h ▸ call_isiT
theorem kAll (h : X.K = K) (hc : X.calm = true) : CallR X (.builtin "all") (rAll K) := h ▸ cr_all hc
theorem kAny (h : X.K = K) (hc : X.calm = true) : CallR X (.builtin "any") (rAny K) := h ▸ cr_any hc
theorem kSum (h : X.K = K) (hc : X.calm = true) : CallR X (.builtin "sum") (rSum K) := h ▸ cr_sum hc
theorem kMax (h : X.K = K) (hc : X.calm = true) : CallR X (.builtin "max") (rMax K) := h ▸ cr_max hc
theorem kMin (h : X.K = K) (hc : X.calm = true) : CallR X (.builtin "min") (rMin K) := h ▸ cr_min hc
theorem kIxL (h : X.K = K) : IxR X (rIxL K) := h ▸ ix_list
theorem kIxT (h : X.K = K) : IxR X (rIxT K) := h ▸ ix_tup
theorem kSlL (h : X.K = K) : SlR X (rSlL K) := h ▸ sl_list
theorem kSlA (h : X.K = K) : SlR X (rSlA K) := h ▸ sl_tupA
theorem kCatA (h : X.K = K) : OpR X (binaryOp .Add) (rCatA K) := h ▸ op_catA
theorem kEqD (h : X.K = K) (hu : X.A.units + 64 < cLine) : OpR X (compareOp .Eq) (rEqD K) := h ▸ op_eqD hu
theorem kNeD (h : X.K = K) (hu : X.A.units + 64 < cLine) : OpR X (compareOp .NotEq) (rNeD K) := h ▸ op_neD hu
theorem kInD (h : X.K = K) (hu : X.A.units + 65 < cLine) : OpR X (compareOp .In) (rInD K) := h ▸ op_inD hu
theorem kFld (h : X.K = K) (he : PE X e ta) (hb : attributeBase e f X.env (eval e X.env) = eval e X.env) : PE X (.Attribute e f pos) (tFld K ta f) := h ▸ pe_fld he hb
end
end NL
end
section
set_option linter.all false
set_option Elab.async false
set_option maxRecDepth 100000
/-! C5: loops that are statements. -/
namespace NL
open PySem PySem.Spec PyProof.Rows L2
open Evl (Ex Ev EvT)
section
variable {K : PySem.W.Frag} {σ : L2.St} {H : Hp} {tl : TE} {g : TG} {tu tz : TS} {D : Ends} {Rs Ss : List Rp} {ta : TA}
/-- what a loop's turns keep: Pv, of n turns, the items told by It at the heap that the turn begins with -/
structure Loop (D : Ends) (tu : TS) (g : TG) (n : Nat) (σ : L2.St) (H : Hp) (G : Hp → Prop) (It : Nat → V → Hp → Prop) where
  Pv : Nat → L2.St → Hp → Prop
  h0 : Pv 0 σ H
  hk : ∀ i σ' H', i ≤ n → Pv i σ' H' → G H'
  hs : ∀ i x σ' H' H'', i < n → Pv i σ' H' → Ex H' H'' → It i x H'' → g x σ' H'' fun σ2 H2 => tu { D with nx := Pv (i + 1), ct := Pv (i + 1), bk := D.nx } σ2 H2
  hd : ∀ σ' H', Pv n σ' H' → D.nx σ' H'
theorem loop_it {J : It} {n : Nat} {G G' : Hp → Prop} {Y : Nat → Hp → V → Hp → Prop} {It : Nat → V → Hp → Prop} (w : Walk J n G Y) (L : Loop D tu g n σ H G' It) (hG : ∀ H', G' H' → G H') (hY : ∀ i H' x H'', i < n → G' H' → Y i H' x H'' → Ex H' H'' ∧ It i x H'') :
    ∃ W : Nat → Nat → L2.St → Hp → Prop, (∃ m, W 0 m σ H) ∧ ∀ i m σ H, W i m σ H →
      (J.stop i H ∧ D.nx σ H) ∨ (J.go i H ∧ ∃ N : L2.St → Hp → Prop, (∀ σ' H', N σ' H' → ∃ m', m' < m ∧ W (i + 1) m' σ' H') ∧ ∀ x H', J.yld i H x H' → g x σ H' fun σ2 H2 => tu { D with nx := N, ct := N, bk := D.nx } σ2 H2) :=
  for_it w (fun i σ' H' => i ≤ n ∧ L.Pv i σ' H') ⟨Nat.zero_le _, L.h0⟩ (fun i σ' H' hi p => hG H' (L.hk i σ' H' hi p.2)) (fun i x σ' H' H'' hi p y => by
    obtain ⟨e, it⟩ := hY i H' x H'' hi (L.hk i σ' H' p.1 p.2) y
    have := L.hs i x σ' H' H'' hi p.2 e it
    have pe : (fun σ2 H2 => i + 1 ≤ n ∧ L.Pv (i + 1) σ2 H2) = L.Pv (i + 1) := by
      funext σ2 H2; exact propext ⟨fun q => q.2, fun q => ⟨hi, q⟩⟩
    rw [pe]; exact this) fun σ' H' p => L.hd σ' H' p.2
abbrev ItR (Rs : List Rp) (H1 : Hp) : Nat → V → Hp → Prop := fun i x _ => ∃ R, Rs[i]? = some R ∧ R.p x H1
theorem l_forT (h : EvP tl σ H (tupR Rs)) (k : ∀ H1, Ex H H1 → Nonempty (Loop D tu g Rs.length σ H1 (Tk H1) (ItR Rs H1))) : tFor (iTup K tl) g tu D σ H :=
  h H (Ex.refl H) _ fun v H1 e ⟨a, xs, hv, ha, pa⟩ => by
    obtain ⟨L⟩ := k H1 e
    refine ⟨a, hv, ⟨xs, sqT_of ha⟩, ?_⟩
    refine loop_it (n := Rs.length) (by rw [← pa.length]; exact walk_tup (K := K) (a := a) (xs := xs)) L (fun H' t => sqT_of (t a _ ha)) fun i H' x H'' hi _ y => ?_
    obtain ⟨rfl, hx⟩ := y
    exact ⟨Ex.refl _, pa.get hx⟩
theorem l_forL (h : EvP tl σ H (lstR Rs)) (k : ∀ a xs H1, Ex H H1 → H1 a = some (.lst xs) → AllP xs Rs H1 → Nonempty (Loop D tu g Rs.length σ H1 (fun H' => H' a = some (.lst xs)) (ItR Rs H1))) : tFor (iList K tl) g tu D σ H :=
  h H (Ex.refl H) _ fun v H1 e ⟨a, xs, hv, ha, pa⟩ => by
    obtain ⟨L⟩ := k a xs H1 e ha pa
    refine ⟨a, hv, ⟨xs, sqL_of ha⟩, ?_⟩
    refine loop_it (n := Rs.length) (by rw [← pa.length]; exact walk_list (K := K) (a := a) (xs := xs)) L (fun H' t => sqL_of t) fun i H' x H'' hi _ y => ?_
    obtain ⟨rfl, hx⟩ := y
    exact ⟨Ex.refl _, pa.get hx⟩
theorem l_forLN {H0 : Hp} (h : EvP tl σ H (lstN H0 Rs)) (k : ∀ a xs H1, Ex H H1 → H0 a = none → H1 a = some (.lst xs) → AllP xs Rs H1 → Nonempty (Loop D tu g Rs.length σ H1 (fun H' => H' a = some (.lst xs)) (ItR Rs H1))) : tFor (iList K tl) g tu D σ H :=
  h H (Ex.refl H) _ fun v H1 e ⟨a, xs, hv, h0, ha, pa⟩ => by
    obtain ⟨L⟩ := k a xs H1 e h0 ha pa
    refine ⟨a, hv, ⟨xs, sqL_of ha⟩, ?_⟩
    refine loop_it (n := Rs.length) (by rw [← pa.length]; exact walk_list (K := K) (a := a) (xs := xs)) L (fun H' t => sqL_of t) fun i H' x H'' hi _ y => ?_
    obtain ⟨rfl, hx⟩ := y
    exact ⟨Ex.refl _, pa.get hx⟩
theorem l_forEnT {ta : TA} (h : NL.EvA ta σ H [tupR Rs]) (k : ∀ H1, Ex H H1 → Nonempty (Loop D tu g Rs.length σ H1 (Tk H1) (itP (fun i x _ => x = .int i) (ItR Rs H1)))) : tFor (iEnumT K ta) g tu D σ H :=
  h H (Ex.refl H) _ fun vs H1 e p => by
    match vs, p with
    | [v], p =>
      obtain ⟨⟨a, xs, rfl, ha, pa⟩, _⟩ := p
      obtain ⟨L⟩ := k H1 e
      refine ⟨a, xs, rfl, sqT_of ha, ?_⟩
      refine loop_it (n := Rs.length) (by rw [← pa.length]; exact walk_enumT) L (fun H' t => sqT_of (t a _ ha)) fun i H' x H'' hi _ y => ?_
      obtain ⟨T, x1, y1, rfl, hT, rfl, hx, hy⟩ := y
      exact ⟨Ex.new hT, T, x1, y1, rfl, upd_same, (Option.some.inj hx).symm, pa.get hy⟩
theorem l_forEnL {ta : TA} (h : NL.EvA ta σ H [lstR Rs]) (k : ∀ a xs H1, Ex H H1 → H1 a = some (.lst xs) → AllP xs Rs H1 → Nonempty (Loop D tu g Rs.length σ H1 (fun H' => H' a = some (.lst xs)) (itP (fun i x _ => x = .int i) (ItR Rs H1)))) : tFor (iEnum K ta) g tu D σ H :=
  h H (Ex.refl H) _ fun vs H1 e p => by
    match vs, p with
    | [v], p =>
      obtain ⟨⟨a, xs, rfl, ha, pa⟩, _⟩ := p
      obtain ⟨L⟩ := k a xs H1 e ha pa
      refine ⟨a, xs, rfl, sqL_of ha, ?_⟩
      refine loop_it (n := Rs.length) (by rw [← pa.length]; exact walk_enum) L (fun H' t => sqL_of t) fun i H' x H'' hi _ y => ?_
      obtain ⟨T, x1, y1, rfl, hT, rfl, hx, hy⟩ := y
      exact ⟨Ex.new hT, T, x1, y1, rfl, upd_same, (Option.some.inj hx).symm, pa.get hy⟩
theorem l_forZL {ta : TA} (h : NL.EvA ta σ H [lstR Rs, lstR Ss]) (hl : Rs.length = Ss.length) (k : ∀ a xs b ys H1, Ex H H1 → H1 a = some (.lst xs) → AllP xs Rs H1 → H1 b = some (.lst ys) → AllP ys Ss H1 →
    Nonempty (Loop D tu g Rs.length σ H1 (fun H' => H' a = some (.lst xs) ∧ H' b = some (.lst ys)) (itP (ItR Rs H1) (ItR Ss H1)))) : tFor (RZ.iZipA K ta) g tu D σ H :=
  h H (Ex.refl H) _ fun vs H1 e p => by
    match vs, p with
    | [v, w], p =>
      obtain ⟨⟨a, xs, rfl, ha, pa⟩, ⟨b, ys, rfl, hb, pb⟩, _⟩ := p
      obtain ⟨L⟩ := k a xs b ys H1 e ha pa hb pb
      refine ⟨a, b, xs, ys, rfl, .inl ⟨sqL_of ha, sqL_of hb, ?_⟩⟩
      refine loop_it (n := Rs.length) (walk_zip (n := Rs.length) (by rw [pa.length, pb.length, hl]; simp)) L (fun H' t => ⟨sqL_of t.1, sqL_of t.2⟩) fun i H' x H'' hi _ y => ?_
      obtain ⟨T, x1, y1, rfl, hT, rfl, hx, hy⟩ := y
      exact ⟨Ex.new hT, T, x1, y1, rfl, upd_same, pa.get hx, pb.get hy⟩
theorem l_forR1 {ta : TA} {j : Nat} (h : NL.EvA ta σ H [Rp.v (.int j)]) (hj : j ≤ 1000000) (k : ∀ H1, Ex H H1 → Nonempty (Loop D tu g j σ H1 (fun _ => True) (fun i x _ => x = .int i))) : tFor (iRng1 ta) g tu D σ H :=
  h H (Ex.refl H) _ fun vs H1 e p => by
    match vs, p with
    | [v], p =>
      cases (show v = V.int j from p.1)
      obtain ⟨L⟩ := k H1 e
      refine ⟨j, rfl, by omega, by omega, ?_⟩
      refine loop_it (n := j) (show Walk (Itr 0 j) j (fun _ => True) (YFn fun i => .int (0 + (i : Int))) from walk_range (lo := 0) (n := j)) L (fun _ _ => trivial) fun i H' x H'' hi _ y => ?_
      obtain ⟨rfl, rfl⟩ := y
      exact ⟨Ex.refl _, by show V.int (0 + (i : Int)) = V.int (i : Int); rw [Int.zero_add]⟩
theorem l_forR2 {ta : TA} {lo hi : Int} (h : NL.EvA ta σ H [Rp.v (.int lo), Rp.v (.int hi)]) (h0 : 0 ≤ lo) (h1 : lo ≤ 1000000) (h2 : 0 ≤ hi) (h3 : hi ≤ 1000000) (k : ∀ H1, Ex H H1 → Nonempty (Loop D tu g (hi - lo).toNat σ H1 (fun _ => True) (fun i x _ => x = .int (lo + i)))) : tFor (iRng2 ta) g tu D σ H :=
  h H (Ex.refl H) _ fun vs H1 e p => by
    match vs, p with
    | [v, w], p =>
      cases (show v = V.int lo from p.1); cases (show w = V.int hi from p.2.1)
      obtain ⟨L⟩ := k H1 e
      refine ⟨lo, hi, rfl, by omega, ?_⟩
      refine loop_it (n := (hi - lo).toNat) walk_range L (fun _ _ => trivial) fun i H' x H'' hi _ y => ?_
      obtain ⟨rfl, rfl⟩ := y
      exact ⟨Ex.refl _, rfl⟩
/-- a pair's two names -/
theorem g_itP {i j : Nat} {Ix Iy : V → Hp → Prop} {x : V} {Q : L2.St → Hp → Prop} (h : ∃ T u v, x = .ref T ∧ H T = some (.tup [u, v]) ∧ Ix u H ∧ Iy v H) (k : ∀ u v, Ix u H → Iy v H → Q ((σ.set i (some u)).set j (some v)) H) :
    gTup K 2 (gCons (gName i) (gCons (gName j) gNil)) x σ H Q := by
  obtain ⟨T, u, v, rfl, hT, hu, hv⟩ := h
  exact ⟨T, [u, v], rfl, sqT_of hT, rfl, u, [v], rfl, v, [], rfl, rfl, k u v hu hv⟩
theorem g_itE {a b : Nat} {Iy : Nat → V → Hp → Prop} {i : Nat} {x : V} {Q : L2.St → Hp → Prop} (h : itP (fun i x _ => x = .int i) Iy i x H) (k : ∀ v, Iy i v H → Q ((σ.set a (some (.int i))).set b (some v)) H) :
    gTup K 2 (gCons (gName a) (gCons (gName b) gNil)) x σ H Q := by
  obtain ⟨T, u, v, rfl, hT, hu, hv⟩ := h
  cases (show u = V.int i from hu)
  exact ⟨T, [.int i, v], rfl, sqT_of hT, rfl, .int i, [v], rfl, v, [], rfl, rfl, k v hv⟩
theorem p_for {wi : TI} (h : tFor wi g tu { D with nx := tz D } σ H) : tSeq (tFor wi g tu) tz D σ H := h
end
end NL
end
section
set_option linter.all false
set_option Elab.async false
set_option maxRecDepth 100000
set_option maxHeartbeats 2000000
/-! R3: sorted of a list of tuples of ints, of a dict whose keys are such tuples. -/
namespace NL
open PySem PySem.Spec PyProof.Rows L2
open PySem.W (EachIs dataLe dataLt dataLt_tuple dataLt_ints rowLt AllAlike alike alikeAll alike_ints depth_ints)
abbrev encT (b : V × List Int) : PyData := .tuple (b.2.map .int)
theorem le_encT : dataLe false encT = fun a b => decide (a.2 ≤ b.2) := by
  funext a b
  rw [PySem.W.dataLe_eq]
  show (!dataLt (.tuple (b.2.map .int)) (.tuple (a.2.map .int))) = _
  have e : dataLt (.tuple (b.2.map .int)) (.tuple (a.2.map .int)) = decide (b.2 < a.2) := by
    rw [dataLt_tuple]
    exact dataLt_ints b.2 a.2
  rw [e]
  by_cases h : b.2 < a.2
  · have : ¬ a.2 ≤ b.2 := fun q => q h
    simp [h, this]
  · have : a.2 ≤ b.2 := h
    simp [h, this]
theorem each_of {H : Hp} : ∀ {xs : List V} {its : List Value} {cs : List (List Int)}, Vals xs its → AllP xs (cs.map tupI) H → EachIs (fun v b => RelV b.1 v ∧ (tupI b.2).p b.1 H) its (xs.zip cs)
  | [], _, [], .nil, _ => .nil
  | x :: xs, _, c :: cs, .cons r rr, h => .cons ⟨r, h.1⟩ (each_of rr h.2)
  | [], _, _ :: _, _, h => h.elim
  | _ :: _, _, [], _, h => h.elim
theorem each_back {H : Hp} : ∀ {out : List Value} {bs : List (V × List Int)}, EachIs (fun v b => RelV b.1 v ∧ (tupI b.2).p b.1 H) out bs → Vals (bs.map (·.1)) out ∧ AllP (bs.map (·.1)) ((bs.map (·.2)).map tupI) H
  | _, _, .nil => ⟨.nil, trivial⟩
  | _, _, .cons r rr => ⟨.cons r.1 (each_back rr).1, r.2, (each_back rr).2⟩
theorem zip_snd : ∀ {xs : List V} {cs : List (List Int)}, xs.length = cs.length → (xs.zip cs).map (·.2) = cs
  | [], [], _ => rfl
  | x :: xs, c :: cs, h => by simp [zip_snd (xs := xs) (cs := cs) (by simpa using h)]
  | [], _ :: _, h => by simp at h
  | _ :: _, [], h => by simp at h
theorem le_total (a b : List Int) : a ≤ b ∨ b ≤ a := List.le_total a b
theorem le_trans' {a b c : List Int} (h : a ≤ b) (g : b ≤ c) : a ≤ c := List.le_trans h g
theorem le_anti (a b : List Int) (h : a ≤ b) (g : b ≤ a) : a = b := List.le_antisymm h g
section
variable {X : Cx} {pins : List (Addr × Obj)} {σ : L2.St} {H : Hp} {s : Shared}
theorem sort_facts {xs : List V} {cs : List (List Int)} (hp : AllP xs (cs.map tupI) H) {bs : List (V × List Int)} (hb : bs = xs.zip cs) :
    ((bs.mergeSort (dataLe false encT)).map (·.2)).Perm cs ∧ ((bs.mergeSort (dataLe false encT)).map (·.2)).Pairwise (· ≤ ·) := by
  have hl : xs.length = cs.length := by rw [hp.length, List.length_map]
  rw [le_encT]
  refine ⟨?_, ?_⟩
  · have := (List.mergeSort_perm bs (fun a b => decide (a.2 ≤ b.2))).map (·.2)
    refine this.trans ?_
    rw [hb, zip_snd hl]
  · rw [List.pairwise_map]
    refine (List.pairwise_mergeSort (le := fun (a b : V × List Int) => decide (a.2 ≤ b.2)) (fun a b c h1 h2 => ?_) (fun a b => ?_) bs).imp fun h => of_decide_eq_true h
    · exact decide_eq_true (le_trans' (of_decide_eq_true h1) (of_decide_eq_true h2))
    · rcases le_total a.2 b.2 with h | h <;> simp [h]
theorem reads_tup (I : Inv X pins σ H s) {v : Value} {b : V × List Int} (r : RelV b.1 v) (p : (tupI b.2).p b.1 H) : ∃ as, Reads s.heap v (encT b) as := by
  obtain ⟨t, ht, hH⟩ := p
  have d : Dp X.K H b.1 (encT b) := by
    rw [ht]
    refine .tup (xs := b.2.map V.int) (sqT_of hH) ?_
    have : ∀ l : List Int, DpAll X.K H (l.map V.int) (l.map .int) := fun l => by
      induction l with
      | nil => exact .nil
      | cons x l ih => exact .cons (.int x) ih
    exact this b.2
  exact Dp.reads I _ _ v d r
theorem alike_enc (bs : List (V × List Int)) : AllAlike (bs.map encT) := AllAlike.of fun b b' => by
  show alikeAll (b.2.map .int) (b'.2.map .int) = true
  exact alike_ints _ _
theorem depth_enc (b : V × List Int) : (encT b).depth = 1 := by
  show PyData.depthAll (b.2.map .int) + 1 = 1
  rw [depth_ints]
theorem ne_enc {bs : List (V × List Int)} (h : ∀ b ∈ bs, b.2 ≠ []) : PySem.W.Sortable (bs.map encT) := .inl fun d hd => by
  obtain ⟨b, hb, rfl⟩ := List.mem_map.mp hd
  obtain ⟨x, r, e⟩ := List.exists_cons_of_ne_nil (h b hb)
  exact ⟨.int x, r.map .int, by show PyData.tuple (b.2.map .int) = _; rw [e]; rfl⟩
def rSortedT : List V → Hp → VK → Prop := fun vs H Q => ∃ (a : Addr) (xs : List V) (cs : List (List Int)), vs = [.ref a] ∧ H a = some (.lst xs) ∧ AllP xs (cs.map tupI) H ∧ (∀ c ∈ cs, c ≠ []) ∧
  ∀ (ys : List V) (ds : List (List Int)) (p : Addr), H p = none → AllP ys (ds.map tupI) H → ds.Perm cs → ds.Pairwise (· ≤ ·) → Q (.ref p) (upd H p (.lst ys))
theorem cr_sortedT (hu : X.A.units + 64 < cLine) : CallR X (.builtin "sorted") rSortedT := by
  intro pins s σ H vs us Q I r h
  obtain ⟨a, xs, cs, rfl, ha, hp, hne, q⟩ := h
  obtain ⟨its, rv, hl, hz⟩ := I.list (sqL_of (K := X.K) ha)
  rw [Vals.ref1 r]
  have e := each_of rv hp
  have hlen : (xs.zip cs).length = its.length := e.length.symm
  refine PySem.W.sorted_data (bs := xs.zip cs) (enc := encT) hl.isList e (e.mono fun v b h => reads_tup I h.1 h.2) (alike_enc _) (ne_enc fun b hb => hne b.2 ?_) (by rw [hlen, ← rv.length]; exact hz) (fun b _ => by rw [depth_enc]; omega) fun out ho he => ?_
  · exact (List.of_mem_zip hb).2
  · obtain ⟨k1, k2⟩ := each_back he
    obtain ⟨p1, p2⟩ := sort_facts hp rfl
    obtain ⟨ep, he'⟩ := PyProof.Rows.sortedAll_at s.heap its out.toArray
    refine ⟨.ref _, upd H (s.heap.objs.size + 1) (.lst ((List.mergeSort (xs.zip cs) (dataLe false encT)).map (·.1))), I.laid (t' := s.toks) (fun _ _ => PyProof.Rows.sortedAll_old) (Nat.le_succ _) ⟨?_, out, ep, k1, he'⟩, rfl, q _ _ _ (I.hok.fresh (Nat.le_succ _)) k2 p1 p2⟩
    rw [List.length_map, List.length_mergeSort, hlen, ← rv.length]; exact hz
/-! ### a dict's keys -/
end
section
variable {prog : Program} {w : World} {A : Around} {E : Value → Shared → Prop} {s : Shared} {d : Addr} {es : Array DictEntry} {ep : Nat}
theorem kdl_raw (lo : (d == sysModules) = false) : PySem.W.KdlSrc prog w "dict" d d es.size (fun i v => ∃ hi : i < es.size, v = es[i].key) (fun h => h.DictRaw d es ep) where
  type := fun _ hm => hm.typeIs
  there := fun _ hm => by
    obtain ⟨o, ho, _⟩ := hm
    exact ⟨Heap.lt_size ho, Heap.lt_size ho⟩
  keep := fun _ _ hm hk => hm.at fun o e => hk d (.inl rfl) o e
  notList := by decide
  notTuple := by decide
  hint := fun _ _ _ _ hm hq => PySem.W.kdl_hint_dict hm.typeIs hq
  iter := fun A s hh hm => ⟨_, _, (fun _ _ hq => wpAny_pyIter_dict_raw lo hm hq), Walks.rawKeys hh _ d (by obtain ⟨o, ho, _⟩ := hm; exact Nat.ne_of_lt (Heap.lt_size ho)) es ep, ⟨⟨_, Heap.get?_push_size _ rfl, rfl, rfl⟩, hm.at fun o e => Heap.get?_push_of_some _ e⟩⟩
theorem collect_raw {R : List Value → Shared → Prop} (lo : (d == sysModules) = false) (hh : A.handled = none) (hm : s.heap.DictRaw d es ep) (hn : es.size ≤ sizeLine)
    (h : ∀ (h' : Heap) (tk : Nat), (∀ b o, s.heap.get? b = some o → h'.get? b = some o) → s.heap.objs.size ≤ h'.objs.size → R (es.toList.map (·.key)) { s with heap := h', toks := tk }) :
    wpAny (model prog w) A (collect (.ref d)) R E s := by
  have hd : d < s.heap.objs.size := by obtain ⟨o, ho, _⟩ := hm; exact Heap.lt_size ho
  unfold collect
  refine wpAny_bind (wpAny_runValue (codeAny_builtin PyProof.Rows.entry_proto_collect' ?_))
  rw [Around.under_plainId PySem.F.plain_proto_collect _]
  show wpAny _ A.in1 (newList [] >>= fun l => again (.builtin "list.__iadd__" ⟨[l, .ref d], []⟩)) _ _ s
  refine wpAny_bind (wpAny_newObj_type ?_)
  refine wpAny_pure ⟨plainId_quiet PySem.F.plain_list_iadd _, codeAny_builtin PyProof.Rows.entry_list_iadd' ?_⟩
  rw [Around.under_plainId PySem.F.plain_list_iadd _]
  have hS₁ : (s.heap.push { cls := .type "list", data := .seq ([] : List Value).toArray }).get? s.heap.objs.size = some { cls := .type "list", data := .seq #[] } := Heap.get?_push_size _ rfl
  show wpAny _ A.in1 (Builtin.List.listExtendWith (.ref s.heap.objs.size) (.ref d) (.ref s.heap.objs.size)) _ _ _
  have vals : ∀ acc' : Array Value, ItemsOf (fun i v => ∃ hi : i < es.size, v = es[i].key) acc' es.size → acc'.toList = es.toList.map (·.key) := fun acc' hacc => by
    refine List.ext_getElem? fun j => ?_
    rw [List.getElem?_map, Array.getElem?_toList, Array.getElem?_toList]
    by_cases hj : j < es.size
    · have hj' : j < acc'.size := by rw [hacc.1]; exact hj
      obtain ⟨_, e⟩ := hacc.2 j acc'[j] (Array.getElem?_eq_getElem hj')
      rw [Array.getElem?_eq_getElem hj, Array.getElem?_eq_getElem hj', e]
      rfl
    · rw [Array.getElem?_eq_none (by rw [hacc.1]; omega), Array.getElem?_eq_none (by omega)]; rfl
  have key := PySem.W.kdl_extend (prog := prog) (w := w) (A := A) (s := { s with heap := s.heap.push { cls := .type "list", data := .seq ([] : List Value).toArray } }) (kdl_raw (es := es) (ep := ep) lo)
    (R := fun (q : Result) (s' : Shared) => ∃ (h' : Heap) (tk : Nat) (acc' : Array Value) (c' : Nat), q = .ok (.ret (.ref s.heap.objs.size)) ∧ s' = { s with heap := h', toks := tk } ∧
      (∀ b o, s.heap.get? b = some o → h'.get? b = some o) ∧ h'.get? s.heap.objs.size = some { cls := .type "list", dict := none, data := .seq acc' c', slots := #[] } ∧ ItemsOf (fun i v => ∃ hi : i < es.size, v = es[i].key) acc' es.size)
    hh (hm.at fun o e => Heap.get?_push_of_some _ e) s.heap.objs.size (Nat.ne_of_gt hd) (Nat.ne_of_gt hd) (.ref s.heap.objs.size) 0 hS₁
    (fun h' tk acc' c' hk hS' hacc => ⟨h', tk, acc', c', rfl, rfl, fun b o e => hk b o (Nat.ne_of_lt (Heap.lt_size e)) (Heap.get?_push_of_some _ e), hS', hacc⟩) hn
  refine wpAny_mono key (fun fin s' x => ?_) fun e s' x => ?_
  · cases fin with
    | done f =>
      obtain ⟨h', tk, acc', c', e, rfl, hk, hS', hacc⟩ := x
      cases e
      show wpAny _ A (load s.heap.objs.size >>= _) _ _ _
      refine wpAny_bind (wpAny_load hS' ?_)
      refine wpAny_pure ?_
      show R acc'.toList _
      rw [vals acc' hacc]
      exact h h' tk hk (Nat.le_of_lt (Heap.lt_size hS'))
    | again c₁ =>
      refine ⟨x.1, codeAny_mono x.2 fun q s₂ y => ?_⟩
      obtain ⟨h', tk, acc', c', rfl, rfl, hk, hS', hacc⟩ := y
      show wpAny _ A (load s.heap.objs.size >>= _) _ _ _
      refine wpAny_bind (wpAny_load hS' ?_)
      refine wpAny_pure ?_
      show R acc'.toList _
      rw [vals acc' hacc]
      exact h h' tk hk (Nat.le_of_lt (Heap.lt_size hS'))
  · obtain ⟨_, _, _, _, e', _⟩ := x
    cases e'
end
section
variable {X : Cx} {pins : List (Addr × Obj)} {σ : L2.St} {H : Hp} {s : Shared}
abbrev keyI (c : List Int) : List Key := c.map Sum.inl
theorem kV_keyI (c : List Int) : (keyI c).map kV = c.map V.int := by
  unfold keyI
  rw [List.map_map]; rfl
/-- .. of a dict, its keys tuples of ints -/
def rSortedD : List V → Hp → VK → Prop := fun vs H Q => ∃ (a : Addr) (kvs : List (List Key × V)) (cs : List (List Int)), vs = [.ref a] ∧ H a = some (.dT kvs) ∧ kvs.map (·.1) = cs.map keyI ∧ (∀ c ∈ cs, c ≠ []) ∧
  ∀ (ys : List V) (ds : List (List Int)) (p : Addr), H p = none → AllP ys (ds.map tupI) H → ds.Perm cs → ds.Pairwise (· ≤ ·) → Q (.ref p) (upd H p (.lst ys))
theorem keys_of {P : Program} {w : World} : ∀ {kvs : List (List Key × V)} {xs : List (List Key × Addr × Value)} {cs : List (List Int)}, Paired (fun (p : List Key × V) (q : List Key × Addr × Value) => p.1 = q.1 ∧ H q.2.1 = some (.tup (p.1.map kV)) ∧ RelV p.2 q.2.2) kvs xs → kvs.map (·.1) = cs.map keyI →
    AllP (xs.map fun q => V.ref q.2.1) (cs.map tupI) H ∧ Vals (xs.map fun q => V.ref q.2.1) (xs.map fun q => Value.ref q.2.1)
  | [], _, [], .nil, _ => ⟨trivial, .nil⟩
  | p :: kvs, q :: xs, c :: cs, .cons h r, e => by
    rw [List.map_cons, List.map_cons, List.cons.injEq] at e
    obtain ⟨h1, h2⟩ := keys_of (P := P) (w := w) r e.2
    refine ⟨⟨⟨q.2.1, rfl, ?_⟩, h1⟩, .cons rfl h2⟩
    rw [h.2.1, e.1, kV_keyI]
  | [], _, _ :: _, .nil, e => by simp at e
  | _ :: _, _, [], _, e => by simp at e
theorem cr_sortedD (hc : X.calm = true) (hu : X.A.units + 64 < cLine) : CallR X (.builtin "sorted") rSortedD := by
  intro pins s σ H vs us Q I r h
  obtain ⟨a, kvs, cs, rfl, ha, hk, hne, q⟩ := h
  rw [Vals.ref1 r]
  obtain ⟨hz, hs, xs, pr, o, es, ep, ho, hx, hdt, he, hn⟩ := I.hok a _ ha
  have hR : s.heap.DictRaw a es ep := ⟨o, ho, hx, hdt⟩
  have l1 : es.size = xs.length := size_of_entries he
  have l2 : kvs.length = xs.length := Paired.length pr
  have hle : es.size ≤ sizeLine := by rw [l1, ← l2]; exact hz
  have ek : es.toList.map (·.key) = xs.map fun q => Value.ref q.2.1 := by rw [he, List.map_map]; rfl
  obtain ⟨hp, rv⟩ := keys_of (P := X.prog) (w := X.w) pr hk
  refine PySem.Calls.call_function_entry PyProof.Rows.kind_sorted PyProof.Rows.plain_sorted PyProof.Rows.entry_sorted (PyProof.Rows.args_sorted1 _) ?_
  unfold Builtin.«sorted»
  refine wpAny_bind (m := checkCount "sorted" 1 1 _) (wpAny_pure ?_)
  refine wpAny_bind (collect_raw (A := X.A.in1) hs (I.ok.hd hc) hR hle fun h' tk hk' hsz => ?_)
  rw [ek]
  have hlen : (xs.map fun q => Value.ref q.2.1).length ≤ sizeLine := by rw [List.length_map, ← l1]; exact hle
  refine wpAny_bind (wpAny_newList ?_ hlen)
  have I1 : Inv X pins σ H { s with heap := h', toks := tk } := I.kept (t' := tk) hk'
  have hob : (h'.push { cls := .type "list", data := .seq (xs.map fun q => Value.ref q.2.1).toArray }).get? h'.objs.size = some (PyProof.Rows.seqObj "list" (xs.map fun q => Value.ref q.2.1).toArray 0) := Heap.get?_push_size _ rfl
  have kb : ∀ b o, h'.get? b = some o → (h'.push { cls := .type "list", data := .seq (xs.map fun q => Value.ref q.2.1).toArray }).get? b = some o := fun b o e => Heap.get?_push_of_some _ e
  generalize hh2 : h'.push { cls := .type "list", data := .seq (xs.map fun q => Value.ref q.2.1).toArray } = h2 at hob kb ⊢
  have e := each_of rv hp
  have hel : ((xs.map fun q => V.ref q.2.1).zip cs).length = (xs.map fun q => Value.ref q.2.1).length := e.length.symm
  have eq0 : ∀ {vs : List Value} {l : List Int} {as : List Addr}, ReadsAll h' vs (l.map .int) as → as = [] := fun {vs l} => by
    induction l generalizing vs with
    | nil => intro as r; cases r; rfl
    | cons x l ih =>
      intro as r
      cases r with
      | cons r1 r2 => cases r1; rw [ih r2]; rfl
  refine wpAny_bind (wpAny_holding (wpAny_mono (PySem.W.list_sort_data (s := { s with heap := h2, toks := tk }) (A := X.A.in1) (bs := (xs.map fun q => V.ref q.2.1).zip cs) (enc := encT) hob e (e.mono fun v b h => ?_) (alike_enc _) (ne_enc fun b hb => hne b.2 (List.of_mem_zip hb).2) (by rw [hel]; exact hlen) (fun b _ => ?_) fun out ho' he' => ?_) (fun _ s' x => wpAny_pure ⟨_, rfl, x⟩) fun _ _ e => e))
  · obtain ⟨as, ra⟩ := reads_tup I1 h.1 h.2
    refine ⟨as, PyProof.Rows.Reads.keeps kb ra, fun hm => ?_⟩
    cases ra with
    | tuple _ _ _ r1 => rw [eq0 r1] at hm; cases hm
  · rw [depth_enc]
    show X.A.units + 1 + 1 + 1 < cLine
    omega
  · obtain ⟨k1, k2⟩ := each_back he'
    obtain ⟨p1, p2⟩ := sort_facts hp rfl
    obtain ⟨eF, heF⟩ := PyProof.Rows.sortedHeap_at (vs := xs.map fun q => Value.ref q.2.1) (out := out.toArray) hob
    have kF : ∀ b o, h'.get? b = some o → (PyProof.Rows.sortedHeap h2 h'.objs.size (xs.map fun q => Value.ref q.2.1) out.toArray).get? b = some o := fun b o e => (PyProof.Rows.sortedHeap_old (Nat.ne_of_lt (Heap.lt_size e)) (by have := Heap.lt_size (kb b o e); exact this)).trans (kb b o e)
    refine ⟨.ref _, upd H h'.objs.size (.lst ((List.mergeSort ((xs.map fun q => V.ref q.2.1).zip cs) (dataLe false encT)).map (·.1))), ?_, rfl, q _ _ _ (I1.hok.fresh (Nat.le_refl _)) k2 p1 p2⟩
    exact I.laid (t' := tk) (fun b o e => kF b o (hk' b o e)) hsz ⟨by rw [List.length_map, List.length_mergeSort, hel]; exact hlen, out, eF, k1, heF⟩
end
end NL
end
section
set_option linter.all false
set_option Elab.async false
set_option maxRecDepth 100000
set_option maxHeartbeats 2000000
/-! R5: for k, v in d.items(), d's keys tuples. -/
namespace NL
open PySem PySem.Spec PyProof.Rows L2
section
variable {X : Cx} {pins : List (Addr × Obj)} {σ : L2.St} {H : Hp} {s : Shared} {d : Addr} {o : Obj}
theorem frzTv {kvs : List (List Key × V)} (I : Inv X pins σ H s) (h : H d = some (.frz o (.dT kvs))) :
    (d == sysModules) = false ∧ s.heap.get? d = some o ∧ o.ExactDict ∧ ∃ (es : Array DictEntry) (ep : Nat), o.data = .dict es ep ∧ es.size = kvs.length ∧
      ∀ (i : Nat) (k : List Key) (v : V), kvs[i]? = some (k, v) → ∃ (en : DictEntry) (q : Addr), es[i]? = some en ∧ en.key = .ref q ∧ H q = some (.tup (k.map kV)) ∧ RelV v en.val := by
  obtain ⟨hd, z, hs, xs, pr, o', es, ep, ho, hx, hdt, he, _⟩ := I.hok d _ h
  rw [hd] at ho
  cases ho
  refine ⟨hs, hd, hx, es, ep, hdt, ?_, fun i k v e => ?_⟩
  · have l1 : es.size = xs.length := size_of_entries he
    have l2 : kvs.length = xs.length := Paired.length pr
    omega
  · obtain ⟨b, hb, e1, e2, e3⟩ := paired_get pr e
    have q := entry_at he i
    rw [hb] at q
    exact ⟨_, b.2.1, q, rfl, e2, e3⟩
end
def ItiT (d : Addr) (o : Obj) (kvs : List (List Key × V)) : It :=
  ⟨fun i H => H d = some (.frz o (.dT kvs)) ∧ i < kvs.length, fun i H x H' => ∃ T k v q, kvs[i]? = some (k, v) ∧ x = .ref T ∧ H T = none ∧ H q = some (.tup (k.map kV)) ∧ H' = upd H T (.tup [.ref q, v]), fun i H => H d = some (.frz o (.dT kvs)) ∧ kvs.length ≤ i⟩
section
variable {P : Program} {w : World} {K : PySem.W.Frag} {d : Addr} {o : Obj} {es : Array DictEntry} {ep : Nat}
theorem turn_itemsT {kvs : List (List Key × V)} {elts : List Expr} {kk : Nat} {tpos : Pos} (it : Addr) (hod : o.data = .dict es ep) :
    Turn P w K (.Tuple elts kk tpos) (ItiT d o kvs) [it] it (fun i h => ∃ ok ov, IsItemIter h it d i kvs.length ep ok ov) where
  mem := by simp
  obj := fun i h st b hb => by
    have e : b = it := by simpa using hb
    subst e
    obtain ⟨ok, ov, e⟩ := st
    exact ⟨_, e, fun v z => nomatch z⟩
  keep := fun i h h' st k => let ⟨ok, ov, e⟩ := st; ⟨ok, ov, k it (by simp) _ e⟩
  item := by
    intro X hP hw hK hc i pins s σ H E I hf st hg
    subst hP hw hK
    obtain ⟨hd, hi⟩ := hg
    obtain ⟨hs, hgd, hx, es', ep', hdt, hsz, ent⟩ := frzTv I hd
    obtain ⟨rfl, rfl⟩ := dict_ep hod hdt
    obtain ⟨⟨k, v⟩, hkv⟩ : ∃ p, kvs[i]? = some p := ⟨kvs[i], List.getElem?_eq_getElem hi⟩
    obtain ⟨en, q, hen, hkey, hq, rv⟩ := ent i k v hkv
    obtain ⟨ok, ov, he⟩ := st
    rw [← hsz] at he
    have hlt : it < s.heap.objs.size := Heap.lt_size he
    have hi' : i < es'.size := by rw [hsz]; exact hi
    have een : es'[i] = en := by
      have := Array.getElem?_eq_getElem hi'
      rw [hen] at this
      exact (Option.some.inj this).symm
    refine DT.nextI he ⟨o, hgd, hx, hdt⟩ hi' fun h' ho hT hz hk => ?_
    rw [een, hkey] at ho hT
    refine ⟨_, rfl, wpAny_letOwnedTupleGo_items (s := { s with heap := h' }) ho fun h'' he' sb => ?_⟩
    have hT2 : h''.get? s.heap.objs.size = some { cls := .type "tuple", data := .seq #[.ref q, en.val] } := (sb.2 _ (Nat.ne_of_gt hlt)).trans hT
    have new : ObjOk X.prog X.w (upd H s.heap.objs.size (.tup [.ref q, v])) h'' s.heap.objs.size (.tup [.ref q, v]) :=
      ⟨by show 2 ≤ sizeLine; decide, [.ref q, en.val], .cons rfl (.cons rv .nil), ⟨_, hT2, rfl, _, rfl⟩⟩
    have I1 : Inv X pins σ (upd H s.heap.objs.size (.tup [.ref q, v])) { s with heap := h'' } :=
      I.turnedNew (t' := s.toks) (ch := [it]) (fun b ob hb e => (sb.2 b (by simpa using hb)).trans (hk b ob (by simpa using hb) e)) hf (Nat.le_refl _) new
    refine ⟨.ref s.heap.objs.size, _, I1, rfl, ⟨_, k, v, q, hkv, rfl, I.hok.fresh (Nat.le_refl _), hq, rfl⟩, ⟨.ref q, en.val, ?_⟩, fun b hb => ?_⟩
    · rw [← hsz]; exact he'
    · have e : b = it := by simpa using hb
      rw [e, upd_ne (Nat.ne_of_lt hlt)]
      exact (hf it (by simp)).1
  done := by
    intro X hP hw hK hc i pins s σ H E I hf st hg
    subst hP hw hK
    obtain ⟨hd, hi⟩ := hg
    obtain ⟨f0, f1, f2, f3, f4, f5⟩ := hf it (by simp)
    obtain ⟨hs, hgd, hx, es', ep', hdt, hsz, ent⟩ := frzTv I hd
    obtain ⟨rfl, rfl⟩ := dict_ep hod hdt
    obtain ⟨ok, ov, he⟩ := st
    rw [← hsz] at he
    exact DT.endI (I.ok.hd hc) he ⟨o, hgd, hx, hdt⟩ (by rw [hsz]; exact hi) fun h' eb => ⟨rfl, I.turned (t' := s.toks) (fun b ob hb e => eb b ob hb e) f0 f1 f3 f4 f5⟩
  self := fun A i s Q E st h => let ⟨_, _, e⟩ := st; PySem.W.kcp_self e h
end
def iItemsT (td : TE) : TI := fun σ H R => td σ H fun x H1 => ∃ d o kvs, x = .ref d ∧ H1 d = some (.frz o (.dT kvs)) ∧ R (ItiT d o kvs) H1
theorem pi_itemsT {X : Cx} {e : Expr} {td : TE} {apos cpos : Pos} {elts : List Expr} {kk : Nat} {tpos : Pos} (he : PE X e td) (hbase : attributeBase e "items" X.env (eval e X.env) = eval e X.env := by rfl) (hline : (apos.endLine == cpos.line) = true := by rfl) :
    PI X (.Tuple elts kk tpos) (.Call (.Attribute e "items" apos) [] [] cpos) (iItemsT td) := by
  refine ⟨fun pins s σ H R I h => ?_⟩
  refine wpAny_Call_method (T := "dict") (id := "dict.items") hbase rfl hline F.plainAttrs_dict F.slot_dict_items F.type_dict_items (thn (he.run pins s σ H _ I h) fun u s1 ⟨x, H1, I1, rx, d, o, kvs, ex, hd, q⟩ => ?_)
  subst ex
  obtain rfl : u = Value.ref d := rx
  obtain ⟨hs, hgd, hx, es, ep, hdt, hsz, ent⟩ := frzTv I1 hd
  have hR : DT.Raw s1.heap d es ep := ⟨o, hgd, hx, hdt⟩
  refine ⟨hR.typeIs, ?_, ?_⟩
  · intro a e
    cases e
    exact ⟨o, hgd, by first | exact hx.2 | exact hx.2.1 | exact hx.1.2⟩
  have I2 : Inv X pins σ H1 { s1 with heap := s1.heap.push { cls := .type "dict_items", data := .fields #[.ref d] } } := I1.kept (t' := s1.toks) fun b ob q => Heap.get?_push_of_some _ q
  have fin : wpAny (model X.prog X.w) X.A (pyIter (.ref s1.heap.objs.size)) (PIE X pins σ (.Tuple elts kk tpos) R) X.xe { s1 with heap := s1.heap.push { cls := .type "dict_items", data := .fields #[.ref d] } } := by
    refine DT.iterI (d := d) ⟨_, Heap.get?_push_size _ rfl, rfl, rfl⟩ (hR.push _) (pi_one (tk := s1.toks) I2 _ (turn_itemsT _ hdt) ⟨.none, .none, ?_⟩ q)
    rw [hsz]
    exact Heap.get?_push_size _ rfl
  show wpAny _ _ (callWith cpos (.builtin "dict.items") [.ref d] [] []) _ X.xe s1
  exact method_meetsIn F.slot_dict_items F.entry_dict_items rfl (PySem.evalArgs_none ⟨rfl, hR.typeIs, F.args_dict_items_1 _, _, DT.meetsItems (es := es) (ep := ep) hs, ⟨hR, fin⟩⟩)
theorem walk_itemsT {d : Addr} {o : Obj} {kvs : List (List Key × V)} : Walk (ItiT d o kvs) kvs.length (fun H => H d = some (.frz o (.dT kvs))) (fun i H x H' => ∃ T k v q, kvs[i]? = some (k, v) ∧ x = .ref T ∧ H T = none ∧ H q = some (.tup (k.map kV)) ∧ H' = upd H T (.tup [.ref q, v])) :=
  ⟨fun _ _ hi h => ⟨h, hi⟩, fun _ h => ⟨h, Nat.le_refl _⟩, fun _ _ _ _ _ _ y => y⟩
end NL
end
section
set_option linter.all false
set_option Elab.async false
set_option maxRecDepth 100000
set_option maxHeartbeats 2000000
/-! R6: {k: v}, k a tuple. -/
namespace NL
open PySem PySem.Spec PyProof.Rows L2
def tDispT (tk tv : TE) : TE := fun σ H Q => ∀ p, H p = none → tk σ (upd H p (.dT [])) fun x H1 => tv σ H1 fun y H2 => H2 p = some (.dT []) ∧ ∃ b k, x = .ref b ∧ H2 b = some (.tup (k.map kV)) ∧ Q (.ref p) (upd H2 p (.dT [(k, y)]))
section
variable {X : Cx} {k v : Expr} {tk tv : TE} {pos : Pos}
theorem pe_dispT (hu : X.A.units + 64 < cLine) (hk : PE X k tk) (hv : PE X v tv) : PE X (.Dict [some k] [v] pos) (tDispT tk tv) := by
  refine ⟨fun pins s σ H Q I q => ?_⟩
  have hn := I.hok.fresh (Nat.le_refl s.heap.objs.size)
  have I1 := I.laid (a := s.heap.objs.size) (o := .dT []) (h' := s.heap.push { cls := .type "dict", data := .dict #[] }) (t' := s.toks) (fun _ _ q => Heap.get?_push_of_some _ q) (Nat.le_refl _) (dt_empty s.heap I.big)
  rw [arm_eval_Dict, zip_pairTrees [some k] [v] X.env pos rfl rfl, dictDisplay_pairs (pairTrees [some k] [v] X.env pos) (by intro e; cases e) (show (pairTrees [some k] [v] X.env pos).length < 17 from (show 1 < 17 by omega))]
  refine wpAny_bind (wpAny_standAt (wpAny_bind (PySem.wpAny_subDictH (knd := tupleKind (mixKind X.prog X.w)) (Q := fun d s' => wpAny (model X.prog X.w) X.A (pure (Value.ref d)) (EP X pins σ Q) X.xe s') (show X.A.units < cLine by omega) (show 1 ≤ 15 by omega) ?_)))
  refine pairTrees_cons_walk (thn (hk.run pins _ σ _ _ I1 (q _ hn)) fun u s1 ⟨x, H1, I2, rx, q1⟩ => thn (hv.run pins s1 σ H1 _ I2 q1) fun r s2 ⟨y, H2, I3, ry, hp, b, kk, ex, hb, q2⟩ => pairTrees_nil_walk ?_)
  subst ex
  cases (show u = Value.ref b from rx)
  obtain ⟨z, hd, xs, rel, dd⟩ := dt_of I3.hok hp
  cases rel
  refine ⟨[(kk, b, r)], ⟨rfl, rfl, key_of I3.hok hb, trivial⟩, dd, fun h' tk' dd' hs => wpAny_pure ⟨.ref s.heap.objs.size, _, ?_, rfl, q2⟩⟩
  obtain ⟨o, es, ep, ho, h2, h3, h4, _, h5⟩ := dd'
  refine d_write (t' := tk') I3 (by rw [hp]; exact True.intro) hs ⟨o, ho⟩ ⟨by rw [sizeLine_eq]; show 1 ≤ _; omega, hd, [(kk, b, r)], .cons ⟨rfl, ?_, ry⟩ .nil, o, es, ep, ho, h2, h3, h4, h5⟩
  show upd H2 s.heap.objs.size _ b = _
  rw [upd_ne (ne_of hb hp (fun z => nomatch z))]
  exact hb
end
end NL
end
section
set_option linter.all false
set_option Elab.async false
set_option maxRecDepth 100000
/-! C6: the dict of dicts of told_book's search. -/
namespace NL
open PySem PySem.Spec PyProof.Rows L2
open Evl (Ex Ev EvT)
theorem map_inj {α β : Type} {f : α → β} (hf : ∀ x y, f x = f y → x = y) : ∀ {a b : List α}, a.map f = b.map f → a = b
  | [], [], _ => rfl
  | x :: a, y :: b, h => by
    rw [List.map_cons, List.map_cons, List.cons.injEq] at h
    rw [hf _ _ h.1, map_inj hf h.2]
  | [], _ :: _, h => by simp at h
  | _ :: _, [], h => by simp at h
theorem keyI_inj {a b : List Int} (h : keyI a = keyI b) : a = b := by
  unfold keyI at h
  exact map_inj (fun x y e => Sum.inl.inj e) h
abbrev setT (L : List (List Int)) : List (List Key × V) := L.map fun c => (keyI c, V.bl true)
theorem setT_inj {a b : List (List Int)} (h : setT a = setT b) : a = b :=
  map_inj (fun x y e => keyI_inj (congrArg Prod.fst e)) h
theorem setT_keys (L : List (List Int)) : (setT L).map (·.1) = L.map keyI := by
  unfold setT; rw [List.map_map]; rfl
def addC (L : List (List Int)) (c : List Int) : List (List Int) := if c ∈ L then L else L ++ [c]
theorem put_setT (L : List (List Int)) (c : List Int) : putK (setT L) (keyI c) (V.bl true) = setT (addC L c) := by
  unfold putK addC
  by_cases h : c ∈ L
  · have e : ((setT L).any fun kv => decide (kv.1 = keyI c)) = true := List.any_eq_true.mpr ⟨(keyI c, .bl true), List.mem_map.mpr ⟨c, h, rfl⟩, decide_eq_true rfl⟩
    rw [if_pos e, if_pos h]
    unfold setT
    rw [List.map_map]
    refine List.map_congr_left fun d _ => ?_
    show (if keyI d = keyI c then _ else _) = _
    split <;> rfl
  · have e : ¬ ((setT L).any fun kv => decide (kv.1 = keyI c)) = true := fun q => by
      obtain ⟨p, hp, hk⟩ := List.any_eq_true.mp q
      obtain ⟨d, hd, rfl⟩ := List.mem_map.mp hp
      have := keyI_inj (of_decide_eq_true hk)
      subst this
      exact h hd
    rw [if_neg e, if_neg h]
    unfold setT
    rw [List.map_append]; rfl
theorem mem_addC {L : List (List Int)} {c x : List Int} : x ∈ addC L c ↔ x ∈ L ∨ x = c := by
  unfold addC
  split
  · rename_i h
    exact ⟨.inl, fun z => z.elim id fun e => e ▸ h⟩
  · simp
theorem nodup_addC {L : List (List Int)} {c : List Int} (h : L.Nodup) : (addC L c).Nodup := by
  unfold addC
  split
  · exact h
  · rename_i hc
    exact nd_snoc h hc
theorem len_addC (L : List (List Int)) (c : List Int) : (addC L c).length ≤ L.length + 1 := by
  unfold addC
  split <;> simp
/-- a size, the address of its dict, the crowds -/
abbrev Ent := Int × Addr × List (List Int)
abbrev entK (E : List Ent) : List (Key × V) := E.map fun e => (Sum.inl e.1, V.ref e.2.1)
theorem valV_ent : ∀ {E : List Ent} {e : Ent}, (E.map (·.1)).Nodup → e ∈ E → valV (entK E) (.inl e.1) = some (.ref e.2.1)
  | f :: E, e, hn, he => by
    rw [List.map_cons, List.nodup_cons] at hn
    rcases List.mem_cons.mp he with rfl | he
    · exact valV_pos rfl
    · have ne : ¬ f.1 = e.1 := fun z => hn.1 (by rw [z]; exact List.mem_map.mpr ⟨e, he, rfl⟩)
      show valV ((Sum.inl f.1, V.ref f.2.1) :: entK E) _ = _
      rw [valV_neg (fun z => ne (Sum.inl.inj z))]
      exact valV_ent hn.2 he
theorem valV_ent_none : ∀ {E : List Ent} {i : Int}, (∀ e ∈ E, e.1 ≠ i) → valV (entK E) (.inl i) = none
  | [], _, _ => rfl
  | f :: E, i, h => by
    show valV ((Sum.inl f.1, V.ref f.2.1) :: entK E) _ = _
    rw [valV_neg (fun z => h f (List.mem_cons_self ..) (Sum.inl.inj z))]
    exact valV_ent_none fun e he => h e (List.mem_cons_of_mem _ he)
structure StP (H0 H : Hp) (ds : Addr) (A : List Int → Prop) (E : List Ent) : Prop where
  at_ : H ds = some (.dK (entK E))
  own : H0 ds = none
  nd : (E.map (·.1)).Nodup
  ent : ∀ e ∈ E, H e.2.1 = some (.dT (setT e.2.2)) ∧ H0 e.2.1 = none ∧ e.2.2 ≠ [] ∧ e.2.2.Nodup ∧ ∀ c, c ∈ e.2.2 ↔ (A c ∧ c.sum = e.1)
  all : ∀ c, A c → ∃ e ∈ E, e.1 = c.sum
theorem StP.ex {H0 H H' : Hp} {ds : Addr} {A : List Int → Prop} {E : List Ent} (h : StP H0 H ds A E) (e : Ex H H') : StP H0 H' ds A E :=
  ⟨e _ _ h.at_, h.own, h.nd, fun x hx => ⟨e _ _ (h.ent x hx).1, (h.ent x hx).2⟩, h.all⟩
theorem StP.congr {H0 H : Hp} {ds : Addr} {A A' : List Int → Prop} {E : List Ent} (h : StP H0 H ds A E) (e : ∀ c, A c ↔ A' c) : StP H0 H ds A' E := by
  have : A = A' := funext fun c => propext (e c)
  exact this ▸ h
/-- crowds in order -/
def srt (cs : List (List Int)) : List (List Int) := cs.mergeSort fun a b => decide (a ≤ b)
theorem srt_perm (cs : List (List Int)) : (srt cs).Perm cs := List.mergeSort_perm _ _
theorem srt_sorted (cs : List (List Int)) : (srt cs).Pairwise (· ≤ ·) := by
  refine (List.pairwise_mergeSort (le := fun (a b : List Int) => decide (a ≤ b)) (fun a b c h1 h2 => ?_) (fun a b => ?_) cs).imp fun h => of_decide_eq_true h
  · exact decide_eq_true (le_trans' (of_decide_eq_true h1) (of_decide_eq_true h2))
  · rcases le_total a b with h | h <;> simp [h]
theorem srt_eq {ds cs : List (List Int)} (h : ds.Perm cs) (hs : ds.Pairwise (· ≤ ·)) : ds = srt cs := sorted_uniq le_anti (h.trans (srt_perm cs).symm) hs (srt_sorted cs)
theorem ep_sortedT {σ : L2.St} {H : Hp} {tl : TE} {cs : List (List Int)} (h : EvP tl σ H (lstT cs)) (hn : ∀ c ∈ cs, c ≠ []) : EvP (tCB rSortedT (tCons tl tNil)) σ H (lstN H (( srt cs).map tupI)) :=
  ep_cb (ea_cons h ea_nil) fun vs H1 e p => by
    match vs, p with
    | [v], p =>
      obtain ⟨⟨a, xs, rfl, ha, pa⟩, _⟩ := p
      exact fun Q q => ⟨a, xs, cs, rfl, ha, pa, hn, fun ys ds p hp hy hd hs => q _ _ (Ex.new hp) ⟨p, ys, rfl, none_of e hp, upd_same, (srt_eq hd hs) ▸ hy.up (Ex.new hp)⟩⟩
/-- a list kept -/
def Lk (H H' : Hp) : Prop := ∀ a xs, H a = some (.lst xs) → H' a = some (.lst xs)
theorem Lk.of {H H' : Hp} (e : Ex H H') : Lk H H' := fun a xs h => e a _ h
theorem Lk.trans {H H1 H2 : Hp} (a : Lk H H1) (b : Lk H1 H2) : Lk H H2 := fun c xs h => b c xs (a c xs h)
theorem uniq_fst : ∀ {E : List Ent} {e f : Ent}, (E.map (·.1)).Nodup → e ∈ E → f ∈ E → e.1 = f.1 → e = f
  | g :: E, e, f, hn, he, hf, h => by
    rw [List.map_cons, List.nodup_cons] at hn
    rcases List.mem_cons.mp he with e1 | he'
    · rcases List.mem_cons.mp hf with e2 | hf'
      · rw [e1, e2]
      · exact absurd (List.mem_map.mpr ⟨f, hf', by rw [← h, e1]⟩) hn.1
    · rcases List.mem_cons.mp hf with e2 | hf'
      · exact absurd (List.mem_map.mpr ⟨e, he', by rw [h, e2]⟩) hn.1
      · exact uniq_fst hn.2 he' hf' h
section
variable {H0 H : Hp} {ds : Addr} {A : List Int → Prop} {E : List Ent}
theorem StP.addr (h : StP H0 H ds A E) {e f : Ent} (he : e ∈ E) (hf : f ∈ E) (z : e.2.1 = f.2.1) : e = f := by
  obtain ⟨h1, _, h2, _, h3⟩ := h.ent e he
  obtain ⟨g1, _, g2, _, g3⟩ := h.ent f hf
  rw [z, g1] at h1
  have eL : f.2.2 = e.2.2 := setT_inj (HO.dT.inj (Option.some.inj h1))
  obtain ⟨c, r, ec⟩ := List.exists_cons_of_ne_nil h2
  have hc : c ∈ e.2.2 := by rw [ec]; exact List.mem_cons_self ..
  have s1 := (h3 c).mp hc
  have s2 := (g3 c).mp (by rw [eL]; exact hc)
  exact uniq_fst h.nd he hf (s1.2.symm.trans s2.2)
/-- a crowd put to its size's dict that stands -/
theorem StP.put (h : StP H0 H ds A E) {e : Ent} {c : List Int} (he : e ∈ E) (hs : e.1 = c.sum) :
    StP H0 (upd H e.2.1 (.dT (setT (addC e.2.2 c)))) ds (fun x => A x ∨ x = c) (E.map fun f => if f.1 = e.1 then (f.1, f.2.1, addC f.2.2 c) else f) := by
  have keys : (E.map fun f => if f.1 = e.1 then (f.1, f.2.1, addC f.2.2 c) else f).map (·.1) = E.map (·.1) := by
    rw [List.map_map]
    exact List.map_congr_left fun f _ => by show (if f.1 = e.1 then (f.1, f.2.1, addC f.2.2 c) else f).1 = f.1; split <;> rfl
  have kk : entK (E.map fun f => if f.1 = e.1 then (f.1, f.2.1, addC f.2.2 c) else f) = entK E := by
    unfold entK
    rw [List.map_map]
    exact List.map_congr_left fun f _ => by show (Sum.inl (if f.1 = e.1 then (f.1, f.2.1, addC f.2.2 c) else f).1, V.ref (if f.1 = e.1 then (f.1, f.2.1, addC f.2.2 c) else f).2.1) = _; split <;> rfl
  refine ⟨?_, h.own, by rw [keys]; exact h.nd, fun f' hf' => ?_, fun x hx => ?_⟩
  · rw [upd_ne (ne_of h.at_ (h.ent e he).1 (by intro z; cases z)), kk]; exact h.at_
  · obtain ⟨f, hf, rfl⟩ := List.mem_map.mp hf'
    obtain ⟨g1, g2, g3, g4, g5⟩ := h.ent f hf
    by_cases hfe : f.1 = e.1
    · have := uniq_fst h.nd hf he hfe
      subst this
      rw [if_pos rfl]
      refine ⟨upd_same, g2, fun z => ?_, nodup_addC g4, fun x => ?_⟩
      · have : c ∈ addC f.2.2 c := mem_addC.mpr (.inr rfl)
        rw [show addC f.2.2 c = [] from z] at this; cases this
      · show x ∈ addC f.2.2 c ↔ _
        rw [mem_addC, g5]
        constructor
        · rintro (z | rfl)
          · exact ⟨.inl z.1, z.2⟩
          · exact ⟨.inr rfl, hs.symm⟩
        · rintro ⟨z | z, hz⟩
          · exact .inl ⟨z, hz⟩
          · exact .inr z
    · rw [if_neg hfe]
      refine ⟨?_, g2, g3, g4, fun x => ?_⟩
      · rw [upd_ne (fun z => hfe (by rw [h.addr hf he z]))]; exact g1
      · rw [g5]
        refine ⟨fun z => ⟨.inl z.1, z.2⟩, fun z => ⟨z.1.elim id fun ex => ?_, z.2⟩⟩
        subst ex
        exact absurd (z.2.symm.trans hs.symm) hfe
  · rcases hx with hx | rfl
    · obtain ⟨f, hf, ef⟩ := h.all x hx
      refine ⟨_, List.mem_map.mpr ⟨f, hf, rfl⟩, ?_⟩
      split <;> exact ef
    · refine ⟨_, List.mem_map.mpr ⟨e, he, rfl⟩, ?_⟩
      rw [if_pos rfl]; exact hs
/-- .. to a new dict at d -/
theorem StP.new (h : StP H0 H ds A E) {H' : Hp} {d : Addr} {c : List Int} (no : ∀ e ∈ E, e.1 ≠ c.sum) (h0 : H0 d = none) (hd : H d = none) (h1 : H' ds = some (.dK (entK (E ++ [(c.sum, d, [c])])))) (h2 : H' d = some (.dT (setT [c])))
    (k : ∀ b, b ≠ ds → b ≠ d → H' b = H b) : StP H0 H' ds (fun x => A x ∨ x = c) (E ++ [(c.sum, d, [c])]) := by
  refine ⟨h1, h.own, ?_, fun f hf => ?_, fun x hx => ?_⟩
  · rw [List.map_append]
    refine nd_snoc h.nd fun m => ?_
    obtain ⟨e, he, z⟩ := List.mem_map.mp m
    exact no e he z
  · rcases List.mem_append.mp hf with hf' | hf
    · obtain ⟨g1, g2, g3, g4, g5⟩ := h.ent f hf'
      refine ⟨?_, g2, g3, g4, fun x => ?_⟩
      · rw [k _ (ne_of g1 h.at_ (by intro z; cases z)) (ne_of_none g1 hd)]; exact g1
      · rw [g5]
        refine ⟨fun z => ⟨.inl z.1, z.2⟩, fun z => ⟨z.1.elim id fun ex => ?_, z.2⟩⟩
        subst ex
        exact absurd z.2.symm (no f hf')
    · rw [List.mem_singleton.mp hf]
      refine ⟨h2, h0, by simp, by simp, fun x => ?_⟩
      show x ∈ [c] ↔ _
      rw [List.mem_singleton]
      constructor
      · rintro rfl; exact ⟨.inr rfl, rfl⟩
      · rintro ⟨z | z, hz⟩
        · obtain ⟨e, he, ez⟩ := h.all x z
          exact absurd (ez.trans hz) (no e he)
        · exact z
  · rcases hx with hx | rfl
    · obtain ⟨f, hf, ef⟩ := h.all x hx
      exact ⟨f, List.mem_append_left _ hf, ef⟩
    · exact ⟨_, List.mem_append_right _ (List.mem_singleton.mpr rfl), rfl⟩
/-- states.setdefault(sum(c), {})[c] = True -/
theorem l_addst {i j : Nat} {b : Addr} {c : List Int} {ts : TE} {σ : L2.St} {D : Ends} (h : StP H0 H ds A E) (e0 : Ex H0 H) (hi : σ[i]? = some (some (.ref ds))) (hj : σ[j]? = some (some (.ref b))) (hb : H b = some (.tup (c.map V.int)))
    (hsum : EvP ts σ H (Rp.v (.int c.sum))) (hE : E.length < sizeLine) (hL : ∀ e ∈ E, e.2.2.length < sizeLine)
    (k : ∀ H' E', StP H0 H' ds (fun x => A x ∨ x = c) E' → Ex H0 H' → Tk H H' → Lk H H' → D.nx σ H') :
    sDPut (tDSetd (tVar i) ts tDNewT) (tVar j) (tC (.bl true)) D σ H := by
  refine ⟨.ref ds, hi, ds, rfl, .inl ⟨_, .of h.at_⟩, ?_⟩
  refine hsum H (Ex.refl H) _ fun v H1 e1 pv p hp => ?_
  cases (show v = V.int c.sum from pv)
  have h1 := h.ex e1
  have ex1 : Ex H1 (upd H1 p (.dT [])) := Ex.new hp
  have h2 := h1.ex ex1
  have eds : (upd H1 p (.dT [])) ds = some (.dK (entK E)) := h2.at_
  have e02 : Ex H0 (upd H1 p (.dT [])) := (e0.trans e1).trans ex1
  have hb2 : (upd H1 p (.dT [])) b = some (.tup (c.map V.int)) := ex1 b _ (e1 b _ hb)
  have p0 : H0 p = none := by
    cases hz : H0 p with
    | none => rfl
    | some o => rw [(e0.trans e1) p o hz] at hp; cases hp
  refine ⟨entK E, .inl c.sum, eds, rfl, by simpa [entK] using hE, fun v hv => ?_, fun hv => ?_⟩
  · by_cases hx : ∃ e ∈ E, e.1 = c.sum
    · obtain ⟨e, he, hs⟩ := hx
      have := valV_ent h.nd he
      rw [hs, hv] at this
      cases Option.some.inj this
      obtain ⟨g1, g2, g3, g4, g5⟩ := h2.ent e he
      refine ⟨.ref b, hj, e.2.1, _, rfl, DPut.t g1 (k := keyI c) (by rw [kV_keyI]; exact hb2) (by rw [List.length_map]; exact hL e he), ?_⟩
      rw [put_setT]
      refine k _ _ (h2.put he hs) (fun a o q => ?_) (fun a xs q => ?_) fun a xs q => ?_
      · rw [upd_ne (ne_of_none q g2)]; exact e02 a o q
      · have := ex1 a _ (e1 a _ q)
        rw [upd_ne (ne_of this g1 (by intro z; cases z))]; exact this
      · have := ex1 a _ (e1 a _ q)
        rw [upd_ne (ne_of this g1 (by intro z; cases z))]; exact this
    · rw [valV_ent_none fun e he z => hx ⟨e, he, z⟩] at hv; cases hv
  · have no : ∀ e ∈ E, e.1 ≠ c.sum := fun e he z => by
      have := valV_ent h.nd he
      rw [z, hv] at this; cases this
    have pds : p ≠ ds := fun z => by rw [← z, upd_same] at eds; cases eds
    have bds : b ≠ ds := ne_of hb2 eds (by intro z; cases z)
    refine ⟨.ref b, hj, p, _, rfl, DPut.t (kvs := []) (by rw [upd_ne pds, upd_same]) (k := keyI c) (by rw [upd_ne bds, kV_keyI]; exact hb2) (by decide), ?_⟩
    have e1' : putK (entK E) (.inl c.sum) (.ref p) = entK (E ++ [(c.sum, p, [c])]) := by
      rw [putK_new _ hv]; unfold entK; rw [List.map_append]; rfl
    refine k _ _ (h1.new (H' := upd (upd (upd H1 p (.dT [])) ds (.dK (putK (entK E) (.inl c.sum) (.ref p)))) p (.dT (putK [] (keyI c) (.bl true)))) no p0 hp ?_ ?_ fun a ha hap => ?_) (fun a o q => ?_) (fun a xs q => ?_) fun a xs q => ?_
    · rw [upd_ne (Ne.symm pds), upd_same, e1']
    · rw [upd_same]; rfl
    · rw [upd_ne hap, upd_ne ha, upd_ne hap]
    · rw [upd_ne (ne_of_none q p0), upd_ne (ne_of_none q h.own)]; exact e02 a o q
    · have q1 := ex1 a _ (e1 a _ q)
      rw [upd_ne (ne_of_none (e1 a _ q) hp), upd_ne (ne_of q1 eds (by intro z; cases z))]; exact q1
    · have q1 := ex1 a _ (e1 a _ q)
      rw [upd_ne (ne_of_none (e1 a _ q) hp), upd_ne (ne_of q1 eds (by intro z; cases z))]; exact q1
end
end NL
end
section
set_option linter.all false
set_option Elab.async false
set_option maxRecDepth 100000
set_option maxHeartbeats 2000000
/-! IG: an own exception of a class below a class below ValueError, whose __init__ says super().__init__("..") and keeps one field. -/
namespace PySem
namespace NLX
open PySem.W PySem.Calls PyProof.Rows PySem.HandSPX
def iA (p1 p2 : Pos) : Arguments := { posonlyargs := [], args := [{ arg := "self", annotation := none, pos := p1 }, { arg := "at", annotation := none, pos := p2 }], vararg := none, kwonlyargs := [], kw_defaults := [], kwarg := none, defaults := [] }
def iB (m : Str) (q1 q2 q4 q6 r1 r2 r3 r4 : Pos) : List Stmt := [.Expr (.Call (.Attribute (.Call (.Name "super" q1) [] [] q2) "__init__" ⟨17, 8, 17, 24⟩) [.Constant (.str m) 0 q4] [] ⟨17, 8, 17, 41⟩) q6, .Assign [.Attribute (.Name "self" r1) "at" r2] (.Name "at" r3) r4]
def iS : Scope := { kind := .function, names := [(PySem.Str.ofString "self", .local), (PySem.Str.ofString "at", .local), (PySem.Str.ofString "__class__", .free), (PySem.Str.ofString "super", .globalImplicit)], isGenerator := false, isCoroutine := false }
/-- what the written part says of the class at C, and of its __init__, at fI -/
structure IgTxt (prog : Program) (K : Frag) (mg : Str → Option Value) (x : Str) (C fI : Addr) : Prop where
  gC : mg x = some (.ref C)
  cls : ∃ nm q N bs bm sn sub ab col dd k0 k1 k2 k3 k5, K.lookup C = some (excClassObj nm q C N bs bm true sn sub ab col dd k0 k1 k2 k3 k5 "ValueError.__new__") ∧ refsVE bm = true
  sa : findIn K (.ref C) "__setattr__" = some (some (.builtin "object.__setattr__"))
  ga : findIn K (.ref C) "__getattribute__" = some (some (.builtin "BaseException.__getattribute__"))
  gg : findIn K (.ref C) "__getattr__" = some none
  noN : findIn K (.ref C) "at" = some none
  iC : findIn K (.ref C) "__init__" = some (some (.ref fI))
  tC : typeIn K (.ref fI) = some (.type "function")
  kC : keepIn K (.ref C) = true
  exC : subIn K (.ref C) (.type "BaseException") = some true
  tyC : typeIn K (.ref C) = some (.type "type")
  hdC : hasDictIn K C = true
  su : ks_superIn K C C "__init__" = some (some (.builtin "ValueError.__init__"))
  isV : subIn K (.ref C) (.type "ValueError") = some true
  isS : mroIn K C (.ref C) = some true
  op : nsIn K cStatics "thirdparty.any" = some none
  gS : mg "super" = none
  htop : (prog.main.scope.names.lookup ("super" : Str)).isSome = false
  fn : ∃ (oc : Value) (od : Option Addr) (doc pm : Value) (an : Option Addr) (ct : Value) (osl : Array (Option Value)) (m qn : Str) (p1 p2 q1 q2 q4 q6 r1 r2 r3 r4 : Pos) (cda cc : Addr) (ccl cl : Value) (cdd cld : Option Addr) (ccs csl : Array (Option Value)) (vs : Array Value) (file : Str) (tf : Tok),
    K.lookup fI = some ⟨oc, od, .func (ksFn "__init__" qn (iA p1 p2) (iB m q1 q2 q4 q6 r1 r2 r3 r4) iS .none .none doc pm an (.ref cda) ct cc), osl⟩ ∧ codeIn K (.ref cda) qn = true ∧
    K.lookup cda = some ⟨ccl, cdd, .fields vs, ccs⟩ ∧ vs[2]? = some (.str file tf) ∧ ((prog.main.file : Str) == file) = true ∧ K.lookup cc = some ⟨cl, cld, .cell (some (.ref C)), csl⟩
theorem one_size (v : Value) : [v].length ≤ sizeLine := by
  rw [sizeLine_eq]
  exact (by decide : 1 ≤ 16777216)
theorem kept_but {K : Frag} {h h' : Heap} {x : Addr} (X : K.In h) (hx : K.lookup x = none) (k : ∀ b o, b ≠ x → h.get? b = some o → h'.get? b = some o) : K.In h' := fun a o e =>
  k a o (fun z => by rw [z, hx] at e; cases e) (X a o e)
/-- what __init__ leaves of a fresh exception at x -/
structure InitEnd (h h' : Heap) (x C dx t1 : Addr) (v : Value) : Prop where
  keep : ∀ b o, b ≠ x → h.get? b = some o → h'.get? b = some o
  obj : h'.get? x = some { cls := .ref C, dict := some dx, data := .fields #[.ref t1, .none, .none, .none, .bool false, .none] }
  dbig : h.objs.size ≤ dx
  dne : dx ≠ x
  ns : h'.Ns1 dx (fun y => if y = "at" then some v else none)
structure OwnMade (h h' : Heap) (e C d : Addr) (v : Value) : Prop where
  keep : ∀ b o, h.get? b = some o → h'.get? b = some o
  new : h.objs.size ≤ e
  obj : ∃ oe vs, h'.get? e = some oe ∧ oe.cls = .ref C ∧ oe.dict = some d ∧ oe.data = .fields vs ∧ vs[1]? = some .none
  dbig : h.objs.size ≤ d
  dne : d ≠ e
  ns : h'.Ns1 d (fun y => if y = "at" then some v else none)
section
variable {prog : Program} {w : World} {A : Around} {E : Value → Shared → Prop} {R : Result → Shared → Prop} {s : Shared} {K : Frag} {mg : Str → Option Value} {C fI : Addr} {xn : Str}
/-- the bound ValueError.__init__ called -/
theorem call_bwV {h : Heap} {g : Array GenState} {d : Drawn} {t : Nat} {os : OsState} {nm q : Str} {N : Addr} {bs bm : List Value} {hdct : Bool} {sn : List Str} {sub : List Value} {ab : Bool} {col : Option Bool} {dd : Option Addr} {k0 k1 k2 k3 k5 : Option Value} {u e t0 : Addr} {rest : List Value} {Q : Value → Shared → Prop}
    (hC : h.get? C = some (excClassObj nm q C N bs bm hdct sn sub ab col dd k0 k1 k2 k3 k5 "ValueError.__new__")) (hT : ∀ X : String, bm.contains (.type X) = veTail.contains (.type X)) (he : h.get? e = some (HandSPX.excO C t0)) (hu : h.get? u = some (kxs_mw "ValueError.__init__" e)) (hrest : rest.length ≤ sizeLine)
    (hq : ∀ h' t1, (∀ b o, b ≠ e → h.get? b = some o → h'.get? b = some o) → h'.get? e = some (HandSPX.excO C t1) → Q .none ⟨h', g, d, t, os⟩) :
    wpAny (model prog w) A (call (.ref u) rest) Q E ⟨h, g, d, t, os⟩ := by
  refine wpAny_call (codeAny_of_tree ?_)
  show wpAny _ A.in1 (callAny (.ref u) ⟨rest, []⟩) _ _ _
  simp only [callAny]
  refine wpAny_bind (wpAny_load hu ?_)
  simp only [kxs_mw, show (Value.type "method-wrapper" == Value.type "method" || Value.type "method-wrapper" == Value.type "builtin_function_or_method" || Value.type "method-wrapper" == Value.type "method-wrapper") = true by decide, if_true]
  refine W.KFB.if_so (by decide) ?_
  refine wpAny_bind (ESX.check_bound F.excBase_ValueError hC he rfl ?_)
  refine wpAny_bind (wpAny_pure (wpAny_pure ?_))
  refine ⟨plainId_quiet F.excBase_ValueError.init.plain _, codeAny_builtin F.excBase_ValueError.initEntry ?_⟩
  rw [Around.under_plainId F.excBase_ValueError.init.plain _]
  wp_walk
  refine hq _ h.objs.size (fun b o hb ho => ?_) ?_
  · rw [Heap.get?_update_other _ _ (Ne.symm hb)]
    exact Heap.get?_push_of_some _ ho
  · rw [Heap.get?_update_self _ (Heap.get?_push_of_some _ he) rfl]
    rfl
theorem ig_init (T : IgTxt prog K mg xn C fI) {x t0 : Addr} {v : Value} (X : K.In s.heap) (hg : s.heap.Ns mainGlobals mg) (hb : ∃ mb, s.heap.Ns builtinsNs mb ∧ mb "super" = some (.type "super")) (hlim : s.heap.NoLimit) (hx : s.heap.get? x = some (excO C t0)) (hnx : K.lookup x = none) (hroom : A.depth < recursionLimit)
    (hq : ∀ h' tk dx t1, InitEnd s.heap h' x C dx t1 v → R (.ok (.ret .none)) { s with heap := h', toks := tk }) :
    codeAny (model prog w) A (.call (.ref fI) ⟨[.ref x, v], []⟩) R s := by
  obtain ⟨oc, od, doc, pm, an, ct, osl, m, qn, p1, p2, q1, q2, q4, q6, r1, r2, r3, r4, cda, cc, ccl, cl, cdd, cld, ccs, csl, vs, file, tf, ho, hcd, hcode, hvs, hfile, hcell⟩ := T.fn
  obtain ⟨nm, q, N, bs, bm, sn, sub, ab, col, dd, k0, k1, k2, k3, k5, hC, hbm⟩ := T.cls
  obtain ⟨mb, hb1, hb2⟩ := hb
  have hcl : clsIn K C = some { name := nm, bases := bs, mro := .ref C :: bm, ns := N, qualname := q, hasDict := true, slotNames := sn, subclasses := sub, abstract := ab, collection := col, hasDel := false } := by unfold clsIn; rw [hC] <;> rfl
  obtain ⟨hp, g, d, tk, os⟩ := s
  refine ks_codeAny_call_defAt (fd := ksFn "__init__" qn (iA p1 p2) (iB m q1 q2 q4 q6 r1 r2 r3 r4) iS .none .none doc pm an (.ref cda) ct cc) (body := iB m q1 q2 q4 q6 r1 r2 r3 r4) (binds := [("self", .ref x), ("at", v)]) hroom (X _ _ ho) rfl hlim (codeRec_of X hcd) rfl (BindsTo.of_eq (by first | rfl | with_unfolding_all rfl)) (show ∀ x ∈ iS.names, x.2 ≠ .cell by decide) (show ∀ y ∈ ([("self", .ref x), ("at", v)] : List (Str × Value)), iS.names.lookup y.1 = some .local from fun y hy => (List.mem_cons.mp hy).elim (fun e => by rw [e]; rfl) fun h => by rw [List.mem_singleton.mp h]; rfl) (fun h₁ hns k => ?_) rfl rfl rfl
  have X₁ : K.In h₁ := X.keeps k
  have hx₁ := k _ _ hx
  have hxC : x ≠ C := fun z => by
    have e := X _ _ hC
    rw [← z] at e
    rw [show hp.get? x = some (excO C t0) from hx] at e
    cases e
  have hL : hp.objs.size ≠ x := Nat.ne_of_gt (Heap.lt_size hx)
  refine ks_wpAt_execs_cons (ks_wpAt_Expr_any (ks_wpAt_MethodCall (ks_wpAt_super_base (f := fI) (by rfl) (by rfl) (by rfl) rfl (X₁ _ _ ho) rfl rfl rfl (X₁ _ _ hcode) rfl hvs hfile T.htop ?_)))
  refine ks_loadName_global rfl (by rfl) (loadGlobal_builtin (hg.keeps k) T.gS (hb1.keeps k) hb2 ⟨rfl, ?_⟩)
  refine wpAny_loadName_free (c := cc) rfl (by rfl) (by rfl) ⟨_, X₁ _ _ hcell, rfl⟩ ?_
  refine wpAny_loadName_local (v := .ref x) rfl (by rfl) hns (by rfl) ?_
  refine ks_wpAny_isType_cls (X₁ _ _ hC) rfl ⟨rfl, ?_⟩
  refine ks_wpAny_call_super (X₁ _ _ hC) rfl hx₁ rfl (fun c e => by cases e) (looks_mroIn X₁ T.isS) (fun h₂ hso k₂ => ?_)
  have X₂ : K.In h₂ := X₁.keeps k₂
  have hx₂ := k₂ _ _ hx₁
  have I₂ : InstAt h₂ x (excO C t0) C none := ⟨hx₂, rfl, rfl, trivial⟩
  have hI : Looks (model prog w) h₂ (isInstance (.ref x) (.type "ValueError")) true := I₂.type.andThen (looks_subIn X₂ T.isV)
  refine kxs_getMethod kxs_ValueError hso (looks_opaque X₂ T.op) (l₀ := .ref C :: bm) (fun A Q E s k q => wpAny_bind ((looks_clsIn X₂ hcl) A _ E s k (wpAny_pure q))) rfl X₂ (by have := T.su; unfold ks_superIn at this; rw [hcl] at this; exact this) hI hxC (by decide) ?_
  have hu : (h₂.push (kxs_mw "ValueError.__init__" x)).get? h₂.objs.size = some (kxs_mw "ValueError.__init__" x) := Heap.get?_push_at rfl rfl
  have k₃ : ∀ b o, h₂.get? b = some o → (h₂.push (kxs_mw "ValueError.__init__" x)).get? b = some o := fun b o e => Heap.get?_push_of_some _ e
  refine kxs_callWith (i := "ValueError.__init__") (x := x) (by rfl) (evalArgs_plain (spliced_more (wpAny_Constant_str (spliced_none ⟨hu, ?_⟩))))
  refine call_bwV (k₃ _ _ (X₂ _ _ hC)) (fun Y => refsVE_contains Y bm hbm) (k₃ _ _ hx₂) hu (one_size _) (fun h₄ t1 k₄ hx₄ => ?_)
  have kk : ∀ b o, b ≠ x → h₁.get? b = some o → h₄.get? b = some o := fun b o hb e => k₄ b o hb (k₃ b o (k₂ b o e))
  have X₄ : K.In h₄ := kept_but (X₁.keeps fun b o e => k₃ b o (k₂ b o e)) hnx k₄
  show wpAt _ _ _ (execs _ _) _ _ _
  refine wpAt_of_wpAny ?_
  refine wpAny_execs_cons (plainObj_wpAny_Assign_Attribute ?_)
  have hn4 : h₄.Ns hp.objs.size (fun y => ([("self", .ref x), ("at", v)] : List (Str × Value)).reverse.lookup y) := by
    obtain ⟨oL, es, ep, h1, h2⟩ := hns
    exact ⟨oL, es, ep, kk _ _ hL h1, h2⟩
  refine ESX.ldL (v := v) hn4 (by rfl) (ESX.ldL (v := .ref x) hn4 (by rfl) ?_)
  refine set_plain X₄ (ox := excO C t1) (od := none) ⟨hx₄, rfl, rfl, trivial⟩ T.sa ?_
  refine exc_osa X₄ hx₄ hcl (show refsVE (.ref C :: bm) = true from hbm) rfl T.noN (fun h₅ tk₅ dx k₅ dn dne hx₅ hn₅ => ?_)
  show wpAny _ _ (execs _ _) _ _ _
  have z : hp.objs.size < h₄.objs.size := hn4.lt
  exact wpAny_execs_nil (hq h₅ tk₅ dx t1 ⟨fun b o hb e => k₅ b o hb (kk b o hb (k b o e)), hx₅, Nat.le_of_lt (Nat.lt_of_lt_of_le z dn), dne, hn₅⟩)
theorem ig_made (T : IgTxt prog K mg xn C fI) {v : Value} (X : K.In s.heap) (hg : s.heap.Ns mainGlobals mg) (hb : ∃ mb, s.heap.Ns builtinsNs mb ∧ mb "super" = some (.type "super")) (hlim : s.heap.NoLimit) (hroom : A.depth + 1 < recursionLimit)
    (hq : ∀ h' tk e d, OwnMade s.heap h' e C d v → R (.ok (.ret (.ref e))) { s with heap := h', toks := tk }) :
    codeAny (model prog w) A (.call (.ref C) ⟨[v], []⟩) R s := by
  obtain ⟨nm, q, N, bs, bm, sn, sub, ab, col, dd, k0, k1, k2, k3, k5, hC, hbm⟩ := T.cls
  obtain ⟨mb, hb1, hb2⟩ := hb
  obtain ⟨hp, g, dr, tk, os⟩ := s
  have k : ∀ b o, hp.get? b = some o → ((hp.push (kdv_tup [v])).push (excO C hp.objs.size)).get? b = some o := fun b o e => Heap.get?_push_of_some _ (Heap.get?_push_of_some _ e)
  have hget : ((hp.push (kdv_tup [v])).push (excO C hp.objs.size)).get? (hp.objs.size + 1) = some (excO C hp.objs.size) := by heap_get
  have hnx : K.lookup (hp.objs.size + 1) = none := by
    cases e : K.lookup (hp.objs.size + 1) with
    | none => rfl
    | some o =>
      have z : hp.get? (hp.objs.size + 1) = some o := X _ _ e
      exact absurd (Nat.lt_of_succ_lt (Heap.lt_size z)) (Nat.lt_irrefl _)
  refine call_own F.excBase_ValueError (fun X => refsVE_contains X bm hbm) (X _ _ hC) (looks_findIn X T.iC) (fun self => bind_fn X self T.tC) (one_size v) ?_
  refine ig_init (s := ⟨(hp.push (kdv_tup [v])).push (excO C hp.objs.size), g, dr, tk, os⟩) T (X.keeps k) (hg.keeps k) ⟨mb, hb1.keeps k, hb2⟩ (hlim.keeps k) hget hnx ?_ fun h' tk' dx t1 ⟨k', hx, dn, dne, hns⟩ => ?_
  · show A.depth + 1 < recursionLimit
    exact hroom
  · have old : ∀ b o, hp.get? b = some o → h'.get? b = some o := fun b o e => k' b o (Nat.ne_of_lt (Nat.lt_succ_of_lt (Heap.lt_size e))) (k b o e)
    have z : hp.objs.size + 1 + 1 ≤ dx := by
      first
        | (simpa only [Heap.size_push] using dn)
        | exact dn
        | (have q := dn; rw [Heap.size_push, Heap.size_push] at q; exact q)
    exact ⟨rfl, hq h' tk' (hp.objs.size + 1) dx ⟨old, Nat.le_succ _, ⟨_, _, hx, rfl, rfl, rfl, rfl⟩, Nat.le_trans (Nat.le_trans (Nat.le_succ _) (Nat.le_succ _)) z, dne, hns⟩⟩
end
end NLX
end PySem

namespace NL
open PySem PySem.Spec PyProof.Rows L2
theorem relO_at {v : V} {v' : Value} (r : RelV v v') (f : Str) : RelO (List.lookup f [(("at" : Str), v)]) (if f = "at" then some v' else none) := by
  by_cases hw : f = "at"
  · subst hw
    rw [if_pos rfl]
    have q : List.lookup ("at" : Str) [(("at" : Str), v)] = some v := by simp [List.lookup]
    rw [q]
    exact r
  · rw [if_neg hw]
    have qw : (f == ("at" : Str)) = false := by simpa using hw
    have q2 : List.lookup f [(("at" : Str), v)] = none := by simp [List.lookup, qw]
    rw [q2]
    trivial
section
variable {X : Cx} {C fI : Addr} {xn : Str}
def tMkIg (C : Addr) (ta : TA) : L2.St → Hp → XK → Prop := fun σ H Q => ta σ H fun vs H1 => ∃ v, vs = [v] ∧ ∀ d, H1 d = none → Q (.ref C) (some d) (upd H1 d (.xd [(("at" : Str), v)]))
theorem pmk_ig {a : Expr} {ta : TA} {p pos : Pos} {k : Nat} (T : PySem.NLX.IgTxt X.prog X.K X.mg xn C fI) (hr : Room k X.A) (ha : PA X [a] ta) (hg : Gl X xn := by rfl)
    (hd : (xn == ("__debug__" : Str)) = false := by decide)
    (he : starEach (a :: []) X.env = (false, eval a X.env) :: starEach [] X.env := by rfl) (hpl : (backTo pos (starEach [] X.env)).any (·.1) = false := by rfl) :
    PMk X (.Call (.Name xn p) [a] [] pos) (tMkIg C ta) := by
  intro pins s σ H Q I h
  refine wpAny_Call_Name_kw (ld_glob I hg T.gC ?_ hd)
  refine PySem.W.callWith_K (h₀ := X.base) I.ok.mod.kin T.kC (thn (ha.run pos pins s σ H _ I h) fun us s1 hh => ?_) he hpl
  obtain ⟨vs, H1, I1, r1, v, ev, q1⟩ := hh
  subst ev
  refine ⟨I1.kIn, ?_⟩
  cases r1 with
  | cons rv rn =>
    rename_i v' us'
    cases rn
    show wpAny _ _ (call (.ref C) [v']) _ _ _
    have hlim := I1.nolimit
    have hg1 : s1.heap.Ns mainGlobals X.mg := I1.mod.glob.keeps I1.bk
    have hb1 : ∃ mb, s1.heap.Ns builtinsNs mb ∧ mb "super" = some (.type "super") := by
      obtain ⟨mb, h1, h2⟩ := I1.mod.blt
      exact ⟨mb, h1.keeps I1.bk, (h2 "super" (by decide)).trans (by rfl)⟩
    obtain ⟨hp, g, dr, tk, os⟩ := s1
    refine wpAny_call (PySem.NLX.ig_made T I1.kIn hg1 hb1 hlim (by have := hr.dp; omega) fun h' tk' e d M => ?_)
    show MkP X pins σ Q (.ref e) ⟨h', g, dr, tk', os⟩
    obtain ⟨oe, fv, hoe, hc, hd, hdat, h1⟩ := M.obj
    have hns := M.ns
    obtain ⟨G', g1, g2⟩ := restrict h' fun b => decide (b ≠ e)
    have gk : ∀ b, b ≠ e → G'.get? b = h'.get? b := fun b hb => g1 b (decide_eq_true hb)
    have ge : G'.get? e = none := g2 e (by simp)
    have old : ∀ b o, hp.get? b = some o → G'.get? b = some o := fun b o q => (gk b (Nat.ne_of_lt (Nat.lt_of_lt_of_le (Heap.lt_size q) M.new))).trans (M.keep b o q)
    have ob : ObjOk X.prog X.w (upd H1 d (.xd [(("at" : Str), v)])) G' d (.xd [(("at" : Str), v)]) :=
      ⟨_, hns.at (fun o q => (gk d M.dne).trans q), fun f => relO_at rv f⟩
    have J : Inv X pins σ (upd H1 d (.xd [(("at" : Str), v)])) ⟨G', g, dr, tk', os⟩ := I1.laid (t' := tk') old M.dbig ob
    refine ⟨e, oe, fv, ⟨G', g, dr, tk', os⟩, _, .ref C, some d, rfl, J, fun b o q => ?_, ge, hoe, ⟨hc, hd⟩, hdat, h1, ?_, rfl, I1.bare, raises_own T.exC T.tyC, q1 d (I1.hok.fresh M.dbig)⟩
    · by_cases hb : b = e
      · have q' : G'.get? b = some o := q
        rw [hb, ge] at q'; cases q'
      · exact (gk b hb).symm.trans q
    · rw [upd_ne (Ne.symm M.dne)]
      exact I1.hok.fresh M.new
/-- raise InvalidGroup(e) -/
def tRaiseIg (C : Addr) (W : WX) (ta : TA) : TS := fun _ σ H => tMkIg C ta σ H fun cls d H' => W cls d σ H'
theorem ps_raiseIg {a : Expr} {ta : TA} {W : WX} {p pos pos2 : Pos} {k : Nat} (hc : X.calm = true) (T : PySem.NLX.IgTxt X.prog X.K X.mg xn C fI) (hr : Room k X.A) (tk : Takes X W) (ha : PA X [a] ta) (hg : Gl X xn := by rfl)
    (hd : (xn == ("__debug__" : Str)) = false := by decide)
    (he : starEach (a :: []) X.env = (false, eval a X.env) :: starEach [] X.env := by rfl) (hpl : (backTo pos (starEach [] X.env)).any (·.1) = false := by rfl) :
    PS X (.Raise (some (.Call (.Name xn p) [a] [] pos)) none pos2) (tRaiseIg C W ta) := ps_raise hc tk (pmk_ig T hr ha hg hd he hpl)
end
end NL
end
section
set_option linter.all false
set_option Elab.async false
set_option maxRecDepth 100000
/-! C7: ==, in of tuples of ints and lists, tuples of such. -/
namespace NL
open PySem PySem.Spec PyProof.Rows L2
open Evl (Ex Ev EvT)
abbrev encC (c : List Int) : PyData := .tuple (c.map .int)
theorem can_ints : ∀ l : List Int, PyData.canLayAll0 (l.map .int) = true
  | [] => rfl
  | x :: l => by
    rw [List.map_cons]
    show (PyData.canLay0 (.int x) && PyData.canLayAll0 (l.map .int)) = true
    rw [can_ints l]; rfl
theorem can_rows : ∀ l : List (List Int), PyData.canLayAll0 (l.map encC) = true
  | [] => rfl
  | x :: l => by
    rw [List.map_cons]
    show (PyData.canLayAll0 (x.map .int) && PyData.canLayAll0 (l.map encC)) = true
    rw [can_rows l, can_ints]; rfl
theorem depth_rows : ∀ l : List (List Int), PyData.depthAll (l.map encC) ≤ 1
  | [] => Nat.zero_le _
  | x :: l => by
    rw [List.map_cons]
    show max (PyData.depthAll (x.map .int) + 1) (PyData.depthAll (l.map encC)) ≤ 1
    rw [PySem.W.depth_ints]
    exact Nat.max_le.mpr ⟨Nat.le_refl _, depth_rows l⟩
theorem shaped_C (c : List Int) : SeqAt.shaped (encC c) = true := by
  unfold SeqAt.shaped
  rw [Bool.and_eq_true]
  refine ⟨can_ints c, decide_eq_true ?_⟩
  show PyData.depthAll (c.map .int) + 1 ≤ 64
  rw [PySem.W.depth_ints]; omega
theorem shaped_L (l : List (List Int)) : SeqAt.shaped (.list (l.map encC)) = true := by
  unfold SeqAt.shaped
  rw [Bool.and_eq_true]
  refine ⟨can_rows l, decide_eq_true ?_⟩
  show PyData.depthAll (l.map encC) + 1 ≤ 64
  have := depth_rows l; omega
theorem shaped_T (l : List (List Int)) : SeqAt.shaped (.tuple (l.map encC)) = true := by
  unfold SeqAt.shaped
  rw [Bool.and_eq_true]
  refine ⟨can_rows l, decide_eq_true ?_⟩
  show PyData.depthAll (l.map encC) + 1 ≤ 64
  have := depth_rows l; omega
theorem eqv_ints (a b : List Int) : PyData.eqvAll (a.map .int) (b.map .int) = decide (a = b) := PySem.W.eqvAll_map (α := Int) a b
theorem eqv_C (a b : List Int) : PyData.eqv (encC a) (encC b) = decide (a = b) := by
  rw [PyData.eqv]; exact eqv_ints a b
theorem eqv_rows : ∀ a b : List (List Int), PyData.eqvAll (a.map encC) (b.map encC) = decide (a = b)
  | [], [] => by simp only [List.map_nil, PyData.eqvAll, decide_true]
  | [], _ :: _ => by simp [PyData.eqvAll]
  | _ :: _, [] => by simp [PyData.eqvAll]
  | x :: xs, y :: ys => by
    rw [List.map_cons, List.map_cons, PyData.eqvAll, eqv_C, eqv_rows xs ys, ← Bool.decide_and]
    exact decide_eq_decide.mpr (by rw [List.cons.injEq])
theorem eqv_T (a b : List (List Int)) : PyData.eqv (.tuple (a.map encC)) (.tuple (b.map encC)) = decide (a = b) := by
  rw [PyData.eqv]; exact eqv_rows a b
theorem eqv_Li (a b : List Int) : PyData.eqv (.list (a.map .int)) (.list (b.map .int)) = decide (a = b) := by
  rw [PyData.eqv]; exact eqv_ints a b
theorem eqv_Lr (a b : List (List Int)) : PyData.eqv (.list (a.map encC)) (.list (b.map encC)) = decide (a = b) := by
  rw [PyData.eqv]; exact eqv_rows a b
theorem shaped_Li (c : List Int) : SeqAt.shaped (.list (c.map .int)) = true := by
  unfold SeqAt.shaped
  rw [Bool.and_eq_true]
  refine ⟨can_ints c, decide_eq_true ?_⟩
  show PyData.depthAll (c.map .int) + 1 ≤ 64
  rw [PySem.W.depth_ints]; omega
theorem any_rows (l : List (List Int)) (c : List Int) : ((l.map encC).any fun z => PyData.eqv z (encC c)) = decide (c ∈ l) := by
  rw [List.any_map]
  induction l with
  | nil => simp
  | cons x l ih =>
    rw [List.any_cons, ih]
    show (PyData.eqv (encC x) (encC c) || _) = _
    rw [eqv_C]
    by_cases h : x = c
    · simp [h]
    · have : ¬ c = x := fun z => h z.symm
      simp [h, this]
section
variable {K : PySem.W.Frag} {σ : L2.St} {H : Hp} {ta tb : TE}
theorem dpa_ints : ∀ l : List Int, DpAll K H (l.map V.int) (l.map .int)
  | [] => .nil
  | x :: l => .cons (.int x) (dpa_ints l)
theorem dp_tup {v : V} {c : List Int} (h : (tupI c).p v H) : Dp K H v (encC c) := by
  obtain ⟨t, rfl, hH⟩ := h
  exact .tup (xs := c.map V.int) (sqT_of hH) (dpa_ints c)
theorem dp_all : ∀ {xs : List V} {cs : List (List Int)}, AllP xs (cs.map tupI) H → DpAll K H xs (cs.map encC)
  | [], [], _ => .nil
  | x :: xs, c :: cs, h => .cons (dp_tup h.1) (dp_all h.2)
  | [], _ :: _, h => h.elim
  | _ :: _, [], h => h.elim
theorem dp_lstT {v : V} {cs : List (List Int)} (h : (lstT cs).p v H) : Dp K H v (.list (cs.map encC)) := by
  obtain ⟨a, xs, rfl, ha, pa⟩ := h
  exact .lst (sqL_of ha) (dp_all pa)
theorem dp_tupT {v : V} {cs : List (List Int)} (h : (tupT cs).p v H) : Dp K H v (.tuple (cs.map encC)) := by
  obtain ⟨a, xs, rfl, ha, pa⟩ := h
  exact .tup (sqT_of ha) (dp_all pa)
theorem dp_lstI {v : V} {c : List Int} (h : (lstI c).p v H) : Dp K H v (.list (c.map .int)) := by
  obtain ⟨t, rfl, hH⟩ := h
  exact .lst (xs := c.map V.int) (sqL_of hH) (dpa_ints c)
/-- c in [..] -/
theorem ep_in {c : List Int} {cs : List (List Int)} (ha : EvP ta σ H (tupI c)) (hb : EvP tb σ H (lstT cs)) : EvP (tOp (rInD K) ta tb) σ H (Rp.v (.bl (decide (c ∈ cs)))) :=
  ep_op ha hb fun x y H1 _ px py => Gi.now (fun Q q => ⟨encC c, cs.map encC, dp_tup px, dp_lstT py, shaped_C c, shaped_L cs, q⟩) (by rw [any_rows]; rfl)
theorem ep_eqT {a b : List (List Int)} (ha : EvP ta σ H (tupT a)) (hb : EvP tb σ H (tupT b)) : EvP (tOp (rEqD K) ta tb) σ H (Rp.v (.bl (decide (a = b)))) :=
  ep_op ha hb fun x y H1 _ px py => Gi.now (fun Q q => ⟨_, _, dp_tupT px, dp_tupT py, shaped_T a, shaped_T b, q⟩) (by rw [eqv_T]; rfl)
theorem ep_neT {a b : List (List Int)} (ha : EvP ta σ H (tupT a)) (hb : EvP tb σ H (tupT b)) : EvP (tOp (rNeD K) ta tb) σ H (Rp.v (.bl (!decide (a = b)))) :=
  ep_op ha hb fun x y H1 _ px py => Gi.now (fun Q q => ⟨_, _, dp_tupT px, dp_tupT py, shaped_T a, shaped_T b, q⟩) (by rw [eqv_T]; rfl)
theorem ep_eqLi {a b : List Int} (ha : EvP ta σ H (lstI a)) (hb : EvP tb σ H (lstI b)) : EvP (tOp (rEqD K) ta tb) σ H (Rp.v (.bl (decide (a = b)))) :=
  ep_op ha hb fun x y H1 _ px py => Gi.now (fun Q q => ⟨_, _, dp_lstI px, dp_lstI py, shaped_Li a, shaped_Li b, q⟩) (by rw [eqv_Li]; rfl)
theorem ep_neLi {a b : List Int} (ha : EvP ta σ H (lstI a)) (hb : EvP tb σ H (lstI b)) : EvP (tOp (rNeD K) ta tb) σ H (Rp.v (.bl (!decide (a = b)))) :=
  ep_op ha hb fun x y H1 _ px py => Gi.now (fun Q q => ⟨_, _, dp_lstI px, dp_lstI py, shaped_Li a, shaped_Li b, q⟩) (by rw [eqv_Li]; rfl)
theorem ep_eqLr {a b : List (List Int)} (ha : EvP ta σ H (lstT a)) (hb : EvP tb σ H (lstT b)) : EvP (tOp (rEqD K) ta tb) σ H (Rp.v (.bl (decide (a = b)))) :=
  ep_op ha hb fun x y H1 _ px py => Gi.now (fun Q q => ⟨_, _, dp_lstT px, dp_lstT py, shaped_L a, shaped_L b, q⟩) (by rw [eqv_Lr]; rfl)
theorem ep_neLr {a b : List (List Int)} (ha : EvP ta σ H (lstT a)) (hb : EvP tb σ H (lstT b)) : EvP (tOp (rNeD K) ta tb) σ H (Rp.v (.bl (!decide (a = b)))) :=
  ep_op ha hb fun x y H1 _ px py => Gi.now (fun Q q => ⟨_, _, dp_lstT px, dp_lstT py, shaped_L a, shaped_L b, q⟩) (by rw [eqv_Lr]; rfl)
/-! slices -/
theorem sIx_nat {n d : Nat} (i : Nat) : HT.sIx n d (some (i : Int)) = min i n := by
  unfold HT.sIx
  simp only []
  split <;> omega
theorem cut_to (xs : List V) (i : Nat) : cutV xs none (some (i : Int)) = xs.take i := by
  unfold cutV
  rw [sIx_nat, show HT.sIx xs.length 0 none = 0 from rfl, List.drop_zero, Nat.sub_zero]
  by_cases h : i ≤ xs.length
  · rw [Nat.min_eq_left h]
  · rw [Nat.min_eq_right (by omega), List.take_of_length_le (Nat.le_refl _), List.take_of_length_le (by omega)]
theorem cut_from (xs : List V) (i : Nat) : cutV xs (some (i : Int)) none = xs.drop i := by
  unfold cutV
  rw [sIx_nat, show HT.sIx xs.length xs.length none = xs.length from rfl]
  rw [List.take_of_length_le (by rw [List.length_drop]; omega)]
  by_cases h : i ≤ xs.length
  · rw [Nat.min_eq_left h]
  · rw [Nat.min_eq_right (by omega), List.drop_of_length_le (Nat.le_refl _), List.drop_of_length_le (by omega)]
theorem ep_toL {Rs : List Rp} {i : Nat} (h : EvP ta σ H (lstR Rs)) (hi : EvP tb σ H (Rp.v (.int i))) : EvP (tSl (rSlL K) ta tNoPart (tPart tb)) σ H (lstR (Rs.take i)) := fun H1 e Q q =>
  h H1 e _ fun v H2 e2 pv => hi H2 (e.trans e2) _ fun u H3 e3 pu => by
    cases (show u = V.int i from pu)
    obtain ⟨a, xs, rfl, ha, pa⟩ := pv
    refine ⟨i, rfl, a, xs, rfl, sqL_of (e3 _ _ ha), fun p hp => q _ _ ((e2.trans e3).trans (Ex.new hp)) ⟨p, _, rfl, upd_same, ?_⟩⟩
    rw [cut_to]
    exact (AllP.take i (pa.up e3)).up (Ex.new hp)
theorem ep_toT {Rs : List Rp} {i : Nat} (h : EvP ta σ H (tupR Rs)) (hi : EvP tb σ H (Rp.v (.int i))) : EvP (tSl (rSlA K) ta tNoPart (tPart tb)) σ H (tupR (Rs.take i)) := fun H1 e Q q =>
  h H1 e _ fun v H2 e2 pv => hi H2 (e.trans e2) _ fun u H3 e3 pu => by
    cases (show u = V.int i from pu)
    obtain ⟨a, xs, rfl, ha, pa⟩ := pv
    refine ⟨i, rfl, a, xs, rfl, sqT_of (e3 _ _ ha), fun hw => ?_, fun _ p hp => q _ _ ((e2.trans e3).trans (Ex.new hp)) ⟨p, _, rfl, upd_same, ?_⟩⟩
    · rw [sIx_nat] at hw
      have hl := pa.length
      refine q _ _ (e2.trans e3) ⟨a, xs, rfl, e3 _ _ ha, ?_⟩
      rw [List.take_of_length_le (by omega)]
      exact pa.up e3
    · rw [cut_to]
      exact (AllP.take i (pa.up e3)).up (Ex.new hp)
theorem ep_fromT {Rs : List Rp} {i : Nat} (h : EvP ta σ H (tupR Rs)) (hi : EvP tb σ H (Rp.v (.int i))) : EvP (tSl (rSlA K) ta (tPart tb) tNoPart) σ H (tupR (Rs.drop i)) := fun H1 e Q q =>
  h H1 e _ fun v H2 e2 pv => hi H2 (e.trans e2) _ fun u H3 e3 pu => by
    cases (show u = V.int i from pu)
    obtain ⟨a, xs, rfl, ha, pa⟩ := pv
    refine ⟨i, rfl, a, xs, rfl, sqT_of (e3 _ _ ha), fun hw => ?_, fun _ p hp => q _ _ ((e2.trans e3).trans (Ex.new hp)) ⟨p, _, rfl, upd_same, ?_⟩⟩
    · rw [sIx_nat] at hw
      have hl := pa.length
      refine q _ _ (e2.trans e3) ⟨a, xs, rfl, e3 _ _ ha, ?_⟩
      by_cases hx : xs.length = 0
      · have h0 : Rs = [] := List.eq_nil_of_length_eq_zero (by omega)
        have h1 : xs = [] := List.eq_nil_of_length_eq_zero hx
        subst h0 h1
        simp [AllP]
      · rw [show i = 0 by omega, List.drop_zero]
        exact pa.up e3
    · rw [cut_from]
      exact (AllP.drop i (pa.up e3)).up (Ex.new hp)
end
end NL
end
section
set_option linter.all false
set_option Elab.async false
set_option maxRecDepth 100000
namespace NL
open PySem PySem.Spec PyProof.Rows L2
open Evl (Ex Ev EvT)
open C8 (pe_c pe_mk pe_mt pe_gc)
def top (i : Nat) : Stmt := PySem.Challenge.pw_noneleft_k46_whole_told_books.main.body.getD i (.Pass ⟨0, 0, 0, 0⟩)
/-- a comprehension's own scope; what a body returns -/
def lcOf : Expr → Scope
  | .ListComp _ _ sc _ => sc
  | _ => { kind := .function, names := [], isGenerator := false, isCoroutine := false }
/-- a comprehension's own scope as it stands within another one -/
def relS (sc o : Scope) : Scope := { sc with names := sc.names.map fun (n, k) => if (k == .free && o.kind == .function && o.names.lookup n == some .cell) then (n, .cell) else (n, k) }
def retOf : List Stmt → Expr
  | [.Return (some e) _] => e
  | _ => .Constant .none 0 ⟨0, 0, 0, 0⟩
/-- built-in names that stand -/
structure Txt (mg : Str → Option Value) : Prop where
  all : mg "all" = none
  any : mg "any" = none
  zip : mg "zip" = none
  tuple : mg "tuple" = none
  list : mg "list" = none
  int : mg "int" = none
  bool : mg "bool" = none
  len : mg "len" = none
  sum : mg "sum" = none
  max : mg "max" = none
  min : mg "min" = none
  abs : mg "abs" = none
  range : mg "range" = none
  sorted : mg "sorted" = none
  enumerate : mg "enumerate" = none
  isinstance : mg "isinstance" = none
theorem u65 {k : Nat} {A : Around} (r : Room k A) : A.units + 65 < cLine := by have := r.un; omega
theorem u1 {n : Nat} (h : n + 64 < cLine) : n + 1 < cLine := by omega
/-- how a def's body ends -/
abbrev dE (Q : VK) : Ends := { nx := fun _ H' => Q .non H', rt := Q }
/-- a def as it stands, and how it is called -/
structure Dn (K : PySem.W.Frag) (mg : Str → Option Value) (x : Str) (st : Stmt) (ps : List Str) : Prop where
  ex : ∃ (f : Addr) (fd : FuncData), L2.Fun K x x st f fd ∧ mg x = some (.ref f) ∧ Binds K fd ps []
section
variable {P : Program} {w : World} {K : PySem.W.Frag} {mg : Str → Option Value} {base : Heap}
abbrev Cl (P : Program) (w : World) (K : PySem.W.Frag) (mg : Str → Option Value) (base : Heap) (k : Nat) (x : Str) (sp : Sp) : Prop := C8.Cal P w K mg base k x sp []
theorem Dn.cal {x : Str} {st : Stmt} {N ps : List Str} {k : Nat} {sp : Sp} (D : Dn K mg x st ps) (S : FnScope N ps (defScope st)) (len : ∀ vs H Q E, sp vs H Q E → vs.length = ps.length)
    (hbody : ∀ (f : Addr) (cdv : Value) (A : Around) (outer : List Env) (s : Shared) (H : Hp) (vs : List V) (Q : VK) (E : XK), Room k (A.deeper (envOfC x (defScope st) s.heap.objs.size f cdv)) → sp vs H Q E →
      ∃ t, PSs (cxOf CX0 P w K mg base N x (defScope st) f cdv A outer s H E).nox (defBody st) t ∧ t { nx := fun _ H' => Q .non H', rt := Q } (start N vs) H) : Cl P w K mg base (k + 1) x sp := by
  obtain ⟨f, fd, F, hm, b⟩ := D.ex
  exact ⟨f, fd, ps, [], F.ok S len (hbody f), hm, F.kp, b, .nil⟩
end
theorem zipWith_range {α β γ : Type} {f : α → β → γ} : ∀ {a : List α} {b : List β} (da : α) (db : β), a.length = b.length → (List.range a.length).map (fun i => f (a.getD i da) (b.getD i db)) = List.zipWith f a b
  | [], [], _, _, _ => rfl
  | x :: a, y :: b, da, db, h => by
    have ih := zipWith_range (f := f) (a := a) (b := b) da db (by simpa using h)
    rw [List.length_cons, List.range_succ_eq_map, List.map_cons, List.map_map, List.zipWith_cons_cons, ← ih]
    rfl
theorem getD_of {α : Type} {a : List α} {i : Nat} {x d : α} (h : a[i]? = some x) : a.getD i d = x := by
  rw [List.getD_eq_getElem?_getD, h]; rfl
theorem get_map {α : Type} {a : List α} {i : Nat} {f : α → Rp} {R : Rp} (h : (a.map f)[i]? = some R) : ∃ x, a[i]? = some x ∧ R = f x := by
  rw [List.getElem?_map] at h
  cases e : a[i]? with
  | none => rw [e] at h; cases h
  | some x => rw [e] at h; exact ⟨x, rfl, (Option.some.inj h).symm⟩
/-- at place i: an int of ns -/
abbrev IsI (ns : List Int) : Nat → V → Hp → Prop := fun i x H => ∃ R, (ns.map fun n => Rp.v (.int n))[i]? = some R ∧ R.p x H
theorem IsI.get {ns : List Int} {i : Nat} {x : V} {H : Hp} (h : IsI ns i x H) : x = .int (ns.getD i 0) := by
  obtain ⟨R, h1, p1⟩ := h
  obtain ⟨m, hm, rfl⟩ := get_map h1
  rw [getD_of hm]; exact p1
theorem small {n : Nat} (h : n ≤ 1000) : n < sizeLine := Nat.lt_of_le_of_lt h (by decide)
abbrev s_within : Stmt := top 10
abbrev n_within : List Str := ["one", "other", "x", "y"]
abbrev p_within : List Str := ["one", "other"]
theorem sc_within : FnScope n_within p_within (defScope s_within) := ⟨rfl, rfl, rfl, by decide +kernel, rfl, by decide +kernel, by decide +kernel⟩
abbrev s_less : Stmt := top 11
abbrev n_less : List Str := ["one", "other", "x", "y"]
abbrev p_less : List Str := ["one", "other"]
theorem sc_less : FnScope n_less p_less (defScope s_less) := ⟨rfl, rfl, rfl, by decide +kernel, rfl, by decide +kernel, by decide +kernel⟩
abbrev s_more : Stmt := top 12
abbrev n_more : List Str := ["one", "other", "x", "y"]
abbrev p_more : List Str := ["one", "other"]
theorem sc_more : FnScope n_more p_more (defScope s_more) := ⟨rfl, rfl, rfl, by decide +kernel, rfl, by decide +kernel, by decide +kernel⟩
def spWithin : Sp := Pur fun vs H R => ∃ x y a b, vs = [x, y] ∧ (tupI a).p x H ∧ (tupI b).p y H ∧ a.length = b.length ∧ a.length ≤ 1000 ∧ R = Rp.v (.bl (vle a b))
def spLess : Sp := Pur fun vs H R => ∃ x y a b, vs = [x, y] ∧ (tupI a).p x H ∧ (tupI b).p y H ∧ a.length = b.length ∧ a.length ≤ 1000 ∧ R = tupI (vsub a b)
def spMore : Sp := Pur fun vs H R => ∃ x y a b, vs = [x, y] ∧ (tupI a).p x H ∧ (tupI b).p y H ∧ a.length = b.length ∧ a.length ≤ 1000 ∧ R = tupI (vadd a b)
section
variable {P : Program} {w : World} {K : PySem.W.Frag} {mg : Str → Option Value} {base : Heap}
/-- [f x y for x, y in zip(a, b)] -/
theorem ep_lcZ {σ : L2.St} {H : Hp} {ta : TA} {te : TE} {vs : List Nat} {j l : Nat} {a b : List Int} {g : Int → Int → Rp} [∀ i j, Stab (g i j)] (h : NL.EvA ta σ H [tupI a, tupI b]) (hl : a.length = b.length) (hz : a.length ≤ 1000) (wp : ∀ x y, wipe (((wipe σ vs).set j (some x)).set l (some y)) vs = wipe σ vs)
    (el : ∀ (m n : Int) H2, Ex H H2 → EvP te (((wipe σ vs).set j (some (.int m))).set l (some (.int n))) H2 (g m n)) :
    EvP (tLc (RZ.iZipA K ta) (gTup K 2 (gCons (gName j) (gCons (gName l) gNil))) tYes te vs) σ H (lstR (List.zipWith g a b)) := by
  refine EvP.cast (ep_lc2 (n := a.length) (f := fun _ => true) (Rs := fun i => g (a.getD i 0) (b.getD i 0)) (EvW.len (ew_zipT (Rs := a.map fun n => Rp.v (.int n)) (Ss := b.map fun n => Rp.v (.int n)) (fun H1 e Q q => h H1 e Q fun vs H2 e2 p => q vs H2 e2 ?_) (by simpa using hl)) (by simp)) (small hz) (fun _ _ => inferInstance) wp
      (fun _ _ _ _ _ _ _ _ => et_yes) fun i u v H2 hi e hu hv _ => ?_) ?_
  · match vs, p with
    | [x, y], p => exact ⟨tupI_of.mpr p.1, tupI_of.mpr p.2.1, trivial⟩
  · rw [IsI.get hu, IsI.get hv]
    exact el _ _ H2 e
  · rw [kept_all, zipWith_range (f := g) 0 0 hl]
/-- .. the first number told to be one of a's -/
theorem ep_lcZM {σ : L2.St} {H : Hp} {ta : TA} {te : TE} {vs : List Nat} {j l : Nat} {a b : List Int} {g : Int → Int → Rp} [∀ i j, Stab (g i j)] (h : NL.EvA ta σ H [tupI a, tupI b]) (hl : a.length = b.length) (hz : a.length ≤ 1000) (wp : ∀ x y, wipe (((wipe σ vs).set j (some x)).set l (some y)) vs = wipe σ vs)
    (el : ∀ (m n : Int) H2, Ex H H2 → m ∈ a → EvP te (((wipe σ vs).set j (some (.int m))).set l (some (.int n))) H2 (g m n)) :
    EvP (tLc (RZ.iZipA K ta) (gTup K 2 (gCons (gName j) (gCons (gName l) gNil))) tYes te vs) σ H (lstR (List.zipWith g a b)) := by
  refine EvP.cast (ep_lc2 (n := a.length) (f := fun _ => true) (Rs := fun i => g (a.getD i 0) (b.getD i 0)) (EvW.len (ew_zipT (Rs := a.map fun n => Rp.v (.int n)) (Ss := b.map fun n => Rp.v (.int n)) (fun H1 e Q q => h H1 e Q fun vs H2 e2 p => q vs H2 e2 ?_) (by simpa using hl)) (by simp)) (small hz) (fun _ _ => inferInstance) wp
      (fun _ _ _ _ _ _ _ _ => et_yes) fun i u v H2 hi e hu hv _ => ?_) ?_
  · match vs, p with
    | [x, y], p => exact ⟨tupI_of.mpr p.1, tupI_of.mpr p.2.1, trivial⟩
  · rw [IsI.get hu, IsI.get hv]
    exact el _ _ H2 e (by rw [List.getD_eq_getElem?_getD, List.getElem?_eq_getElem hi]; exact List.getElem_mem hi)
  · rw [kept_all, zipWith_range (f := g) 0 0 hl]
theorem zipWith_rp {g : Int → Int → Int} : ∀ (a b : List Int), List.zipWith (fun x y => Rp.v (.int (g x y))) a b = (List.zipWith g a b).map fun n => Rp.v (.int n)
  | [], _ => rfl
  | _ :: _, [] => rfl
  | x :: a, y :: b => by rw [List.zipWith_cons_cons, List.zipWith_cons_cons, List.map_cons, zipWith_rp a b]
theorem zipWith_rpB {g : Int → Int → Bool} : ∀ (a b : List Int), List.zipWith (fun x y => Rp.v (.bl (g x y))) a b = (List.zipWith g a b).map fun n => Rp.v (.bl n)
  | [], _ => rfl
  | _ :: _, [] => rfl
  | x :: a, y :: b => by rw [List.zipWith_cons_cons, List.zipWith_cons_cons, List.map_cons, zipWith_rpB a b]
theorem ok_within (D : Dn K mg "within" s_within p_within) (T : Txt mg) : Cl P w K mg base 1 "within" spWithin := by
  refine D.cal sc_within (fun vs H Q E h => ?_) (fun f cdv A outer s H vs Q E hr h => ?_)
  · obtain ⟨_, ⟨_, _, _, _, rfl, _⟩, _⟩ := h
    rfl
  · obtain ⟨_, ⟨x, y, a, b, rfl, ha, hb, hl, hz, rfl⟩, k⟩ := h
    refine ⟨_, (pss_one (ps_ret (pe_callB (kAll (K := K) rfl rfl) (by rfl) T.all (by decide +kernel) (pa_cons (pe_lc (own := [("x", 2), ("y", 3)]) (g := (gTup K 2 (gCons (gName 2) (gCons (gName 3) gNil)))) (tt := tYes) rfl sc_within.nd (RZ.pi_zipA (by rfl) T.zip (pa_cons (pv 0) (pa_cons (pv 1) pa_nil))) (blkOk_by (N := n_within) (sc := defScope s_within) (by decide +kernel)) (fun _ _ _ _ _ => (pg_tup rfl (pgs_cons (pg_name (i := 2) sc_within.nd rfl (Or.inl rfl)) (pgs_cons (pg_name (i := 3) sc_within.nd rfl (Or.inl rfl)) pgs_nil)))) (fun _ _ _ _ _ => pts_nil) (fun _ _ _ _ _ => (pe_cmpR op_le (pv 2) (pv 3) (nomark _)))) pa_nil)))), ?_⟩
    refine p_ret (ep_all (bs := List.zipWith (fun x y => decide (x ≤ y)) a b) ?_) k
    rw [← zipWith_rpB]
    exact ep_lcZ (g := fun x y => Rp.v (.bl (decide (x ≤ y)))) (ea_cons (ep_var rfl ha) (ea_cons (ep_var rfl hb) ea_nil)) hl hz (fun _ _ => rfl) fun m n H2 e => ep_I0 (f := fun i j => .bl (decide (i ≤ j))) (ep_v rfl) (ep_v rfl)
theorem ok_less (D : Dn K mg "less" s_less p_less) (T : Txt mg) : Cl P w K mg base 1 "less" spLess := by
  refine D.cal sc_less (fun vs H Q E h => ?_) (fun f cdv A outer s H vs Q E hr h => ?_)
  · obtain ⟨_, ⟨_, _, _, _, rfl, _⟩, _⟩ := h
    rfl
  · obtain ⟨_, ⟨x, y, a, b, rfl, ha, hb, hl, hz, rfl⟩, k⟩ := h
    refine ⟨_, (pss_one (ps_ret (pe_callTy (kTupOf (K := K) rfl) (by rfl) T.tuple (by decide +kernel) (pa_cons (pe_lc (own := [("x", 2), ("y", 3)]) (g := (gTup K 2 (gCons (gName 2) (gCons (gName 3) gNil)))) (tt := tYes) rfl sc_less.nd (RZ.pi_zipA (by rfl) T.zip (pa_cons (pv 0) (pa_cons (pv 1) pa_nil))) (blkOk_by (N := n_less) (sc := defScope s_less) (by decide +kernel)) (fun _ _ _ _ _ => (pg_tup rfl (pgs_cons (pg_name (i := 2) sc_less.nd rfl (Or.inl rfl)) (pgs_cons (pg_name (i := 3) sc_less.nd rfl (Or.inl rfl)) pgs_nil)))) (fun _ _ _ _ _ => pts_nil) (fun _ _ _ _ _ => (pe_op op_sub (pv 2) (pv 3)))) pa_nil)))), ?_⟩
    refine p_ret (tupI_R (ep_tupleL ?_)) k
    unfold vsub
    rw [← zipWith_rp]
    exact ep_lcZ (g := fun x y => Rp.v (.int (x - y))) (ea_cons (ep_var rfl ha) (ea_cons (ep_var rfl hb) ea_nil)) hl hz (fun _ _ => rfl) fun m n H2 e => ep_I0 (f := fun i j => .int (i - j)) (ep_v rfl) (ep_v rfl)
theorem ok_more (D : Dn K mg "more" s_more p_more) (T : Txt mg) : Cl P w K mg base 1 "more" spMore := by
  refine D.cal sc_more (fun vs H Q E h => ?_) (fun f cdv A outer s H vs Q E hr h => ?_)
  · obtain ⟨_, ⟨_, _, _, _, rfl, _⟩, _⟩ := h
    rfl
  · obtain ⟨_, ⟨x, y, a, b, rfl, ha, hb, hl, hz, rfl⟩, k⟩ := h
    refine ⟨_, (pss_one (ps_ret (pe_callTy (kTupOf (K := K) rfl) (by rfl) T.tuple (by decide +kernel) (pa_cons (pe_lc (own := [("x", 2), ("y", 3)]) (g := (gTup K 2 (gCons (gName 2) (gCons (gName 3) gNil)))) (tt := tYes) rfl sc_more.nd (RZ.pi_zipA (by rfl) T.zip (pa_cons (pv 0) (pa_cons (pv 1) pa_nil))) (blkOk_by (N := n_more) (sc := defScope s_more) (by decide +kernel)) (fun _ _ _ _ _ => (pg_tup rfl (pgs_cons (pg_name (i := 2) sc_more.nd rfl (Or.inl rfl)) (pgs_cons (pg_name (i := 3) sc_more.nd rfl (Or.inl rfl)) pgs_nil)))) (fun _ _ _ _ _ => pts_nil) (fun _ _ _ _ _ => (pe_op op_add (pv 2) (pv 3)))) pa_nil)))), ?_⟩
    refine p_ret (tupI_R (ep_tupleL ?_)) k
    unfold vadd
    rw [← zipWith_rp]
    exact ep_lcZ (g := fun x y => Rp.v (.int (x + y))) (ea_cons (ep_var rfl ha) (ea_cons (ep_var rfl hb) ea_nil)) hl hz (fun _ _ => rfl) fun m n H2 e => ep_I0 (f := fun i j => .int (i + j)) (ep_v rfl) (ep_v rfl)
end
end NL
end
section
set_option linter.all false
set_option Elab.async false
set_option maxRecDepth 100000
namespace NL
open PySem PySem.Spec PyProof.Rows L2
open Evl (Ex Ev EvT)
open C8 (pe_c pe_mk pe_mt pe_gc)
abbrev s_is_integer : Stmt := top 7
abbrev n_is_integer : List Str := ["value"]
abbrev p_is_integer : List Str := ["value"]
theorem sc_is_integer : FnScope n_is_integer p_is_integer (defScope s_is_integer) := ⟨rfl, rfl, rfl, by decide +kernel, rfl, by decide +kernel, by decide +kernel⟩
abbrev s_is_number : Stmt := top 8
abbrev n_is_number : List Str := ["value"]
abbrev p_is_number : List Str := ["value"]
theorem sc_is_number : FnScope n_is_number p_is_number (defScope s_is_number) := ⟨rfl, rfl, rfl, by decide +kernel, rfl, by decide +kernel, by decide +kernel⟩
abbrev s_is_sequence : Stmt := top 9
abbrev n_is_sequence : List Str := ["value"]
abbrev p_is_sequence : List Str := ["value"]
theorem sc_is_sequence : FnScope n_is_sequence p_is_sequence (defScope s_is_sequence) := ⟨rfl, rfl, rfl, by decide +kernel, rfl, by decide +kernel, by decide +kernel⟩
abbrev s_nobody : Stmt := top 13
abbrev n_nobody : List Str := ["kinds"]
abbrev p_nobody : List Str := ["kinds"]
theorem sc_nobody : FnScope n_nobody p_nobody (defScope s_nobody) := ⟨rfl, rfl, rfl, by decide +kernel, rfl, by decide +kernel, by decide +kernel⟩
def isIntA (a : Any) : Bool := isT "int" a.ty && !isT "bool" a.ty
def isNumA (a : Any) : Bool := match a with
  | .int i => decide (0 ≤ i)
  | _ => false
def spIsInteger : Sp := Pur fun vs H R => ∃ x a, vs = [x] ∧ (anyR a).p x H ∧ R = Rp.v (.bl (isIntA a))
def spIsNumber : Sp := Pur fun vs H R => ∃ x a, vs = [x] ∧ (anyR a).p x H ∧ R = Rp.v (.bl (isNumA a))
def spIsSequence : Sp := Pur fun vs H R => ∃ x, vs = [x] ∧ (∃ a xs, x = .ref a ∧ H a = some (.lst xs)) ∧ R = Rp.v (.bl true)
def spNobody : Sp := Pur fun vs H R => ∃ k : Nat, vs = [.int k] ∧ 1 ≤ k ∧ k ≤ 1000 ∧ R = tupI (zeros k)
section
variable {P : Program} {w : World} {K : PySem.W.Frag} {mg : Str → Option Value} {base : Heap}
theorem isIntA_int {a : Any} (h : isIntA a = true) : ∃ i, a = .int i := by
  cases a <;> simp [isIntA, isT, Any.ty] at h ⊢
theorem ok_is_integer (D : Dn K mg "is_integer" s_is_integer p_is_integer) (T : Txt mg) : Cl P w K mg base 1 "is_integer" spIsInteger := by
  refine D.cal sc_is_integer (fun vs H Q E h => ?_) (fun f cdv A outer s H vs Q E hr h => ?_)
  · obtain ⟨_, ⟨_, _, rfl, _⟩, _⟩ := h
    rfl
  · obtain ⟨_, ⟨x, a, rfl, ha, rfl⟩, k⟩ := h
    refine ⟨_, (pss_one (ps_ret (pe_and (pe_callB (kIsi (K := K) rfl) (by rfl) T.isinstance (by decide +kernel) (pa_cons (pv 0) (pa_cons (pe_bltn (v := .ty "int") (by rfl) T.int (by decide +kernel) rfl) pa_nil))) (pe_one (pe_not (pe_callB (kIsi (K := K) rfl) (by rfl) T.isinstance (by decide +kernel) (pa_cons (pv 0) (pa_cons (pe_bltn (v := .ty "bool") (by rfl) T.bool (by decide +kernel) rfl) pa_nil)))))))), ?_⟩
    exact p_ret (ep_and (ep_isi (ep_var rfl ha)) fun _ => ep_not (ep_isi (ep_var rfl ha))) k
theorem ok_is_number (D : Dn K mg "is_number" s_is_number p_is_number) (T : Txt mg) (c_is_integer : Cl P w K mg base 1 "is_integer" spIsInteger) : Cl P w K mg base 2 "is_number" spIsNumber := by
  refine D.cal sc_is_number (fun vs H Q E h => ?_) (fun f cdv A outer s H vs Q E hr h => ?_)
  · obtain ⟨_, ⟨_, _, rfl, _⟩, _⟩ := h
    rfl
  · obtain ⟨_, ⟨x, a, rfl, ha, rfl⟩, k⟩ := h
    refine ⟨_, (pss_one (ps_ret (pe_and (pe_c c_is_integer hr (by decide) rfl (pa_cons (pv 0) pa_nil)) (pe_one (pe_cmpR op_ge (pv 0) pe_int (nomark _)))))), ?_⟩
    refine p_ret (EvP.cast (ep_and (b := isIntA a) (c := isNumA a) (ep_pur (ea_cons (ep_var rfl ha) ea_nil) fun vs H1 _ p => ?_) fun h => ?_) ?_) k
    · match vs, p with
      | [y], p => exact ⟨y, a, rfl, p.1, rfl⟩
    · obtain ⟨i, rfl⟩ := isIntA_int h
      simp only [anyR] at ha
      exact ep_I0 (f := fun i j => .bl (decide (j ≤ i))) (ep_var rfl ha) ep_c
    · cases a <;> simp [isIntA, isT, Any.ty, isNumA]
theorem ok_is_sequence (D : Dn K mg "is_sequence" s_is_sequence p_is_sequence) (T : Txt mg) : Cl P w K mg base 1 "is_sequence" spIsSequence := by
  refine D.cal sc_is_sequence (fun vs H Q E h => ?_) (fun f cdv A outer s H vs Q E hr h => ?_)
  · obtain ⟨_, ⟨_, rfl, _⟩, _⟩ := h
    rfl
  · obtain ⟨_, ⟨x, rfl, ⟨a, xs, rfl, ha⟩, rfl⟩, k⟩ := h
    refine ⟨_, (pss_one (ps_ret (pe_callB (kIsiT (K := K) rfl) (by rfl) T.isinstance (by decide +kernel) (pa_cons (pv 0) (pa_cons (pe_tup (pa_cons (pe_bltn (v := .ty "list") (by rfl) T.list (by decide +kernel) rfl) (pa_cons (pe_bltn (v := .ty "tuple") (by rfl) T.tuple (by decide +kernel) rfl) pa_nil))) pa_nil))))), ?_⟩
    refine ⟨_, rfl, by decide, fun tp htp => ⟨_, tp, _, .type "list", [.type "list", .type "tuple"], true, rfl, upd_same, .cons (.ty _) (.cons (.ty _) .nil), .base (.lst (xs := xs) (by rw [upd_ne (ne_of_none ha htp)]; exact ha)), kitAny_cons (b := true) (kit_ty (by decide +kernel)) (fun z => by cases z) (fun _ => rfl), ?_⟩⟩
    exact k _ _ (Ex.new htp) rfl
theorem ok_nobody (D : Dn K mg "nobody" s_nobody p_nobody) : Cl P w K mg base 1 "nobody" spNobody := by
  refine D.cal sc_nobody (fun vs H Q E h => ?_) (fun f cdv A outer s H vs Q E hr h => ?_)
  · obtain ⟨_, ⟨_, rfl, _⟩, _⟩ := h
    rfl
  · obtain ⟨_, ⟨n, rfl, h1, h2, rfl⟩, k⟩ := h
    refine ⟨_, (pss_one (ps_ret (pe_op op_repT1 (pe_tup (pa_cons pe_int pa_nil)) (pv 0)))), ?_⟩
    refine p_ret (tupI_R (EvP.cast (ep_rep (k := n) (z := .int 0) (ep_tup (ea_cons ep_c ea_nil) (by simp)) (ep_v rfl) (by omega) (by omega)) ?_)) k
    unfold zeros
    rw [List.map_replicate, Int.toNat_natCast]
end
end NL
end
section
set_option linter.all false
set_option Elab.async false
set_option maxRecDepth 100000
namespace NL
open PySem PySem.Spec PyProof.Rows L2
open Evl (Ex Ev EvT)
open C8 (pe_c pe_mk pe_mt pe_gc)
abbrev s__law_within : Stmt := top 39
abbrev n__law_within : List Str := ["_law_one", "_law_other", "_law_at", "_law_x"]
abbrev p__law_within : List Str := ["_law_one", "_law_other"]
theorem sc__law_within : FnScope n__law_within p__law_within (defScope s__law_within) := ⟨rfl, rfl, rfl, by decide +kernel, rfl, by decide +kernel, by decide +kernel⟩
abbrev s__law_less : Stmt := top 40
abbrev n__law_less : List Str := ["_law_one", "_law_other", "_law_at", "_law_x"]
abbrev p__law_less : List Str := ["_law_one", "_law_other"]
theorem sc__law_less : FnScope n__law_less p__law_less (defScope s__law_less) := ⟨rfl, rfl, rfl, by decide +kernel, rfl, by decide +kernel, by decide +kernel⟩
abbrev s__law_more : Stmt := top 41
abbrev n__law_more : List Str := ["_law_one", "_law_other", "_law_at", "_law_x"]
abbrev p__law_more : List Str := ["_law_one", "_law_other"]
theorem sc__law_more : FnScope n__law_more p__law_more (defScope s__law_more) := ⟨rfl, rfl, rfl, by decide +kernel, rfl, by decide +kernel, by decide +kernel⟩
abbrev s__law_zero : Stmt := top 42
abbrev n__law_zero : List Str := ["_law_value", "_law_row", "_law_modulus", "_law_hours", "_law_whole", "_law_at", "_law_x"]
abbrev p__law_zero : List Str := ["_law_value", "_law_row"]
theorem sc__law_zero : FnScope n__law_zero p__law_zero (defScope s__law_zero) := ⟨rfl, rfl, rfl, by decide +kernel, rfl, by decide +kernel, by decide +kernel⟩
abbrev s_unit_rows : Stmt := top 31
abbrev n_unit_rows : List Str := ["kinds", "at", "to"]
abbrev p_unit_rows : List Str := ["kinds"]
theorem sc_unit_rows : FnScope n_unit_rows p_unit_rows (defScope s_unit_rows) := ⟨rfl, rfl, rfl, by decide +kernel, rfl, by decide +kernel, by decide +kernel⟩
abbrev s_told_hours : Stmt := top 30
abbrev n_told_hours : List Str := ["value", "row", "found", "modulus", "hours", "total", "x", "hour"]
abbrev p_told_hours : List Str := ["value", "row"]
theorem sc_told_hours : FnScope n_told_hours p_told_hours (defScope s_told_hours) := ⟨rfl, rfl, rfl, by decide +kernel, rfl, by decide +kernel, by decide +kernel⟩
abbrev s_is_pair : Stmt := top 28
abbrev n_is_pair : List Str := ["kinds", "value", "x"]
abbrev p_is_pair : List Str := ["kinds", "value"]
theorem sc_is_pair : FnScope n_is_pair p_is_pair (defScope s_is_pair) := ⟨rfl, rfl, rfl, by decide +kernel, rfl, by decide +kernel, by decide +kernel⟩
abbrev s_is_batch : Stmt := top 15
abbrev n_is_batch : List Str := ["kinds", "value", "x"]
abbrev p_is_batch : List Str := ["kinds", "value"]
theorem sc_is_batch : FnScope n_is_batch p_is_batch (defScope s_is_batch) := ⟨rfl, rfl, rfl, by decide +kernel, rfl, by decide +kernel, by decide +kernel⟩
def pairR (p : Pr) : Rp := tupR [Rp.v (.int p.1), tupI p.2]
def nmR (vs : List Pr) : Rp := tupR (vs.map pairR)
/-- ints that may be multiplied -/
def Med (c : List Int) : Prop := ∀ x ∈ c, -(2 ^ 64) < x ∧ x < 2 ^ 64
def spToldHours : Sp := Pur fun vs H R => ∃ x y ns c, vs = [x, y] ∧ (nmR ns).p x H ∧ (tupI c).p y H ∧ (∀ p ∈ ns, p.2.length = c.length ∧ 0 ≤ p.1) ∧ c.length ≤ 1000 ∧ Med c ∧ ns.length ≤ 1000 ∧ R = tupI (ns.map fun p => NL.hr p c)
def spUnitRows : Sp := Pur fun vs H R => ∃ k : Nat, vs = [.int k] ∧ k ≤ 1000 ∧ R = lstT ((List.range k).map (uni k))
def isPairA (k : Nat) : Any → Bool
  | .tup [m, h] => isNumA m && (match m with | .int i => decide (i ≠ 1) | _ => false) && (match h with | .tup l => decide (l.length = k) && l.all isIntA | _ => false)
  | _ => false
def spIsPair : Sp := Pur fun vs H R => ∃ (k : Nat) (x : V) (a : Any), vs = [.int k, x] ∧ (anyR a).p x H ∧ (∀ m l, a = .tup [m, .tup l] → l.length ≤ 1000) ∧ R = Rp.v (.bl (isPairA k a))
def spIsBatch : Sp := Pur fun vs H R => ∃ (k : Nat) (x : V) (c : List Int), vs = [.int k, x] ∧ (tupI c).p x H ∧ Dom k c ∧ k ≤ 1000 ∧ R = Rp.v (.bl (decide (0 < c.sum)))
def spZero : Sp := Pur fun vs H R => ∃ x y ns c, vs = [x, y] ∧ (nmR ns).p x H ∧ (tupI c).p y H ∧ (∀ p ∈ ns, p.2.length = c.length ∧ 0 ≤ p.1) ∧ c.length ≤ 1000 ∧ Med c ∧ R = Rp.v (.bl (zvB ns c))
section
variable {P : Program} {w : World} {K : PySem.W.Frag} {mg : Str → Option Value} {base : Heap}
/-- sums of products -/
theorem zipWith_mem {c d : List Int} {g : Int → Int → Int} : True := trivial
/-- the target is a pair whose first item is an int -/
theorem g_pair {R : Rp} {x : V} {σ : L2.St} {H : Hp} {i j : Nat} {m : Int} {Q : L2.St → Hp → Prop} (h : (tupR [Rp.v (.int m), R]).p x H) (k : ∀ y, R.p y H → Q ((σ.set i (some (.int m))).set j (some y)) H) :
    gTup K 2 (gCons (gName i) (gCons (gName j) gNil)) x σ H Q := by
  obtain ⟨a, xs, rfl, ha, pa⟩ := h
  match xs, pa with
  | [u, v], pa =>
    cases (show u = V.int m from pa.1)
    exact ⟨a, _, rfl, sqT_of ha, rfl, _, _, rfl, v, [], rfl, rfl, k v pa.2.1⟩
theorem uni_range : ∀ {k i : Nat}, i < k → uni k i = (List.range k).map fun j => if i = j then (1 : Int) else 0 := fun {k i} hi => by
  refine ext_at (k := k) (uni_dom k i).1 (by simp) fun j hj => ?_
  rw [at_uni j hi]
  unfold at_
  rw [List.getD_eq_getElem?_getD, List.getElem?_map, List.getElem?_range hj]
  rfl
theorem ok_unit_rows (D : Dn K mg "unit_rows" s_unit_rows p_unit_rows) (T : Txt mg) : Cl P w K mg base 1 "unit_rows" spUnitRows := by
  refine D.cal sc_unit_rows (fun vs H Q E h => ?_) (fun f cdv A outer s H vs Q E hr h => ?_)
  · obtain ⟨_, ⟨_, rfl, _⟩, _⟩ := h
    rfl
  · obtain ⟨_, ⟨n, rfl, h2, rfl⟩, k⟩ := h
    refine ⟨_, (pss_one (ps_ret (pe_lc (own := [("at", 1)]) (g := (gName 1)) (tt := tYes) rfl sc_unit_rows.nd (pi_range1 (by rfl) T.range (pa_cons (pv 0) pa_nil)) (blkOk_by (N := n_unit_rows) (sc := defScope s_unit_rows) (by decide +kernel)) (fun _ _ _ _ _ => (pg_name (i := 1) sc_unit_rows.nd rfl (Or.inr rfl))) (fun _ _ _ _ _ => pts_nil) (fun _ _ _ _ _ => (pe_callTy (kTupOf (K := K) rfl) (by rfl) T.tuple (by decide +kernel) (pa_cons (pe_lc (own := [("to", 2)]) (g := (gName 2)) (tt := tYes) rfl sc_unit_rows.nd (pi_range1 (by rfl) T.range (pa_cons (pv 0) pa_nil)) (blkOk_by (N := n_unit_rows) (sc := relS (lcOf (retOf (defBody s_unit_rows))) (defScope s_unit_rows)) (by decide +kernel)) (fun _ _ _ _ _ => (pg_name (i := 2) sc_unit_rows.nd rfl (Or.inl rfl))) (fun _ _ _ _ _ => pts_nil) (fun _ _ _ _ _ => (pe_ifExp (pt_cmpR op_eq (pv 1) (pv 2) (nomark _)) pe_int pe_int))) pa_nil)))))), ?_⟩
    refine p_ret (EvP.cast (ep_lc1 (n := n) (f := fun _ => true) (Rs := fun i => tupI ((List.range n).map fun j => if i = j then (1 : Int) else 0)) (EvW.len (ew_range1 (ea_cons (ep_v rfl) ea_nil) (by omega) (by omega)) (by simp)) (small h2) (fun _ _ => inferInstance) (fun _ => rfl)
      (fun _ _ _ _ _ _ => et_yes) fun i x H2 hi e hx _ => ?_) ?_) k
    · cases (show x = V.int i from hx)
      refine tupI_R (ep_tupleL (EvP.cast (ep_lc1 (n := n) (f := fun _ => true) (Rs := fun j => Rp.v (.int (if i = j then (1 : Int) else 0))) (EvW.len (ew_range1 (ea_cons (ep_v rfl) ea_nil) (by omega) (by omega)) (by simp)) (small h2) (fun _ _ => inferInstance) (fun _ => rfl)
        (fun _ _ _ _ _ _ => et_yes) fun j y H3 hj e3 hy _ => ?_) ?_))
      · cases (show y = V.int j from hy)
        refine ep_if (b := decide ((i : Int) = (j : Int))) (et_eqI (ep_v rfl) (ep_v rfl)) (fun hb => ?_) fun hb => ?_
        · have e : i = j := by have := of_decide_eq_true hb; omega
          rw [if_pos e]; exact ep_c
        · have e : ¬ i = j := by have := of_decide_eq_false hb; omega
          rw [if_neg e]; exact ep_c
      · rw [kept_int]
    · rw [kept_all]
      show lstR _ = lstR (List.map tupI _)
      rw [List.map_map]
      refine congrArg lstR (List.map_congr_left fun i hi => ?_)
      show tupI _ = tupI (uni n i)
      rw [uni_range (List.mem_range.mp hi)]
theorem ok_told_hours (D : Dn K mg "told_hours" s_told_hours p_told_hours) (T : Txt mg) : Cl P w K mg base 1 "told_hours" spToldHours := by
  refine D.cal sc_told_hours (fun vs H Q E h => ?_) (fun f cdv A outer s H vs Q E hr h => ?_)
  · obtain ⟨_, ⟨_, _, _, _, rfl, _⟩, _⟩ := h
    rfl
  · obtain ⟨_, ⟨x, y, ns, c, rfl, hn, hc, hl, hz, hm, hz2, rfl⟩, k⟩ := h
    refine ⟨_, (pss_cons (ps_set (i := 2) sc_told_hours.nd rfl (Or.inl rfl) (pe_lst pa_nil))
      (pss_cons (ps_for PassesOwn.never rfl (pi_tup (pv 0)) (pg_tup rfl (pgs_cons (pg_name (i := 3) sc_told_hours.nd rfl (Or.inl rfl)) (pgs_cons (pg_name (i := 4) sc_told_hours.nd rfl (Or.inl rfl)) pgs_nil))) (pss_cons (ps_set (i := 5) sc_told_hours.nd rfl (Or.inl rfl) (pe_callB (kSum (K := K) rfl rfl) (by rfl) T.sum (by decide +kernel) (pa_cons (pe_lc (own := [("x", 6), ("hour", 7)]) (g := (gTup K 2 (gCons (gName 6) (gCons (gName 7) gNil)))) (tt := tYes) rfl sc_told_hours.nd (RZ.pi_zipA (by rfl) T.zip (pa_cons (pv 1) (pa_cons (pv 4) pa_nil))) (blkOk_by (N := n_told_hours) (sc := defScope s_told_hours) (by decide +kernel)) (fun _ _ _ _ _ => (pg_tup rfl (pgs_cons (pg_name (i := 6) sc_told_hours.nd rfl (Or.inl rfl)) (pgs_cons (pg_name (i := 7) sc_told_hours.nd rfl (Or.inl rfl)) pgs_nil)))) (fun _ _ _ _ _ => pts_nil) (fun _ _ _ _ _ => (pe_op op_mul (pv 6) (pv 7)))) pa_nil)))
      (pss_one (ps_expr (pe_bm PySem.F.plainAttrs_list PySem.F.slot_list_append PySem.F.type_list_append mt_append (pv 2) (pa_cons (pe_ifExp (pt_cmpR op_gt (pv 3) pe_int (nomark _)) (pe_op op_mod (pv 5) (pv 3)) (pv 5)) pa_nil))))))
      (pss_one (ps_ret (pe_callTy (kTupOf (K := K) rfl) (by rfl) T.tuple (by decide +kernel) (pa_cons (pv 2) pa_nil)))))), ?_⟩
    obtain ⟨a, xs, rfl, ha, pa⟩ := hn
    -- found = []
    refine ⟨Nat.zero_le _, fun l hl0 => ?_⟩
    -- for modulus, hours in value
    refine Evl.q_forT (a := a) (xs := xs) (Evl.ev_var rfl) (sqT_of (Ex.new hl0 a _ ha)) (fun i σ' H' => ∃ m h t, σ' = [some (.ref a), some y, some (.ref l), m, h, t, none, none] ∧ Ex H H' ∧ H' l = some (.lst ((ns.take i).map fun p => V.int (NL.hr p c))))
      (fun H1 e1 => ⟨none, none, none, rfl, (Ex.new hl0).trans e1, e1 l _ upd_same⟩) (fun i σ' H' _ ⟨_, _, _, _, e, _⟩ => sqT_of (e a _ ha)) ?_ ?_
    · rintro i v σ' H' hi ⟨m0, h0, t0, rfl, e, hL⟩
      obtain ⟨R, hR, pv⟩ := pa.get hi
      obtain ⟨p, hp, rfl⟩ := get_map hR
      obtain ⟨hpl, hp0⟩ := hl p (List.mem_of_getElem? hp)
      refine g_pair ((pairR p).up e pv) fun z hz' => ?_
      have hrow := (tupI c).up e hc
      -- total
      refine p_set (R := Rp.v (.int (dot c p.2))) (ep_sum ?_) fun v1 H1 e1 pv1 => ?_
      · rw [← zipWith_rp]
        refine ep_lcZM (g := fun x y => Rp.v (.int (x * y))) (ea_cons (ep_var rfl hrow) (ea_cons (ep_var rfl hz') ea_nil)) hpl.symm hz (fun _ _ => rfl) fun m n H2 e2 hmc => ep_I (f := fun i j => .int (i * j)) (ep_v rfl) (ep_v rfl) (.inl (hm m hmc))
      · cases (show v1 = V.int (dot c p.2) from pv1)
        refine l_app (e1 l _ hL) (Evl.ev_var rfl) (R := Rp.v (.int (NL.hr p c))) (ep_if (b := decide (0 < p.1)) (et_I0 (p := fun i j => decide (j < i)) (ep_v rfl) ep_c) (fun hb => ?_) fun hb => ?_) ?_ fun v2 H2 e2 pv2 => ?_
        · have hb' : 0 < p.1 := by simpa using hb
          refine EvP.cast (ep_I (f := fun i j => .int (i % j)) (ep_v rfl) (ep_v rfl) hb') ?_
          unfold NL.hr; rw [if_pos hb']
        · have hb' : ¬ 0 < p.1 := by simpa using hb
          refine EvP.cast (ep_v rfl) ?_
          unfold NL.hr; rw [if_neg hb']
        · simp; exact Nat.lt_of_le_of_lt (Nat.min_le_right _ _) (small hz2)
        · cases (show v2 = V.int (NL.hr p c) from pv2)
          refine ⟨_, _, _, rfl, Ex.mut ((e.trans e1).trans e2) hl0, ?_⟩
          rw [upd_same, List.take_add_one, hp]
          simp
    · rintro σ' H' ⟨m0, h0, t0, rfl, e, hL⟩
      have hlen : xs.length = ns.length := by rw [pa.length, List.length_map]
      rw [hlen, List.take_length] at hL
      refine p_ret (tupI_R (ep_tupleL (ep_var rfl ⟨l, _, rfl, hL, ?_⟩))) fun v H1 e1 p1 => k v H1 (e.trans e1) p1
      rw [allP_ints, List.map_map]; rfl
end
end NL
end
section
set_option linter.all false
set_option Elab.async false
set_option maxRecDepth 100000
namespace NL
open PySem PySem.Spec PyProof.Rows L2
open Evl (Ex Ev EvT)
open C8 (pe_c pe_mk pe_mt pe_gc)
def spPureLaw (g : List Int → List Int → Rp) : Sp := Pur fun vs H R => ∃ x y a b, vs = [x, y] ∧ (tupI a).p x H ∧ (tupI b).p y H ∧ a.length = b.length ∧ a.length ≤ 1000 ∧ R = g a b
section
variable {P : Program} {w : World} {K : PySem.W.Frag} {mg : Str → Option Value} {base : Heap}
/-- [f at x for at, x in enumerate(a)] -/
theorem ep_lcE {σ : L2.St} {H : Hp} {tl te : TE} {vs : List Nat} {j l : Nat} {a : List Int} {g : Nat → Int → Rp} [∀ i j, Stab (g i j)] (h : EvP tl σ H (tupI a)) (hz : a.length ≤ 1000) (wp : ∀ x y, wipe (((wipe σ vs).set j (some x)).set l (some y)) vs = wipe σ vs)
    (el : ∀ (i : Nat) (n : Int) H2, Ex H H2 → a[i]? = some n → EvP te (((wipe σ vs).set j (some (.int i))).set l (some (.int n))) H2 (g i n)) :
    EvP (tLc (iEnumT K (tCons tl tNil)) (gTup K 2 (gCons (gName j) (gCons (gName l) gNil))) tYes te vs) σ H (lstR ((List.range a.length).map fun i => g i (a.getD i 0))) := by
  refine EvP.cast (ep_lc2 (n := a.length) (f := fun _ => true) (Rs := fun i => g i (a.getD i 0)) (EvW.len (ew_enumT (Rs := a.map fun n => Rp.v (.int n)) (ea_cons (tupR_I h) ea_nil)) (by simp)) (small hz) (fun _ _ => inferInstance) wp
      (fun _ _ _ _ _ _ _ _ => et_yes) fun i u v H2 hi e hu hv _ => ?_) (by rw [kept_all])
  rw [IsI.get hv, show u = V.int i from hu]
  exact el i _ H2 e (by rw [List.getD_eq_getElem?_getD, List.getElem?_eq_getElem hi]; rfl)
theorem range_zip {α β : Type} (f : α → β → Rp) {g : α → β → Rp} {a : List α} {b : List β} (da : α) (db : β) (hl : a.length = b.length) (h : ∀ x y, f x y = g x y) : (List.range a.length).map (fun i => f (a.getD i da) (b.getD i db)) = List.zipWith g a b := by
  rw [← zipWith_range (f := g) da db hl]; exact List.map_congr_left fun i _ => h _ _
theorem get_lt {b : List Int} {i : Nat} (h : i < b.length) : b[i]? = some (b.getD i 0) := by
  rw [List.getD_eq_getElem?_getD, List.getElem?_eq_getElem h]; rfl
theorem lt_get {a : List Int} {i : Nat} {n : Int} (h : a[i]? = some n) : i < a.length := by
  rw [List.getElem?_eq_some_iff] at h; exact h.1
theorem ok_law_within (D : Dn K mg "_law_within" s__law_within p__law_within) (T : Txt mg) : Cl P w K mg base 1 "_law_within" spWithin := by
  refine D.cal sc__law_within (fun vs H Q E h => ?_) (fun f cdv A outer s H vs Q E hr h => ?_)
  · obtain ⟨_, ⟨_, _, _, _, rfl, _⟩, _⟩ := h
    rfl
  · obtain ⟨_, ⟨x, y, a, b, rfl, ha, hb, hl, hz, rfl⟩, k⟩ := h
    refine ⟨_, (pss_one (ps_ret (pe_callB (kAll (K := K) rfl rfl) (by rfl) T.all (by decide +kernel) (pa_cons (pe_lc (own := [("_law_at", 2), ("_law_x", 3)]) (g := (gTup K 2 (gCons (gName 2) (gCons (gName 3) gNil)))) (tt := tYes) rfl sc__law_within.nd (pi_enumT (by rfl) T.enumerate (pa_cons (pv 0) pa_nil)) (blkOk_by (N := n__law_within) (sc := defScope s__law_within) (by decide +kernel)) (fun _ _ _ _ _ => (pg_tup rfl (pgs_cons (pg_name (i := 2) sc__law_within.nd rfl (Or.inl rfl)) (pgs_cons (pg_name (i := 3) sc__law_within.nd rfl (Or.inl rfl)) pgs_nil)))) (fun _ _ _ _ _ => pts_nil) (fun _ _ _ _ _ => (pe_cmpR op_le (pv 3) (pe_ix (kIxT (K := K) rfl) (pv 1) (pv 2) (fun _ _ => rfl)) (nomark _)))) pa_nil)))), ?_⟩
    refine p_ret (ep_all (bs := List.zipWith (fun x y => decide (x ≤ y)) a b) ?_) k
    rw [← zipWith_rpB]
    refine EvP.cast (ep_lcE (g := fun i x => Rp.v (.bl (decide (x ≤ b.getD i 0)))) (ep_var rfl ha) hz (fun _ _ => rfl) fun i n H2 e hi => ep_I0 (f := fun i j => .bl (decide (i ≤ j))) (ep_v rfl) (ep_ixTI (ep_var rfl ((tupI b).up e hb)) (ep_v rfl) (get_lt (hl ▸ lt_get hi)))) ?_
    exact congrArg lstR (zipWith_range (f := fun x y => Rp.v (.bl (decide (x ≤ y)))) 0 0 hl)
theorem ok_law_less (D : Dn K mg "_law_less" s__law_less p__law_less) (T : Txt mg) : Cl P w K mg base 1 "_law_less" spLess := by
  refine D.cal sc__law_less (fun vs H Q E h => ?_) (fun f cdv A outer s H vs Q E hr h => ?_)
  · obtain ⟨_, ⟨_, _, _, _, rfl, _⟩, _⟩ := h
    rfl
  · obtain ⟨_, ⟨x, y, a, b, rfl, ha, hb, hl, hz, rfl⟩, k⟩ := h
    refine ⟨_, (pss_one (ps_ret (pe_callTy (kTupOf (K := K) rfl) (by rfl) T.tuple (by decide +kernel) (pa_cons (pe_lc (own := [("_law_at", 2), ("_law_x", 3)]) (g := (gTup K 2 (gCons (gName 2) (gCons (gName 3) gNil)))) (tt := tYes) rfl sc__law_less.nd (pi_enumT (by rfl) T.enumerate (pa_cons (pv 0) pa_nil)) (blkOk_by (N := n__law_less) (sc := defScope s__law_less) (by decide +kernel)) (fun _ _ _ _ _ => (pg_tup rfl (pgs_cons (pg_name (i := 2) sc__law_less.nd rfl (Or.inl rfl)) (pgs_cons (pg_name (i := 3) sc__law_less.nd rfl (Or.inl rfl)) pgs_nil)))) (fun _ _ _ _ _ => pts_nil) (fun _ _ _ _ _ => (pe_op op_sub (pv 3) (pe_ix (kIxT (K := K) rfl) (pv 1) (pv 2) (fun _ _ => rfl))))) pa_nil)))), ?_⟩
    refine p_ret (tupI_R (ep_tupleL ?_)) k
    unfold vsub
    rw [← zipWith_rp]
    refine EvP.cast (ep_lcE (g := fun i x => Rp.v (.int (x - b.getD i 0))) (ep_var rfl ha) hz (fun _ _ => rfl) fun i n H2 e hi => ep_I0 (f := fun i j => .int (i - j)) (ep_v rfl) (ep_ixTI (ep_var rfl ((tupI b).up e hb)) (ep_v rfl) (get_lt (hl ▸ lt_get hi)))) ?_
    exact congrArg lstR (zipWith_range (f := fun x y => Rp.v (.int (x - y))) 0 0 hl)
theorem ok_law_more (D : Dn K mg "_law_more" s__law_more p__law_more) (T : Txt mg) : Cl P w K mg base 1 "_law_more" spMore := by
  refine D.cal sc__law_more (fun vs H Q E h => ?_) (fun f cdv A outer s H vs Q E hr h => ?_)
  · obtain ⟨_, ⟨_, _, _, _, rfl, _⟩, _⟩ := h
    rfl
  · obtain ⟨_, ⟨x, y, a, b, rfl, ha, hb, hl, hz, rfl⟩, k⟩ := h
    refine ⟨_, (pss_one (ps_ret (pe_callTy (kTupOf (K := K) rfl) (by rfl) T.tuple (by decide +kernel) (pa_cons (pe_lc (own := [("_law_at", 2), ("_law_x", 3)]) (g := (gTup K 2 (gCons (gName 2) (gCons (gName 3) gNil)))) (tt := tYes) rfl sc__law_more.nd (pi_enumT (by rfl) T.enumerate (pa_cons (pv 0) pa_nil)) (blkOk_by (N := n__law_more) (sc := defScope s__law_more) (by decide +kernel)) (fun _ _ _ _ _ => (pg_tup rfl (pgs_cons (pg_name (i := 2) sc__law_more.nd rfl (Or.inl rfl)) (pgs_cons (pg_name (i := 3) sc__law_more.nd rfl (Or.inl rfl)) pgs_nil)))) (fun _ _ _ _ _ => pts_nil) (fun _ _ _ _ _ => (pe_op op_add (pv 3) (pe_ix (kIxT (K := K) rfl) (pv 1) (pv 2) (fun _ _ => rfl))))) pa_nil)))), ?_⟩
    refine p_ret (tupI_R (ep_tupleL ?_)) k
    unfold vadd
    rw [← zipWith_rp]
    refine EvP.cast (ep_lcE (g := fun i x => Rp.v (.int (x + b.getD i 0))) (ep_var rfl ha) hz (fun _ _ => rfl) fun i n H2 e hi => ep_I0 (f := fun i j => .int (i + j)) (ep_v rfl) (ep_ixTI (ep_var rfl ((tupI b).up e hb)) (ep_v rfl) (get_lt (hl ▸ lt_get hi)))) ?_
    exact congrArg lstR (zipWith_range (f := fun x y => Rp.v (.int (x + y))) 0 0 hl)
end
end NL
end
section
set_option linter.all false
set_option Elab.async false
set_option maxRecDepth 100000
namespace NL
open PySem PySem.Spec PyProof.Rows L2
open Evl (Ex Ev EvT)
open C8 (pe_c pe_mk pe_mt pe_gc)
section
variable {P : Program} {w : World} {K : PySem.W.Frag} {mg : Str → Option Value} {base : Heap}
theorem et_zv {vs : List Pr} {c : List Int} : True := trivial
theorem getR {α : Type} {ns : List α} {f : α → Rp} {i : Nat} {R : Rp} (h : (ns.map f)[i]? = some R) : ∃ x, ns[i]? = some x ∧ R = f x := by
  rw [List.getElem?_map] at h
  cases e : ns[i]? with
  | none => rw [e] at h; cases h
  | some x => rw [e] at h; exact ⟨x, rfl, (Option.some.inj h).symm⟩
theorem zip_dot (c h : List Int) (hl : c.length = h.length) : lstR ((List.range c.length).map fun i => Rp.v (.int (c.getD i 0 * h.getD i 0))) = lstR ((List.zipWith (· * ·) c h).map fun n => Rp.v (.int n)) := by
  rw [← zipWith_rp]
  exact congrArg lstR (zipWith_range (f := fun x y => Rp.v (.int (x * y))) 0 0 hl)
theorem hr_ne {p : Pr} {c : List Int} (h0 : 0 ≤ p.1) : (!decide (dot c p.2 = 0) && (decide (p.1 = 0) || (!decide (dot c p.2 % p.1 = 0)))) = !decide (NL.hr p c = 0) := by
  unfold NL.hr
  by_cases h : 0 < p.1
  · rw [if_pos h]
    have : ¬ p.1 = 0 := by omega
    by_cases hd : dot c p.2 = 0
    · simp [hd]
    · simp [hd, this]
  · have : p.1 = 0 := by omega
    rw [if_neg h]
    simp [this]
theorem ok_law_zero (D : Dn K mg "_law_zero" s__law_zero p__law_zero) (T : Txt mg) : Cl P w K mg base 1 "_law_zero" spZero := by
  refine D.cal sc__law_zero (fun vs H Q E h => ?_) (fun f cdv A outer s H vs Q E hr h => ?_)
  · obtain ⟨_, ⟨_, _, _, _, rfl, _⟩, _⟩ := h
    rfl
  · obtain ⟨_, ⟨x, y, ns, c, rfl, hn, hc, hl, hz, hm, rfl⟩, k⟩ := h
    refine ⟨_, (pss_cons (ps_for PassesOwn.never rfl (pi_tup (pv 0)) (pg_tup rfl (pgs_cons (pg_name (i := 2) sc__law_zero.nd rfl (Or.inl rfl)) (pgs_cons (pg_name (i := 3) sc__law_zero.nd rfl (Or.inr rfl)) pgs_nil))) (pss_cons (ps_set (i := 4) sc__law_zero.nd rfl (Or.inl rfl) (pe_callB (kSum (K := K) rfl rfl) (by rfl) T.sum (by decide +kernel) (pa_cons (pe_lc (own := [("_law_at", 5), ("_law_x", 6)]) (g := (gTup K 2 (gCons (gName 5) (gCons (gName 6) gNil)))) (tt := tYes) rfl sc__law_zero.nd (pi_enumT (by rfl) T.enumerate (pa_cons (pv 1) pa_nil)) (blkOk_by (N := n__law_zero) (sc := defScope s__law_zero) (by decide +kernel)) (fun _ _ _ _ _ => (pg_tup rfl (pgs_cons (pg_name (i := 5) sc__law_zero.nd rfl (Or.inl rfl)) (pgs_cons (pg_name (i := 6) sc__law_zero.nd rfl (Or.inl rfl)) pgs_nil)))) (fun _ _ _ _ _ => pts_nil) (fun _ _ _ _ _ => (pe_op op_mul (pv 6) (pe_ix (kIxT (K := K) rfl) (pv 3) (pv 5) (fun _ _ => rfl))))) pa_nil)))
      (pss_one (ps_if (PW.pt (pw_and (pt_cmpR op_ne (pv 4) pe_int (nomark _)) (pw_and1 (PW.pt (pw_or (pt_cmpR op_eq (pv 2) pe_int (nomark _)) (pw_or1 (pt_cmpR op_ne (pe_op op_mod (pe_callTy call_int1 (by rfl) T.int (by decide +kernel) (pa_cons (pv 4) pa_nil)) (pv 2)) pe_int (nomark _)))))))) (pss_one (ps_ret pe_bl)) pss_nil))))
      (pss_one (ps_ret pe_bl))), ?_⟩
    refine p_for (l_forT (Rs := ns.map pairR) (ep_var rfl hn) fun H1 e1 => ⟨{
      Pv := fun i σ' H' => (∃ a b d e f, σ' = [some x, some y, a, b, d, e, f]) ∧ Ex H1 H' ∧ zvB (ns.take i) c = true
      h0 := ⟨⟨_, _, _, _, _, rfl⟩, Ex.refl _, rfl⟩
      hk := fun i σ' H' _ p => Tk.of p.2.1
      hs := ?_
      hd := ?_ }⟩)
    · rintro i v σ' H' H'' hi ⟨⟨a, b, d, e, f, rfl⟩, e2, hz0⟩ e3 ⟨R, hR, pR⟩
      obtain ⟨p, hp, rfl⟩ := getR hR
      obtain ⟨hpl, hp0⟩ := hl p (List.mem_of_getElem? hp)
      refine g_pair ((pairR p).up (e2.trans e3) pR) fun z hz' => ?_
      have hrow := (tupI c).up ((e1.trans e2).trans e3) hc
      refine p_set (R := Rp.v (.int (dot c p.2))) (ep_sum ?_) fun v1 H2 e4 pv1 => ?_
      · refine EvP.cast (ep_lcE (g := fun i x => Rp.v (.int (x * p.2.getD i 0))) (ep_var rfl hrow) hz (fun _ _ => rfl) fun i n H2 e hi => ?_) (zip_dot c p.2 hpl.symm)
        exact ep_I (f := fun i j => .int (i * j)) (ep_v rfl) (ep_ixTI (ep_var rfl ((tupI p.2).up e hz')) (ep_v rfl) (get_lt (hpl ▸ lt_get hi))) (.inl (hm n (List.mem_of_getElem? hi)))
      · cases (show v1 = V.int (dot c p.2) from pv1)
        refine Evl.s_if (b := !decide (NL.hr p c = 0)) (Evl.et_is (Evl.et_and (et_neI (ep_v rfl) ep_c) fun _ => Evl.et_or (et_eqI (ep_v rfl) ep_c) fun h0 => et_neI (ep_I (f := fun i j => .int (i % j)) (ep_cb (ea_cons (ep_v rfl) ea_nil) ?_) (ep_v rfl) ?_) ep_c) (hr_ne hp0)) (fun hb H3 e5 => ?_) fun hb H3 e5 => ?_
        · intro vs H5 e6 p5
          match vs, p5 with
          | [u], p5 =>
            cases (show u = _ from p5.1)
            exact Gi.now (fun Q q => .inl ⟨_, rfl, q⟩) rfl
        · have := of_decide_eq_false h0
          show 0 < p.1
          omega
        · have hb' : ¬ NL.hr p c = 0 := by simpa using hb
          refine p_ret (ep_c (v := .bl false)) fun v H5 e6 p6 => k v H5 (((((e1.trans e2).trans e3).trans e4).trans e5).trans e6) ?_
          rw [show v = V.bl false from p6]
          have : zvB ns c = false := by
            cases hq : zvB ns c with
            | false => rfl
            | true => exact absurd (zvB_iff.mp hq p (List.mem_of_getElem? hp)) hb'
          rw [this]; rfl
        · have hb' : NL.hr p c = 0 := by simpa using hb
          refine ⟨⟨_, _, _, _, _, rfl⟩, ((e2.trans e3).trans e4).trans e5, ?_⟩
          rw [List.take_add_one, hp]
          unfold zvB at hz0 ⊢
          simp [hz0, hb']
    · rintro σ' H' ⟨⟨a, b, d, e, f, rfl⟩, e2, hz0⟩
      rw [List.length_map, List.take_length] at hz0
      refine p_ret (D := dE Q) (σ := []) (ep_c (v := .bl true)) fun v H5 e6 p6 => k v H5 ((e1.trans e2).trans e6) ?_
      rw [show v = V.bl true from p6, hz0]; rfl
end
end NL
end
section
set_option linter.all false
set_option Elab.async false
set_option maxRecDepth 100000
namespace NL
open PySem PySem.Spec PyProof.Rows L2
open Evl (Ex Ev EvT)
open C8 (pe_c pe_mk pe_mt pe_gc)
section
variable {P : Program} {w : World} {K : PySem.W.Frag} {mg : Str → Option Value} {base : Heap}
theorem isNumA_int {a : Any} (h : isNumA a = true) : ∃ i, a = .int i ∧ 0 ≤ i := by
  cases a <;> simp [isNumA] at h ⊢
  exact h
def isPre : Any → Bool
  | .tup [m, _] => isNumA m && (match m with | .int i => decide (i ≠ 1) | _ => false)
  | _ => false
def isPost (k : Nat) : Any → Bool
  | .tup [_, h] => (match h with | .tup l => decide (l.length = k) && l.all isIntA | _ => false)
  | _ => false
def firstNum : List Any → Bool
  | [m, _] => isNumA m
  | _ => true
def firstOne : List Any → Bool
  | [.int i, _] => decide (i = 1)
  | _ => false
theorem isPairA_eq (k : Nat) (a : Any) : isPairA k a = (isPre a && isPost k a) := by
  unfold isPairA isPre isPost
  split
  · rfl
  · rename_i h
    first
      | rfl
      | (split
         · rename_i m h'; exact absurd rfl (h m h')
         · rfl)
theorem isPre_two {a : Any} (h : isPre a = true) : ∃ m h', a = .tup [m, h'] := by
  unfold isPre at h
  split at h
  · exact ⟨_, _, rfl⟩
  · cases h
theorem all_ints {l : List Any} : (l.map isIntA).all id = l.all isIntA := by rw [List.all_map]; rfl
theorem ok_is_pair (D : Dn K mg "is_pair" s_is_pair p_is_pair) (T : Txt mg) (c_is_number : Cl P w K mg base 2 "is_number" spIsNumber) (c_is_integer : Cl P w K mg base 1 "is_integer" spIsInteger) : Cl P w K mg base 3 "is_pair" spIsPair := by
  refine D.cal sc_is_pair (fun vs H Q E h => ?_) (fun f cdv A outer s H vs Q E hr h => ?_)
  · obtain ⟨_, ⟨_, _, _, rfl, _⟩, _⟩ := h
    rfl
  · obtain ⟨_, ⟨n, x, a, rfl, ha, hl, rfl⟩, k⟩ := h
    refine ⟨_, (pss_cons (ps_if (PW.pt (pw_or (pt_not (pt_val (pe_callB (kIsi (K := K) rfl) (by rfl) T.isinstance (by decide +kernel) (pa_cons (pv 1) (pa_cons (pe_bltn (v := .ty "tuple") (by rfl) T.tuple (by decide +kernel) rfl) pa_nil))))) (pw_or (pt_cmpR op_ne (pe_callB (kLenS (K := K) rfl) (by rfl) T.len (by decide +kernel) (pa_cons (pv 1) pa_nil)) pe_int (nomark _)) (pw_or (pt_not (pt_val (pe_c c_is_number hr (by decide) rfl (pa_cons (pe_ix (kIxT (K := K) rfl) (pv 1) pe_int (fun _ _ => rfl)) pa_nil)))) (pw_or1 (pt_cmpR op_eq (pe_ix (kIxT (K := K) rfl) (pv 1) pe_int (fun _ _ => rfl)) pe_int (nomark _))))))) (pss_one (ps_ret pe_bl)) pss_nil)
      (pss_one (ps_ret (pe_and (pe_callB (kIsi (K := K) rfl) (by rfl) T.isinstance (by decide +kernel) (pa_cons (pe_ix (kIxT (K := K) rfl) (pv 1) pe_int (fun _ _ => rfl)) (pa_cons (pe_bltn (v := .ty "tuple") (by rfl) T.tuple (by decide +kernel) rfl) pa_nil))) (pe_and (pe_cmpR op_eq (pe_callB (kLenS (K := K) rfl) (by rfl) T.len (by decide +kernel) (pa_cons (pe_ix (kIxT (K := K) rfl) (pv 1) pe_int (fun _ _ => rfl)) pa_nil)) (pv 0) (nomark _)) (pe_one (pe_callB (kAll (K := K) rfl rfl) (by rfl) T.all (by decide +kernel) (pa_cons (pe_lc (own := [("x", 2)]) (g := (gName 2)) (tt := tYes) rfl sc_is_pair.nd (pi_tup (pe_ix (kIxT (K := K) rfl) (pv 1) pe_int (fun _ _ => rfl))) (blkOk_by (N := n_is_pair) (sc := defScope s_is_pair) (by decide +kernel)) (fun _ _ _ _ _ => (pg_name (i := 2) sc_is_pair.nd rfl (Or.inl rfl))) (fun _ _ _ _ _ => pts_nil) (fun _ _ _ _ _ => (pe_c c_is_integer hr (by decide) rfl (pa_cons (pv 2) pa_nil)))) pa_nil)))))))), ?_⟩
    refine p_when (b := !isPre a) ?_ (fun hb H1 e1 => ?_) fun hb H1 e1 => ?_
    · have h1 : EvT (tNot (tTest (tCB (rIsi K) (tCons (tVar 1) (tCons (tC (.ty "tuple")) tNil))))) (start n_is_pair [.int n, x]) H (!isT "tuple" a.ty) := Evl.et_not (et_ep (ep_isi (ep_var rfl ha)))
      cases a with
      | tup l =>
        rw [anyR_tup] at ha
        refine Evl.et_is (b := !isPre (.tup l)) (Evl.et_or h1 fun _ => Evl.et_or (et_neI (ep_lenT (ep_var rfl ha)) ep_c) fun hlen => Evl.et_or (a := !firstNum l) (b := firstOne l) ?_ fun hn => ?_) ?_
        · have h2 : l.length = 2 := by simp at hlen; omega
          match l, h2 with
          | [m, h'], _ =>
            refine Evl.et_not (et_ep (ep_pur (Rs := [anyR m]) (ea_cons (ep_ixT (i := 0) (ep_var rfl ha) ep_c rfl) ea_nil) fun vs H1 _ p => ?_))
            match vs, p with
            | [y], p => exact ⟨y, m, rfl, p.1, rfl⟩
        · have h2 : l.length = 2 := by simp at hlen; omega
          match l, h2 with
          | [m, h'], _ =>
            have hn' : isNumA m = true := by simpa [firstNum] using hn
            obtain ⟨i, rfl, _⟩ := isNumA_int hn'
            refine et_eqI (i := i) (ep_ixT (i := 0) (ep_var rfl ha) ep_c ?_) ep_c
            simp [anyR]
        · match l with
          | [] => simp [isT, Any.ty, isPre]
          | [m] => simp [isT, Any.ty, isPre]
          | [m, h'] => cases m <;> simp [isT, Any.ty, isPre, isNumA, firstNum, firstOne]
          | _ :: _ :: _ :: _ => simp [isT, Any.ty, isPre]; omega
      | _ => exact Evl.et_is (Evl.et_or (b := false) h1 fun hz => by simp [isT, Any.ty] at hz) (by rfl)
    · have hb' : isPre a = false := by simpa using hb
      refine p_ret (D := dE Q) (σ := []) (ep_c (v := .bl false)) fun v H2 e2 p => k v H2 (e1.trans e2) ?_
      rw [show v = V.bl false from p, isPairA_eq, hb']; rfl
    · have hb' : isPre a = true := by simpa using hb
      obtain ⟨m, h', rfl⟩ := isPre_two hb'
      have ha1 := (anyR _).up e1 ha
      rw [anyR_tup] at ha1
      have hix : EvP (tOp (rIxT K) (tVar 1) (tC (.int 1))) (start n_is_pair [.int n, x]) H1 (anyR h') := ep_ixT (i := 1) (ep_var rfl ha1) ep_c rfl
      have h1 := ep_isi (K := K) (n := "tuple") hix
      refine p_ret (D := dE Q) (EvP.cast (R' := Rp.v (.bl (isPost n (.tup [m, h'])))) ?_ rfl) fun v H2 e2 p => k v H2 (e1.trans e2) (by rw [show v = V.bl _ from p, isPairA_eq, hb', Bool.true_and]; rfl)
      cases h' with
      | tup l =>
        have hix' := hix
        rw [anyR_tup] at hix'
        refine EvP.cast (ep_and h1 fun _ => ep_and (b := decide (l.length = n)) (EvP.cast (ep_eqI (ep_lenT hix') (ep_v rfl)) ?_) fun _ => ep_all (bs := l.map isIntA) ?_) ?_
        · rw [List.length_map]; congr 2; simp; omega
        · refine EvP.cast (ep_lc1 (n := l.length) (f := fun _ => true) (Rs := fun i => Rp.v (.bl (isIntA (l.getD i .non)))) (EvW.len (ew_tup hix') (by simp)) (small (hl m l rfl)) (fun _ _ => inferInstance) (fun _ => rfl)
            (fun _ _ _ _ _ _ => et_yes) fun i y H2 hi e hy _ => ?_) ?_
          · obtain ⟨R, hR, pR⟩ := hy
            obtain ⟨b, hb, rfl⟩ := getR hR
            rw [getD_of hb]
            refine ep_pur (Rs := [anyR b]) (ea_cons (ep_var rfl pR) ea_nil) fun vs H1 _ p => ?_
            match vs, p with
            | [y], p => exact ⟨y, b, rfl, p.1, rfl⟩
          · rw [kept_bl]
            congr 2
            exact List.ext_getElem (by simp) fun i h1 h2 => by simp at h1; simp [List.getD_eq_getElem?_getD, h1]
        · rw [all_ints]; rfl
      | _ => exact EvP.cast (ep_and (c := false) h1 fun hz => by simp [isT, Any.ty] at hz) (by rfl)
theorem ok_is_batch (D : Dn K mg "is_batch" s_is_batch p_is_batch) (T : Txt mg) (c_is_number : Cl P w K mg base 2 "is_number" spIsNumber) : Cl P w K mg base 3 "is_batch" spIsBatch := by
  refine D.cal sc_is_batch (fun vs H Q E h => ?_) (fun f cdv A outer s H vs Q E hr h => ?_)
  · obtain ⟨_, ⟨_, _, _, rfl, _⟩, _⟩ := h
    rfl
  · obtain ⟨_, ⟨n, x, c, rfl, hc, hd, hn, rfl⟩, k⟩ := h
    refine ⟨_, (pss_cons (ps_if (PW.pt (pw_or (pt_not (pt_val (pe_callB (kIsi (K := K) rfl) (by rfl) T.isinstance (by decide +kernel) (pa_cons (pv 1) (pa_cons (pe_bltn (v := .ty "tuple") (by rfl) T.tuple (by decide +kernel) rfl) pa_nil))))) (pw_or (pt_cmpR op_ne (pe_callB (kLenS (K := K) rfl) (by rfl) T.len (by decide +kernel) (pa_cons (pv 1) pa_nil)) (pv 0) (nomark _)) (pw_or1 (pt_not (pt_val (pe_callB (kAll (K := K) rfl rfl) (by rfl) T.all (by decide +kernel) (pa_cons (pe_lc (own := [("x", 2)]) (g := (gName 2)) (tt := tYes) rfl sc_is_batch.nd (pi_tup (pv 1)) (blkOk_by (N := n_is_batch) (sc := defScope s_is_batch) (by decide +kernel)) (fun _ _ _ _ _ => (pg_name (i := 2) sc_is_batch.nd rfl (Or.inl rfl))) (fun _ _ _ _ _ => pts_nil) (fun _ _ _ _ _ => (pe_c c_is_number hr (by decide) rfl (pa_cons (pv 2) pa_nil)))) pa_nil)))))))) (pss_one (ps_ret pe_bl)) pss_nil)
      (pss_one (ps_ret (pe_cmpR op_gt (pe_callB (cr_sumT rfl) (by rfl) T.sum (by decide +kernel) (pa_cons (pv 1) pa_nil)) pe_int (nomark _))))), ?_⟩
    have hv : EvP (tVar 1) (start n_is_batch [.int n, x]) H (tupI c) := ep_var rfl hc
    refine p_when (b := false) ?_ (fun hb => by cases hb) fun _ H1 e1 => ?_
    · refine Evl.et_is (Evl.et_or (a := false) (Evl.et_is (Evl.et_not (et_ep (ep_isi (a := .tup (c.map Any.int)) (n := "tuple") (ep_var rfl ((anyR_ints c).mpr hc))))) rfl) fun _ => Evl.et_or (a := false) (b := false) (Evl.et_is (et_neI (ep_lenT (tupR_I hv)) (ep_v rfl)) ?_) fun _ => Evl.et_is (Evl.et_not (et_ep (ep_all (bs := c.map fun _ => true) ?_))) ?_) rfl
      · rw [List.length_map, hd.1]; simp
      · refine EvP.cast (ep_lc1 (n := c.length) (f := fun _ => true) (Rs := fun i => Rp.v (.bl true)) (EvW.len (ew_tupI hv) rfl) (small (hd.1 ▸ hn)) (fun _ _ => inferInstance) (fun _ => rfl)
          (fun _ _ _ _ _ _ => et_yes) fun i y H2 hi e hy _ => ?_) ?_
        · obtain ⟨m, hm, rfl⟩ := hy
          refine (ep_pur (Rs := [anyR (.int m)]) (ea_cons (ep_var rfl (by simp only [anyR]; rfl)) ea_nil) fun vs H1 _ p => ?_)
          match vs, p with
          | [y], p => exact ⟨y, .int m, rfl, p.1, by rw [show isNumA (.int m) = true from decide_eq_true (hd.2 m (List.mem_of_getElem? hm))]⟩
        · rw [kept_all]
          exact congrArg lstR (List.ext_getElem (by simp) fun i h1 h2 => by simp)
      · simp
    · refine p_ret (D := dE Q) (ep_I0 (f := fun i j => .bl (decide (j < i))) (ep_sumT (hv.mono e1)) ep_c) fun v H2 e2 p => k v H2 (e1.trans e2) p
end
end NL
end
section
set_option linter.all false
set_option Elab.async false
set_option maxRecDepth 100000
namespace NL
open PySem PySem.Spec PyProof.Rows L2
open Evl (Ex Ev EvT)
open C8 (pe_c pe_mk pe_mt pe_gc)
abbrev s_least_sums_by : Stmt := top 33
abbrev n_least_sums_by : List Str := ["kinds", "pieces", "pair", "found", "states", "size", "top", "hours", "crowd", "hour", "piece", "step", "larger", "one"]
abbrev p_least_sums_by : List Str := ["kinds", "pieces", "pair"]
theorem sc_least_sums_by : FnScope n_least_sums_by p_least_sums_by (defScope s_least_sums_by) := ⟨rfl, rfl, rfl, by decide +kernel, rfl, by decide +kernel, by decide +kernel⟩
section
variable {P : Program} {w : World} {K : PySem.W.Frag} {mg : Str → Option Value} {base : Heap}
/-- all that told_book's search is told -/
structure LArg (k : Nat) (S : List Int → Prop) (p : Pr) (B : Nat) (ps : List (List Int)) : Prop where
  k1 : 1 ≤ k
  k4 : k ≤ 4
  ker : Ker k S
  p0 : 0 ≤ p.1
  pk : p.2.length = k
  sm : p.1 = 0 → Small p.2
  le : B ≤ 100
  pow : (B + 1) ^ k ≤ 1100000
  gr : GrBound k S p B
  nd : ps.Nodup
  mem : ∀ x, x ∈ ps ↔ Mn k S x
theorem med_of {k : Nat} {c : List Int} (h : Dom k c) (hb : c.sum ≤ 1000000) : Med c := fun x hx => by
  have h1 := h.2 x hx
  have h2 := mem_le_sum h hx
  exact ⟨by omega, by omega⟩
theorem LArg.dom {k : Nat} {S : List Int → Prop} {p : Pr} {B : Nat} {ps : List (List Int)} (h : LArg k S p B ps) {c : List Int} (g : ∃ hs, GR k S p (okStep p) hs c) : Dom k c ∧ S c ∧ c.sum ≤ B := by
  obtain ⟨hs, g⟩ := g
  exact ⟨(g.dom h.ker).1, (g.dom h.ker).2, h.gr hs c g⟩
theorem LArg.piece {k : Nat} {S : List Int → Prop} {p : Pr} {B : Nat} {ps : List (List Int)} (h : LArg k S p B ps) {q : List Int} (hq : q ∈ ps) : Dom k q ∧ q.sum ≤ B ∧ Mn k S q := by
  have m := (h.mem q).mp hq
  have g : GR k S p (okStep p) _ (vadd (zeros k) q) := GR.step .zero (fun d hd _ pd ld => by
    have := vle_sum hd.1 (dom_zeros k).1 ld
    rw [sum_zeros] at this
    omega) m (by
      unfold okStep
      rw [hr_zeros]
      exact .inr (by omega))
  rw [zeros_vadd m.1.1] at g
  exact ⟨m.1, h.gr _ _ g, m⟩
theorem StP.small {H0 H : Hp} {ds : Addr} {A : List Int → Prop} {E : List Ent} {k B : Nat} (h : StP H0 H ds A E) (hB : B ≤ 100) (hp : (B + 1) ^ k ≤ 1100000) (hA : ∀ c, A c → Dom k c ∧ c.sum ≤ B) : E.length < sizeLine ∧ ∀ e ∈ E, e.2.2.length < sizeLine := by
  have hs := sizeLine_eq
  refine ⟨?_, fun e he => ?_⟩
  · have := nodup_range (B + 1) 0 (E.map (·.1)) h.nd fun i hi => by
      obtain ⟨e, he, rfl⟩ := List.mem_map.mp hi
      obtain ⟨_, _, h3, _, h5⟩ := h.ent e he
      obtain ⟨c, r, ec⟩ := List.exists_cons_of_ne_nil h3
      obtain ⟨ac, sc⟩ := (h5 c).mp (by rw [ec]; exact List.mem_cons_self ..)
      obtain ⟨d, b⟩ := hA c ac
      have := d.sum_nonneg
      constructor
      · omega
      · push_cast; omega
    rw [List.length_map] at this
    omega
  · obtain ⟨_, _, _, h4, h5⟩ := h.ent e he
    have := count_le (k := k) (n := B) h4 fun c hc => hA c ((h5 c).mp hc).1
    omega
def spLeastBy : Sp := fun vs H Q _ => ∃ (k : Nat) (S : List Int → Prop) (p : Pr) (B : Nat) (ps : List (List Int)) (x y : V), vs = [.int k, x, y] ∧ (lstT ps).p x H ∧ (pairR p).p y H ∧ LArg k S p B ps ∧
  ∀ v H' F, Ex H H' → (lstT F).p v H' → F.Nodup → (∀ x, x ∈ F ↔ Mn k (Tp S p) x) → Q v H'
section
variable {σ : L2.St} {H : Hp}
/-- told_hours((pair,), crowd)[0] -/
theorem ep_told {tp tc : TE} {p : Pr} {c : List Int} {E : XK} (hp : EvP tp σ H (pairR p)) (hc : EvP tc σ H (tupI c)) (hk : p.2.length = c.length) (p0 : 0 ≤ p.1) (hl : c.length ≤ 1000) (hm : Med c) :
    EvP (tOp (rIxT K) (tCall spToldHours [] E (tCons (tTup (tCons tp tNil)) (tCons tc tNil))) (tC (.int 0))) σ H (Rp.v (.int (NL.hr p c))) := by
  refine ep_ixTI (ns := [NL.hr p c]) (i := 0) (ep_pur (ea_cons (ep_tup (ea_cons hp ea_nil) (by simp)) (ea_cons hc ea_nil)) fun vs H1 _ q => ?_) ep_c rfl
  match vs, q with
  | [u, v], q => exact ⟨u, v, [p], c, rfl, q.1, q.2.1, fun r hr => by rw [List.mem_singleton.mp hr]; exact ⟨hk, p0⟩, hl, hm, by simp, rfl⟩
theorem ep_within {ta tb : TE} {a b : List Int} {E : XK} (ha : EvP ta σ H (tupI a)) (hb : EvP tb σ H (tupI b)) (hl : a.length = b.length) (hz : a.length ≤ 1000) : EvP (tCall spWithin [] E (tCons ta (tCons tb tNil))) σ H (Rp.v (.bl (vle a b))) :=
  ep_pur (ea_cons ha (ea_cons hb ea_nil)) fun vs H1 _ q => by
    match vs, q with
    | [u, v], q => exact ⟨u, v, a, b, rfl, q.1, q.2.1, hl, hz, rfl⟩
theorem ep_more {ta tb : TE} {a b : List Int} {E : XK} (ha : EvP ta σ H (tupI a)) (hb : EvP tb σ H (tupI b)) (hl : a.length = b.length) (hz : a.length ≤ 1000) : EvP (tCall spMore [] E (tCons ta (tCons tb tNil))) σ H (tupI (vadd a b)) :=
  ep_pur (ea_cons ha (ea_cons hb ea_nil)) fun vs H1 _ q => by
    match vs, q with
    | [u, v], q => exact ⟨u, v, a, b, rfl, q.1, q.2.1, hl, hz, rfl⟩
theorem ep_less {ta tb : TE} {a b : List Int} {E : XK} (ha : EvP ta σ H (tupI a)) (hb : EvP tb σ H (tupI b)) (hl : a.length = b.length) (hz : a.length ≤ 1000) : EvP (tCall spLess [] E (tCons ta (tCons tb tNil))) σ H (tupI (vsub a b)) :=
  ep_pur (ea_cons ha (ea_cons hb ea_nil)) fun vs H1 _ q => by
    match vs, q with
    | [u, v], q => exact ⟨u, v, a, b, rfl, q.1, q.2.1, hl, hz, rfl⟩
theorem ep_nobody {ta : TE} {n : Nat} {E : XK} (ha : EvP ta σ H (Rp.v (.int n))) (h1 : 1 ≤ n) (h2 : n ≤ 1000) : EvP (tCall spNobody [] E (tCons ta tNil)) σ H (tupI (zeros n)) :=
  ep_pur (ea_cons ha ea_nil) fun vs H1 _ q => by
    match vs, q with
    | [u], q => exact ⟨n, by rw [show u = V.int n from q.1], h1, h2, rfl⟩
/-- any([within(one, crowd) for one in found]) -/
theorem ep_anyIn {tl tc : TE} {F : List (List Int)} {c : List Int} {j : Nat} {vs : List Nat} {E : XK} (hl : EvP tl σ H (lstT F)) (hF : F.length ≤ 16000000) (hd : ∀ f ∈ F, f.length = c.length) (hz : c.length ≤ 1000) (wp : ∀ x, wipe ((wipe σ vs).set j (some x)) vs = wipe σ vs)
    (hj : ∀ x, ((wipe σ vs).set j (some x))[j]? = some (some x)) (hc : ∀ x H1, Ex H H1 → EvP tc ((wipe σ vs).set j (some x)) H1 (tupI c)) :
    EvP (tCB (rAny K) (tCons (tLc (iList K tl) (gName j) tYes (tCall spWithin [] E (tCons (tVar j) (tCons tc tNil))) vs) tNil)) σ H (Rp.v (.bl (F.any fun f => vle f c))) := by
  refine EvP.cast (ep_any (bs := F.map fun f => vle f c) ?_) (by rw [List.any_map]; rfl)
  refine EvP.cast (ep_lc1 (n := F.length) (f := fun _ => true) (Rs := fun i => Rp.v (.bl (vle (F.getD i []) c))) (EvW.len (ew_lst hl) (by simp)) (by rw [sizeLine_eq]; omega) (fun _ _ => inferInstance) wp
      (fun _ _ _ _ _ _ => et_yes) fun i y H2 hi e hy _ => ?_) ?_
  · obtain ⟨R, hR, pR⟩ := hy
    obtain ⟨f, hf, rfl⟩ := getR hR
    rw [getD_of hf]
    have hm := List.mem_of_getElem? hf
    exact ep_within (ep_var (hj y) pR) (hc y H2 e) (hd f hm) (by rw [hd f hm]; exact hz)
  · rw [kept_bl]
    exact congrArg lstR (congrArg _ (List.ext_getElem (by simp) fun i h1 h2 => by simp at h1; simp [List.getD_eq_getElem?_getD, h1]))
end
/-- the crowds that the turn has made -/
def Upto (A : List Int → Prop) (p : Pr) (ps : List (List Int)) (c : List Int) (j : Nat) : List Int → Prop := fun x => A x ∨ ∃ i q, i < j ∧ ps[i]? = some q ∧ okStep p (NL.hr p c) (NL.hr p q) ∧ x = vadd c q
theorem upto_zero {A : List Int → Prop} {p : Pr} {ps : List (List Int)} {c x : List Int} : Upto A p ps c 0 x ↔ A x := ⟨fun h => h.elim id fun ⟨_, _, h, _⟩ => absurd h (Nat.not_lt_zero _), .inl⟩
theorem upto_succ {A : List Int → Prop} {p : Pr} {ps : List (List Int)} {c x q : List Int} {j : Nat} (hq : ps[j]? = some q) : Upto A p ps c (j + 1) x ↔ Upto A p ps c j x ∨ (okStep p (NL.hr p c) (NL.hr p q) ∧ x = vadd c q) := by
  constructor
  · rintro (h | ⟨i, r, hi, hr', ok, e⟩)
    · exact .inl (.inl h)
    · by_cases hij : i = j
      · subst hij
        rw [hq] at hr'
        cases hr'
        exact .inr ⟨ok, e⟩
      · exact .inl (.inr ⟨i, r, by omega, hr', ok, e⟩)
  · rintro ((h | ⟨i, r, hi, hr', ok, e⟩) | ⟨ok, e⟩)
    · exact .inl h
    · exact .inr ⟨i, r, by omega, hr', ok, e⟩
    · exact .inr ⟨j, q, Nat.lt_succ_self _, hq, ok, e⟩
/-- what stands in every state of the search -/
structure Srch (H0 H : Hp) (ds l lh : Addr) (hs : List Int) (A : List Int → Prop) (F : List (List Int)) (top : Int) (B : Nat) : Prop where
  ex : Ex H0 H
  l0 : H0 l = none
  lne : lh ≠ l
  st : ∃ E, StP H0 H ds A E
  fl : ∃ fs, H l = some (.lst fs) ∧ AllP fs (F.map tupI) H
  hl : H lh = some (.lst (hs.map V.int))
  top_ : ∀ c, A c → c.sum ≤ top
  topB : top ≤ B
theorem Srch.up {H0 H H' : Hp} {ds l lh : Addr} {hs : List Int} {A : List Int → Prop} {F : List (List Int)} {top : Int} {B : Nat} (h : Srch H0 H ds l lh hs A F top B) (e : Ex H H') : Srch H0 H' ds l lh hs A F top B :=
  ⟨h.ex.trans e, h.l0, h.lne, let ⟨E, s⟩ := h.st; ⟨E, s.ex e⟩, let ⟨fs, a, b⟩ := h.fl; ⟨fs, e _ _ a, b.up e⟩, e _ _ h.hl, h.top_, h.topB⟩
theorem Srch.congr {H0 H : Hp} {ds l lh : Addr} {hs : List Int} {A A' : List Int → Prop} {F : List (List Int)} {top : Int} {B : Nat} (h : Srch H0 H ds l lh hs A F top B) (e : ∀ c, A c ↔ A' c) : Srch H0 H ds l lh hs A' F top B := by
  have : A = A' := funext fun c => propext (e c)
  exact this ▸ h
end
end NL
end
section
set_option linter.all false
set_option Elab.async false
set_option maxRecDepth 100000
namespace NL
open PySem PySem.Spec PyProof.Rows L2
open Evl (Ex Ev EvT)
open C8 (pe_c pe_mk pe_mt pe_gc)
section
variable {P : Program} {w : World} {K : PySem.W.Frag} {mg : Str → Option Value} {base : Heap}
theorem ok_least (D : Dn K mg "least_sums_by" s_least_sums_by p_least_sums_by) (T : Txt mg) (c_nobody : Cl P w K mg base 1 "nobody" spNobody) (c_within : Cl P w K mg base 1 "within" spWithin) (c_more : Cl P w K mg base 1 "more" spMore) (c_told_hours : Cl P w K mg base 1 "told_hours" spToldHours) : Cl P w K mg base 2 "least_sums_by" spLeastBy := by
  refine D.cal sc_least_sums_by (fun vs H Q E h => ?_) (fun f cdv A outer s H vs Q E hr h => ?_)
  · obtain ⟨_, _, _, _, _, _, _, rfl, _⟩ := h
    rfl
  · obtain ⟨n, S, p, B, ps, x, y, rfl, hx, hy, LA, k⟩ := h
    refine ⟨_, (pss_cons (ps_asg (pe_tup (pa_cons (pe_lst pa_nil) (pa_cons (pe_disp (pps_cons pe_int (pe_dispT hr.units (pe_c c_nobody hr (by decide) rfl (pa_cons (pv 0) pa_nil)) pe_bl) pps_nil) (by rfl) (by rfl) (fun z => by cases z) (by decide)) (pa_cons pe_int (pa_cons pe_int pa_nil))))) (pg_tup rfl (pgs_cons (pg_name (i := 3) sc_least_sums_by.nd rfl (Or.inl rfl)) (pgs_cons (pg_name (i := 4) sc_least_sums_by.nd rfl (Or.inl rfl)) (pgs_cons (pg_name (i := 5) sc_least_sums_by.nd rfl (Or.inl rfl)) (pgs_cons (pg_name (i := 6) sc_least_sums_by.nd rfl (Or.inl rfl)) pgs_nil))))))
      (pss_cons (ps_setLc (i := 7) (own := [("piece", 10)]) (g := (gName 10)) (tt := tYes) rfl sc_least_sums_by.nd rfl rfl (sw_true rfl rfl rfl (by decide +kernel)) (pi_list (pv 1)) (blkOk_by (N := n_least_sums_by) (sc := defScope s_least_sums_by) (by decide +kernel)) (fun _ _ _ _ _ => (pg_name (i := 10) sc_least_sums_by.nd rfl (Or.inl rfl))) (fun _ _ _ _ _ => pts_nil) (fun _ _ _ _ _ => (pe_ix (kIxT (K := K) rfl) (pe_c c_told_hours hr (by decide) rfl (pa_cons (pe_tup (pa_cons (pv 2) pa_nil)) (pa_cons (pv 10) pa_nil))) pe_int (fun _ _ => rfl))))
      (pss_cons (ps_while PassesOwn.never (pt_cmpR op_le (pv 5) (pv 6) (nomark _)) (pss_cons (ps_for PassesOwn.never rfl (pi_list (pe_callB (cr_sortedD rfl hr.units) (by rfl) T.sorted (by decide +kernel) (pa_cons (pe_dget2 (u1 hr.units) (pv 4) (pv 5) pe_dnewT ⟨rfl, rfl, rfl, rfl⟩) pa_nil))) (pg_name (i := 8) sc_least_sums_by.nd rfl (Or.inr rfl)) (pss_cons (ps_if (pt_val (pe_callB (kAny (K := K) rfl rfl) (by rfl) T.any (by decide +kernel) (pa_cons (pe_lc (own := [("one", 13)]) (g := (gName 13)) (tt := tYes) rfl sc_least_sums_by.nd (pi_list (pv 3)) (blkOk_by (N := n_least_sums_by) (sc := defScope s_least_sums_by) (by decide +kernel)) (fun _ _ _ _ _ => (pg_name (i := 13) sc_least_sums_by.nd rfl (Or.inl rfl))) (fun _ _ _ _ _ => pts_nil) (fun _ _ _ _ _ => (pe_c c_within hr (by decide) rfl (pa_cons (pv 13) (pa_cons (pv 8) pa_nil))))) pa_nil))) (pss_one ps_continue) pss_nil)
      (pss_cons (ps_set (i := 9) sc_least_sums_by.nd rfl (Or.inl rfl) (pe_ix (kIxT (K := K) rfl) (pe_c c_told_hours hr (by decide) rfl (pa_cons (pe_tup (pa_cons (pv 2) pa_nil)) (pa_cons (pv 8) pa_nil))) pe_int (fun _ _ => rfl)))
      (pss_cons (ps_if (PW.pt (pw_and (pt_cmpR op_eq (pv 9) pe_int (nomark _)) (pw_and1 (pt_cmpR op_gt (pv 5) pe_int (nomark _))))) (pss_cons (ps_expr (pe_bm PySem.F.plainAttrs_list PySem.F.slot_list_append PySem.F.type_list_append mt_append (pv 3) (pa_cons (pv 8) pa_nil)))
      (pss_one ps_continue)) pss_nil)
      (pss_one (ps_for PassesOwn.never rfl (RZ.pi_zipA (by rfl) T.zip (pa_cons (pv 1) (pa_cons (pv 7) pa_nil))) (pg_tup rfl (pgs_cons (pg_name (i := 10) sc_least_sums_by.nd rfl (Or.inl rfl)) (pgs_cons (pg_name (i := 11) sc_least_sums_by.nd rfl (Or.inl rfl)) pgs_nil))) (pss_one (ps_if (PW.pt (pw_or (pt_cmpR op_gt (pe_ix (kIxT (K := K) rfl) (pv 2) pe_int (fun _ _ => rfl)) pe_int (nomark _)) (pw_or1 (pt_cmpR op_le (pe_op op_mul (pv 9) (pv 11)) pe_int (nomark _))))) (pss_cons (ps_set (i := 12) sc_least_sums_by.nd rfl (Or.inl rfl) (pe_c c_more hr (by decide) rfl (pa_cons (pv 8) (pa_cons (pv 10) pa_nil))))
      (pss_cons (ps_dput (u1 hr.units) (pe_dsetd (pv 4) (pe_callB (cr_sumT rfl) (by rfl) T.sum (by decide +kernel) (pa_cons (pv 12) pa_nil)) pe_dnewT ⟨rfl, rfl, rfl, rfl⟩) (pv 12) pe_bl rfl)
      (pss_one (ps_set (i := 6) sc_least_sums_by.nd rfl (Or.inl rfl) (pe_callB (call_max2 rfl) (by rfl) T.max (by decide +kernel) (pa_cons (pv 6) (pa_cons (pe_callB (cr_sumT rfl) (by rfl) T.sum (by decide +kernel) (pa_cons (pv 12) pa_nil)) pa_nil))))))) pss_nil))))))))
      (pss_one (ps_aug (i := 5) sc_least_sums_by.nd rfl (.inl rfl) pe_int ip_add))))
      (pss_one (ps_ret (pv 3)))))), ?_⟩
    have n1 := LA.k1
    have n4 := LA.k4
    have hB := LA.le
    -- found, states, size, top = [], {0: {nobody(kinds): True}}, 0, 0
    refine ⟨Nat.zero_le _, fun l hl ds hds d hd => ?_⟩
    have n_ds_l : ds ≠ l := fun z => by rw [z, upd_same] at hds; cases hds
    have n_d_ds : d ≠ ds := fun z => by rw [z, upd_same] at hd; cases hd
    have hd1 : (upd H l (.lst [])) d = none := by rw [upd_ne n_d_ds] at hd; exact hd
    have n_d_l : d ≠ l := fun z => by rw [z, upd_same] at hd1; cases hd1
    have hd0 : H d = none := by rw [upd_ne n_d_l] at hd1; exact hd1
    have hds0 : H ds = none := by rw [upd_ne n_ds_l] at hds; exact hds
    refine ep_nobody (ep_v rfl) n1 (by omega) _ (Ex.refl _) _ fun v H1 e1 pv => ?_
    obtain ⟨b, rfl, hb⟩ := pv
    have h1l : H1 l = some (.lst []) := e1 _ _ (by rw [upd_ne (Ne.symm n_d_l), upd_ne (Ne.symm n_ds_l), upd_same])
    have h1ds : H1 ds = some (.dK []) := e1 _ _ (by rw [upd_ne (Ne.symm n_d_ds), upd_same])
    have h1d : H1 d = some (.dT []) := e1 _ _ (by rw [upd_same])
    refine ⟨h1d, b, keyI (zeros n), rfl, by rw [kV_keyI]; exact hb, ?_⟩
    refine ⟨by rw [upd_ne (Ne.symm n_d_ds)]; exact h1ds, [(.inl 0, .ref d)], rfl, (show 1 ≤ 15 by omega), ?_⟩
    refine ⟨by rw [sizeLine_eq]; show 4 ≤ _; omega, fun t ht => ?_⟩
    refine ⟨t, _, rfl, sqT_of upd_same, rfl, _, _, rfl, _, _, rfl, _, _, rfl, _, _, rfl, rfl, ?_⟩
    generalize hH2 : upd (upd (upd H1 d (.dT [(keyI (zeros n), .bl true)])) ds (.dK (mergeK [] [(.inl 0, .ref d)]))) t (.tup [.ref l, .ref ds, .int 0, .int 0]) = H2 at ht ⊢
    have tne : ∀ {a : Addr} {o : HO}, (upd (upd H1 d (.dT [(keyI (zeros n), .bl true)])) ds (.dK (mergeK [] [(.inl 0, .ref d)]))) a = some o → H2 a = some o := fun {a o} q => by rw [← hH2, upd_ne (ne_of_none q ht)]; exact q
    have f0 : Ex H H2 := fun a o q => by
      have q1 : H1 a = some o := e1 a o (by rw [upd_ne (ne_of_none q hd0), upd_ne (ne_of_none q hds0), upd_ne (ne_of_none q hl)]; exact q)
      exact tne (by rw [upd_ne (ne_of_none q hds0), upd_ne (ne_of_none q hd0)]; exact q1)
    have f1 : H2 l = some (.lst []) := tne (by rw [upd_ne (Ne.symm n_ds_l), upd_ne (Ne.symm n_d_l)]; exact h1l)
    have f2 : H2 ds = some (.dK (entK [(0, d, [zeros n])])) := tne upd_same
    have f3 : H2 d = some (.dT (setT [zeros n])) := tne (by rw [upd_ne n_d_ds, upd_same]; rfl)
    have st0 : StP H H2 ds (fun c => c = zeros n) [(0, d, [zeros n])] := ⟨f2, hds0, by simp, fun e he => by
      rw [List.mem_singleton.mp he]
      refine ⟨f3, hd0, by simp, by simp, fun c => ?_⟩
      show c ∈ [zeros n] ↔ _
      rw [List.mem_singleton]
      exact ⟨fun z => ⟨z, by rw [z, sum_zeros]⟩, fun z => z.1⟩, fun c hc => ⟨_, List.mem_singleton.mpr rfl, by rw [hc, sum_zeros]⟩⟩
    clear hH2 tne ht h1l h1ds h1d hb e1
    -- hours
    refine p_set (R := lstN H2 (ps.map fun q => Rp.v (.int (NL.hr p q)))) (EvP.cast (ep_lc1N (n := ps.length) (f := fun _ => true) (Rs := fun i => Rp.v (.int (NL.hr p (ps.getD i [])))) (EvW.len (ew_lst (Rs := ps.map tupI) (ep_var rfl ((lstT ps).up f0 hx))) (by simp)) ?_ (fun _ _ => inferInstance) (fun _ => rfl)
        (fun _ _ _ _ _ _ => et_yes) fun i u H3 hi e hu _ => ?_) ?_) fun v H3 e3 pv => ?_
    · have := count_le (k := n) (n := B) LA.nd fun c hc => ⟨(LA.piece hc).1, (LA.piece hc).2.1⟩
      have := LA.pow
      rw [sizeLine_eq]; omega
    · obtain ⟨R, hR, pR⟩ := hu
      obtain ⟨q, hq, rfl⟩ := getR hR
      rw [getD_of hq]
      obtain ⟨q1, q2, q3⟩ := LA.piece (List.mem_of_getElem? hq)
      exact ep_told (ep_var rfl ((pairR p).up (f0.trans e) hy)) (ep_var rfl pR) (by rw [LA.pk, q1.1]) LA.p0 (by rw [q1.1]; omega) (med_of q1 (by omega))
    · rw [kept_all]
      exact congrArg (lstN H2) (List.ext_getElem (by simp) fun i h1 h2 => by simp at h1; simp [List.getD_eq_getElem?_getD, h1])
    obtain ⟨lh, hsv, rfl, hlh0, hlh, hps⟩ := pv
    have lne : lh ≠ l := fun z => by rw [z, f1] at hlh0; cases hlh0
    rw [show (ps.map fun q => Rp.v (.int (NL.hr p q))) = (ps.map (NL.hr p)).map fun m => Rp.v (.int m) by rw [List.map_map]; rfl, allP_ints] at hps
    subst hps
    have sr0 : Srch H H3 ds l lh (ps.map (NL.hr p)) (fun c => c = zeros n) [] 0 B := ⟨f0.trans e3, hl, lne, ⟨_, st0.ex e3⟩, ⟨[], e3 _ _ f1, trivial⟩, hlh, fun c hc => by rw [hc, sum_zeros]; omega, by omega⟩
    -- while size <= top
    refine Evl.q_while (fun m σ' H' => ∃ (s : Nat) (top : Int) (F : List (List Int)) (A : List Int → Prop) (a8 a9 a10 a11 a12 a13 : Option V), σ' = [some (.int n), some x, some y, some (.ref l), some (.ref ds), some (.int s), some (.int top), some (.ref lh), a8, a9, a10, a11, a12, a13] ∧
        Srch H H' ds l lh (ps.map (NL.hr p)) A F top B ∧ LInv n S p s F A ∧ s ≤ B + 1 ∧ m = B + 1 - s) (B + 1) ⟨0, 0, [], _, _, _, _, _, _, _, rfl, sr0, linv_start LA.ker, Nat.zero_le _, rfl⟩ ?_
    rintro m σ' H' ⟨s, top, F, A, a8, a9, a10, a11, a12, a13, rfl, sr, li, hs, rfl⟩
    refine ⟨decide ((s : Int) ≤ top), et_I0 (p := fun i j => decide (i ≤ j)) (ep_v rfl) (ep_v rfl), fun hb H4 e4 => ?_, fun hb H4 e4 => ?_⟩
    · have hst : (s : Int) ≤ top := of_decide_eq_true hb
      have hsB : s ≤ B := by have := sr.topB; omega
      refine ⟨fun σ' H' => ∃ (s' : Nat) (top : Int) (F : List (List Int)) (A : List Int → Prop) (a8 a9 a10 a11 a12 a13 : Option V), s' = s + 1 ∧ σ' = [some (.int n), some x, some y, some (.ref l), some (.ref ds), some (.int s'), some (.int top), some (.ref lh), a8, a9, a10, a11, a12, a13] ∧
        Srch H H' ds l lh (ps.map (NL.hr p)) A F top B ∧ LInv n S p s' F A, ?_, ?_⟩
      · rintro σ2 H2 ⟨s', top, F, A, a8, a9, a10, a11, a12, a13, rfl, e, sr, li⟩
        exact ⟨B + 1 - (s + 1), by omega, s + 1, top, F, A, a8, a9, a10, a11, a12, a13, e, sr, li, by omega, rfl⟩
      · have sr4 := sr.up e4
        obtain ⟨E, st⟩ := sr4.st
        have hn0 : ∀ c, A c → Dom n c ∧ S c ∧ c.sum ≤ B := fun c hc => LA.dom (li.gr c hc)
        -- sorted(states.get(size, {}))
        obtain ⟨L, ln, lm, evL⟩ : ∃ L : List (List Int), L.Nodup ∧ (∀ c, c ∈ L ↔ (A c ∧ c.sum = s)) ∧
            EvP (tCB rSortedD (tCons (tDGet2 (tVar 4) (tVar 5) tDNewT) tNil)) [some (.int n), some x, some y, some (.ref l), some (.ref ds), some (.int s), some (.int top), some (.ref lh), a8, a9, a10, a11, a12, a13] H4 (lstN H4 (L.map tupI)) := by
          by_cases hx : ∃ e ∈ E, e.1 = (s : Int)
          · obtain ⟨e, he, hes⟩ := hx
            obtain ⟨g1, g2, g3, g4, g5⟩ := st.ent e he
            refine ⟨srt e.2.2, (srt_perm _).nodup_iff.mpr g4, fun c => by rw [(srt_perm _).mem_iff, g5, hes], ?_⟩
            intro H5 e5 Q' q'
            have st5 := st.ex e5
            refine ⟨.ref ds, rfl, ds, rfl, .inl ⟨_, .of st5.at_⟩, .int s, rfl, fun q hq => ⟨valV (entK E) (.inl s), DGet.k (k := .inl s) (Ex.new hq _ _ st5.at_), ?_⟩⟩
            have hv := valV_ent st.nd he
            rw [hes] at hv
            rw [hv]
            refine ⟨e.2.1, setT e.2.2, e.2.2, rfl, Ex.new hq _ _ (st5.ent e he).1, setT_keys _, fun c hc z => ?_, fun ys dd r hr hy hd hs => ?_⟩
            · have := (hn0 c ((g5 c).mp hc).1).1.1
              rw [z] at this
              simp at this
              omega
            · exact q' _ _ ((Ex.new hq).trans (Ex.new hr)) ⟨r, ys, rfl, none_of (e5.trans (Ex.new hq)) hr, upd_same, (srt_eq hd hs) ▸ hy.up (Ex.new hr)⟩
          · refine ⟨[], List.nodup_nil, fun c => ⟨fun h => (by cases h), fun h => ?_⟩, ?_⟩
            · obtain ⟨e, he, z⟩ := st.all c h.1
              exact absurd ⟨e, he, z.trans h.2⟩ hx
            · intro H5 e5 Q' q'
              have st5 := st.ex e5
              refine ⟨.ref ds, rfl, ds, rfl, .inl ⟨_, .of st5.at_⟩, .int s, rfl, fun q hq => ⟨valV (entK E) (.inl s), DGet.k (k := .inl s) (Ex.new hq _ _ st5.at_), ?_⟩⟩
              rw [valV_ent_none fun e he z => hx ⟨e, he, z⟩]
              refine ⟨q, [], [], rfl, upd_same, rfl, fun c hc => (by cases hc), fun ys dd r hr hy hd hs => ?_⟩
              have : dd = [] := List.Perm.eq_nil hd
              subst this
              exact q' _ _ ((Ex.new hq).trans (Ex.new hr)) ⟨r, ys, rfl, none_of (e5.trans (Ex.new hq)) hr, upd_same, hy.up (Ex.new hr)⟩
        refine p_for (l_forLN (Rs := L.map tupI) evL fun aL xs H5 e5 haL0 haL pL => ⟨{
          Pv := fun i σ' H' => ∃ (top : Int) (F : List (List Int)) (A : List Int → Prop) (a8 a9 a10 a11 a12 a13 : Option V), σ' = [some (.int n), some x, some y, some (.ref l), some (.ref ds), some (.int s), some (.int top), some (.ref lh), a8, a9, a10, a11, a12, a13] ∧
            Srch H H' ds l lh (ps.map (NL.hr p)) A F top B ∧ LIn n S p s L i F A ∧ Tk H5 H' ∧ H' aL = some (.lst xs)
          h0 := ⟨top, F, A, _, _, _, _, _, _, rfl, sr4.up e5, lin_start li ln lm, Tk.refl _, haL⟩
          hk := fun i σ' H' _ ⟨_, _, _, _, _, _, _, _, _, _, _, _, _, h⟩ => h
          hs := ?_
          hd := ?_ }⟩)
        · rintro i v σ' H' H'' hi ⟨top, F, A, a8, a9, a10, a11, a12, a13, rfl, sr, li, tk, hL⟩ e6 ⟨R, hR, pR⟩
          obtain ⟨c, hc, rfl⟩ := getR hR
          have hcv : (tupI c).p v H'' := (inferInstance : Stab (tupI c)).st (tk.trans (Tk.of e6)) pR
          have sr6 := sr.up e6
          have aL_l : aL ≠ l := fun z => by
            obtain ⟨fs, hfs, _⟩ := sr4.fl
            rw [z, hfs] at haL0; cases haL0
          have hL6 := e6 _ _ hL
          have tk6 := tk.trans (Tk.of e6)
          have hcL := List.mem_of_getElem? hc
          have hcs := li.ls c hcL
          have hcA := (li.lm c hcs).mpr hcL
          obtain ⟨cd, cS, cB⟩ := LA.dom (li.gr c hcA)
          have hFd : ∀ f ∈ F, Dom n f := fun f hf => ((li.fm f).mp hf).1.1
          -- if any(..): continue
          refine p_when (b := F.any fun f => vle f c) (et_ep ?_) (fun hb H7 e7 => ?_) fun hb H7 e7 => ?_
          · obtain ⟨fs, hfs, pfs⟩ := sr6.fl
            refine ep_anyIn (ep_var (R := lstT F) rfl ⟨l, fs, rfl, hfs, pfs⟩) ?_ (fun f hf => by rw [(hFd f hf).1, cd.1]) (by rw [cd.1]; omega) (fun _ => rfl) (fun _ => rfl) fun u H8 e8 => ep_var rfl ((tupI c).up e8 hcv)
            have := count_le (k := n) (n := B) li.fn fun f hf => ⟨hFd f hf, by
              have m := (li.fm f).mp hf
              obtain ⟨hs', g⟩ := gr_all LA.ker LA.p0 LA.pk m.1
              exact LA.gr _ _ g⟩
            have := LA.pow
            omega
          · obtain ⟨f, hf, lf⟩ := List.any_eq_true.mp hb
            exact ⟨top, F, A, _, _, _, _, _, _, rfl, sr6.up e7, lin_skip LA.ker li hc hf lf, tk6.trans (Tk.of e7), e7 _ _ hL6⟩
          · have no : ∀ f ∈ F, ¬ vle f c = true := fun f hf z => by
              have : (F.any fun f => vle f c) = true := List.any_eq_true.mpr ⟨f, hf, z⟩
              rw [this] at hb; cases hb
            have sr7 := sr6.up e7
            have hcv7 := (tupI c).up e7 hcv
            have hL7 := e7 _ _ hL6
            have tk7 := tk6.trans (Tk.of e7)
            -- hour
            refine p_set (R := Rp.v (.int (NL.hr p c))) (ep_told (ep_var rfl ((pairR p).up sr7.ex hy)) (ep_var rfl hcv7) (by rw [LA.pk, cd.1]) LA.p0 (by rw [cd.1]; omega) (med_of cd (by omega))) fun u H8 e8 pu => ?_
            cases (show u = V.int (NL.hr p c) from pu)
            have sr8 := sr7.up e8
            have hcv8 := (tupI c).up e8 hcv7
            have hL8 := e8 _ _ hL7
            have tk8 := tk7.trans (Tk.of e8)
            refine p_when (b := decide (NL.hr p c = 0) && decide ((0 : Int) < s)) (Evl.et_and (et_eqI (ep_v rfl) ep_c) fun _ => et_I0 (p := fun i j => decide (j < i)) (ep_v rfl) ep_c) (fun hb H9 e9 => ?_) fun hb H9 e9 => ?_
            · simp only [Bool.and_eq_true, decide_eq_true_eq] at hb
              have sr9 := sr8.up e9
              obtain ⟨fs, hfs, pfs⟩ := sr9.fl
              refine p_app hfs (Evl.ev_var rfl) (ep_var (R := tupI c) rfl ((tupI c).up e9 hcv8)) ?_ fun u HA eA pu => ?_
              · have := count_le (k := n) (n := B) li.fn fun f hf => ⟨hFd f hf, by
                  have m := (li.fm f).mp hf
                  obtain ⟨hs', g⟩ := gr_all LA.ker LA.p0 LA.pk m.1
                  exact LA.gr _ _ g⟩
                have := LA.pow
                rw [pfs.length, List.length_map, sizeLine_eq]
                omega
              · have hfsA := eA _ _ hfs
                have srA := sr9.up eA
                have tkl : Tk HA (upd HA l (.lst (fs ++ [u]))) := Tk.lst hfsA
                refine ⟨top, F ++ [c], A, _, _, _, _, _, _, rfl, ⟨Ex.mut srA.ex srA.l0, srA.l0, srA.lne, ?_, ⟨fs ++ [u], upd_same, ?_⟩, ?_, srA.top_, srA.topB⟩, lin_found LA.ker li hc no hb.1 hb.2, (((tk8.trans (Tk.of e9)).trans (Tk.of eA)).trans tkl), ?_⟩
                · obtain ⟨E', stA⟩ := srA.st
                  refine ⟨E', ?_, stA.own, stA.nd, fun e he => ⟨?_, (stA.ent e he).2⟩, stA.all⟩
                  · rw [upd_ne (ne_of stA.at_ hfsA (by intro z; cases z))]; exact stA.at_
                  · rw [upd_ne (ne_of (stA.ent e he).1 hfsA (by intro z; cases z))]; exact (stA.ent e he).1
                · rw [List.map_append]
                  exact ((pfs.up eA).tk tkl).snoc ((inferInstance : Stab (tupI c)).st tkl pu)
                · rw [upd_ne srA.lne]; exact srA.hl
                · rw [upd_ne aL_l]; exact eA _ _ (e9 _ _ hL8)
            · have hz : ¬ (NL.hr p c = 0 ∧ (0 : Int) < s) := fun z => by
                have : (decide (NL.hr p c = 0) && decide ((0 : Int) < s)) = true := by rw [decide_eq_true z.1, decide_eq_true z.2]; rfl
                rw [this] at hb; cases hb
              have cl := lin_clean LA.ker li hc no hz
              obtain ⟨gh, gc⟩ := li.gr c hcA
              have sr9 := sr8.up e9
              have hcv9 := (tupI c).up e9 hcv8
              have hL9 := e9 _ _ hL8
              have tk9 := tk8.trans (Tk.of e9)
              have grU : ∀ j x, Upto A p ps c j x → ∃ hs, GR n S p (okStep p) hs x := fun j x hx => by
                rcases hx with hx | ⟨i', q, _, hq, ok, rfl⟩
                · exact li.gr x hx
                · exact ⟨_, GR.step gc cl ((LA.mem q).mp (List.mem_of_getElem? hq)) ok⟩
              -- for piece, step in zip(pieces, hours)
              refine l_forZL (Rs := ps.map tupI) (Ss := (ps.map (NL.hr p)).map fun m => Rp.v (.int m)) (ea_cons (ep_var (R := lstT ps) rfl ((lstT ps).up sr9.ex hx)) (ea_cons (ep_var (R := lstR ((ps.map (NL.hr p)).map fun m => Rp.v (.int m))) rfl (lstI_of.mpr ⟨lh, rfl, sr9.hl⟩)) ea_nil)) (by simp)
                fun a1 xs1 b1 ys1 HA eA ha1 pa1 hb1 pb1 => ⟨{
                  Pv := fun j σ' H' => ∃ (top : Int) (a10 a11 a12 : Option V), σ' = [some (.int n), some x, some y, some (.ref l), some (.ref ds), some (.int s), some (.int top), some (.ref lh), some v, some (.int (NL.hr p c)), a10, a11, a12, a13] ∧
                    Srch H H' ds l lh (ps.map (NL.hr p)) (Upto A p ps c j) F top B ∧ Tk HA H' ∧ Lk HA H'
                  h0 := ⟨top, _, _, _, rfl, (sr9.up eA).congr fun x => upto_zero.symm, Tk.refl _, fun _ _ h => h⟩
                  hk := fun j σ' H' _ ⟨_, _, _, _, _, _, _, lk⟩ => ⟨lk _ _ ha1, lk _ _ hb1⟩
                  hs := ?_
                  hd := ?_ }⟩
              · rintro j w' σ' H' H'' hj ⟨top, a10, a11, a12, rfl, sr, tk, lk⟩ eB it
                refine g_itP it fun u1 u2 hu1 hu2 => ?_
                obtain ⟨R1, hR1, pR1⟩ := hu1
                obtain ⟨q, hq, rfl⟩ := getR hR1
                obtain ⟨R2, hR2, pR2⟩ := hu2
                rw [List.map_map] at hR2
                obtain ⟨q', hq', rfl⟩ := getR hR2
                rw [hq] at hq'
                cases hq'
                cases (show u2 = V.int (NL.hr p q) from pR2)
                obtain ⟨qd, qB, qM⟩ := LA.piece (List.mem_of_getElem? hq)
                have tkB := tk.trans (Tk.of eB)
                have hqv : (tupI q).p u1 H'' := (inferInstance : Stab (tupI q)).st tkB pR1
                have hcvB : (tupI c).p v H'' := (inferInstance : Stab (tupI c)).st ((Tk.of eA).trans tkB) hcv9
                have srB := sr.up eB
                have lkB := lk.trans (Lk.of eB)
                have hyB := (pairR p).up srB.ex hy
                refine Evl.s_if (b := decide (0 < p.1) || decide (NL.hr p c * NL.hr p q ≤ 0)) (Evl.et_or (et_I0 (p := fun i j => decide (j < i)) (ep_ixT (Rs := [Rp.v (.int p.1), tupI p.2]) (i := 0) (ep_var rfl hyB) ep_c rfl) ep_c) fun h0 => et_I0 (p := fun i j => decide (i ≤ j)) (ep_I (f := fun i j => .int (i * j)) (ep_v rfl) (ep_v rfl) (.inl ?_)) ep_c) (fun hb HC eC => ?_) fun hb HC eC => ?_
                · have p00 : p.1 = 0 := by
                    have := of_decide_eq_false h0
                    have := LA.p0
                    omega
                  have := dot_bound (M := 2) cd LA.pk (LA.sm p00)
                  rw [← hr_bal p00] at this
                  constructor <;> omega
                · have ok : okStep p (NL.hr p c) (NL.hr p q) := by
                    simp only [Bool.or_eq_true, decide_eq_true_eq] at hb
                    exact hb
                  have srC := srB.up eC
                  have hcvC := (tupI c).up eC hcvB
                  have hqvC := (tupI q).up eC hqv
                  refine p_set (ep_more (a := c) (b := q) (ep_var rfl hcvC) (ep_var rfl hqvC) (by rw [cd.1, qd.1]) (by rw [cd.1]; omega)) fun u3 HD eD pu3 => ?_
                  have srD := srC.up eD
                  obtain ⟨b3, rfl, hb3⟩ := pu3
                  obtain ⟨ED, stD⟩ := srD.st
                  have gx : ∃ hs, GR n S p (okStep p) hs (vadd c q) := ⟨_, GR.step gc cl qM ok⟩
                  obtain ⟨xd, _, xB⟩ := LA.dom gx
                  obtain ⟨z1, z2⟩ := stD.small hB LA.pow fun x hx => ⟨(LA.dom (grU j x hx)).1, (LA.dom (grU j x hx)).2.2⟩
                  refine l_addst (c := vadd c q) stD srD.ex rfl rfl hb3 (ep_sumT (ep_var (R := tupI (vadd c q)) rfl ⟨b3, rfl, hb3⟩)) z1 z2 fun HE E' stE exE tkE lkE => ?_
                  have hbE := tkE _ _ hb3
                  refine l_set (R := Rp.v (.int (if (vadd c q).sum > top then (vadd c q).sum else top))) (ep_of (Evl.ev_max2 (Evl.ev_var rfl) (ev_of (ep_sumT (ep_var (R := tupI (vadd c q)) rfl ⟨b3, rfl, hbE⟩))))) fun u4 HF eF pu4 => ?_
                  cases (show u4 = V.int (if (vadd c q).sum > top then (vadd c q).sum else top) from pu4)
                  have tb := srD.topB
                  refine ⟨_, _, _, _, rfl, ⟨exE.trans eF, srD.l0, srD.lne, ⟨E', (stE.ex eF).congr fun x => ?_⟩, ?_, eF _ _ (lkE _ _ srD.hl), fun x hx => ?_, ?_⟩, (((tkB.trans (Tk.of eC)).trans (Tk.of eD)).trans tkE).trans (Tk.of eF), (((lkB.trans (Lk.of eC)).trans (Lk.of eD)).trans lkE).trans (Lk.of eF)⟩
                  · rw [upto_succ hq]
                    exact ⟨fun z => z.elim .inl fun e => .inr ⟨ok, e⟩, fun z => z.elim .inl fun e => .inr e.2⟩
                  · obtain ⟨fs, hfs, pfs⟩ := srD.fl
                    exact ⟨fs, eF _ _ (lkE _ _ hfs), (pfs.tk tkE).up eF⟩
                  · rw [upto_succ hq] at hx
                    rcases hx with hx | ⟨_, rfl⟩
                    · have := srD.top_ x hx
                      split <;> omega
                    · split <;> omega
                  · split <;> omega
                · have ok : ¬ okStep p (NL.hr p c) (NL.hr p q) := fun z => by
                    have : (decide (0 < p.1) || decide (NL.hr p c * NL.hr p q ≤ 0)) = true := by
                      simp only [Bool.or_eq_true, decide_eq_true_eq]
                      exact z
                    rw [this] at hb; cases hb
                  exact ⟨_, _, _, _, rfl, (srB.up eC).congr fun x => by rw [upto_succ hq]; exact ⟨.inl, fun z => z.elim id fun e => absurd e.1 ok⟩, tkB.trans (Tk.of eC), lkB.trans (Lk.of eC)⟩
              · rintro σ' H' ⟨top, a10, a11, a12, rfl, sr, tk, lk⟩
                rw [List.length_map] at sr
                refine ⟨top, F, _, _, _, _, _, _, _, rfl, sr, lin_expand LA.ker li hc no hz fun x => ?_, (tk9.trans (Tk.of eA)).trans tk, lk _ _ (eA _ _ hL9)⟩
                constructor
                · rintro (h | ⟨i', q, _, hq, ok, e⟩)
                  · exact .inl h
                  · exact .inr ⟨q, (LA.mem q).mp (List.mem_of_getElem? hq), ok, e⟩
                · rintro (h | ⟨q, qm, ok, e⟩)
                  · exact .inl h
                  · obtain ⟨i', hi'⟩ := List.mem_iff_getElem?.mp ((LA.mem q).mpr qm)
                    exact .inr ⟨i', q, (List.getElem?_eq_some_iff.mp hi').1, hi', ok, e⟩
        · rintro σ' H' ⟨top, F, A, a8, a9, a10, a11, a12, a13, rfl, sr, li, tk, hL⟩
          rw [List.length_map] at li
          refine Evl.s_aug (f := fun i j => i + j) (a := (s : Int)) (b := 1) rfl Evl.ev_c fun H6 e6 => ⟨s + 1, top, F, A, a8, a9, a10, a11, a12, a13, rfl, rfl, sr.up e6, ?_⟩
          exact lin_end LA.ker LA.p0 LA.pk li
    · have hst : ¬ (s : Int) ≤ top := of_decide_eq_false hb
      have sr4 := sr.up e4
      obtain ⟨fs, hfs, pfs⟩ := sr4.fl
      refine p_ret (D := dE Q) (ep_var (R := lstT F) rfl ⟨l, fs, rfl, hfs, pfs⟩) fun v H5 e5 pv => k v H5 F (sr4.ex.trans e5) pv li.fn fun x => linv_end LA.ker LA.p0 LA.pk li (fun c hc => by have := sr.top_ c hc; omega) x
end
end NL
end
section
set_option linter.all false
set_option Elab.async false
set_option maxRecDepth 100000
namespace NL
open PySem PySem.Spec PyProof.Rows L2
open Evl (Ex Ev EvT)
open C8 (pe_c pe_mk pe_mt pe_gc)
abbrev s_Book___init__ : Stmt := inClass (top 16) 0
abbrev n_Book___init__ : List Str := ["self", "kinds", "batches", "at", "batch"]
abbrev p_Book___init__ : List Str := ["self", "kinds", "batches"]
theorem sc_Book___init__ : FnScope n_Book___init__ p_Book___init__ (defScope s_Book___init__) := ⟨rfl, rfl, rfl, by decide +kernel, rfl, by decide +kernel, by decide +kernel⟩
abbrev s_Book___eq__ : Stmt := inClass (top 16) 1
abbrev n_Book___eq__ : List Str := ["self", "other"]
abbrev p_Book___eq__ : List Str := ["self", "other"]
theorem sc_Book___eq__ : FnScope n_Book___eq__ p_Book___eq__ (defScope s_Book___eq__) := ⟨rfl, rfl, rfl, by decide +kernel, rfl, by decide +kernel, by decide +kernel⟩
abbrev s_Book_found : Stmt := inClass (top 16) 2
abbrev n_Book_found : List Str := ["self", "word", "work"]
abbrev p_Book_found : List Str := ["self", "word", "work"]
theorem sc_Book_found : FnScope n_Book_found p_Book_found (defScope s_Book_found) := ⟨rfl, rfl, rfl, by decide +kernel, rfl, by decide +kernel, by decide +kernel⟩
abbrev bf (k : Int) (t d : Addr) : List (Str × V) := [("kinds", .int k), ("batches", .ref t), ("_found", .ref d)]
theorem put1 (k : V) : putF "kinds" k [] = [(("kinds" : Str), k)] := rfl
theorem put2 (k t : V) : putF "batches" t [(("kinds" : Str), k)] = [(("kinds" : Str), k), ("batches", t)] := by
  show (if ("kinds" : Str) = "batches" then _ else (("kinds" : Str), k) :: putF "batches" t []) = _
  rw [if_neg (by decide +kernel)]; rfl
theorem put3 (k t d : V) : putF "_found" d [(("kinds" : Str), k), ("batches", t)] = [(("kinds" : Str), k), ("batches", t), ("_found", d)] := by
  show (if ("kinds" : Str) = "_found" then _ else (("kinds" : Str), k) :: (if ("batches" : Str) = "_found" then _ else (("batches" : Str), t) :: putF "_found" d [])) = _
  rw [if_neg (by decide +kernel), if_neg (by decide +kernel)]; rfl
theorem bf_kinds (k : Int) (t d : Addr) : (bf k t d).lookup ("kinds" : Str) = some (.int k) := by
  unfold bf
  rw [lookup_put, if_pos rfl]
theorem bf_batches (k : Int) (t d : Addr) : (bf k t d).lookup ("batches" : Str) = some (.ref t) := by
  unfold bf
  rw [lookup_put, if_neg (by decide +kernel), lookup_put, if_pos rfl]
theorem bf_found (k : Int) (t d : Addr) : (bf k t d).lookup ("_found" : Str) = some (.ref d) := by
  unfold bf
  rw [lookup_put, if_neg (by decide +kernel), lookup_put, if_neg (by decide +kernel), lookup_put, if_pos rfl]
theorem bf_other (k : Int) (t d : Addr) {f : Str} (h1 : ¬ f = "kinds") (h2 : ¬ f = "batches") (h3 : ¬ f = "_found") : (bf k t d).lookup f = none := by
  unfold bf
  rw [lookup_put, if_neg h1, lookup_put, if_neg h2, lookup_put, if_neg h3]; rfl
/-- what is told of the class Book, at C -/
structure BookT (K : PySem.W.Frag) (mg : Str → Option Value) (C : Addr) : Prop where
  cl : Cls K C
  nK : NoAttr K C "kinds"
  nB : NoAttr K C "batches"
  nF : NoAttr K C "_found"
  mgC : mg "Book" = some (.ref C)
/-- a book at o, its dict at d -/
def BkA (C : Addr) (k : Nat) (bs : List (List Int)) (d o : Addr) (H : Hp) : Prop := ∃ dx t, H o = some (.ins C dx (bf k t d)) ∧ (tupT bs).p (.ref t) H
theorem BkA.up {C : Addr} {k : Nat} {bs : List (List Int)} {d o : Addr} {H H' : Hp} (e : Ex H H') (h : BkA C k bs d o H) : BkA C k bs d o H' := let ⟨dx, t, h1, h2⟩ := h; ⟨dx, t, e _ _ h1, (tupT bs).up e h2⟩
def bookR (C : Addr) (k : Nat) (bs : List (List Int)) : Rp := ⟨fun v H => ∃ o d, v = .ref o ∧ BkA C k bs d o H, fun e ⟨o, d, h1, h2⟩ => ⟨o, d, h1, h2.up e⟩⟩
def bookN (H0 : Hp) (C : Addr) (k : Nat) (bs : List (List Int)) : Rp := ⟨fun v H => ∃ o d, v = .ref o ∧ BkA C k bs d o H ∧ H d = some (.dK []) ∧ H0 d = none ∧ H0 o = none, fun e ⟨o, d, h1, h2, h3, h4⟩ => ⟨o, d, h1, h2.up e, e _ _ h3, h4⟩⟩
theorem bookN_R {H0 : Hp} {C : Addr} {k : Nat} {bs : List (List Int)} {v : V} {H : Hp} (h : (bookN H0 C k bs).p v H) : (bookR C k bs).p v H := let ⟨o, d, h1, h2, _⟩ := h; ⟨o, d, h1, h2⟩
section
variable {K : PySem.W.Frag} {mg : Str → Option Value} {C : Addr} {σ : L2.St} {H : Hp} {te : TE} {k : Nat} {bs : List (List Int)}
theorem ep_kinds (B : BookT K mg C) (h : EvP te σ H (bookR C k bs)) : EvP (tFld K te "kinds") σ H (Rp.v (.int k)) := fun H1 e Q q => h H1 e _ fun v H2 e2 ⟨o, d, hv, dx, t, h1, h2⟩ =>
  ⟨o, C, dx, _, _, hv, h1, B.cl, B.nK, bf_kinds _ _ _, q _ _ e2 rfl⟩
theorem ep_batches (B : BookT K mg C) (h : EvP te σ H (bookR C k bs)) : EvP (tFld K te "batches") σ H (tupT bs) := fun H1 e Q q => h H1 e _ fun v H2 e2 ⟨o, d, hv, dx, t, h1, h2⟩ =>
  ⟨o, C, dx, _, _, hv, h1, B.cl, B.nB, bf_batches _ _ _, q _ _ e2 h2⟩
end
/-- self.f = e, self at o -/
theorem l_fld {K : PySem.W.Frag} {C o dx : Addr} {i : Nat} {f : Str} {fs : List (Str × V)} {te : TE} {R : Rp} {σ : L2.St} {H : Hp} {D : Ends} (hc : Cls K C) (hn : NoAttr K C f) (ho : H o = some (.ins C dx fs)) (hi : σ[i]? = some (some (.ref o))) (hl : fs.length < 1000) (h : EvP te σ H R)
    (k : ∀ v H1, Ex H H1 → R.p v H1 → D.nx σ (upd H1 o (.ins C dx (putF f v fs)))) : sFld K (tVar i) te f D σ H :=
  h H (Ex.refl H) _ fun v H1 e p => ⟨.ref o, hi, o, C, dx, fs, rfl, e _ _ ho, hc, hn, hl, k v H1 e p⟩
def spInit (C : Addr) : Sp := fun vs H Q _ => ∃ (o dx : Addr) (k : Nat) (x : V) (bs : List (List Int)), vs = [.ref o, .int k, x] ∧ H o = some (.ins C dx []) ∧ (lstT bs).p x H ∧ 1 ≤ k ∧ k ≤ 1000 ∧ bs.Nodup ∧ bs.length ≤ 16000000 ∧ (∀ b ∈ bs, Dom k b ∧ 0 < b.sum) ∧
  ∀ H' d, BkA C k (srt bs) d o H' → H' d = some (.dK []) → H d = none → (∀ a u, a ≠ o → H a = some u → H' a = some u) → Q .non H'
theorem nodup_in {bs : List (List Int)} {i : Nat} {b : List Int} (hn : bs.Nodup) (hb : bs[i]? = some b) : b ∉ bs.take i := not_mem_take hn hb
section
variable {P : Program} {w : World} {K : PySem.W.Frag} {mg : Str → Option Value} {base : Heap} {C : Addr}
/-- a method as it stands -/
structure MDn (K : PySem.W.Frag) (C : Addr) (x qual : Str) (st : Stmt) (ps : List Str) : Prop where
  ex : ∃ (f : Addr) (fd : FuncData), L2.Fun K x qual st f fd ∧ Binds K fd ps [] ∧ PySem.W.findIn K (.ref C) x = some (some (.ref f)) ∧ PySem.W.isFn K (.ref f) = true ∧ PySem.W.keepIn K (.ref f) = true
theorem ok_Binit (D : MDn K C "__init__" "Book.__init__" s_Book___init__ p_Book___init__) (B : BookT K mg C) (M : ∀ f, PySem.W.findIn K (.ref C) "__init__" = some (some (.ref f)) → PySem.W.isFn K (.ref f) = true → Mk K C f) (T : Txt mg)
    (c_is_number : Cl P w K mg base 2 "is_number" spIsNumber) (c_is_sequence : Cl P w K mg base 1 "is_sequence" spIsSequence) (c_is_batch : Cl P w K mg base 3 "is_batch" spIsBatch) : C8.Mak P w K mg base 4 "Book" C (spInit C) [] := by
  obtain ⟨f, fd, F, hb, hi, hf, hk⟩ := D.ex
  refine ⟨f, fd, p_Book___init__, [], M f hi hf, F.ok sc_Book___init__ (fun vs H Q E h => ?_) (fun cdv A outer s H vs Q E hr h => ?_), B.mgC, hb, .nil⟩
  · obtain ⟨_, _, _, _, _, rfl, _⟩ := h
    rfl
  · obtain ⟨o, dx, n, x, bs, rfl, ho, hx, n1, n2, hnd, hlen, hbs, k⟩ := h
    refine ⟨_, (pss_cons (ps_if (PW.pt (pw_or (pt_not (pt_val (pe_c c_is_number hr (by decide) rfl (pa_cons (pv 1) pa_nil)))) (pw_or1 (pt_cmpR op_eq (pv 1) pe_int (nomark _))))) (pss_one ps_never) pss_nil)
      (pss_cons (ps_if (pt_not (pt_val (pe_c c_is_sequence hr (by decide) rfl (pa_cons (pv 2) pa_nil)))) (pss_one ps_never) pss_nil)
      (pss_cons (ps_for PassesOwn.never rfl (pi_enum (by rfl) T.enumerate (pa_cons (pv 2) pa_nil)) (pg_tup rfl (pgs_cons (pg_name (i := 3) sc_Book___init__.nd rfl (Or.inl rfl)) (pgs_cons (pg_name (i := 4) sc_Book___init__.nd rfl (Or.inl rfl)) pgs_nil))) (pss_one (ps_if (PW.pt (pw_or (pt_not (pt_val (pe_c c_is_batch hr (by decide) rfl (pa_cons (pv 1) (pa_cons (pv 4) pa_nil))))) (pw_or1 (pt_cmpR (kInD (K := K) rfl (u65 hr)) (pv 4) (pe_slice (kSlL (K := K) rfl) (pv 2) po_none (po_some (pv 3))) (by with_unfolding_all rfl))))) (pss_one ps_never) pss_nil)))
      (pss_cons (ps_fld (pv 0) (pv 1) rfl)
      (pss_cons (ps_fld (pv 0) (pe_callTy (kTupOf (K := K) rfl) (by rfl) T.tuple (by decide +kernel) (pa_cons (pe_callB (cr_sortedT hr.units) (by rfl) T.sorted (by decide +kernel) (pa_cons (pv 2) pa_nil)) pa_nil)) rfl)
      (pss_one (ps_fld (pv 0) pe_dnewK rfl))))))), ?_⟩
    refine p_skip (Evl.et_is (Evl.et_or (a := false) (b := false) (Evl.et_is (Evl.et_not (et_ep (b := true) (ep_pur (Rs := [anyR (.int n)]) (ea_cons (ep_var rfl (by simp only [anyR]; rfl)) ea_nil) fun vs H1 _ p => ?_))) rfl) fun _ => Evl.et_is (et_eqI (ep_v rfl) ep_c) ?_) rfl) fun H1 e1 => ?_
    · match vs, p with
      | [y], p => exact ⟨y, .int n, rfl, p.1, by rw [show isNumA (.int n) = true by simp only [isNumA]; exact decide_eq_true (by omega)]⟩
    · simp; omega
    refine p_skip (Evl.et_is (Evl.et_not (et_ep (b := true) (ep_pur (Rs := [lstT bs]) (ea_cons (ep_var rfl ((lstT bs).up e1 hx)) ea_nil) fun vs H2 _ p => ?_))) rfl) fun H2 e2 => ?_
    · match vs, p with
      | [y], p =>
        obtain ⟨⟨a, xs, ey, ha, _⟩, _⟩ := p
        exact ⟨y, rfl, ⟨a, xs, ey, ha⟩, rfl⟩
    have hx2 := (lstT bs).up (e1.trans e2) hx
    refine p_for (l_forEnL (Rs := bs.map tupI) (ea_cons (ep_var rfl hx2) ea_nil) fun a xs H3 e3 ha pa => ⟨{
      Pv := fun i σ' H' => (∃ a3 a4, σ' = [some (.ref o), some (.int n), some x, a3, a4]) ∧ Ex H3 H'
      h0 := ⟨⟨_, _, rfl⟩, Ex.refl _⟩
      hk := fun i σ' H' _ ⟨_, e⟩ => e _ _ ha
      hs := ?_
      hd := ?_ }⟩)
    · rintro i v σ' H' H'' hi ⟨⟨a3, a4, rfl⟩, e4⟩ e5 it
      refine g_itE it fun u2 hu2 => ?_
      obtain ⟨R, hR, pR⟩ := hu2
      obtain ⟨b, hb, rfl⟩ := getR hR
      have hbm := List.mem_of_getElem? hb
      have hu2' := (tupI b).up (e4.trans e5) pR
      have hx5 := (lstT bs).up ((e3.trans e4).trans e5) hx2
      refine Evl.s_when (b := false) (Evl.et_is (Evl.et_or (a := false) (b := false) (Evl.et_is (Evl.et_not (et_ep (b := true) (ep_pur (ea_cons (ep_v rfl) (ea_cons (ep_var (R := tupI b) rfl hu2') ea_nil)) fun vs H6 _ p => ?_))) rfl) fun _ => Evl.et_is (et_ep (ep_in (cs := bs.take i) (ep_var (R := tupI b) rfl hu2') (EvP.cast (ep_toL (Rs := bs.map tupI) (ep_var rfl hx5) (ep_v rfl)) ?_))) ?_) rfl) (fun z => by cases z) fun _ H6 e6 => ⟨⟨_, _, rfl⟩, (e4.trans e5).trans e6⟩
      · match vs, p with
        | [y, z], p =>
          cases (show y = V.int n from p.1)
          exact ⟨n, z, b, rfl, p.2.1, (hbs b hbm).1, n2, by rw [decide_eq_true (hbs b hbm).2]⟩
      · exact congrArg lstR (List.map_take ..).symm
      · exact decide_eq_false (nodup_in hnd hb)
    · rintro σ' H' ⟨⟨a3, a4, rfl⟩, e4⟩
      have eA := (((e1.trans e2).trans e3).trans e4)
      have hoA := eA _ _ ho
      -- self.kinds = kinds
      refine l_fld (R := Rp.v (.int n)) B.cl B.nK hoA rfl (by decide) (ep_v rfl) fun v H5 e5 pv => ?_
      cases (show v = V.int n from pv)
      rw [put1]
      have hx5 := (lstT bs).up (eA.trans e5) hx
      have tk5 : Tk H5 (upd H5 o (.ins C dx [(("kinds" : Str), .int n)])) := fun a ys q => by
        rw [upd_ne (ne_of q (e5 _ _ hoA) (by intro z; cases z))]; exact q
      have hx5' : (lstT bs).p x (upd H5 o (.ins C dx [(("kinds" : Str), .int n)])) := by
        obtain ⟨a, xs, hv, ha, pa⟩ := hx5
        exact ⟨a, xs, hv, by rw [upd_ne (ne_of ha (e5 _ _ hoA) (by intro z; cases z))]; exact ha, pa.tk tk5⟩
      -- self.batches = tuple(sorted(batches))
      refine l_fld (R := tupT (srt bs)) B.cl B.nB upd_same rfl (by show 1 < 1000; omega) (ep_tupleL ((ep_sortedT (ep_var rfl hx5') fun c hc z => ?_).weak fun v H1 _ p => lstN_R p)) fun v H6 e6 pv => ?_
      · have := (hbs c hc).2
        rw [z] at this
        simp at this
      rw [put2]
      have ho6 := e6 _ _ upd_same
      obtain ⟨t, ts, rfl, ht, pt⟩ := pv
      have tk6 : Tk H6 (upd H6 o (.ins C dx [(("kinds" : Str), .int n), ("batches", .ref t)])) := fun a ys q => by
        rw [upd_ne (ne_of q ho6 (by intro z; cases z))]; exact q
      -- self._found = {}
      refine fun d hd => ?_
      have hod : o ≠ d := fun z => by rw [← z, upd_same] at hd; cases hd
      refine ⟨.ref o, rfl, o, C, dx, _, rfl, by rw [upd_ne hod, upd_same], B.cl, B.nF, by show 2 < 1000; omega, ?_⟩
      rw [put3]
      have hd6 : H6 d = none := by rw [upd_ne (Ne.symm hod)] at hd; exact hd
      have tk7 : Tk H6 (upd (upd (upd H6 o (.ins C dx [(("kinds" : Str), .int n), ("batches", .ref t)])) d (.dK [])) o (.ins C dx (bf n t d))) := fun a ys q => by
        rw [upd_ne (ne_of q ho6 (by intro z; cases z)), upd_ne (ne_of_none q hd6), upd_ne (ne_of q ho6 (by intro z; cases z))]; exact q
      refine k _ d ⟨dx, t, upd_same, t, ts, rfl, tk7 _ _ ht, pt.tk tk7⟩ (by rw [upd_ne (Ne.symm hod), upd_same]) ?_ fun a u hao q => ?_
      · refine none_of eA (none_of e5 ?_)
        have := none_of e6 hd6
        rw [upd_ne (Ne.symm hod)] at this
        exact this
      · have q6 : H6 a = some u := e6 _ _ (by rw [upd_ne hao]; exact e5 _ _ (eA _ _ q))
        rw [upd_ne hao, upd_ne (ne_of_none q6 hd6), upd_ne hao]
        exact q6
/-- Book(kinds, batches) -/
theorem ep_book {σ : L2.St} {H : Hp} {ta tb : TE} {n : Nat} {bs : List (List Int)} {E : XK} (ha : EvP ta σ H (Rp.v (.int n))) (hb : EvP tb σ H (lstT bs)) (n1 : 1 ≤ n) (n2 : n ≤ 1000) (hnd : bs.Nodup) (hlen : bs.length ≤ 16000000) (hbs : ∀ b ∈ bs, Dom n b ∧ 0 < b.sum) :
    EvP (tMake C (spInit C) [] E (tCons ta (tCons tb tNil))) σ H (bookN H C n (srt bs)) := fun H1 e1 Q q =>
  ha H1 e1 _ fun v H2 e2 pv => hb H2 (e1.trans e2) _ fun x H3 e3 px o dx no ndx ne => by
    cases (show v = V.int n from pv)
    have keep : Ex H3 (upd (upd H3 dx (.own o)) o (.ins C dx [])) := fun a u h => by rw [upd_ne (ne_of_none h no), upd_ne (ne_of_none h ndx)]; exact h
    refine ⟨o, dx, n, x, bs, rfl, upd_same, (lstT bs).up keep px, n1, n2, hnd, hlen, hbs, fun H' d hB hd hd0 kp => ⟨rfl, q _ _ ((e2.trans e3).trans fun a u h => kp a u (ne_of_none h no) (keep a u h)) ⟨o, d, rfl, hB, hd, ?_, ?_⟩⟩⟩
    · exact none_of ((e1.trans e2).trans (e3.trans keep)) hd0
    · exact none_of ((e1.trans e2).trans e3) no
end
end NL
end
section
set_option linter.all false
set_option Elab.async false
set_option maxRecDepth 100000
namespace NL
open PySem PySem.Spec PyProof.Rows L2
open Evl (Ex Ev EvT)
open C8 (pe_c pe_mk pe_mt pe_gc)
abbrev s_checked_naming : Stmt := top 29
abbrev n_checked_naming : List Str := ["kinds", "value", "at", "pair"]
abbrev p_checked_naming : List Str := ["kinds", "value"]
theorem sc_checked_naming : FnScope n_checked_naming p_checked_naming (defScope s_checked_naming) := ⟨rfl, rfl, rfl, by decide +kernel, rfl, by decide +kernel, by decide +kernel⟩
abbrev s_told_book : Stmt := top 34
abbrev n_told_book : List Str := ["kinds", "value", "pieces", "pair"]
abbrev p_told_book : List Str := ["kinds", "value"]
theorem sc_told_book : FnScope n_told_book p_told_book (defScope s_told_book) := ⟨rfl, rfl, rfl, by decide +kernel, rfl, by decide +kernel, by decide +kernel⟩
def prAny (p : Pr) : Any := .tup [.int p.1, .tup (p.2.map .int)]
theorem pairR_any {p : Pr} {v : V} {H : Hp} : (pairR p).p v H ↔ (anyR (prAny p)).p v H := by
  unfold prAny pairR
  rw [anyR_tup, List.map_cons, List.map_cons, List.map_nil]
  have e1 : anyR (.int p.1) = Rp.v (.int p.1) := by simp [anyR]
  rw [e1]
  constructor
  · rintro ⟨a, xs, h1, h2, h3⟩
    match xs, h3 with
    | [x, y], h3 => exact ⟨a, _, h1, h2, h3.1, (anyR_ints p.2).mpr h3.2.1, trivial⟩
  · rintro ⟨a, xs, h1, h2, h3⟩
    match xs, h3 with
    | [x, y], h3 => exact ⟨a, _, h1, h2, h3.1, (anyR_ints p.2).mp h3.2.1, trivial⟩
theorem allP_pr : ∀ {ns : List Pr} {xs : List V} {H : Hp}, AllP xs (ns.map pairR) H → AllP xs (ns.map (anyR ∘ prAny)) H
  | [], [], _, h => h
  | p :: ns, v :: xs, _, h => ⟨pairR_any.mp h.1, allP_pr h.2⟩
  | [], _ :: _, _, h => h.elim
  | _ :: _, [], _, h => h.elim
theorem nmR_any {ns : List Pr} {v : V} {H : Hp} (h : (nmR ns).p v H) : (anyR (.tup (ns.map prAny))).p v H := by
  rw [anyR_tup, List.map_map]
  obtain ⟨a, xs, h1, h2, h3⟩ := h
  exact ⟨a, xs, h1, h2, allP_pr h3⟩
theorem isPair_pr {k : Nat} {p : Pr} (h : PairOk k p) : isPairA k (prAny p) = true := by
  obtain ⟨h1, h2, h3⟩ := h
  unfold prAny isPairA
  simp only [isNumA]
  rw [decide_eq_true h1, decide_eq_true h2, List.length_map, decide_eq_true h3]
  simp [isIntA, isT, Any.ty]
/-- a first wrong entry -/
def BadAt (k : Nat) (a : Any) (n : Nat) : Prop := match a with
  | .tup l => ∃ b, l[n]? = some b ∧ isPairA k b = false ∧ ∀ i, i < n → ∀ c, l[i]? = some c → isPairA k c = true
  | _ => n = 0
def SmallA (a : Any) : Prop := ∀ l, a = .tup l → ∀ b ∈ l, ∀ m l', b = .tup [m, .tup l'] → l'.length ≤ 1000
def spCheck : Sp := Pur fun vs H R => ∃ (k : Nat) (x : V) (ns : List Pr), vs = [.int k, x] ∧ (nmR ns).p x H ∧ (∀ p ∈ ns, PairOk k p) ∧ k ≤ 1000 ∧ R = nmR ns
def spCheckX (C : Addr) : Sp := fun vs H _ E => ∃ (k : Nat) (x : V) (a : Any) (n : Nat), vs = [.int k, x] ∧ (anyR a).p x H ∧ BadAt k a n ∧ SmallA a ∧
  ∀ H' d, Ex H H' → H' d = some (.xd [(("at" : Str), .int n)]) → E (.ref C) (some d) H'
section
variable {P : Program} {w : World} {K : PySem.W.Frag} {mg : Str → Option Value} {base : Heap}
/-- a def that may raise -/
structure ClX (P : Program) (w : World) (K : PySem.W.Frag) (mg : Str → Option Value) (base : Heap) (k : Nat) (x : Str) (sp : Sp) : Prop where
  ex : ∃ (f : Addr) (fd : FuncData) (ps : List Str), FnOk P w K mg base (L2.CX P w) k f fd ps sp ∧ mg x = some (.ref f) ∧ PySem.W.keepIn K (.ref f) = true ∧ Binds K fd ps []
theorem Dn.calX {x : Str} {st : Stmt} {N ps : List Str} {k : Nat} {sp : Sp} (D : Dn K mg x st ps) (S : FnScope N ps (defScope st)) (len : ∀ vs H Q E, sp vs H Q E → vs.length = ps.length)
    (hbody : ∀ (f : Addr) (cdv : Value) (A : Around) (outer : List Env) (s : Shared) (H : Hp) (vs : List V) (Q : VK) (E : XK), Room k (A.deeper (envOfC x (defScope st) s.heap.objs.size f cdv)) → sp vs H Q E →
      ∃ t, PSs (cxOf (L2.CX P w) P w K mg base N x (defScope st) f cdv A outer s H E) (defBody st) t ∧ t (dE Q) (start N vs) H) : ClX P w K mg base (k + 1) x sp := by
  obtain ⟨f, fd, F, hm, b⟩ := D.ex
  exact ⟨f, fd, ps, F.okX S len (hbody f), hm, F.kp, b⟩
theorem ep_isPair {σ : L2.St} {H : Hp} {ta tb : TE} {k : Nat} {a : Any} {E : XK} (ha : EvP ta σ H (Rp.v (.int k))) (hb : EvP tb σ H (anyR a)) (hs : ∀ m l, a = .tup [m, .tup l] → l.length ≤ 1000) : EvP (tCall spIsPair [] E (tCons ta (tCons tb tNil))) σ H (Rp.v (.bl (isPairA k a))) :=
  ep_pur (ea_cons ha (ea_cons hb ea_nil)) fun vs H1 _ p => by
    match vs, p with
    | [u, v], p => exact ⟨k, v, a, by rw [show u = V.int k from p.1], p.2.1, hs, rfl⟩
theorem ok_checked (D : Dn K mg "checked_naming" s_checked_naming p_checked_naming) (T : Txt mg) (c_is_pair : Cl P w K mg base 3 "is_pair" spIsPair) : Cl P w K mg base 4 "checked_naming" spCheck := by
  refine D.cal sc_checked_naming (fun vs H Q E h => ?_) (fun f cdv A outer s H vs Q E hr h => ?_)
  · obtain ⟨_, ⟨_, _, _, rfl, _⟩, _⟩ := h
    rfl
  · obtain ⟨_, ⟨n, x, ns, rfl, hx, ho, hn, rfl⟩, k⟩ := h
    refine ⟨_, (pss_cons (ps_if (pt_not (pt_val (pe_callB (kIsi (K := K) rfl) (by rfl) T.isinstance (by decide +kernel) (pa_cons (pv 1) (pa_cons (pe_bltn (v := .ty "tuple") (by rfl) T.tuple (by decide +kernel) rfl) pa_nil))))) (pss_one ps_never) pss_nil)
      (pss_cons (ps_for PassesOwn.never rfl (pi_enumT (by rfl) T.enumerate (pa_cons (pv 1) pa_nil)) (pg_tup rfl (pgs_cons (pg_name (i := 2) sc_checked_naming.nd rfl (Or.inl rfl)) (pgs_cons (pg_name (i := 3) sc_checked_naming.nd rfl (Or.inl rfl)) pgs_nil))) (pss_one (ps_if (pt_not (pt_val (pe_c c_is_pair hr (by decide) rfl (pa_cons (pv 0) (pa_cons (pv 3) pa_nil))))) (pss_one ps_never) pss_nil)))
      (pss_one (ps_ret (pv 1))))), ?_⟩
    have hxa := nmR_any hx
    refine p_skip (Evl.et_is (Evl.et_not (et_ep (ep_isi (ep_var rfl hxa)))) rfl) fun H1 e1 => ?_
    refine p_for (l_forEnT (Rs := ns.map pairR) (ea_cons (ep_var rfl ((nmR ns).up e1 hx)) ea_nil) fun H2 e2 => ⟨{
      Pv := fun i σ' H' => (∃ a3 a4, σ' = [some (.int n), some x, a3, a4]) ∧ Ex H2 H'
      h0 := ⟨⟨_, _, rfl⟩, Ex.refl _⟩
      hk := fun i σ' H' _ ⟨_, e⟩ => Tk.of e
      hs := ?_
      hd := ?_ }⟩)
    · rintro i v σ' H' H'' hi ⟨⟨a3, a4, rfl⟩, e4⟩ e5 it
      refine g_itE it fun u2 hu2 => ?_
      obtain ⟨R, hR, pR⟩ := hu2
      obtain ⟨p, hp, rfl⟩ := getR hR
      have po := ho p (List.mem_of_getElem? hp)
      refine Evl.s_when (b := false) (Evl.et_is (Evl.et_not (et_ep (ep_isPair (a := prAny p) (ep_v rfl) (ep_var rfl (pairR_any.mp ((pairR p).up (e4.trans e5) pR))) fun m l e => ?_))) ?_) (fun z => by cases z) fun _ H6 e6 => ⟨⟨_, _, rfl⟩, (e4.trans e5).trans e6⟩
      · unfold prAny at e
        cases e
        rw [List.length_map, po.2.2]; exact hn
      · rw [isPair_pr po]; rfl
    · rintro σ' H' ⟨⟨a3, a4, rfl⟩, e4⟩
      have eA := (e1.trans e2).trans e4
      exact p_ret (D := dE Q) (ep_var (R := nmR ns) rfl ((nmR ns).up eA hx)) fun v H3 e3 p => k v H3 (eA.trans e3) p
theorem ok_checkedX {C fI : Addr} (I : PySem.NLX.IgTxt P K mg "InvalidGroup" C fI) (D : Dn K mg "checked_naming" s_checked_naming p_checked_naming) (T : Txt mg) (c_is_pair : Cl P w K mg base 3 "is_pair" spIsPair) : ClX P w K mg base 4 "checked_naming" (spCheckX C) := by
  refine D.calX sc_checked_naming (fun vs H Q E h => ?_) (fun f cdv A outer s H vs Q E hr h => ?_)
  · obtain ⟨_, _, _, _, rfl, _⟩ := h
    rfl
  · obtain ⟨n, x, a, m, rfl, hx, hbad, hsm, k⟩ := h
    refine ⟨_, (pss_cons (ps_if (pt_not (pt_val (pe_callB (kIsi (K := K) rfl) (by rfl) T.isinstance (by decide +kernel) (pa_cons (pv 1) (pa_cons (pe_bltn (v := .ty "tuple") (by rfl) T.tuple (by decide +kernel) rfl) pa_nil))))) (pss_one (ps_raiseIg rfl I hr (takes_of rfl rfl rfl rfl) (by exact (pa_cons pe_int pa_nil)))) pss_nil)
      (pss_cons (ps_for (passes_of rfl) rfl (pi_enumT (by rfl) T.enumerate (pa_cons (pv 1) pa_nil)) (pg_tup rfl (pgs_cons (pg_name (i := 2) sc_checked_naming.nd rfl (Or.inl rfl)) (pgs_cons (pg_name (i := 3) sc_checked_naming.nd rfl (Or.inl rfl)) pgs_nil))) (pss_one (ps_if (pt_not (pt_val (pe_c c_is_pair hr (by decide) rfl (pa_cons (pv 0) (pa_cons (pv 3) pa_nil))))) (pss_one (ps_raiseIg rfl I hr (takes_of rfl rfl rfl rfl) (by exact (pa_cons (pv 2) pa_nil)))) pss_nil)))
      (pss_one (ps_ret (pv 1))))), ?_⟩
    have h1 : EvT (tNot (tTest (tCB (rIsi K) (tCons (tVar 1) (tCons (tC (.ty "tuple")) tNil))))) (start n_checked_naming [.int n, x]) H (!isT "tuple" a.ty) := Evl.et_not (et_ep (ep_isi (ep_var rfl hx)))
    have out : ∀ {H1 : Hp} {σ : L2.St} {ta : TE} {D : Ends}, Ex H H1 → EvP ta σ H1 (Rp.v (.int m)) → tRaiseIg C (fun cls d _ H => E cls d H) (tCons ta tNil) D σ H1 := fun {H1 σ ta D} e he =>
      he H1 (Ex.refl _) _ fun v H2 e2 pv => ⟨v, rfl, fun d hd => k _ d ((e.trans e2).trans (Ex.new hd)) (by rw [show v = V.int m from pv, upd_same])⟩
    cases a with
    | tup l =>
      rw [anyR_tup] at hx
      obtain ⟨b, hb, hbf, hbt⟩ := hbad
      refine p_skip (Evl.et_is h1 (by simp [isT, Any.ty])) fun H1 e1 => ?_
      refine p_for (l_forEnT (Rs := l.map anyR) (ea_cons (ep_var rfl ((tupR _).up e1 hx)) ea_nil) fun H2 e2 => ⟨{
        Pv := fun i σ' H' => (∃ a3 a4, σ' = [some (.int n), some x, a3, a4]) ∧ Ex H2 H' ∧ i ≤ m
        h0 := ⟨⟨_, _, rfl⟩, Ex.refl _, Nat.zero_le _⟩
        hk := fun i σ' H' _ ⟨_, e, _⟩ => Tk.of e
        hs := ?_
        hd := ?_ }⟩)
      · rintro i v σ' H' H'' hi ⟨⟨a3, a4, rfl⟩, e4, him⟩ e5 it
        refine g_itE it fun u2 hu2 => ?_
        obtain ⟨R, hR, pR⟩ := hu2
        obtain ⟨c, hc, rfl⟩ := getR hR
        have eB := (e1.trans e2).trans (e4.trans e5)
        refine Evl.s_when (b := !isPairA n c) (Evl.et_not (et_ep (ep_isPair (ep_v rfl) (ep_var rfl ((anyR c).up (e4.trans e5) pR)) fun m' l' e => hsm l rfl c (List.mem_of_getElem? hc) m' l' e))) (fun hz H6 e6 => ?_) fun hz H6 e6 => ⟨⟨_, _, rfl⟩, (e4.trans e5).trans e6, ?_⟩
        · have him' : i = m := by
            rcases Nat.lt_or_ge i m with h | h
            · rw [hbt i h c hc] at hz; cases hz
            · omega
          subst him'
          exact out (eB.trans e6) (ep_v rfl)
        · rcases Nat.lt_or_ge i m with h | h
          · omega
          · have : i = m := by omega
            subst this
            rw [hb] at hc
            cases hc
            rw [hbf] at hz; cases hz
      · rintro σ' H' ⟨_, _, hl⟩
        rw [List.length_map] at hl
        have := (List.getElem?_eq_some_iff.mp hb).1
        omega
    | _ =>
      cases hbad
      exact Evl.q_when (b := true) (Evl.et_is h1 (by simp [isT, Any.ty])) (fun _ H1 e1 => out e1 (ep_c (v := .int 0))) (fun z => by cases z)
end
end NL
end
section
set_option linter.all false
set_option Elab.async false
set_option maxRecDepth 100000
namespace NL
open PySem PySem.Spec PyProof.Rows L2
open Evl (Ex Ev EvT)
open C8 (pe_c pe_mk pe_mt pe_gc)
theorem Named.sm {k : Nat} {vs : List Pr} (h : Named k vs) : ∀ p ∈ vs, p.1 = 0 → Small p.2 := by
  intro p hp p0
  cases h with
  | clocks hm hl =>
    have := (clock_ok hm).1 p.1 (List.mem_map.mpr ⟨p, hp, rfl⟩)
    omega
  | bal hl hs => rw [List.mem_singleton.mp hp]; exact hs
  | balClock _ h2 _ _ _ _ hs =>
    rcases List.mem_cons.mp hp with rfl | hp
    · exact hs
    · rw [List.mem_singleton.mp hp] at p0
      have : (2 : Int) ≤ 0 := p0 ▸ h2
      omega
  | clockBal _ h2 _ _ _ _ hs =>
    rcases List.mem_cons.mp hp with rfl | hp
    · have : (2 : Int) ≤ 0 := p0 ▸ h2
      omega
    · rw [List.mem_singleton.mp hp]; exact hs
  | two _ _ _ hs hs' =>
    rcases List.mem_cons.mp hp with rfl | hp
    · exact hs
    · rw [List.mem_singleton.mp hp]; exact hs'
theorem Named.small_len {k : Nat} {vs : List Pr} (h : Named k vs) : vs.length ≤ 3 := by
  cases h with
  | clocks hm hl =>
    have : ∀ ms ∈ clockLists k, ms.length ≤ 3 := by
      intro ms hms
      unfold clockLists at hms
      split at hms <;> simp at hms <;> (try rcases hms with h | h | h | h | h | h | h | h | h | h | h | h | h | h | h | h | h | h | h | h | h) <;> subst_vars <;> simp
    have := this _ hm
    rwa [List.length_map] at this
  | _ => simp
/-- the books that are told -/
structure BkOf (k : Nat) (ns : List Pr) (bs : List (List Int)) : Prop where
  nd : bs.Nodup
  so : bs.Pairwise (· ≤ ·)
  mem : ∀ x, x ∈ bs ↔ Mn k (Zv ns) x
theorem BkOf.uniq {k : Nat} {ns : List Pr} {as bs : List (List Int)} (h : BkOf k ns as) (g : BkOf k ns bs) : as = bs :=
  sorted_uniq le_anti (perm_of_mem h.nd g.nd fun x => (h.mem x).trans (g.mem x).symm) h.so g.so
def spTold (C : Addr) : Sp := fun vs H Q _ => ∃ (k : Nat) (x : V) (ns : List Pr), vs = [.int k, x] ∧ (nmR ns).p x H ∧ Named k ns ∧ 1 ≤ k ∧ k ≤ 4 ∧ ∀ v H' bs, Ex H H' → (bookN H C k bs).p v H' → BkOf k ns bs → Q v H'
theorem bookN_up {H0 H1 : Hp} {C : Addr} {k : Nat} {bs : List (List Int)} {v : V} {H : Hp} (e : Ex H0 H1) (h : (bookN H1 C k bs).p v H) : (bookN H0 C k bs).p v H :=
  let ⟨o, d, h1, h2, h3, h4, h5⟩ := h; ⟨o, d, h1, h2, h3, none_of e h4, none_of e h5⟩
section
variable {P : Program} {w : World} {K : PySem.W.Frag} {mg : Str → Option Value} {base : Heap}
theorem l_forX {σ : L2.St} {H : Hp} {sp : Sp} {E : L2.St → XK} {ta : TA} {Rs : List Rp} {g : TG} {tu : TS} {D : Ends} (h : NL.EvA ta σ H Rs) (k : ∀ vs H1 Q, Ex H H1 → AllP vs Rs H1 → sp vs H1 Q (E σ)) : tFor (iTup K (tCallS sp E ta)) g tu D σ H :=
  h H (Ex.refl H) _ fun vs H1 e p => k vs H1 _ e p
theorem uni_nodup (k : Nat) : ((List.range k).map (uni k)).Nodup := by
  refine List.pairwise_map.mpr (List.Pairwise.imp_of_mem (fun {i j} hi hj hij e => ?_) List.nodup_range)
  exact hij (uni_inj (List.mem_range.mp hi) (List.mem_range.mp hj) e)
theorem fn_told {C : Addr} (D : Dn K mg "told_book" s_told_book p_told_book) (T : Txt mg) (c_unit_rows : Cl P w K mg base 1 "unit_rows" spUnitRows) (c_checked_naming : Cl P w K mg base 4 "checked_naming" spCheck)
    (c_least_sums_by : Cl P w K mg base 2 "least_sums_by" spLeastBy) (c_Book : C8.Mak P w K mg base 4 "Book" C (spInit C) []) : ∃ f fd, L2.Fun K "told_book" "told_book" s_told_book f fd ∧ mg "told_book" = some (.ref f) ∧ Binds K fd p_told_book [] ∧ FnOk P w K mg base CX0 6 f fd p_told_book (spTold C) := by
  obtain ⟨f, fd, F, hm, hbd⟩ := D.ex
  refine ⟨f, fd, F, hm, hbd, F.ok sc_told_book (fun vs H Q E h => ?_) (fun cdv A outer s H vs Q E hr h => ?_)⟩
  · obtain ⟨_, _, _, rfl, _⟩ := h
    rfl
  · obtain ⟨n, x, ns, rfl, hx, hN, n1, n4, k⟩ := h
    refine ⟨_, (pss_cons (ps_set (i := 2) sc_told_book.nd rfl (Or.inl rfl) (pe_c c_unit_rows hr (by decide) rfl (pa_cons (pv 0) pa_nil)))
      (pss_cons (ps_for PassesOwn.never rfl (pi_tup (pe_c c_checked_naming hr (by decide) rfl (pa_cons (pv 0) (pa_cons (pv 1) pa_nil)))) (pg_name (i := 3) sc_told_book.nd rfl (Or.inl rfl)) (pss_one (ps_set (i := 2) sc_told_book.nd rfl (Or.inl rfl) (pe_c c_least_sums_by hr (by decide) rfl (pa_cons (pv 0) (pa_cons (pv 2) (pa_cons (pv 3) pa_nil)))))))
      (pss_one (ps_ret (pe_mk c_Book hr (by decide) rfl (pa_cons (pv 0) (pa_cons (pv 2) pa_nil))))))), ?_⟩
    obtain ⟨B, hB⟩ := hN.runs n4
    have hok := hN.ok
    refine p_set (R := lstT ((List.range n).map (uni n))) (ep_pur (ea_cons (ep_v rfl) ea_nil) fun vs H1 _ p => ?_) fun v H1 e1 pv => ?_
    · match vs, p with
      | [y], p => exact ⟨n, by rw [show y = V.int n from p.1], by omega, rfl⟩
    refine p_for (l_forT (Rs := ns.map pairR) (ep_pur (ok := fun vs H R => ∃ (k : Nat) (x : V) (ns : List Pr), vs = [.int k, x] ∧ (nmR ns).p x H ∧ (∀ p ∈ ns, PairOk k p) ∧ k ≤ 1000 ∧ R = nmR ns) (ea_cons (ep_v rfl) (ea_cons (ep_var (R := nmR ns) rfl ((nmR ns).up e1 hx)) ea_nil)) fun vs H2 _ p => ?_) fun H2 e2 => ⟨{
      Pv := fun i σ' H' => ∃ (pv : V) (a3 : Option V) (F : List (List Int)), σ' = [some (.int n), some x, some pv, a3] ∧ Ex H2 H' ∧ (lstT F).p pv H' ∧ F.Nodup ∧ F.length ≤ 1100000 ∧ ∀ x, x ∈ F ↔ Mn n (Zv (ns.take i)) x
      h0 := ⟨v, none, _, rfl, Ex.refl _, (lstT _).up e2 pv, uni_nodup n, by rw [List.length_map, List.length_range]; omega, fun x => ?_⟩
      hk := fun i σ' H' _ ⟨_, _, _, _, e, _⟩ => Tk.of e
      hs := ?_
      hd := ?_ }⟩)
    · match vs, p with
      | [y, z], p => exact ⟨n, z, ns, by rw [show y = V.int n from p.1], p.2.1, hok, by omega, rfl⟩
    · rw [List.take_zero, mn_nil, mn_true, List.mem_map]
      constructor
      · rintro ⟨i, hi, rfl⟩; exact ⟨i, List.mem_range.mp hi, rfl⟩
      · rintro ⟨i, hi, rfl⟩; exact ⟨i, List.mem_range.mpr hi, rfl⟩
    · rintro i u σ' H' H'' hi ⟨pv', a3, F, rfl, e3, hF, nd, hlen, mem⟩ e4 ⟨R, hR, pR⟩
      obtain ⟨p, hp, rfl⟩ := getR hR
      have hm := List.mem_of_getElem? hp
      have po := hok p hm
      have LA : LArg n (Zv (ns.take i)) p B F := ⟨n1, n4, ker_zv fun q hq => (hok q (List.mem_of_mem_take hq)).2.2, po.1, po.2.2, hN.sm p hm, hB.le, hB.pow, hB.gr i p hp, nd, mem⟩
      have args : NL.EvA (tCons (tVar 0) (tCons (tVar 2) (tCons (tVar 3) tNil))) [some (.int n), some x, some pv', some u] H'' [Rp.v (.int n), lstT F, pairR p] :=
        ea_cons (ep_v rfl) (ea_cons (ep_var (R := lstT F) rfl ((lstT F).up e4 hF)) (ea_cons (ep_var (R := pairR p) rfl ((pairR p).up (e3.trans e4) pR)) ea_nil))
      show tCall spLeastBy [] C8.E0 (tCons (tVar 0) (tCons (tVar 2) (tCons (tVar 3) tNil))) [some (.int n), some x, some pv', some u] H'' _
      refine run_call args fun vs H5 e5 q => ?_
      match vs, q with
      | [y1, y2, y3], q =>
        refine ⟨n, _, p, B, F, y2, y3, by rw [show y1 = V.int n from q.1], q.2.1, q.2.2.1, LA, fun v6 H6 F6 e6 hF6 nd6 mem6 => ?_⟩
        refine ⟨v6, _, F6, rfl, (e3.trans e4).trans (e5.trans e6), hF6, nd6, ?_, fun x => ?_⟩
        · have := count_le (k := n) (n := B) nd6 fun c hc => by
            have m := (mem6 c).mp hc
            obtain ⟨hs', g⟩ := gr_all LA.ker LA.p0 LA.pk m
            exact ⟨m.1, LA.gr _ _ g⟩
          have := LA.pow
          omega
        · rw [mem6, List.take_add_one, hp]
          exact mn_snoc.symm
    · rintro σ' H' ⟨pv', a3, F, rfl, e3, hF, nd, hlen, mem⟩
      rw [List.length_map, List.take_length] at mem
      have eA := (e1.trans e2).trans e3
      refine p_ret (D := dE Q) (R := bookN H' C n (srt F)) (ep_book (ep_v rfl) (ep_var (R := lstT F) rfl hF) n1 (by omega) nd (by omega) fun b hb => ⟨((mem b).mp hb).1, ((mem b).mp hb).2.2.1⟩) fun v4 H4 e4 p4 => k v4 H4 _ (eA.trans e4) (bookN_up eA p4) ⟨(srt_perm F).nodup_iff.mpr nd, srt_sorted F, fun x => by rw [(srt_perm F).mem_iff, mem]⟩
theorem ok_told {C : Addr} (D : Dn K mg "told_book" s_told_book p_told_book) (T : Txt mg) (c_unit_rows : Cl P w K mg base 1 "unit_rows" spUnitRows) (c_checked_naming : Cl P w K mg base 4 "checked_naming" spCheck)
    (c_least_sums_by : Cl P w K mg base 2 "least_sums_by" spLeastBy) (c_Book : C8.Mak P w K mg base 4 "Book" C (spInit C) []) : Cl P w K mg base 6 "told_book" (spTold C) := by
  obtain ⟨f, fd, F, hm, hbd, Fn⟩ := fn_told (P := P) (w := w) (base := base) D T c_unit_rows c_checked_naming c_least_sums_by c_Book
  exact ⟨f, fd, p_told_book, [], Fn, hm, F.kp, hbd, .nil⟩
theorem ok_toldX {C CI fI : Addr} (D : Dn K mg "told_book" s_told_book p_told_book) (T : Txt mg) (c_unit_rows : Cl P w K mg base 1 "unit_rows" spUnitRows) (x_checked : ClX P w K mg base 4 "checked_naming" (spCheckX CI))
    (c_least_sums_by : Cl P w K mg base 2 "least_sums_by" spLeastBy) (c_Book : C8.Mak P w K mg base 4 "Book" C (spInit C) []) : ClX P w K mg base 6 "told_book" (fun vs H Q E => ∃ k : Nat, vs.head? = some (.int k) ∧ k ≤ 1000 ∧ spCheckX CI vs H Q E) := by
  refine D.calX sc_told_book (fun vs H Q E h => ?_) (fun f cdv A outer s H vs Q E hr h => ?_)
  · obtain ⟨_, _, _, _, _, _, _, rfl, _⟩ := h
    rfl
  · obtain ⟨k0, hk0, hk1, n, x, a, m, rfl, hx, hbad, hsm, k⟩ := h
    cases Option.some.inj hk0
    obtain ⟨f1, fd1, ps1, F1, m1, k1, b1⟩ := x_checked.ex
    have hr1 : Room 4 _ := hr.mono (by decide)
    refine ⟨_, (pss_cons (ps_set (i := 2) sc_told_book.nd rfl (Or.inl rfl) (pe_c c_unit_rows hr (by decide) rfl (pa_cons (pv 0) pa_nil)))
      (pss_cons (ps_for (passes_of rfl) rfl (pi_tup (pe_callS F1 hr1 rfl m1 k1 b1 (fun σ => passAt (takes_of rfl rfl rfl rfl) σ) (by exact (pa_cons (pv 0) (pa_cons (pv 1) pa_nil))))) (pg_name (i := 3) sc_told_book.nd rfl (Or.inl rfl)) (pss_one (ps_set (i := 2) sc_told_book.nd rfl (Or.inl rfl) (pe_c c_least_sums_by hr (by decide) rfl (pa_cons (pv 0) (pa_cons (pv 2) (pa_cons (pv 3) pa_nil)))))))
      (pss_one (ps_ret (pe_mk c_Book hr (by decide) rfl (pa_cons (pv 0) (pa_cons (pv 2) pa_nil))))))), ?_⟩
    refine p_set (R := lstT ((List.range k0).map (uni k0))) (ep_pur (ea_cons (ep_v rfl) ea_nil) fun vs H1 _ p => ?_) fun v H1 e1 pv => ?_
    · match vs, p with
      | [y], p => exact ⟨k0, by rw [show y = V.int k0 from p.1], by omega, rfl⟩
    have args : NL.EvA (tCons (tVar 0) (tCons (tVar 1) tNil)) [some (.int k0), some x, some v, none] H1 [Rp.v (.int k0), anyR a] := ea_cons (ep_v rfl) (ea_cons (ep_var (R := anyR a) rfl ((anyR a).up e1 hx)) ea_nil)
    refine p_for (l_forX args fun vs H2 Q2 e2 q => ?_)
    match vs, q with
    | [y1, y2], q => exact ⟨k0, y2, a, m, by rw [show y1 = V.int k0 from q.1], q.2.1, hbad, hsm, fun H' d e hd => k H' d ((e1.trans e2).trans e) hd⟩
end
end NL
end
section
set_option linter.all false
set_option Elab.async false
set_option maxRecDepth 100000
namespace NL
open PySem PySem.Spec PyProof.Rows L2
open Evl (Ex Ev EvT)
open C8 (pe_c pe_mk pe_mt pe_gc)
abbrev s_sum_of : Stmt := top 18
abbrev n_sum_of : List Str := ["book", "indexes", "found", "at"]
abbrev p_sum_of : List Str := ["book", "indexes"]
theorem sc_sum_of : FnScope n_sum_of p_sum_of (defScope s_sum_of) := ⟨rfl, rfl, rfl, by decide +kernel, rfl, by decide +kernel, by decide +kernel⟩
abbrev s_is_needless : Stmt := top 19
abbrev n_is_needless : List Str := ["book", "wanted", "cover", "whole", "at"]
abbrev p_is_needless : List Str := ["book", "wanted", "cover", "whole"]
theorem sc_is_needless : FnScope n_is_needless p_is_needless (defScope s_is_needless) := ⟨rfl, rfl, rfl, by decide +kernel, rfl, by decide +kernel, by decide +kernel⟩
abbrev s_batches_with_first : Stmt := top 23
abbrev n_batches_with_first : List Str := ["book", "crowd", "kinds", "kind", "many", "at", "batch"]
abbrev p_batches_with_first : List Str := ["book", "crowd"]
theorem sc_batches_with_first : FnScope n_batches_with_first p_batches_with_first (defScope s_batches_with_first) := ⟨rfl, rfl, rfl, by decide +kernel, rfl, by decide +kernel, by decide +kernel⟩
abbrev s_covers_of : Stmt := top 20
abbrev n_covers_of : List Str := ["book", "wanted", "found", "fresh", "later", "cover", "whole", "short", "at", "batch", "kind"]
abbrev p_covers_of : List Str := ["book", "wanted"]
theorem sc_covers_of : FnScope n_covers_of p_covers_of (defScope s_covers_of) := ⟨rfl, rfl, rfl, by decide +kernel, rfl, by decide +kernel, by decide +kernel⟩
section
variable {P : Program} {w : World} {K : PySem.W.Frag} {mg : Str → Option Value} {base : Heap} {C : Addr}
/-- the batches of a book -/
def OkB (k : Nat) (bs : List (List Int)) : Prop := 1 ≤ k ∧ k ≤ 4 ∧ bs.length ≤ 4 ∧ ∀ b ∈ bs, Dom k b ∧ 0 < b.sum ∧ b.sum ≤ 3
def spSumOf (C : Addr) : Sp := Pur fun vs H R => ∃ (x y : V) (k : Nat) (bs : List (List Int)) (c : List Int), vs = [x, y] ∧ (bookR C k bs).p x H ∧ (tupI c).p y H ∧ OkB k bs ∧ Idx bs.length c ∧ c.length ≤ 1000 ∧ R = tupI (sumB k bs c)
def spNeedless (C : Addr) : Sp := Pur fun vs H R => ∃ (x y z u : V) (k : Nat) (bs : List (List Int)) (b c m : List Int), vs = [x, y, z, u] ∧ (bookR C k bs).p x H ∧ (tupI b).p y H ∧ (tupI c).p z H ∧ (tupI m).p u H ∧ OkB k bs ∧ Idx bs.length c ∧ c.length ≤ 1000 ∧ b.length = k ∧ m.length = k ∧
  R = Rp.v (.bl (c.any fun i => vle b (vsub m (bat bs i))))
theorem ep_bat {σ : L2.St} {H : Hp} {te ti : TE} {k : Nat} {bs : List (List Int)} {i : Int} (B : BookT K mg C) (h : EvP te σ H (bookR C k bs)) (hi : EvP ti σ H (Rp.v (.int i))) (hb : 0 ≤ i ∧ i < (bs.length : Int)) : EvP (tOp (rIxT K) (tFld K te "batches") ti) σ H (tupI (bat bs i)) := by
  have e : i = ((i.toNat : Nat) : Int) := by omega
  refine ep_ixT (Rs := bs.map tupI) (i := i.toNat) (ep_batches B h) (e ▸ hi) ?_
  have : i.toNat < bs.length := by omega
  unfold bat
  rw [List.getElem?_map, List.getD_eq_getElem?_getD, List.getElem?_eq_getElem this]; rfl
theorem OkB.len {k : Nat} {bs : List (List Int)} (h : OkB k bs) {i : Int} (hi : 0 ≤ i ∧ i < (bs.length : Int)) : (bat bs i).length = k := (h.2.2.2 _ (bat_mem hi)).1.1
theorem ok_sum_of (B : BookT K mg C) (D : Dn K mg "sum_of" s_sum_of p_sum_of) (T : Txt mg) (c_nobody : Cl P w K mg base 1 "nobody" spNobody) (c_more : Cl P w K mg base 1 "more" spMore) : Cl P w K mg base 2 "sum_of" (spSumOf C) := by
  refine D.cal sc_sum_of (fun vs H Q E h => ?_) (fun f cdv A outer s H vs Q E hr h => ?_)
  · obtain ⟨_, ⟨_, _, _, _, _, rfl, _⟩, _⟩ := h
    rfl
  · obtain ⟨_, ⟨x, y, n, bs, c, rfl, hx, hy, ob, hi, hl, rfl⟩, k⟩ := h
    refine ⟨_, (pss_cons (ps_set (i := 2) sc_sum_of.nd rfl (Or.inl rfl) (pe_c c_nobody hr (by decide) rfl (pa_cons (kFld (K := K) rfl (pv 0) rfl) pa_nil)))
      (pss_cons (ps_for PassesOwn.never rfl (pi_tup (pv 1)) (pg_name (i := 3) sc_sum_of.nd rfl (Or.inl rfl)) (pss_one (ps_set (i := 2) sc_sum_of.nd rfl (Or.inl rfl) (pe_c c_more hr (by decide) rfl (pa_cons (pv 2) (pa_cons (pe_ix (kIxT (K := K) rfl) (kFld (K := K) rfl (pv 0) rfl) (pv 3) (fun _ _ => rfl)) pa_nil))))))
      (pss_one (ps_ret (pv 2))))), ?_⟩
    have n1 := ob.1
    have n4 := ob.2.1
    refine p_set (R := tupI (zeros n)) (ep_nobody (ep_kinds B (ep_var rfl hx)) n1 (by omega)) fun v H1 e1 pv => ?_
    refine p_for (l_forT (Rs := c.map fun i => Rp.v (.int i)) (tupR_I (ep_var rfl ((tupI c).up e1 hy))) fun H2 e2 => ⟨{
      Pv := fun i σ' H' => ∃ (v : V) (a3 : Option V), σ' = [some x, some y, some v, a3] ∧ Ex H2 H' ∧ (tupI (sumB n bs (c.take i))).p v H'
      h0 := ⟨v, none, rfl, Ex.refl _, (tupI _).up e2 pv⟩
      hk := fun i σ' H' _ ⟨_, _, _, e, _⟩ => Tk.of e
      hs := ?_
      hd := ?_ }⟩)
    · rintro j u σ' H' H'' hj ⟨v, a3, rfl, e3, hv⟩ e4 ⟨R, hR, pR⟩
      obtain ⟨i, hci, rfl⟩ := getR hR
      cases (show u = V.int i from pR)
      have hib := hi i (List.mem_of_getElem? hci)
      refine l_set (ep_more (ep_var rfl ((tupI _).up e4 hv)) (ep_bat B (ep_var (R := bookR C n bs) rfl ((bookR C n bs).up (((e1.trans e2).trans e3).trans e4) hx)) (ep_v rfl) hib) ?_ ?_) fun v5 H5 e5 p5 => ⟨v5, _, rfl, (e3.trans e4).trans e5, ?_⟩
      · rw [ob.len hib, (sumB_dom (fun b hb => (ob.2.2.2 b hb).1) fun i' hi' => hi i' (List.mem_of_mem_take hi')).1]
      · rw [(sumB_dom (k := n) (fun b hb => (ob.2.2.2 b hb).1) fun i' hi' => hi i' (List.mem_of_mem_take hi')).1]; omega
      · rw [List.take_add_one, hci]
        show (tupI (sumB n bs (c.take j ++ [i]))).p v5 H5
        rw [sumB_snoc]; exact p5
    · rintro σ' H' ⟨v, a3, rfl, e3, hv⟩
      rw [List.length_map, List.take_length] at hv
      exact p_ret (D := dE Q) (ep_var rfl hv) fun v5 H5 e5 p5 => k v5 H5 (((e1.trans e2).trans e3).trans e5) p5
theorem ok_needless (B : BookT K mg C) (D : Dn K mg "is_needless" s_is_needless p_is_needless) (T : Txt mg) (c_within : Cl P w K mg base 1 "within" spWithin) (c_less : Cl P w K mg base 1 "less" spLess) : Cl P w K mg base 2 "is_needless" (spNeedless C) := by
  refine D.cal sc_is_needless (fun vs H Q E h => ?_) (fun f cdv A outer s H vs Q E hr h => ?_)
  · obtain ⟨_, ⟨_, _, _, _, _, _, _, _, _, rfl, _⟩, _⟩ := h
    rfl
  · obtain ⟨_, ⟨x, y, z, u, n, bs, b, c, m, rfl, hx, hy, hz, hu, ob, hi, hl, hbk, hmk, rfl⟩, k⟩ := h
    refine ⟨_, (pss_one (ps_ret (pe_callB (kAny (K := K) rfl rfl) (by rfl) T.any (by decide +kernel) (pa_cons (pe_lc (own := [("at", 4)]) (g := (gName 4)) (tt := tYes) rfl sc_is_needless.nd (pi_tup (pv 2)) (blkOk_by (N := n_is_needless) (sc := defScope s_is_needless) (by decide +kernel)) (fun _ _ _ _ _ => (pg_name (i := 4) sc_is_needless.nd rfl (Or.inl rfl))) (fun _ _ _ _ _ => pts_nil) (fun _ _ _ _ _ => (pe_c c_within hr (by decide) rfl (pa_cons (pv 1) (pa_cons (pe_c c_less hr (by decide) rfl (pa_cons (pv 3) (pa_cons (pe_ix (kIxT (K := K) rfl) (kFld (K := K) rfl (pv 0) rfl) (pv 4) (fun _ _ => rfl)) pa_nil))) pa_nil))))) pa_nil)))), ?_⟩
    refine p_ret (ep_any (bs := c.map fun i => vle b (vsub m (bat bs i))) ?_) fun v H1 e1 p1 => k v H1 e1 (by rw [List.any_map] at p1; exact p1)
    refine EvP.cast (ep_lc1 (n := c.length) (f := fun _ => true) (Rs := fun j => Rp.v (.bl (vle b (vsub m (bat bs (c.getD j 0)))))) (EvW.len (ew_tupI (ep_var rfl hz)) rfl) (small hl) (fun _ _ => inferInstance) (fun _ => rfl)
        (fun _ _ _ _ _ _ => et_yes) fun j w' H2 hj e hw _ => ?_) ?_
    · obtain ⟨i, hci, rfl⟩ := hw
      rw [getD_of hci]
      have hib := hi i (List.mem_of_getElem? hci)
      have hlb := ob.len hib
      refine ep_within (ep_var rfl ((tupI b).up e hy)) (ep_less (ep_var rfl ((tupI m).up e hu)) (ep_bat B (ep_var (R := bookR C n bs) rfl ((bookR C n bs).up e hx)) (ep_v rfl) hib) (by rw [hlb, hmk]) (by rw [hmk]; have := ob.2.1; omega)) ?_ (by rw [hbk]; have := ob.2.1; omega)
      rw [vsub_len hmk hlb, hbk]
    · rw [kept_bl]
      exact congrArg lstR (congrArg _ (List.ext_getElem (by simp) fun i h1 h2 => by simp at h1; simp [List.getD_eq_getElem?_getD, h1]))
/-- the kinds that come -/
def hasK (c : List Int) : List Nat := (List.range c.length).filter fun j => decide (0 < at_ c j)
/-- the batches that fit and have the first kind -/
def firsts (bs : List (List Int)) (c : List Int) : List Int := match hasK c with
  | [] => []
  | j :: _ => ((List.range bs.length).filter fun i => decide (0 < at_ (bs.getD i []) j) && vle (bs.getD i []) c).map fun (i : Nat) => (i : Int)
def spFirsts (C : Addr) : Sp := Pur fun vs H R => ∃ (x y : V) (k : Nat) (bs : List (List Int)) (c : List Int), vs = [x, y] ∧ (bookR C k bs).p x H ∧ (tupI c).p y H ∧ OkB k bs ∧ Dom k c ∧ R = lstR ((firsts bs c).map fun i => Rp.v (.int i))
theorem ok_firsts (B : BookT K mg C) (D : Dn K mg "batches_with_first" s_batches_with_first p_batches_with_first) (T : Txt mg) (c_within : Cl P w K mg base 1 "within" spWithin) : Cl P w K mg base 2 "batches_with_first" (spFirsts C) := by
  refine D.cal sc_batches_with_first (fun vs H Q E h => ?_) (fun f cdv A outer s H vs Q E hr h => ?_)
  · obtain ⟨_, ⟨_, _, _, _, _, rfl, _⟩, _⟩ := h
    rfl
  · obtain ⟨_, ⟨x, y, n, bs, c, rfl, hx, hy, ob, hd, rfl⟩, k⟩ := h
    refine ⟨_, (pss_cons (ps_set (i := 2) sc_batches_with_first.nd rfl (Or.inr rfl) (pe_lc (own := [("kind", 3), ("many", 4)]) (g := (gTup K 2 (gCons (gName 3) (gCons (gName 4) gNil)))) rfl sc_batches_with_first.nd (pi_enumT (by rfl) T.enumerate (pa_cons (pv 1) pa_nil)) (blkOk_by (N := n_batches_with_first) (sc := defScope s_batches_with_first) (by decide +kernel)) (fun _ _ _ _ _ => (pg_tup rfl (pgs_cons (pg_name (i := 3) sc_batches_with_first.nd rfl (Or.inl rfl)) (pgs_cons (pg_name (i := 4) sc_batches_with_first.nd rfl (Or.inl rfl)) pgs_nil)))) (fun _ _ _ _ _ => (pts_one (pt_cmpR op_gt (pv 4) pe_int (nomark _)))) (fun _ _ _ _ _ => (pv 3))))
      (pss_cons (ps_if (pt_cmpR op_eq (pe_callB (kLenS (K := K) rfl) (by rfl) T.len (by decide +kernel) (pa_cons (pv 2) pa_nil)) pe_int (nomark _)) (pss_one (ps_ret (pe_lst pa_nil))) pss_nil)
      (pss_one (ps_ret (pe_lc (own := [("at", 5), ("batch", 6)]) (g := (gTup K 2 (gCons (gName 5) (gCons (gName 6) gNil)))) rfl sc_batches_with_first.nd (pi_enumT (by rfl) T.enumerate (pa_cons (kFld (K := K) rfl (pv 0) rfl) pa_nil)) (blkOk_by (N := n_batches_with_first) (sc := defScope s_batches_with_first) (by decide +kernel)) (fun _ _ _ _ _ => (pg_tup rfl (pgs_cons (pg_name (i := 5) sc_batches_with_first.nd rfl (Or.inl rfl)) (pgs_cons (pg_name (i := 6) sc_batches_with_first.nd rfl (Or.inl rfl)) pgs_nil)))) (fun _ _ _ _ _ => (pts_one (PW.pt (pw_and (pt_cmpR op_gt (pe_ix (kIxT (K := K) rfl) (pv 6) (pe_ix (kIxL (K := K) rfl) (pv 2) pe_int (fun _ _ => rfl)) (fun _ _ => rfl)) pe_int (nomark _)) (pw_and1 (pt_val (pe_c c_within hr (by decide) rfl (pa_cons (pv 6) (pa_cons (pv 1) pa_nil))))))))) (fun _ _ _ _ _ => (pv 5))))))), ?_⟩
    have n4 := ob.2.1
    refine p_set (R := lstR ((hasK c).map fun (j : Nat) => Rp.v (.int (j : Int)))) (EvP.cast (ep_lc2 (n := c.length) (f := fun j => decide (0 < at_ c j)) (Rs := fun j => Rp.v (.int j)) (EvW.len (ew_enumT (Rs := c.map fun i => Rp.v (.int i)) (ea_cons (tupR_I (ep_var rfl hy)) ea_nil)) (by simp)) (small (by rw [hd.1]; omega)) (fun _ _ => inferInstance) (fun _ _ => rfl)
        (fun j u v H2 hj e hu hv => ?_) fun j u v H2 hj e hu hv _ => ?_) ?_) fun v H1 e1 pv => ?_
    · rw [IsI.get hv]
      exact et_I0 (p := fun i j => decide (j < i)) (ep_v rfl) ep_c
    · rw [show u = V.int j from hu]; exact ep_v rfl
    · rfl
    have hv : EvP (tVar 2) [some x, some y, some v, none, none, none, none] H1 (lstR ((hasK c).map fun (j : Nat) => Rp.v (.int (j : Int)))) := ep_var rfl pv
    refine p_when (b := decide (hasK c = [])) (Evl.et_is (et_eqI (ep_lenL hv) ep_c) ?_) (fun hb H2 e2 => ?_) fun hb H2 e2 => ?_
    · rw [List.length_map]
      cases hasK c <;> simp
      omega
    · refine p_ret (D := dE Q) (σ := []) (R := lstR []) (ep_lst ea_nil (Nat.zero_le _)) fun v3 H3 e3 p3 => k v3 H3 ((e1.trans e2).trans e3) ?_
      unfold firsts
      rw [of_decide_eq_true hb]; exact p3
    · have hne := of_decide_eq_false hb
      obtain ⟨j, r, ej⟩ := List.exists_cons_of_ne_nil hne
      have hjk : j < n := by
        have : j ∈ hasK c := by rw [ej]; exact List.mem_cons_self ..
        unfold hasK at this
        rw [List.mem_filter, List.mem_range, hd.1] at this
        exact this.1
      refine p_ret (D := dE Q) (EvP.cast (R' := lstR ((firsts bs c).map fun i => Rp.v (.int i))) (ep_lc2 (n := bs.length) (f := fun i => decide (0 < at_ (bs.getD i []) j) && vle (bs.getD i []) c) (Rs := fun i => Rp.v (.int i)) (EvW.len (ew_enumT (Rs := bs.map tupI) (ea_cons (ep_batches B (ep_var (R := bookR C n bs) rfl ((bookR C n bs).up (e1.trans e2) hx))) ea_nil)) (by simp)) (small (by have := ob.2.2.1; omega)) (fun _ _ => inferInstance) (fun _ _ => rfl)
        (fun i u w' H3 hi e hu hw => ?_) fun i u w' H3 hi e hu hw _ => ?_) ?_) fun v3 H3 e3 p3 => k v3 H3 ((e1.trans e2).trans e3) p3
      · obtain ⟨R, hR, pR⟩ := hw
        obtain ⟨b, hb', rfl⟩ := getR hR
        rw [getD_of hb']
        have hbd := (ob.2.2.2 b (List.mem_of_getElem? hb')).1
        refine Evl.et_and (et_I0 (p := fun i j => decide (j < i)) (ep_ixTI (ns := b) (i := j) (n := at_ b j) (ep_var rfl pR) (ep_ixL (Rs := (hasK c).map fun (j : Nat) => Rp.v (.int (j : Int))) (i := 0) (ep_var rfl ((lstR _).up (e2.trans e) pv)) ep_c (by rw [ej]; rfl)) (get_lt (by rw [hbd.1]; exact hjk))) ep_c) fun _ => et_ep (ep_within (ep_var rfl pR) (ep_var rfl ((tupI c).up ((e1.trans e2).trans e) hy)) (by rw [hbd.1, hd.1]) (by rw [hbd.1]; omega))
      · rw [show u = V.int i from hu]; exact ep_v rfl
      · unfold firsts
        rw [ej, List.map_map]; rfl
end
end NL
end
section
set_option linter.all false
set_option Elab.async false
set_option maxRecDepth 100000
namespace NL
open PySem PySem.Spec PyProof.Rows L2
open Evl (Ex Ev EvT)
open C8 (pe_c pe_mk pe_mt pe_gc)
abbrev s_clearing : Stmt := top 22
abbrev n_clearing : List Str := ["book", "crowd", "without", "known", "at", "rest"]
abbrev p_clearing : List Str := ["book", "crowd", "without", "known"]
theorem sc_clearing : FnScope n_clearing p_clearing (defScope s_clearing) := ⟨rfl, rfl, rfl, by decide +kernel, rfl, by decide +kernel, by decide +kernel⟩
/-- what is known: a crowd and its value -/
abbrev KEnt := List Int × V
abbrev entC (E : List KEnt) : List (List Key × V) := E.map fun e => (keyI e.1, e.2)
def putE (E : List KEnt) (c : List Int) (v : V) : List KEnt := if (E.any fun e => decide (e.1 = c)) = true then E.map (fun e => if e.1 = c then (e.1, v) else e) else E ++ [(c, v)]
theorem any_key (E : List KEnt) (c : List Int) : ((entC E).any fun kv => decide (kv.1 = keyI c)) = E.any fun e => decide (e.1 = c) := by
  unfold entC
  rw [List.any_map]
  congr 1
  funext e
  show decide (keyI e.1 = keyI c) = decide (e.1 = c)
  by_cases h : e.1 = c
  · rw [h]; simp
  · have : ¬ keyI e.1 = keyI c := fun z => h (keyI_inj z)
    rw [decide_eq_false h, decide_eq_false this]
theorem put_entC (E : List KEnt) (c : List Int) (v : V) : putK (entC E) (keyI c) v = entC (putE E c v) := by
  unfold putK putE
  rw [any_key]
  split
  · unfold entC
    rw [List.map_map, List.map_map]
    refine List.map_congr_left fun e _ => ?_
    show (if keyI e.1 = keyI c then (keyI e.1, v) else (keyI e.1, e.2)) = (keyI (if e.1 = c then (e.1, v) else e).1, (if e.1 = c then (e.1, v) else e).2)
    by_cases h : e.1 = c
    · rw [if_pos h, if_pos (by rw [h])]
    · rw [if_neg h, if_neg (fun z => h (keyI_inj z))]
  · unfold entC
    rw [List.map_append]; rfl
theorem mem_putE {E : List KEnt} {c : List Int} {v : V} {e : KEnt} : e ∈ putE E c v ↔ (e ∈ E ∧ e.1 ≠ c) ∨ e = (c, v) := by
  unfold putE
  split
  · rename_i h
    obtain ⟨f, hf, hfc⟩ := List.any_eq_true.mp h
    have hfc' := of_decide_eq_true hfc
    rw [List.mem_map]
    constructor
    · rintro ⟨g, hg, rfl⟩
      by_cases hgc : g.1 = c
      · rw [if_pos hgc, hgc]; exact .inr rfl
      · rw [if_neg hgc]; exact .inl ⟨hg, hgc⟩
    · rintro (⟨he, hne⟩ | rfl)
      · exact ⟨e, he, if_neg hne⟩
      · exact ⟨f, hf, by rw [if_pos hfc', hfc']⟩
  · rename_i h
    have hno : ∀ g ∈ E, g.1 ≠ c := fun g hg z => h (List.any_eq_true.mpr ⟨g, hg, decide_eq_true z⟩)
    rw [List.mem_append, List.mem_singleton]
    exact ⟨fun z => z.elim (fun z => .inl ⟨z, hno e z⟩) .inr, fun z => z.elim (fun z => .inl z.1) .inr⟩
theorem keys_putE (E : List KEnt) (c : List Int) (v : V) (hn : (E.map (·.1)).Nodup) : ((putE E c v).map (·.1)).Nodup := by
  unfold putE
  split
  · have : (E.map (fun e => if e.1 = c then (e.1, v) else e)).map (·.1) = E.map (·.1) := by
      rw [List.map_map]
      refine List.map_congr_left fun e _ => ?_
      show (if e.1 = c then (e.1, v) else e).1 = e.1
      split <;> rfl
    rw [this]; exact hn
  · rename_i h
    rw [List.map_append]
    refine nd_snoc hn fun m => ?_
    obtain ⟨g, hg, z⟩ := List.mem_map.mp m
    exact h (List.any_eq_true.mpr ⟨g, hg, decide_eq_true z⟩)
theorem val_entC : ∀ {E : List KEnt} {e : KEnt}, (E.map (·.1)).Nodup → e ∈ E → valV (entC E) (keyI e.1) = some e.2
  | f :: E, e, hn, he => by
    rw [List.map_cons, List.nodup_cons] at hn
    rcases List.mem_cons.mp he with rfl | he
    · exact valV_pos rfl
    · have ne : ¬ keyI f.1 = keyI e.1 := fun z => hn.1 (by rw [keyI_inj z]; exact List.mem_map.mpr ⟨e, he, rfl⟩)
      show valV ((keyI f.1, f.2) :: entC E) _ = _
      rw [valV_neg ne]
      exact val_entC hn.2 he
theorem val_entC_none : ∀ {E : List KEnt} {c : List Int}, (∀ e ∈ E, e.1 ≠ c) → valV (entC E) (keyI c) = none
  | [], _, _ => rfl
  | f :: E, c, h => by
    show valV ((keyI f.1, f.2) :: entC E) _ = _
    rw [valV_neg fun z => h f (List.mem_cons_self ..) (keyI_inj z)]
    exact val_entC_none fun e he => h e (List.mem_cons_of_mem _ he)
/-- a run is known -/
def ValOk (H : Hp) (e : KEnt) : Prop := ∃ (t : Addr) (l : List Int), e.2 = .ref t ∧ H t = some (.tup (l.map V.int)) ∧ (l.length : Int) ≤ e.1.sum
structure Kn (k : Nat) (M : Int) (H : Hp) (kd : Addr) (E : List KEnt) : Prop where
  at_ : H kd = some (.dT (entC E))
  nd : (E.map (·.1)).Nodup
  dom : ∀ e ∈ E, Dom k e.1 ∧ e.1.sum ≤ M
theorem Kn.len {k : Nat} {M : Int} {H : Hp} {kd : Addr} {E : List KEnt} (h : Kn k M H kd E) (hk : k ≤ 4) (hM : M ≤ 20) : (entC E).length < sizeLine := by
  have := count_le (k := k) (n := 20) h.nd fun c hc => by
    obtain ⟨e, he, rfl⟩ := List.mem_map.mp hc
    obtain ⟨h1, h2⟩ := h.dom e he
    exact ⟨h1, by omega⟩
  rw [List.length_map] at this
  have h3 : (20 + 1) ^ k ≤ (20 + 1) ^ 4 := Nat.pow_le_pow_right (by omega) hk
  rw [List.length_map, sizeLine_eq]
  omega
theorem Kn.ex {k : Nat} {M : Int} {H H' : Hp} {kd : Addr} {E : List KEnt} (h : Kn k M H kd E) (e : Ex H H') : Kn k M H' kd E := ⟨e _ _ h.at_, h.nd, h.dom⟩
theorem Kn.put {k : Nat} {M : Int} {H : Hp} {kd : Addr} {E : List KEnt} (h : Kn k M H kd E) {c : List Int} {v : V} (hc : Dom k c) (hM : c.sum ≤ M) : Kn k M (upd H kd (.dT (entC (putE E c v)))) kd (putE E c v) :=
  ⟨upd_same, keys_putE E c v h.nd, fun e he => (mem_putE.mp he).elim (fun z => h.dom e z.1) fun z => by rw [z]; exact ⟨hc, hM⟩⟩
/-- all kept but what stands at kd -/
def ExB (kd : Addr) (H H' : Hp) : Prop := ∀ a u, a ≠ kd → H a = some u → H' a = some u
theorem ExB.of {kd : Addr} {H H' : Hp} (e : Ex H H') : ExB kd H H' := fun a u _ h => e a u h
theorem ExB.trans {kd : Addr} {H H1 H2 : Hp} (a : ExB kd H H1) (b : ExB kd H1 H2) : ExB kd H H2 := fun c u hn h => b c u hn (a c u hn h)
theorem ExB.upd {kd : Addr} {H : Hp} {o : HO} : ExB kd H (upd H kd o) := fun a u hn h => by rw [upd_ne hn]; exact h
theorem ValOk.up {kd : Addr} {H H' : Hp} {e : KEnt} (x : ExB kd H H') {o : HO} (hk : H kd = some o) (hn : ∀ xs, o ≠ .tup xs) (h : ValOk H e) : ValOk H' e := by
  obtain ⟨t, l, h1, h2, h3⟩ := h
  exact ⟨t, l, h1, x t _ (fun z => by rw [z, hk] at h2; exact hn _ (Option.some.inj h2)) h2, h3⟩
/-- what a safe book has -/
structure Safe (k : Nat) (S : List Int → Prop) (bs : List (List Int)) : Prop where
  ok : OkB k bs
  ker : Ker k S
  all : ∀ b ∈ bs, S b
  fst : ∀ c, Dom k c → S c → 0 < c.sum → firsts bs c ≠ []
def spClear (C : Addr) (m : Nat) : Sp := fun vs H Q _ => ∃ (x y : V) (kd : Addr) (k : Nat) (M : Int) (S : List Int → Prop) (bs : List (List Int)) (c : List Int) (E : List KEnt), vs = [x, y, .non, .ref kd] ∧ (bookR C k bs).p x H ∧ (tupI c).p y H ∧ Safe k S bs ∧ Dom k c ∧ S c ∧ c.sum < m ∧ c.sum ≤ M ∧ M ≤ 20 ∧
  Kn k M H kd E ∧ (∀ e ∈ E, e.1.sum ≤ c.sum → ValOk H e) ∧
  ∀ v H' E', ExB kd H H' → Kn k M H' kd E' → (∀ e ∈ E', e.1.sum ≤ c.sum → ValOk H' e) → (∀ e ∈ E, c.sum < e.1.sum → e ∈ E') → (∀ e ∈ E', c.sum < e.1.sum → e ∈ E) → ValOk H' (c, v) → Q v H'
section
variable {P : Program} {w : World} {K : PySem.W.Frag} {mg : Str → Option Value} {base : Heap} {C : Addr}
theorem ep_consS {σ : L2.St} {H : Hp} {ta tb : TE} {i : Int} {l : List Int} (ha : EvP ta σ H (Rp.v (.int i))) (hb : EvP tb σ H (tupI l)) (hl : l.length ≤ 900) : EvP (tTup (tCons ta (StX.tStar K tb tNil))) σ H (tupI (i :: l)) := fun H1 e Q q =>
  ha H1 e _ fun x H2 e2 px => hb H2 (e.trans e2) _ fun y H3 e3 py => by
    cases (show x = V.int i from px)
    obtain ⟨t, rfl, ht⟩ := py
    refine ⟨t, _, rfl, .inl (sqT_of ht), ?_, fun p hp => q _ _ ((e2.trans e3).trans (Ex.new hp)) ⟨p, rfl, by rw [upd_same, List.append_nil]; rfl⟩⟩
    rw [sizeLine_eq]
    show (V.int i :: (l.map V.int ++ [])).length ≤ _
    rw [List.append_nil, List.length_cons, List.length_map]; omega
/-- known[crowd] -/
theorem ep_kn {σ : L2.St} {H : Hp} {i j : Nat} {kd yb : Addr} {n : Nat} {M : Int} {E : List KEnt} {c : List Int} {v : V} (hi : σ[i]? = some (some (.ref kd))) (hj : σ[j]? = some (some (.ref yb))) (kn : Kn n M H kd E) (hy : H yb = some (.tup (c.map V.int))) (hm : (c, v) ∈ E) : EvP (tDGet (tVar i) (tVar j)) σ H (Rp.v v) := fun H1 e Q q =>
  ⟨.ref kd, hi, .ref yb, hj, kd, v, rfl, by have := DGet.t (k := keyI c) (e _ _ kn.at_) (by rw [kV_keyI]; exact e _ _ hy); rw [val_entC (e := (c, v)) kn.nd hm] at this; exact this, q _ _ (Ex.refl _) rfl⟩
theorem firsts_mem {bs : List (List Int)} {c : List Int} {i : Int} (h : i ∈ firsts bs c) : (0 ≤ i ∧ i < (bs.length : Int)) ∧ vle (bat bs i) c = true := by
  unfold firsts at h
  split at h
  · cases h
  · obtain ⟨j, hj, rfl⟩ := List.mem_map.mp h
    rw [List.mem_filter, List.mem_range, Bool.and_eq_true] at hj
    exact ⟨⟨by omega, by omega⟩, by unfold bat; rw [Int.toNat_natCast]; exact hj.2.2⟩
theorem clear0 (D : Dn K mg "clearing" s_clearing p_clearing) : Cl P w K mg base 3 "clearing" (spClear C 0) := by
  refine D.cal sc_clearing (fun vs H Q E h => ?_) (fun f cdv A outer s H vs Q E hr h => ?_)
  · obtain ⟨_, _, _, _, _, _, _, c, _, _, _, _, _, hd, _, hs, _⟩ := h
    have := hd.sum_nonneg
    omega
  · obtain ⟨_, _, _, _, _, _, _, c, _, _, _, _, _, hd, _, hs, _⟩ := h
    have := hd.sum_nonneg
    omega
theorem ok_clear1 (B : BookT K mg C) (D : Dn K mg "clearing" s_clearing p_clearing) (T : Txt mg) (m : Nat) (c_batches_with_first : Cl P w K mg base 2 "batches_with_first" (spFirsts C)) (c_less : Cl P w K mg base 1 "less" spLess) (c_clearing : Cl P w K mg base (m + 3) "clearing" (spClear C m)) : Cl P w K mg base (m + 4) "clearing" (spClear C (m + 1)) := by
  refine D.cal sc_clearing (fun vs H Q E h => ?_) (fun f cdv A outer s H vs Q E hr h => ?_)
  · obtain ⟨_, _, _, _, _, _, _, _, _, rfl, _⟩ := h
    rfl
  · obtain ⟨x, y, kd, n, M, S, bs, c, E, rfl, hx, hy, sf, cd, cS, cm, cM, hM, kn, hdone, k⟩ := h
    refine ⟨_, (pss_cons (ps_if (pt_cmp (pc_dnotin (u1 hr.units) (pv 1) (pv 3))) (pss_cons (ps_dput (u1 hr.units) (pv 3) (pv 1) (pe_ifExp (pt_cmpR op_eq (pe_callB (cr_sumT rfl) (by rfl) T.sum (by decide +kernel) (pa_cons (pv 1) pa_nil)) pe_int (nomark _)) (pe_tup pa_nil) pe_non) rfl)
      (pss_one (ps_for PassesOwn.never rfl (pi_list (pe_c c_batches_with_first hr (by omega) rfl (pa_cons (pv 0) (pa_cons (pv 1) pa_nil)))) (pg_name (i := 4) sc_clearing.nd rfl (Or.inl rfl)) (pss_one (ps_if (PW.pt (pw_and (pt_cmpR op_isN (pe_dget (u1 hr.units) (pv 3) (pv 1) (fun _ _ => rfl)) pe_non (nomark _)) (pw_and1 (pt_cmpR op_ne (pv 4) (pv 2) (nomark _))))) (pss_cons (ps_set (i := 5) sc_clearing.nd rfl (Or.inl rfl) (pe_c c_clearing hr (by omega) rfl (pa_cons (pv 0) (pa_cons (pe_c c_less hr (by omega) rfl (pa_cons (pv 1) (pa_cons (pe_ix (kIxT (K := K) rfl) (kFld (K := K) rfl (pv 0) rfl) (pv 4) (fun _ _ => rfl)) pa_nil))) (pa_cons (pv 2) (pa_cons (pv 3) pa_nil))))))
      (pss_one (ps_dput (u1 hr.units) (pv 3) (pv 1) (pe_ifExp (pt_cmpR op_isN (pv 5) pe_non (nomark _)) pe_non (pe_tup (pa_cons (pv 4) (StX.pa_star (pv 5) pa_nil)))) rfl))) pss_nil))))) pss_nil)
      (pss_one (ps_ret (pe_dget (u1 hr.units) (pv 3) (pv 1) (fun _ _ => rfl))))), ?_⟩
    obtain ⟨yb, rfl, hyb⟩ := hy
    have n4 := sf.ok.2.1
    have cs0 := cd.sum_nonneg
    have tkd : ∀ xs : List V, HO.dT (entC E) ≠ .tup xs := fun xs z => by cases z
    by_cases hc : ∃ e ∈ E, e.1 = c
    · obtain ⟨⟨c', v⟩, he, rfl⟩ := hc
      refine Evl.q_when (b := false) (et_epB fun H1 e Q q => ⟨.ref yb, rfl, .ref kd, rfl, kd, _, rfl, DGet.t (k := keyI c') (e _ _ kn.at_) (by rw [kV_keyI]; exact e _ _ hyb), q _ _ (Ex.refl _) (by rw [val_entC (e := (c', v)) kn.nd he]; rfl)⟩) (fun z => by cases z) fun _ H1 e1 => ?_
      have kn1 := kn.ex e1
      refine p_ret (D := dE Q) (ep_kn rfl rfl kn1 (e1 _ _ hyb) he) fun v2 H2 e2 p2 => ?_
      cases (show v2 = v from p2)
      have eA := ExB.of (kd := kd) (e1.trans e2)
      exact k _ _ E eA (kn1.ex e2) (fun e he hs => (hdone e he hs).up eA kn.at_ tkd) (fun e he _ => he) (fun e he _ => he) ((hdone _ he (Int.le_refl _)).up eA kn.at_ tkd)
    · have hno : ∀ e ∈ E, e.1 ≠ c := fun e he z => hc ⟨e, he, z⟩
      refine Evl.q_when (b := true) (et_epB fun H1 e Q q => ⟨.ref yb, rfl, .ref kd, rfl, kd, _, rfl, DGet.t (k := keyI c) (e _ _ kn.at_) (by rw [kV_keyI]; exact e _ _ hyb), q _ _ (Ex.refl _) (by rw [val_entC_none hno]; rfl)⟩) (fun _ H1 e1 => ?_) (fun z => by cases z)
      have kn1 := kn.ex e1
      -- known[crowd] = () if sum(crowd) == 0 else None
      have ev0 : EvP (tIf (tTest (tOp rEq (tCB rSumT (tCons (tVar 1) tNil)) (tC (.int 0)))) (tTup tNil) (tC .non)) [some x, some (.ref yb), some .non, some (.ref kd), none, none] H1 (if c.sum = 0 then tupR [] else Rp.v .non) := by
        refine ep_if (et_eqI (ep_sumT (ep_var (R := tupI c) rfl ⟨yb, rfl, e1 _ _ hyb⟩)) ep_c) (fun hb => ?_) fun hb => ?_
        · rw [if_pos (of_decide_eq_true hb)]
          exact ep_tup ea_nil (Nat.zero_le _)
        · rw [if_neg (of_decide_eq_false hb)]
          exact ep_c
      refine ev0 H1 (Ex.refl _) _ fun v0 H2 e2 pv0 => ?_
      have kn2 := kn1.ex e2
      have hyb2 := e2 _ _ (e1 _ _ hyb)
      refine ⟨.ref kd, rfl, .ref yb, rfl, kd, _, rfl, DPut.t (k := keyI c) kn2.at_ (by rw [kV_keyI]; exact hyb2) (kn2.len n4 hM), ?_⟩
      rw [put_entC]
      have kn3 : Kn n M (upd H2 kd (.dT (entC (putE E c v0)))) kd (putE E c v0) := kn2.put cd cM
      have x3 : ExB kd H (upd H2 kd (.dT (entC (putE E c v0)))) := (ExB.of (e1.trans e2)).trans ExB.upd
      have ybk : yb ≠ kd := ne_of hyb kn.at_ (by intro z; cases z)
      have hyb3 : (upd H2 kd (.dT (entC (putE E c v0)))) yb = some (.tup (c.map V.int)) := by rw [upd_ne ybk]; exact hyb2
      have hv0 : c.sum = 0 → ValOk (upd H2 kd (.dT (entC (putE E c v0)))) (c, v0) := fun z => by
        rw [if_pos z] at pv0
        obtain ⟨t, xs, h1, h2, h3⟩ := pv0
        match xs, h3 with
        | [], _ => exact ⟨t, [], h1, by rw [upd_ne (ne_of h2 kn2.at_ (by intro z; cases z))]; exact h2, by show ((0 : Nat) : Int) ≤ c.sum; omega⟩
      have hx3 : (bookR C n bs).p x (upd H2 kd (.dT (entC (putE E c v0)))) := by
        obtain ⟨o, d, h1, dx, t, h2, ta, ts, h4, h5, h6⟩ := (bookR C n bs).up (e1.trans e2) hx
        have tk : Tk H2 (upd H2 kd (.dT (entC (putE E c v0)))) := fun a xs q => by rw [upd_ne (ne_of q kn2.at_ (by intro z; cases z))]; exact q
        exact ⟨o, d, h1, dx, t, by rw [upd_ne (ne_of h2 kn2.at_ (by intro z; cases z))]; exact h2, ta, ts, h4, tk _ _ h5, h6.tk tk⟩
      generalize hH3 : upd H2 kd (.dT (entC (putE E c v0))) = H3 at kn3 x3 hyb3 hv0 hx3 ⊢
      refine l_forL (Rs := (firsts bs c).map fun i => Rp.v (.int i)) (ep_pur (ea_cons (ep_var (R := bookR C n bs) rfl hx3) (ea_cons (ep_var (R := tupI c) rfl ⟨yb, rfl, hyb3⟩) ea_nil)) fun vs H4 _ p => ?_) fun a xs H5 e5 ha pa => ⟨{
        Pv := fun i σ' H' => ∃ (a4 a5 : Option V) (E1 : List KEnt) (vc : V), σ' = [some x, some (.ref yb), some .non, some (.ref kd), a4, a5] ∧ ExB kd H5 H' ∧ Kn n M H' kd E1 ∧ (c, vc) ∈ E1 ∧ (∀ e ∈ E1, e.1.sum ≤ c.sum → e.1 ≠ c → ValOk H' e) ∧
          (∀ e ∈ E, c.sum < e.1.sum → e ∈ E1) ∧ (∀ e ∈ E1, c.sum < e.1.sum → e ∈ E) ∧ (i = 0 → vc = v0) ∧ (0 < i → ValOk H' (c, vc))
        h0 := ⟨none, none, putE E c v0, v0, rfl, ExB.of (Ex.refl _), kn3.ex e5, mem_putE.mpr (.inr rfl), fun e he hs hne => ?_, fun e he hs => ?_, fun e he hs => ?_, fun _ => rfl, fun z => absurd z (Nat.lt_irrefl _)⟩
        hk := fun i σ' H' _ ⟨_, _, _, _, _, xb, _⟩ => xb a _ (ne_of ha (kn3.ex e5).at_ (by intro z; cases z)) ha
        hs := ?_
        hd := ?_ }⟩
      · match vs, p with
        | [u1, u2], p => exact ⟨u1, u2, n, bs, c, rfl, p.1, p.2.1, sf.ok, cd, rfl⟩
      · rcases mem_putE.mp he with ⟨he, _⟩ | rfl
        · exact (hdone e he hs).up (x3.trans (ExB.of e5)) kn.at_ tkd
        · exact absurd rfl hne
      · exact mem_putE.mpr (.inl ⟨he, hno e he⟩)
      · rcases mem_putE.mp he with ⟨he, _⟩ | rfl
        · exact he
        · exact absurd hs (Int.lt_irrefl _)
      · rintro i u σ' H' H'' hi ⟨a4, a5, E1, vc, rfl, xb, kn', hm, hd', k1, k2, hz, hp⟩ e6 ⟨R, hR, pR⟩
        obtain ⟨iv, hiv, rfl⟩ := getR hR
        cases (show u = V.int iv from pR)
        have kn6 := kn'.ex e6
        have xb6 := xb.trans (ExB.of (kd := kd) e6)
        have hyb5 := e5 _ _ hyb3
        have hyb6 := xb6 yb _ ybk hyb5
        have t1 : ∀ xs : List V, HO.dT (entC E1) ≠ .tup xs := fun xs z => by cases z
        refine Evl.s_when (b := decide (vc = .non) && true) (Evl.et_and (et_ep (ep_op (ep_kn rfl rfl kn6 hyb6 hm) ep_c fun a b H1 _ pa pb => Gi.now (fun Q q => ⟨pb, q⟩) (by rw [show a = vc from pa]; rfl))) fun _ => et_ep (ep_of (Evl.ev_op (Evl.ev_var rfl) (Evl.ev_var rfl) (Evl.rv_ne rfl)))) (fun hb H7 e7 => ?_) fun hb H7 e7 => ?_
        · rw [Bool.and_true] at hb
          have hvc := of_decide_eq_true hb
          have hi0 : i = 0 := by
            rcases Nat.eq_zero_or_pos i with h | h
            · exact h
            · obtain ⟨t, l, h1, _⟩ := hp h
              rw [show (c, vc).2 = vc from rfl, hvc] at h1; cases h1
          obtain ⟨ib, lb⟩ := firsts_mem (List.mem_of_getElem? hiv)
          obtain ⟨bd, bp, b3⟩ := sf.ok.2.2.2 _ (bat_mem ib)
          have rd := bd.sub cd lb
          have rS := sf.ker.sub bd cd (sf.all _ (bat_mem ib)) cS lb
          have rs : (vsub c (bat bs iv)).sum = c.sum - (bat bs iv).sum := sum_sub cd.1 bd.1
          have xb7 := xb6.trans (ExB.of (kd := kd) e7)
          have kn7 := kn6.ex e7
          have hx7 : (bookR C n bs).p x H7 := by
            have hx5 := (bookR C n bs).up e5 hx3
            obtain ⟨o, d, h1, dx, t, h2, ta, ts, h4, h5, h6⟩ := hx5
            have tk : Tk H5 H7 := fun a xs q => xb7 a _ (ne_of q (kn3.ex e5).at_ (by intro z; cases z)) q
            exact ⟨o, d, h1, dx, t, xb7 _ _ (ne_of h2 (kn3.ex e5).at_ (by intro z; cases z)) h2, ta, ts, h4, tk _ _ h5, h6.tk tk⟩
          have hyb7 := xb7 yb _ ybk hyb5
          have args : NL.EvA (tCons (tVar 0) (tCons (tCall spLess [] C8.E0 (tCons (tVar 1) (tCons (tOp (rIxT K) (tFld K (tVar 0) "batches") (tVar 4)) tNil))) (tCons (tVar 2) (tCons (tVar 3) tNil)))) [some x, some (.ref yb), some .non, some (.ref kd), some (.int iv), a5] H7 [bookR C n bs, tupI (vsub c (bat bs iv)), Rp.v .non, Rp.v (.ref kd)] :=
            ea_cons (ep_var rfl hx7) (ea_cons (ep_less (ep_var (R := tupI c) rfl ⟨yb, rfl, hyb7⟩) (ep_bat B (ep_var rfl hx7) (ep_v rfl) ib) (by rw [cd.1, bd.1]) (by rw [cd.1]; omega)) (ea_cons (ep_v rfl) (ea_cons (ep_v rfl) ea_nil)))
          refine run_call args fun vs H8 e8 q => ?_
          match vs, q with
          | [z1, z2, z3, z4], q =>
            cases (show z3 = V.non from q.2.2.1)
            cases (show z4 = V.ref kd from q.2.2.2.1)
            have kn8 := kn7.ex e8
            refine ⟨z1, z2, kd, n, M, S, bs, _, E1, rfl, q.1, q.2.1, sf, rd, rS, by omega, by omega, hM, kn8, fun e he hs => (hd' e he (by omega) fun z => ?_).up (ExB.of ((e6.trans e7).trans e8)) kn'.at_ t1, fun v9 H9 E9 x9 kn9 d9 j1 j2 vo9 => ?_⟩
            · rw [z] at hs; omega
            obtain ⟨t9, l9, rfl', ht9, hl9⟩ := vo9
            cases (show v9 = V.ref t9 from rfl')
            -- known[crowd] = (at, *rest)
            have ev9 : EvP (tIf (tTest (tOp (fun x y H Q => y = .non ∧ Q (.bl (decide (x = .non))) H) (tVar 5) (tC .non))) (tC .non) (tTup (tCons (tVar 4) (StX.tStar K (tVar 5) tNil)))) [some x, some (.ref yb), some .non, some (.ref kd), some (.int iv), some (.ref t9)] H9 (tupI (iv :: l9)) := by
              refine ep_if (b := false) (Evl.et_is (et_ep (ep_op (ep_v rfl) ep_c fun a b H1 _ pa pb => Gi.now (R := Rp.v (.bl (decide ((V.ref t9) = V.non)))) (fun Q q => ⟨pb, q⟩) (by rw [show a = V.ref t9 from pa]; rfl))) rfl) (fun z => by cases z) fun _ => ?_
              refine ep_consS (ep_v rfl) (ep_var (R := tupI l9) rfl ⟨t9, rfl, ht9⟩) ?_
              have hl9' : (l9.length : Int) ≤ (vsub c (bat bs iv)).sum := hl9
              omega
            refine ev9 H9 (Ex.refl _) _ fun vA HA eA pA => ?_
            obtain ⟨tA, rfl, htA⟩ := pA
            have knA := kn9.ex eA
            have hybA : HA yb = some (.tup (c.map V.int)) := eA _ _ (x9 _ _ ybk (e8 _ _ hyb7))
            refine ⟨.ref kd, rfl, .ref yb, rfl, kd, _, rfl, DPut.t (k := keyI c) knA.at_ (by rw [kV_keyI]; exact hybA) (knA.len n4 hM), ?_⟩
            rw [put_entC]
            have t9' : ∀ xs : List V, HO.dT (entC E9) ≠ .tup xs := fun xs z => by cases z
            have xA : ExB kd H' (upd HA kd (.dT (entC (putE E9 c (.ref tA))))) := (((ExB.of ((e6.trans e7).trans e8)).trans x9).trans (ExB.of eA)).trans ExB.upd
            have xA9 : ExB kd H9 (upd HA kd (.dT (entC (putE E9 c (.ref tA))))) := (ExB.of eA).trans ExB.upd
            have vA : ValOk (upd HA kd (.dT (entC (putE E9 c (.ref tA))))) (c, .ref tA) := by
              refine ⟨tA, iv :: l9, rfl, by rw [upd_ne (ne_of htA knA.at_ (by intro z; cases z))]; exact htA, ?_⟩
              have hl9' : (l9.length : Int) ≤ (vsub c (bat bs iv)).sum := hl9
              show ((iv :: l9).length : Int) ≤ c.sum
              rw [List.length_cons]
              push_cast
              omega
            refine ⟨_, _, putE E9 c (.ref tA), .ref tA, rfl, xb.trans xA, knA.put cd cM, mem_putE.mpr (.inr rfl), fun e he hs hne => ?_, fun e he hs => ?_, fun e he hs => ?_, fun z => absurd z (Nat.succ_ne_zero _), fun _ => vA⟩
            · rcases mem_putE.mp he with ⟨he, _⟩ | rfl
              · by_cases hr' : e.1.sum ≤ (vsub c (bat bs iv)).sum
                · exact (d9 e he hr').up xA9 kn9.at_ t9'
                · exact (hd' e (j2 e he (by omega)) hs hne).up xA kn'.at_ t1
              · exact absurd rfl hne
            · refine mem_putE.mpr (.inl ⟨j1 e (k1 e he hs) (by omega), fun z => ?_⟩)
              rw [z] at hs; omega
            · rcases mem_putE.mp he with ⟨he, _⟩ | rfl
              · exact k2 e (j2 e he (by omega)) hs
              · exact absurd hs (Int.lt_irrefl _)
        · rw [Bool.and_true] at hb
          have hvc := of_decide_eq_false hb
          have xb7 : ExB kd H' H7 := ExB.of (e6.trans e7)
          refine ⟨_, _, E1, vc, rfl, xb.trans xb7, kn'.ex (e6.trans e7), hm, fun e he hs hne => (hd' e he hs hne).up xb7 kn'.at_ t1, k1, k2, fun z => absurd z (Nat.succ_ne_zero _), fun _ => ?_⟩
          rcases Nat.eq_zero_or_pos i with h | h
          · have hvz := hz h
            subst hvz
            have cz : c.sum = 0 := by
              by_cases hq : c.sum = 0
              · exact hq
              · rw [if_neg hq] at pv0
                exact absurd pv0 hvc
            exact ((hv0 cz).up (ExB.of e5) kn3.at_ (fun xs z => by cases z)).up (xb.trans xb7) (kn3.ex e5).at_ (fun xs z => by cases z)
          · exact (hp h).up xb7 kn'.at_ t1
      · rintro σ' H' ⟨a4, a5, E1, vc, rfl, xb, kn', hm, hd', k1, k2, hz, hp⟩
        have t1 : ∀ xs : List V, HO.dT (entC E1) ≠ .tup xs := fun xs z => by cases z
        have vo : ValOk H' (c, vc) := by
          rcases Nat.eq_zero_or_pos ((firsts bs c).map fun i => Rp.v (.int i)).length with h | h
          · have hf : firsts bs c = [] := by
              rw [List.length_map] at h
              exact List.eq_nil_of_length_eq_zero h
            have cz : c.sum = 0 := by
              by_cases hq : 0 < c.sum
              · exact absurd hf (sf.fst c cd cS hq)
              · omega
            have hvz := hz h
            subst hvz
            exact ((hv0 cz).up (ExB.of e5) kn3.at_ (fun xs z => by cases z)).up xb (kn3.ex e5).at_ (fun xs z => by cases z)
          · exact hp h
        have hyb' := xb yb _ ybk (e5 _ _ hyb3)
        refine p_ret (D := dE Q) (ep_kn rfl rfl kn' hyb' hm) fun v2 H8 e8 p2 => ?_
        cases (show v2 = vc from p2)
        have x8 : ExB kd H' H8 := ExB.of e8
        refine k _ _ E1 (((x3.trans (ExB.of e5)).trans xb).trans x8) (kn'.ex e8) (fun e he hs => ?_) k1 k2 (vo.up x8 kn'.at_ t1)
        by_cases hne : e.1 = c
        · have hval := val_entC kn'.nd he
          have hval2 := val_entC kn'.nd hm
          rw [hne] at hval
          rw [show keyI (c, vc).1 = keyI c from rfl, hval] at hval2
          have h2 : e.2 = vc := Option.some.inj hval2
          have : e = (c, vc) := Prod.ext hne h2
          rw [this]
          exact vo.up x8 kn'.at_ t1
        · exact (hd' e he hs hne).up x8 kn'.at_ t1
theorem ok_clearing (B : BookT K mg C) (D : Dn K mg "clearing" s_clearing p_clearing) (T : Txt mg) (c_batches_with_first : Cl P w K mg base 2 "batches_with_first" (spFirsts C)) (c_less : Cl P w K mg base 1 "less" spLess) : ∀ m, Cl P w K mg base (m + 3) "clearing" (spClear C m)
  | 0 => clear0 D
  | m + 1 => ok_clear1 B D T m c_batches_with_first c_less (ok_clearing B D T c_batches_with_first c_less m)
end
end NL
end
section
set_option linter.all false
set_option Elab.async false
set_option maxRecDepth 100000
namespace NL
open PySem PySem.Spec PyProof.Rows L2
open Evl (Ex Ev EvT)
open C8 (pe_c pe_mk pe_mt pe_gc)
def srtI (l : List Int) : List Int := l.mergeSort fun a b => decide (a ≤ b)
theorem srtI_perm (l : List Int) : (srtI l).Perm l := List.mergeSort_perm _ _
theorem srtI_eq {a l : List Int} (h : a.Perm l) (hs : a.Pairwise (· ≤ ·)) : a = srtI l := by
  refine sorted_uniq (R := fun a b : Int => a ≤ b) (fun a b h g => Int.le_antisymm h g) (h.trans (srtI_perm l).symm) hs ?_
  refine (List.pairwise_mergeSort (le := fun (a b : Int) => decide (a ≤ b)) (fun a b c h1 h2 => ?_) (fun a b => ?_) l).imp fun h => of_decide_eq_true h
  · exact decide_eq_true (Int.le_trans (of_decide_eq_true h1) (of_decide_eq_true h2))
  · rcases Int.le_total a b with h | h <;> simp [h]
section
variable {K : PySem.W.Frag} {σ : L2.St} {H : Hp} {ta tb tl : TE}
theorem ep_sortedI {l : List Int} (h : EvP tl σ H (lstI l)) : EvP (tCB (rSortedI K) (tCons tl tNil)) σ H (lstI (srtI l)) :=
  ep_cb (ea_cons h ea_nil) fun vs H1 e p => by
    match vs, p with
    | [v], p =>
      obtain ⟨⟨a, rfl, ha⟩, _⟩ := p
      exact fun Q q => ⟨a, l, rfl, sqL_of ha, fun ns' p h1 h2 hp => q _ _ (Ex.new hp) ⟨p, rfl, by rw [upd_same, srtI_eq h1 h2]⟩⟩
/-- [*cover, at] -/
theorem ep_snocS {i : Int} {l : List Int} (ha : EvP ta σ H (tupI l)) (hb : EvP tb σ H (Rp.v (.int i))) (hl : l.length ≤ 900) : EvP (tLst (StX.tStar K ta (tCons tb tNil))) σ H (lstI (l ++ [i])) := fun H1 e Q q =>
  ha H1 e _ fun x H2 e2 px => by
    obtain ⟨t, rfl, ht⟩ := px
    refine ⟨t, _, rfl, .inl (sqT_of ht), hb H2 (e.trans e2) _ fun y H3 e3 py => ?_⟩
    cases (show y = V.int i from py)
    refine ⟨?_, fun p hp => q _ _ ((e2.trans e3).trans (Ex.new hp)) ⟨p, rfl, by rw [upd_same, List.map_append]; rfl⟩⟩
    rw [sizeLine_eq, List.length_append, List.length_map]
    show l.length + 1 ≤ _
    omega
end
theorem shorts_kept (k : Nat) (b w : List Int) : kept k (fun j => decide (at_ w j < at_ b j)) (fun j => Rp.v (.int (j : Int))) = (shorts k b w).map fun (j : Nat) => Rp.v (.int (j : Int)) := rfl
/-- covers under way: each of r batches -/
structure Frs (k : Nat) (bs : List (List Int)) (b : List Int) (r : Nat) (H : Hp) (d : Addr) (W : List KEnt) : Prop where
  at_ : H d = some (.dT (entC W))
  nd : (W.map (·.1)).Nodup
  ent : ∀ e ∈ W, Idx bs.length e.1 ∧ e.1.length = r ∧ (tupI (sumB k bs e.1)).p e.2 H ∧ lack b (sumB k bs e.1) + r ≤ b.sum
theorem Frs.tk {k : Nat} {bs : List (List Int)} {b : List Int} {r : Nat} {H H' : Hp} {d : Addr} {W : List KEnt} (h : Frs k bs b r H d W) (t : Tk H H') (hd : H' d = some (.dT (entC W))) : Frs k bs b r H' d W :=
  ⟨hd, h.nd, fun e he => ⟨(h.ent e he).1, (h.ent e he).2.1, (inferInstance : Stab (tupI (sumB k bs e.1))).st t (h.ent e he).2.2.1, (h.ent e he).2.2.2⟩⟩
theorem len_putE (E : List KEnt) (c : List Int) (v : V) : (putE E c v).length ≤ E.length + 1 := by
  unfold putE
  split <;> simp
theorem tk_upd {H : Hp} {a : Addr} {o u : HO} (h : H a = some o) (hn : ∀ xs, o ≠ .tup xs) : Tk H (upd H a u) := fun b xs q => by
  rw [upd_ne (fun z => by rw [z, h] at q; exact hn xs (Option.some.inj q))]; exact q
theorem lk_upd {H : Hp} {a : Addr} {o u : HO} (h : H a = some o) (hn : ∀ xs, o ≠ .lst xs) : Lk H (upd H a u) := fun b xs q => by
  rw [upd_ne (fun z => by rw [z, h] at q; exact hn xs (Option.some.inj q))]; exact q
theorem ep_sortedD {σ : L2.St} {H : Hp} {i : Nat} {d : Addr} {L : List (List Int)} (hi : σ[i]? = some (some (.ref d))) (hd : H d = some (.dT (setT L))) (hn : ∀ c ∈ L, c ≠ []) : EvP (tCB rSortedD (tCons (tVar i) tNil)) σ H (lstT (srt L)) := fun H1 e Q q =>
  ⟨.ref d, hi, d, _, L, rfl, e _ _ hd, setT_keys L, hn, fun ys ds p hp hy hdp hs => q _ _ (Ex.new hp) ⟨p, ys, rfl, upd_same, (srt_eq hdp hs) ▸ hy.up (Ex.new hp)⟩⟩
def GoodC (k : Nat) (bs : List (List Int)) (b c : List Int) : Prop := Idx bs.length c ∧ c.length ≤ 3 ∧ vle b (sumB k bs c) = true
def spCovers (C : Addr) : Sp := fun vs H Q _ => ∃ (x y : V) (k : Nat) (bs : List (List Int)) (b : List Int), vs = [x, y] ∧ (bookR C k bs).p x H ∧ (tupI b).p y H ∧ OkB k bs ∧ Dom k b ∧ 0 < b.sum ∧ b.sum ≤ 3 ∧
  ∀ v H' cs, Ex H H' → (tupT cs).p v H' → (∀ c ∈ cs, GoodC k bs b c) → cs.length ≤ 1000 → Q v H'
/-- an item of a dict that is walked -/
def ItC (W : List KEnt) : Nat → V → Hp → Prop := fun i x H => ∃ (T q : Addr) (e : KEnt), x = .ref T ∧ H T = some (.tup [.ref q, e.2]) ∧ W[i]? = some e ∧ H q = some (.tup (e.1.map V.int))
section
variable {K : PySem.W.Frag} {σ : L2.St} {H : Hp} {g : TG} {tu tz : TS} {D : Ends}
theorem l_forIC {i : Nat} {d : Addr} {W : List KEnt} (hi : σ[i]? = some (some (.ref d))) (hd : H d = some (.dT (entC W)))
    (k : ∀ od, Nonempty (Loop ⟨fun σ' H' => H' d = some (.frz od (.dT (entC W))) ∧ D.nx σ' (upd H' d (.dT (entC W))), fun v H' => H' d = some (.frz od (.dT (entC W))) ∧ D.rt v (upd H' d (.dT (entC W))), fun σ' H' => H' d = some (.frz od (.dT (entC W))) ∧ D.bk σ' (upd H' d (.dT (entC W))), fun σ' H' => H' d = some (.frz od (.dT (entC W))) ∧ D.ct σ' (upd H' d (.dT (entC W)))⟩
      tu g W.length σ (upd H d (.frz od (.dT (entC W)))) (fun H' => H' d = some (.frz od (.dT (entC W)))) (ItC W))) : tLock (tFor (iItemsT (tVar i)) g tu) D σ H := by
  refine ⟨d, .dT (entC W), hd, trivial, fun od => ?_⟩
  obtain ⟨L⟩ := k od
  refine ⟨.ref d, hi, d, od, entC W, rfl, upd_same, ?_⟩
  refine loop_it (n := W.length) (by have := walk_itemsT (d := d) (o := od) (kvs := entC W); rw [show (entC W).length = W.length by simp [entC]] at this; exact this) L (fun H' h => h) fun j H' x H'' hj _ y => ?_
  obtain ⟨T, c, v, q, h1, rfl, hT, hq, rfl⟩ := y
  unfold entC at h1
  rw [List.getElem?_map] at h1
  cases hw : W[j]? with
  | none => rw [hw] at h1; cases h1
  | some e =>
    rw [hw] at h1
    cases Option.some.inj h1
    refine ⟨Ex.new hT, T, q, e, rfl, upd_same, hw, ?_⟩
    rw [upd_ne (ne_of_none hq hT), hq, kV_keyI]
end
abbrev s_all_leaves : Stmt := top 25
abbrev n_all_leaves : List Str := ["book"]
abbrev p_all_leaves : List Str := ["book"]
theorem sc_all_leaves : FnScope n_all_leaves p_all_leaves (defScope s_all_leaves) := ⟨rfl, rfl, rfl, by decide +kernel, rfl, by decide +kernel, by decide +kernel⟩
section
variable {P : Program} {w : World} {K : PySem.W.Frag} {mg : Str → Option Value} {base : Heap} {C : Addr}
theorem ok_covers (B : BookT K mg C) (D : Dn K mg "covers_of" s_covers_of p_covers_of) (T : Txt mg) (c_nobody : Cl P w K mg base 1 "nobody" spNobody) (c_more : Cl P w K mg base 1 "more" spMore) (c_is_needless : Cl P w K mg base 2 "is_needless" (spNeedless C)) : Cl P w K mg base 3 "covers_of" (spCovers C) := by
  refine D.cal sc_covers_of (fun vs H Q E h => ?_) (fun f cdv A outer s H vs Q E hr h => ?_)
  · obtain ⟨_, _, _, _, _, rfl, _⟩ := h
    rfl
  · obtain ⟨x, y, n, bs, b, rfl, hx, hy, ob, bd, bp, b3, k⟩ := h
    refine ⟨_, (pss_cons (ps_par (i := 2) (j := 3) (by rfl) sc_covers_of.nd rfl rfl (by decide) rfl rfl (pa_cons pe_dnewT (pa_cons (pe_dispT hr.units (pe_tup pa_nil) (pe_c c_nobody hr (by decide) rfl (pa_cons (kFld (K := K) rfl (pv 0) rfl) pa_nil))) pa_nil)) (by rfl))
      (pss_cons (ps_while PassesOwn.never (pt_cmpR op_gt (pe_callB call_len_dT (by rfl) T.len (by decide +kernel) (pa_cons (pv 3) pa_nil)) pe_int (nomark _)) (pss_cons (ps_set (i := 4) sc_covers_of.nd rfl (Or.inl rfl) pe_dnewT)
      (pss_cons (ps_lock (ps_for PassesOwn.never rfl (pi_itemsT (pv 3)) (pg_tup rfl (pgs_cons (pg_name (i := 5) sc_covers_of.nd rfl (Or.inl rfl)) (pgs_cons (pg_name (i := 6) sc_covers_of.nd rfl (Or.inr rfl)) pgs_nil))) (pss_cons (ps_setLc (i := 7) (own := [("kind", 10)]) (g := (gName 10)) rfl sc_covers_of.nd rfl rfl (sw_true rfl rfl rfl (by decide +kernel)) (pi_range1 (by rfl) T.range (pa_cons (kFld (K := K) rfl (pv 0) rfl) pa_nil)) (blkOk_by (N := n_covers_of) (sc := defScope s_covers_of) (by decide +kernel)) (fun _ _ _ _ _ => (pg_name (i := 10) sc_covers_of.nd rfl (Or.inl rfl))) (fun _ _ _ _ _ => (pts_one (pt_cmpR op_lt (pe_ix (kIxT (K := K) rfl) (pv 6) (pv 10) (fun _ _ => rfl)) (pe_ix (kIxT (K := K) rfl) (pv 1) (pv 10) (fun _ _ => rfl)) (nomark _)))) (fun _ _ _ _ _ => (pv 10)))
      (pss_one (ps_if (pt_cmpR op_eq (pe_callB (kLenS (K := K) rfl) (by rfl) T.len (by decide +kernel) (pa_cons (pv 7) pa_nil)) pe_int (nomark _)) (pss_one (ps_if (pt_not (pt_val (pe_c c_is_needless hr (by decide) rfl (pa_cons (pv 0) (pa_cons (pv 1) (pa_cons (pv 5) (pa_cons (pv 6) pa_nil))))))) (pss_one (ps_dput (u1 hr.units) (pv 2) (pv 5) pe_bl rfl)) pss_nil)) (pss_one (ps_for PassesOwn.never rfl (pi_enumT (by rfl) T.enumerate (pa_cons (kFld (K := K) rfl (pv 0) rfl) pa_nil)) (pg_tup rfl (pgs_cons (pg_name (i := 8) sc_covers_of.nd rfl (Or.inl rfl)) (pgs_cons (pg_name (i := 9) sc_covers_of.nd rfl (Or.inl rfl)) pgs_nil))) (pss_one (ps_if (pt_cmpR op_gt (pe_ix (kIxT (K := K) rfl) (pv 9) (pe_ix (kIxL (K := K) rfl) (pv 7) pe_int (fun _ _ => rfl)) (fun _ _ => rfl)) pe_int (nomark _)) (pss_one (ps_dput (u1 hr.units) (pv 4) (pe_callTy (kTupOf (K := K) rfl) (by rfl) T.tuple (by decide +kernel) (pa_cons (pe_callB cr_sortedI (by rfl) T.sorted (by decide +kernel) (pa_cons (pe_lst (StX.pa_star (pv 5) (pa_cons (pv 8) pa_nil))) pa_nil)) pa_nil)) (pe_c c_more hr (by decide) rfl (pa_cons (pv 6) (pa_cons (pv 9) pa_nil))) rfl)) pss_nil)))))))))
      (pss_one (ps_set (i := 3) sc_covers_of.nd rfl (Or.inl rfl) (pv 4))))))
      (pss_one (ps_ret (pe_callTy (kTupOf (K := K) rfl) (by rfl) T.tuple (by decide +kernel) (pa_cons (pe_callB (cr_sortedD rfl hr.units) (by rfl) T.sorted (by decide +kernel) (pa_cons (pv 2) pa_nil)) pa_nil)))))), ?_⟩
    have n1 := ob.1
    have n4 := ob.2.1
    -- found, fresh = {}, {(): nobody(book.kinds)}
    refine fun fd hfd dd hdd => ?_
    have hfd0 : H fd = none := hfd
    have n_d_f : dd ≠ fd := fun z => by rw [z, upd_same] at hdd; cases hdd
    have hdd0 : H dd = none := by rw [upd_ne n_d_f] at hdd; exact hdd
    have ex0 : Ex H (upd (upd H fd (.dT [])) dd (.dT [])) := fun a o q => by rw [upd_ne (ne_of_none q hdd0), upd_ne (ne_of_none q hfd0)]; exact q
    refine ⟨Nat.zero_le _, fun t0 ht0 => ?_⟩
    have ext0 : Ex (upd (upd H fd (.dT [])) dd (.dT [])) (upd (upd (upd H fd (.dT [])) dd (.dT [])) t0 (.tup [])) := Ex.new ht0
    refine ep_nobody (ep_kinds B (ep_var (R := bookR C n bs) rfl ((bookR C n bs).up (ex0.trans ext0) hx))) n1 (by omega) _ (Ex.refl _) _ fun v H1 e1 pv => ?_
    have h1f : H1 fd = some (.dT []) := e1 _ _ (ext0 _ _ (by rw [upd_ne (Ne.symm n_d_f), upd_same]))
    have h1d : H1 dd = some (.dT []) := e1 _ _ (ext0 _ _ upd_same)
    have h1t : H1 t0 = some (.tup []) := e1 _ _ upd_same
    have ex1 : Ex H H1 := (ex0.trans ext0).trans e1
    refine ⟨h1d, t0, [], rfl, h1t, ?_⟩
    refine ⟨_, _, rfl, ?_⟩
    generalize hH2 : upd H1 dd (.dT [([], v)]) = H2
    have h2d : H2 dd = some (.dT (entC [([], v)])) := by rw [← hH2, upd_same]; rfl
    have h2f : H2 fd = some (.dT (setT [])) := by rw [← hH2, upd_ne (Ne.symm n_d_f)]; exact h1f
    have ex2 : Ex H H2 := fun a o q => by rw [← hH2, upd_ne (ne_of_none q hdd0)]; exact ex1 _ _ q
    have tk2 : Tk H1 H2 := fun a xs q => by rw [← hH2, upd_ne (ne_of q h1d (by intro z; cases z))]; exact q
    have fr0 : Frs n bs b 0 H2 dd [([], v)] := ⟨h2d, by simp, fun e he => by
      rw [List.mem_singleton.mp he]
      refine ⟨fun i hi => (by cases hi), rfl, (inferInstance : Stab (tupI (zeros n))).st tk2 pv, ?_⟩
      show lack b (zeros n) + ((0 : Nat) : Int) ≤ b.sum
      rw [lack_zeros bd]; omega⟩
    clear hH2 tk2 h1d h1t h1f pv e1 ext0 ht0 ex0 hdd hfd
    -- while len(fresh) > 0
    refine Evl.q_while (fun m σ' H' => ∃ (r : Nat) (dr : Addr) (L : List (List Int)) (W : List KEnt) (a4 a5 a6 a7 a8 a9 a10 : Option V), σ' = [some x, some y, some (.ref fd), some (.ref dr), a4, a5, a6, a7, a8, a9, a10] ∧
        Ex H H' ∧ H dr = none ∧ dr ≠ fd ∧ H' fd = some (.dT (setT L)) ∧ L.length ≤ 100 * r ∧ (∀ c ∈ L, GoodC n bs b c) ∧ Frs n bs b r H' dr W ∧ W.length ≤ 4 ^ r ∧ r ≤ 4 ∧ m = 5 - r) 5
      ⟨0, dd, [], _, _, _, _, _, _, _, _, rfl, ex2, hdd0, n_d_f, h2f, Nat.zero_le _, fun c hc => (by cases hc), fr0, Nat.le_refl _, by omega, rfl⟩ ?_
    rintro m σ' H' ⟨r, dr, L, W, a4, a5, a6, a7, a8, a9, a10, rfl, ex, hdr0, n_dr_f, hf, hLl, hLg, fr, hWl, hr4, rfl⟩
    refine ⟨decide ((0 : Int) < (W.length : Int)), ?_, fun hb H3 e3 => ?_, fun hb H3 e3 => ?_⟩
    · refine et_I0 (p := fun i j => decide (j < i)) (i := (W.length : Int)) (j := 0) (fun H1 e Q q => ⟨.ref dr, rfl, dr, _, rfl, e _ _ fr.at_, q _ _ (Ex.refl _) (by unfold entC; rw [List.length_map]; rfl)⟩) ep_c
    · have hW : 0 < W.length := by have := of_decide_eq_true hb; omega
      have hr3 : r ≤ 3 := by
        obtain ⟨e, he⟩ := List.exists_mem_of_length_pos hW
        obtain ⟨_, _, _, h4⟩ := fr.ent e he
        have := lack_nonneg b (sumB n bs e.1)
        omega
      have hW64 : W.length ≤ 64 := by
        have : 4 ^ r ≤ 4 ^ 3 := Nat.pow_le_pow_right (by omega) hr3
        omega
      refine ⟨fun σ' H' => ∃ (dl : Addr) (L : List (List Int)) (W' : List KEnt) (a4 a5 a6 a7 a8 a9 a10 : Option V), σ' = [some x, some y, some (.ref fd), some (.ref dl), a4, a5, a6, a7, a8, a9, a10] ∧
        Ex H H' ∧ H dl = none ∧ dl ≠ fd ∧ H' fd = some (.dT (setT L)) ∧ L.length ≤ 100 * (r + 1) ∧ (∀ c ∈ L, GoodC n bs b c) ∧ Frs n bs b (r + 1) H' dl W' ∧ W'.length ≤ 4 ^ (r + 1), ?_, ?_⟩
      · rintro σ2 H2 ⟨dl, L, W', a4, a5, a6, a7, a8, a9, a10, e, q⟩
        exact ⟨5 - (r + 1), by omega, r + 1, dl, L, W', a4, a5, a6, a7, a8, a9, a10, e, q.1, q.2.1, q.2.2.1, q.2.2.2.1, q.2.2.2.2.1, q.2.2.2.2.2.1, q.2.2.2.2.2.2.1, q.2.2.2.2.2.2.2, by omega, rfl⟩
      -- later = {}
      refine fun dl hdl => ?_
      have hd3 := e3 _ _ fr.at_
      have hf3 := e3 _ _ hf
      have n_dl_dr : dl ≠ dr := fun z => by rw [← z, hdl] at hd3; cases hd3
      have n_dl_f : dl ≠ fd := fun z => by rw [← z, hdl] at hf3; cases hf3
      have hdl0 : H dl = none := none_of (ex.trans e3) hdl
      have e4 : Ex H3 (upd H3 dl (.dT [])) := Ex.new hdl
      have hd4 := e4 _ _ hd3
      have hf4 := e4 _ _ hf3
      generalize hH4 : upd H3 dl (.dT []) = H4 at e4 hd4 hf4 ⊢
      have hl4 : H4 dl = some (.dT (entC [])) := by rw [← hH4, upd_same]; rfl
      refine l_forIC (W := W) rfl hd4 fun od => ⟨{
        Pv := fun i σ' H' => ∃ (L : List (List Int)) (W' : List KEnt) (a5 a6 a7 a8 a9 a10 : Option V), σ' = [some x, some y, some (.ref fd), some (.ref dr), some (.ref dl), a5, a6, a7, a8, a9, a10] ∧
          Ex H H' ∧ Tk H4 H' ∧ H' dr = some (.frz od (.dT (entC W))) ∧ H' fd = some (.dT (setT L)) ∧ L.length ≤ 100 * r + i ∧ (∀ c ∈ L, GoodC n bs b c) ∧ Frs n bs b (r + 1) H' dl W' ∧ W'.length ≤ 4 * i
        h0 := ⟨L, [], _, _, _, _, _, _, rfl, fun a o q => ?_, fun a xs q => ?_, upd_same, ?_, hLl, hLg, ⟨?_, by simp, fun e he => (by cases he)⟩, Nat.zero_le _⟩
        hk := fun i σ' H' _ ⟨_, _, _, _, _, _, _, _, _, _, _, h, _⟩ => h
        hs := ?_
        hd := ?_ }⟩
      · rw [upd_ne (ne_of_none q hdr0)]; exact e4 _ _ (e3 _ _ (ex _ _ q))
      · rw [upd_ne (ne_of q hd4 (by intro z; cases z))]; exact q
      · rw [upd_ne (Ne.symm n_dr_f)]; exact hf4
      · rw [upd_ne n_dl_dr]; exact hl4
      · rintro i u σ' H' H'' hi ⟨L, W', a5, a6, a7, a8, a9, a10, rfl, ex5, tk5, hz5, hf5, hLl5, hLg5, fr5, hWl5⟩ e5 it
        obtain ⟨T0, q, e, rfl, hT, hWi, hq⟩ := it
        have heW := List.mem_of_getElem? hWi
        obtain ⟨ei, el, ev, elk⟩ := fr.ent e heW
        have tkH : Tk H' H'' → True := fun _ => trivial
        have tk3 := ((Tk.of e3).trans (Tk.of e4)).trans (tk5.trans (Tk.of e5))
        have hwv : (tupI (sumB n bs e.1)).p e.2 H'' := (inferInstance : Stab (tupI (sumB n bs e.1))).st tk3 ev
        have md := sumB_dom (k := n) (fun b hb => (ob.2.2.2 b hb).1) ei
        have exB := fun a o (q : H a = some o) => e5 a o (ex5 a o q)
        refine ⟨T0, [.ref q, e.2], rfl, sqT_of hT, rfl, .ref q, [e.2], rfl, e.2, [], rfl, rfl, ?_⟩
        -- short
        refine p_set (R := lstI ((shorts n b (sumB n bs e.1)).map fun (j : Nat) => (j : Int))) ((EvP.cast (R' := lstR ((shorts n b (sumB n bs e.1)).map fun (j : Nat) => Rp.v (.int (j : Int)))) (ep_lc1 (n := n) (f := fun j => decide (at_ (sumB n bs e.1) j < at_ b j)) (Rs := fun j => Rp.v (.int (j : Int))) (EvW.len (ew_range1 (ea_cons (ep_kinds B (ep_var (R := bookR C n bs) rfl ((bookR C n bs).up exB hx))) ea_nil) (by omega) (by omega)) (by simp)) (small (by omega)) (fun _ _ => inferInstance) (fun _ => rfl)
            (fun j u H6 hj e6 hu => ?_) fun j u H6 hj e6 hu _ => ?_) rfl).weak fun v H6 _ p => ?_) fun sv H6 e6 psv => ?_
        · rw [show u = V.int j from hu]
          exact et_I0 (p := fun i j => decide (i < j)) (ep_ixTI (ns := sumB n bs e.1) (i := j) (n := at_ (sumB n bs e.1) j) (ep_var rfl ((tupI _).up e6 hwv)) (ep_v rfl) (get_lt (by rw [md.1]; exact hj))) (ep_ixTI (ns := b) (i := j) (n := at_ b j) (ep_var rfl ((tupI b).up (fun a o q => e6 a o (exB a o q)) hy)) (ep_v rfl) (get_lt (by rw [bd.1]; exact hj)))
        · rw [show u = V.int j from hu]; exact ep_v rfl
        · refine lstI_of.mp ?_
          rw [List.map_map]; exact p
        obtain ⟨sa, rfl, hsa⟩ := psv
        have exC : Ex H H6 := fun a o q => e6 a o (exB a o q)
        have hwv6 := (tupI _).up e6 hwv
        have hq6 := e6 _ _ hq
        have hz6 := e6 _ _ (e5 _ _ hz5)
        have hf6 := e6 _ _ (e5 _ _ hf5)
        have fr6 : Frs n bs b (r + 1) H6 dl W' := fr5.tk ((Tk.of e5).trans (Tk.of e6)) (e6 _ _ (e5 _ _ fr5.at_))
        have tk6 : Tk H4 H6 := (tk5.trans (Tk.of e5)).trans (Tk.of e6)
        refine Evl.s_if (b := decide (shorts n b (sumB n bs e.1) = [])) (Evl.et_is (et_eqI (ep_lenL (Rs := ((shorts n b (sumB n bs e.1)).map fun (j : Nat) => (j : Int)).map fun i => Rp.v (.int i)) (ep_var rfl (lstI_of.mpr ⟨sa, rfl, hsa⟩))) ep_c) ?_) (fun hb H7 e7 => ?_) fun hb H7 e7 => ?_
        · rw [List.length_map, List.length_map]
          cases shorts n b (sumB n bs e.1) <;> simp
          omega
        · have hsn := of_decide_eq_true hb
          refine Evl.s_when (b := !(e.1.any fun i => vle b (vsub (sumB n bs e.1) (bat bs i)))) (Evl.et_not (et_ep (ep_pur (ea_cons (ep_var (R := bookR C n bs) rfl ((bookR C n bs).up (exC.trans e7) hx)) (ea_cons (ep_var (R := tupI b) rfl ((tupI b).up (exC.trans e7) hy)) (ea_cons (ep_var (R := tupI e.1) rfl ⟨q, rfl, e7 _ _ hq6⟩) (ea_cons (ep_var (R := tupI (sumB n bs e.1)) rfl ((tupI _).up e7 hwv6)) ea_nil)))) fun vs H8 _ p => ?_))) (fun hb2 H8 e8 => ?_) fun hb2 H8 e8 => ?_
          · match vs, p with
            | [z1, z2, z3, z4], p => exact ⟨z1, z2, z3, z4, n, bs, b, e.1, _, rfl, p.1, p.2.1, p.2.2.1, p.2.2.2.1, ob, ei, by omega, bd.1, md.1, rfl⟩
          · have hf8 := e8 _ _ (e7 _ _ hf6)
            have hd8 := e8 _ _ (e7 _ _ fr6.at_)
            have hz8 := e8 _ _ (e7 _ _ hz6)
            refine ⟨.ref fd, rfl, .ref q, rfl, fd, _, rfl, DPut.t (k := keyI e.1) hf8 (by rw [kV_keyI]; exact e8 _ _ (e7 _ _ hq6)) (by rw [List.length_map, sizeLine_eq]; omega), ?_⟩
            rw [put_setT]
            have tkE := tk_upd (u := .dT (setT (addC L e.1))) hf8 (fun xs z => by cases z)
            refine ⟨addC L e.1, W', _, _, _, _, _, _, rfl, Ex.mut ((exC.trans e7).trans e8) hfd0, ((tk6.trans (Tk.of e7)).trans (Tk.of e8)).trans tkE, by rw [upd_ne n_dr_f]; exact hz8, upd_same, ?_, fun c hc => ?_, (fr6.tk ((Tk.of e7).trans (Tk.of e8)) hd8).tk tkE (by rw [upd_ne n_dl_f]; exact hd8), by omega⟩
            · have := len_addC L e.1; omega
            · rcases mem_addC.mp hc with hc | rfl
              · exact hLg5 c hc
              · exact ⟨ei, by omega, shorts_nil bd.1 md.1 hsn⟩
          · exact ⟨L, W', _, _, _, _, _, _, rfl, (exC.trans e7).trans e8, (tk6.trans (Tk.of e7)).trans (Tk.of e8), e8 _ _ (e7 _ _ hz6), e8 _ _ (e7 _ _ hf6), by omega, hLg5, fr6.tk ((Tk.of e7).trans (Tk.of e8)) (e8 _ _ (e7 _ _ fr6.at_)), by omega⟩
        · have hsn := of_decide_eq_false hb
          obtain ⟨s0, sr, es⟩ := List.exists_cons_of_ne_nil hsn
          obtain ⟨s0k, s0l⟩ := shorts_head es
          refine l_forEnT (Rs := bs.map tupI) (ea_cons (ep_batches B (ep_var (R := bookR C n bs) rfl ((bookR C n bs).up (exC.trans e7) hx))) ea_nil) fun H8 e8 => ⟨{
            Pv := fun j σ' H' => ∃ (W2 : List KEnt) (a8 a9 : Option V), σ' = [some x, some y, some (.ref fd), some (.ref dr), some (.ref dl), some (.ref q), some e.2, some (.ref sa), a8, a9, a10] ∧
              Ex H H' ∧ Tk H8 H' ∧ Lk H8 H' ∧ H' dr = some (.frz od (.dT (entC W))) ∧ H' fd = some (.dT (setT L)) ∧ Frs n bs b (r + 1) H' dl W2 ∧ W2.length ≤ 4 * i + j
            h0 := ⟨W', _, _, rfl, (exC.trans e7).trans e8, Tk.refl _, fun _ _ h => h, e8 _ _ (e7 _ _ hz6), e8 _ _ (e7 _ _ hf6), fr6.tk ((Tk.of e7).trans (Tk.of e8)) (e8 _ _ (e7 _ _ fr6.at_)), by omega⟩
            hk := fun j σ' H' _ ⟨_, _, _, _, _, t, _⟩ => t
            hs := ?_
            hd := ?_ }⟩
          · rintro j u σ' H9 HA hj ⟨W2, a8, a9, rfl, ex9, tk9, lk9, hz9, hf9, fr9, hW9⟩ eA it
            refine g_itE it fun ub hub => ?_
            obtain ⟨R, hR, pR⟩ := hub
            obtain ⟨bj, hbj, rfl⟩ := getR hR
            have hbm := List.mem_of_getElem? hbj
            obtain ⟨bjd, bjp, bj3⟩ := ob.2.2.2 bj hbm
            have tkA := tk9.trans (Tk.of eA)
            have lkA := lk9.trans (Lk.of eA)
            have hub' : (tupI bj).p ub HA := (inferInstance : Stab (tupI bj)).st tkA pR
            have hsaA : HA sa = some (.lst (((shorts n b (sumB n bs e.1)).map fun (j : Nat) => (j : Int)).map V.int)) := lkA _ _ (e8 _ _ (e7 _ _ hsa))
            have hwvA : (tupI (sumB n bs e.1)).p e.2 HA := (inferInstance : Stab (tupI (sumB n bs e.1))).st tkA ((tupI _).up (e7.trans e8) hwv6)
            have hqA : HA q = some (.tup (e.1.map V.int)) := tkA _ _ (e8 _ _ (e7 _ _ hq6))
            refine Evl.s_when (b := decide (0 < at_ bj s0)) (et_I0 (p := fun i j => decide (j < i)) (ep_ixTI (ns := bj) (i := s0) (n := at_ bj s0) (ep_var rfl hub') (ep_ixL (Rs := ((shorts n b (sumB n bs e.1)).map fun (j : Nat) => (j : Int)).map fun i => Rp.v (.int i)) (i := 0) (ep_var rfl (lstI_of.mpr ⟨sa, rfl, hsaA⟩)) ep_c (by rw [es]; rfl)) (get_lt (by rw [bjd.1]; exact s0k))) ep_c) (fun hb3 HB eB => ?_) fun hb3 HB eB => ⟨W2, _, _, rfl, (ex9.trans eA).trans eB, tkA.trans (Tk.of eB), lkA.trans (Lk.of eB), eB _ _ (eA _ _ hz9), eB _ _ (eA _ _ hf9), fr9.tk ((Tk.of eA).trans (Tk.of eB)) (eB _ _ (eA _ _ fr9.at_)), by omega⟩
            have hpos := of_decide_eq_true hb3
            refine ep_more (ep_var (R := tupI (sumB n bs e.1)) rfl ((tupI _).up eB hwvA)) (ep_var (R := tupI bj) rfl ((tupI bj).up eB hub')) (by rw [md.1, bjd.1]) (by rw [md.1]; omega) HB (Ex.refl _) _ fun v1 HC eC p1 => ?_
            refine ⟨.ref dl, rfl, ?_⟩
            refine (tupI_R (ep_tupleL ((ep_sortedI (ep_snocS (ep_var (R := tupI e.1) rfl ⟨q, rfl, eC _ _ (eB _ _ hqA)⟩) (ep_v rfl) (by omega))).weak fun v H _ p => lstI_of.mpr p))) HC (Ex.refl _) _ fun v2 HD eD p2 => ?_
            obtain ⟨bk, rfl, hbk⟩ := p2
            have eAD := ((eA.trans eB).trans eC).trans eD
            have frD : Frs n bs b (r + 1) HD dl W2 := fr9.tk (Tk.of eAD) (eAD _ _ fr9.at_)
            refine ⟨dl, _, rfl, DPut.t (k := keyI (srtI (e.1 ++ [(j : Int)]))) frD.at_ (by rw [kV_keyI]; exact hbk) ?_, ?_⟩
            · unfold entC
              have : j < bs.length := (List.getElem?_eq_some_iff.mp hbj).1
              have := ob.2.2.1
              have : i < 64 := by omega
              rw [List.length_map, sizeLine_eq]; omega
            rw [put_entC]
            have tkE := tk_upd (u := .dT (entC (putE W2 (srtI (e.1 ++ [(j : Int)])) v1))) frD.at_ (fun xs z => by cases z)
            have lkE := lk_upd (u := .dT (entC (putE W2 (srtI (e.1 ++ [(j : Int)])) v1))) frD.at_ (fun xs z => by cases z)
            have hjl : j < bs.length := (List.getElem?_eq_some_iff.mp hbj).1
            have ebat : bat bs (j : Int) = bj := by
              unfold bat
              rw [Int.toNat_natCast, List.getD_eq_getElem?_getD, hbj]; rfl
            have esum : sumB n bs (srtI (e.1 ++ [(j : Int)])) = vadd (sumB n bs e.1) bj := by
              rw [sumB_perm n bs (srtI_perm _), sumB_snoc, ebat]
            refine ⟨putE W2 (srtI (e.1 ++ [(j : Int)])) v1, _, _, rfl, Ex.mut (ex9.trans eAD) hdl0, (tk9.trans (Tk.of eAD)).trans tkE, (lk9.trans (Lk.of eAD)).trans lkE, by rw [upd_ne (Ne.symm n_dl_dr)]; exact eAD _ _ hz9, by rw [upd_ne (Ne.symm n_dl_f)]; exact eAD _ _ hf9, ⟨upd_same, keys_putE _ _ _ frD.nd, fun f hf => ?_⟩, ?_⟩
            · rcases mem_putE.mp hf with ⟨hf, _⟩ | rfl
              · obtain ⟨g1, g2, g3, g4⟩ := frD.ent f hf
                exact ⟨g1, g2, (inferInstance : Stab (tupI (sumB n bs f.1))).st tkE g3, g4⟩
              · refine ⟨fun i' hi' => ?_, ?_, ?_, ?_⟩
                · have := (srtI_perm _).mem_iff.mp hi'
                  rcases List.mem_append.mp this with h | h
                  · exact ei i' h
                  · rw [List.mem_singleton.mp h]; omega
                · show (srtI (e.1 ++ [(j : Int)])).length = r + 1
                  rw [(srtI_perm _).length_eq, List.length_append, el]; rfl
                · show (tupI (sumB n bs (srtI (e.1 ++ [(j : Int)])))).p v1 _
                  rw [esum]
                  exact (inferInstance : Stab (tupI (vadd (sumB n bs e.1) bj))).st tkE ((tupI _).up eD p1)
                · show lack b (sumB n bs (srtI (e.1 ++ [(j : Int)]))) + ((r + 1 : Nat) : Int) ≤ b.sum
                  rw [esum]
                  have := lack_add bd.1 md.1 bjd hpos s0l
                  omega
            · have := len_putE W2 (srtI (e.1 ++ [(j : Int)])) v1
              omega
          · rintro σ' H9 ⟨W2, a8, a9, rfl, ex9, tk9, lk9, hz9, hf9, fr9, hW9⟩
            rw [List.length_map] at hW9
            have := ob.2.2.1
            exact ⟨L, W2, _, _, _, _, _, _, rfl, ex9, ((tk6.trans (Tk.of e7)).trans (Tk.of e8)).trans tk9, hz9, hf9, by omega, hLg5, fr9, by omega⟩
      · rintro σ' H' ⟨L, W', a5, a6, a7, a8, a9, a10, rfl, ex5, tk5, hz5, hf5, hLl5, hLg5, fr5, hWl5⟩
        refine ⟨hz5, .ref dl, rfl, ?_⟩
        refine ⟨dl, L, W', _, _, _, _, _, _, _, rfl, Ex.mut ex5 hdr0, hdl0, n_dl_f, by rw [upd_ne (Ne.symm n_dr_f)]; exact hf5, by omega, hLg5, fr5.tk (tk_upd hz5 (fun xs z => by cases z)) (by rw [upd_ne n_dl_dr]; exact fr5.at_), ?_⟩
        rw [Nat.pow_succ]; omega
    · have hLne : ∀ c ∈ L, c ≠ [] := fun c hc z => by
        obtain ⟨_, _, h3⟩ := hLg c hc
        rw [z] at h3
        have := vle_sum bd.1 (dom_zeros n).1 h3
        rw [sum_zeros] at this
        omega
      refine p_ret (D := dE Q) (ep_tupleL (ep_sortedD rfl (e3 _ _ hf) hLne)) fun v4 H4 e4 p4 => k v4 H4 (srt L) ((ex.trans e3).trans e4) p4 (fun c hc => hLg c ((srt_perm L).mem_iff.mp hc)) (by rw [(srt_perm L).length_eq]; omega)
end
end NL
end
section
set_option linter.all false
set_option Elab.async false
set_option maxRecDepth 100000
namespace NL
open PySem PySem.Spec PyProof.Rows L2
open Evl (Ex Ev EvT)
open C8 (pe_c pe_mk pe_mt pe_gc)
abbrev s_leaves : Stmt := top 24
abbrev n_leaves : List Str := ["book", "found", "known", "at", "batch", "cover", "rest"]
abbrev p_leaves : List Str := ["book"]
theorem sc_leaves : FnScope n_leaves p_leaves (defScope s_leaves) := ⟨rfl, rfl, rfl, by decide +kernel, rfl, by decide +kernel, by decide +kernel⟩
/-- a leaf whose run is told -/
def trR : Rp := ⟨fun v H => ∃ (T : Addr) (a b c : V), v = .ref T ∧ H T = some (.tup [a, b, c]) ∧ c ≠ .non, fun e ⟨T, a, b, c, h1, h2, h3⟩ => ⟨T, a, b, c, h1, e _ _ h2, h3⟩⟩
instance : Stab trR := ⟨fun t ⟨T, a, b, c, h1, h2, h3⟩ => ⟨T, a, b, c, h1, t _ _ h2, h3⟩⟩
theorem stab_rep (n : Nat) : ∀ R ∈ List.replicate n trR, Stab R := fun R h => by
  rw [(List.mem_replicate.mp h).2]; exact inferInstance
section
variable {K : PySem.W.Frag} {σ : L2.St} {H : Hp} {g : TG} {tu : TS} {D : Ends} {te : TE}
theorem l_forTC {P : V → Hp → Prop} (h : ∀ Q : VK, (∀ v H1, P v H1 → Q v H1) → te σ H Q) (k : ∀ v H1, P v H1 → ∃ Rs, (tupR Rs).p v H1 ∧ Nonempty (Loop D tu g Rs.length σ H1 (Tk H1) (ItR Rs H1))) : tFor (iTup K te) g tu D σ H :=
  h _ fun v H1 hP => by
    obtain ⟨Rs, ⟨a, xs, hv, ha, pa⟩, ⟨L⟩⟩ := k v H1 hP
    refine ⟨a, hv, ⟨xs, sqT_of ha⟩, ?_⟩
    refine loop_it (n := Rs.length) (by rw [← pa.length]; exact walk_tup (K := K) (a := a) (xs := xs)) L (fun H' t => sqT_of (t a _ ha)) fun i H' x H'' hi _ y => ?_
    obtain ⟨rfl, hx⟩ := y
    exact ⟨Ex.refl _, pa.get hx⟩
end
def spLeaves (C : Addr) : Sp := fun vs H Q _ => ∃ (x : V) (k : Nat) (S : List Int → Prop) (bs : List (List Int)), vs = [x] ∧ (bookR C k bs).p x H ∧ Safe k S bs ∧
  ∀ v H' m, Ex H H' → (tupR (List.replicate m trR)).p v H' → m ≤ 1000000 → Q v H'
section
variable {P : Program} {w : World} {K : PySem.W.Frag} {mg : Str → Option Value} {base : Heap} {C : Addr}
theorem ok_leaves (B : BookT K mg C) (D : Dn K mg "leaves" s_leaves p_leaves) (T : Txt mg) (c_less : Cl P w K mg base 1 "less" spLess) (c_sum_of : Cl P w K mg base 2 "sum_of" (spSumOf C)) (c_covers_of : Cl P w K mg base 3 "covers_of" (spCovers C)) (c_clearing : Cl P w K mg base 13 "clearing" (spClear C 10)) : Cl P w K mg base 14 "leaves" (spLeaves C) := by
  refine D.cal sc_leaves (fun vs H Q E h => ?_) (fun f cdv A outer s H vs Q E hr h => ?_)
  · obtain ⟨_, _, _, _, rfl, _⟩ := h
    rfl
  · obtain ⟨x, n, S, bs, rfl, hx, sf, k⟩ := h
    refine ⟨_, (pss_cons (ps_par (i := 1) (j := 2) (by rfl) sc_leaves.nd rfl rfl (by decide) rfl rfl (pa_cons (pe_lst pa_nil) (pa_cons pe_dnewT pa_nil)) (by rfl))
      (pss_cons (ps_for PassesOwn.never rfl (pi_enumT (by rfl) T.enumerate (pa_cons (kFld (K := K) rfl (pv 0) rfl) pa_nil)) (pg_tup rfl (pgs_cons (pg_name (i := 3) sc_leaves.nd rfl (Or.inl rfl)) (pgs_cons (pg_name (i := 4) sc_leaves.nd rfl (Or.inl rfl)) pgs_nil))) (pss_one (ps_for PassesOwn.never rfl (pi_tup (pe_c c_covers_of hr (by decide) rfl (pa_cons (pv 0) (pa_cons (pv 4) pa_nil)))) (pg_name (i := 5) sc_leaves.nd rfl (Or.inl rfl)) (pss_cons (ps_set (i := 6) sc_leaves.nd rfl (Or.inl rfl) (pe_c c_less hr (by decide) rfl (pa_cons (pe_c c_sum_of hr (by decide) rfl (pa_cons (pv 0) (pa_cons (pv 5) pa_nil))) (pa_cons (pv 4) pa_nil))))
      (pss_one (ps_expr (pe_bm PySem.F.plainAttrs_list PySem.F.slot_list_append PySem.F.type_list_append mt_append (pv 1) (pa_cons (pe_tup (pa_cons (pv 3) (pa_cons (pv 5) (pa_cons (pe_c c_clearing hr (by decide) rfl (pa_cons (pv 0) (pa_cons (pv 6) (pa_cons pe_non (pa_cons (pv 2) pa_nil))))) pa_nil)))) pa_nil))))))))
      (pss_one (ps_ret (pe_callTy (kTupOf (K := K) rfl) (by rfl) T.tuple (by decide +kernel) (pa_cons (pv 1) pa_nil)))))), ?_⟩
    have ob := sf.ok
    have n4 := ob.2.1
    refine ⟨Nat.zero_le _, fun l hl kd hkd => ⟨_, _, rfl, ?_⟩⟩
    have n_kd_l : kd ≠ l := fun z => by rw [z, upd_same] at hkd; cases hkd
    have hkd0 : H kd = none := by rw [upd_ne n_kd_l] at hkd; exact hkd
    have ex0 : Ex H (upd (upd H l (.lst [])) kd (.dT [])) := fun a o q => by rw [upd_ne (ne_of_none q hkd0), upd_ne (ne_of_none q hl)]; exact q
    have kn0 : Kn n 9 (upd (upd H l (.lst [])) kd (.dT [])) kd [] := ⟨upd_same, by simp, fun e he => (by cases he)⟩
    have hl0 : (upd (upd H l (.lst [])) kd (.dT [])) l = some (.lst []) := by rw [upd_ne (Ne.symm n_kd_l), upd_same]
    generalize upd (upd H l (.lst [])) kd (.dT []) = H1 at ex0 kn0 hl0 ⊢
    refine p_for (l_forEnT (Rs := bs.map tupI) (ea_cons (ep_batches B (ep_var (R := bookR C n bs) rfl ((bookR C n bs).up ex0 hx))) ea_nil) fun H2 e2 => ⟨{
      Pv := fun i σ' H' => ∃ (E : List KEnt) (fs : List V) (m : Nat) (a3 a4 a5 a6 : Option V), σ' = [some x, some (.ref l), some (.ref kd), a3, a4, a5, a6] ∧ Ex H H' ∧ Tk H2 H' ∧ Kn n 9 H' kd E ∧ (∀ e ∈ E, ValOk H' e) ∧ H' l = some (.lst fs) ∧ AllP fs (List.replicate m trR) H' ∧ m ≤ 1000 * i
      h0 := ⟨[], [], 0, _, _, _, _, rfl, ex0.trans e2, Tk.refl _, kn0.ex e2, fun e he => (by cases he), e2 _ _ hl0, trivial, Nat.zero_le _⟩
      hk := fun i σ' H' _ ⟨_, _, _, _, _, _, _, _, _, t, _⟩ => t
      hs := ?_
      hd := ?_ }⟩)
    · rintro i u σ' H3 H4 hi ⟨E, fs, m, a3, a4, a5, a6, rfl, ex3, tk3, kn3, hv3, hl3, pf3, hm3⟩ e4 it
      have hib : i < bs.length := by rw [List.length_map] at hi; exact hi
      refine g_itE it fun ub hub => ?_
      obtain ⟨R, hR, pR⟩ := hub
      obtain ⟨b, hb, rfl⟩ := getR hR
      have hbm := List.mem_of_getElem? hb
      obtain ⟨bd, bp, b3⟩ := ob.2.2.2 b hbm
      have hub4 : (tupI b).p ub H4 := (inferInstance : Stab (tupI b)).st (tk3.trans (Tk.of e4)) pR
      have ex4 := ex3.trans e4
      have args : NL.EvA (tCons (tVar 0) (tCons (tVar 4) tNil)) [some x, some (.ref l), some (.ref kd), some (.int i), some ub, a5, a6] H4 [bookR C n bs, tupI b] := ea_cons (ep_var rfl ((bookR C n bs).up ex4 hx)) (ea_cons (ep_var rfl hub4) ea_nil)
      refine l_forTC (P := fun v H5 => ∃ cs, Ex H4 H5 ∧ (tupT cs).p v H5 ∧ (∀ c ∈ cs, GoodC n bs b c) ∧ cs.length ≤ 1000) (fun Q' q' => run_call args fun vs H5 e5 p => ?_) fun v H5 ⟨cs, e5, hcs, hg, hcl⟩ => ⟨cs.map tupI, hcs, ⟨{
        Pv := fun j σ' H' => ∃ (E : List KEnt) (fs : List V) (a5 a6 : Option V), σ' = [some x, some (.ref l), some (.ref kd), some (.int i), some ub, a5, a6] ∧ Ex H H' ∧ Tk H5 H' ∧ Kn n 9 H' kd E ∧ (∀ e ∈ E, ValOk H' e) ∧ H' l = some (.lst fs) ∧ AllP fs (List.replicate (m + j) trR) H'
        h0 := ⟨E, fs, _, _, rfl, ex4.trans e5, Tk.refl _, kn3.ex (e4.trans e5), fun e he => (hv3 e he).up (ExB.of (e4.trans e5)) kn3.at_ (fun xs z => (by cases z)), e5 _ _ (e4 _ _ hl3), pf3.up (e4.trans e5)⟩
        hk := fun j σ' H' _ ⟨_, _, _, _, _, _, t, _⟩ => t
        hs := ?_
        hd := ?_ }⟩⟩
      · match vs, p with
        | [z1, z2], p => exact ⟨z1, z2, n, bs, b, rfl, p.1, p.2.1, ob, bd, bp, b3, fun v H6 cs e6 hv hgc hlc => q' v H6 ⟨cs, e5.trans e6, hv, hgc, hlc⟩⟩
      · rintro j u5 σ' H6 H7 hj ⟨E6, fs6, a5, a6, rfl, ex6, tk6, kn6, hv6, hl6, pf6⟩ e7 ⟨R, hR, pR⟩
        obtain ⟨c, hc, rfl⟩ := getR hR
        obtain ⟨ci, cl, cv⟩ := hg c (List.mem_of_getElem? hc)
        have hu5 : (tupI c).p u5 H7 := (inferInstance : Stab (tupI c)).st (tk6.trans (Tk.of e7)) pR
        have hub7 : (tupI b).p ub H7 := (inferInstance : Stab (tupI b)).st ((Tk.of e5).trans (tk6.trans (Tk.of e7))) hub4
        have md := sumB_dom (k := n) (fun b hb => (ob.2.2.2 b hb).1) ci
        have hx7 := (bookR C n bs).up (ex6.trans e7) hx
        have hrd : Dom n (vsub (sumB n bs c) b) := bd.sub md cv
        have hrS : S (vsub (sumB n bs c) b) := sf.ker.sub bd md (sf.all b hbm) (sumB_ker sf.ker (fun b hb => ⟨(ob.2.2.2 b hb).1, sf.all b hb⟩) ci) cv
        have hrs := sum_sub md.1 bd.1
        have hms := sumB_sum (k := n) (B := 3) (fun b hb => ⟨(ob.2.2.2 b hb).1, (ob.2.2.2 b hb).2.2⟩) ci
        -- rest
        refine p_set (ep_less (ep_pur (R := tupI (sumB n bs c)) (ea_cons (ep_var (R := bookR C n bs) rfl hx7) (ea_cons (ep_var (R := tupI c) rfl hu5) ea_nil)) fun vs H8 _ p => ?_) (ep_var (R := tupI b) rfl hub7) (by rw [md.1, bd.1]) (by rw [md.1]; omega)) fun v8 H8 e8 p8 => ?_
        · match vs, p with
          | [z1, z2], p => exact ⟨z1, z2, n, bs, c, rfl, p.1, p.2.1, ob, ci, by omega, rfl⟩
        have kn8 := kn6.ex (e7.trans e8)
        have hl8 := e8 _ _ (e7 _ _ hl6)
        have t6 : ∀ xs : List V, HO.dT (entC E6) ≠ .tup xs := fun xs z => by cases z
        have args8 : NL.EvA (tCons (tVar 0) (tCons (tVar 6) (tCons (tC .non) (tCons (tVar 2) tNil)))) [some x, some (.ref l), some (.ref kd), some (.int i), some ub, some u5, some v8] H8 [bookR C n bs, tupI (vsub (sumB n bs c) b), Rp.v .non, Rp.v (.ref kd)] :=
          ea_cons (ep_var rfl ((bookR C n bs).up e8 hx7)) (ea_cons (ep_var rfl p8) (ea_cons ep_c (ea_cons (ep_v rfl) ea_nil)))
        refine ⟨.ref l, rfl, .inl ⟨rfl, _, SqL.of hl8⟩, .int i, rfl, u5, rfl, run_call args8 fun vs H9 e9 p => ?_⟩
        match vs, p with
        | [z1, z2, z3, z4], p =>
          cases (show z3 = V.non from p.2.2.1)
          cases (show z4 = V.ref kd from p.2.2.2.1)
          have vo9 : ∀ e ∈ E6, ValOk H9 e := fun e he => (hv6 e he).up (ExB.of ((e7.trans e8).trans e9)) kn6.at_ t6
          refine ⟨z1, z2, kd, n, 9, S, bs, _, E6, rfl, p.1, p.2.1, sf, hrd, hrS, ?_, ?_, by omega, kn8.ex e9, fun e he _ => vo9 e he, fun vA HA EA xA knA dA j1 j2 voA => ?_⟩
          · have : (c.length : Int) ≤ 3 := by omega
            omega
          · have : (c.length : Int) ≤ 3 := by omega
            omega
          refine ⟨by rw [sizeLine_eq]; show 3 ≤ _; omega, fun pT hT => ?_⟩
          obtain ⟨tA, lA, eA, hA, _⟩ := voA
          cases (show vA = V.ref tA from eA)
          have hl9 := e9 _ _ hl8
          have n_l_kd : l ≠ kd := Ne.symm n_kd_l
          have hlA : HA l = some (.lst fs6) := xA l _ n_l_kd hl9
          have hlT : (upd HA pT (.tup [.int i, u5, .ref tA])) l = some (.lst fs6) := by rw [upd_ne (ne_of_none hlA hT)]; exact hlA
          refine ⟨l, fs6, .ref pT, rfl, rfl, hlT, ?_, ?_⟩
          · rw [pf6.length, List.length_replicate, sizeLine_eq]
            rw [List.length_map] at hj
            have := ob.2.2.1
            omega
          have hkT : (upd HA pT (.tup [.int i, u5, .ref tA])) kd = some (.dT (entC EA)) := by rw [upd_ne (ne_of_none knA.at_ hT)]; exact knA.at_
          have tAT : Tk HA (upd HA pT (.tup [.int i, u5, .ref tA])) := Tk.of (Ex.new hT)
          have tTU : Tk (upd HA pT (.tup [.int i, u5, .ref tA])) (upd (upd HA pT (.tup [.int i, u5, .ref tA])) l (.lst (fs6 ++ [.ref pT]))) := Tk.lst hlT
          have t9A : Tk H9 HA := fun a xs q => xA a _ (ne_of q (kn8.ex e9).at_ (by intro z; cases z)) q
          have t6U : Tk H6 (upd (upd HA pT (.tup [.int i, u5, .ref tA])) l (.lst (fs6 ++ [.ref pT]))) := (((Tk.of ((e7.trans e8).trans e9)).trans t9A).trans tAT).trans tTU
          have xAU : ExB kd HA (upd (upd HA pT (.tup [.int i, u5, .ref tA])) l (.lst (fs6 ++ [.ref pT]))) → True := fun _ => trivial
          refine ⟨EA, fs6 ++ [.ref pT], _, _, rfl, fun a o q => ?_, tk6.trans t6U, ⟨by rw [upd_ne n_kd_l]; exact hkT, knA.nd, knA.dom⟩, fun e he => ?_, upd_same, ?_⟩
          · have q9 : H9 a = some o := e9 _ _ (e8 _ _ (e7 _ _ (ex6 _ _ q)))
            have qA : HA a = some o := xA a _ (ne_of_none q hkd0) q9
            rw [upd_ne (ne_of_none q hl), upd_ne (ne_of_none qA hT)]; exact qA
          · have he' : ValOk HA e := by
              by_cases hes : e.1.sum ≤ (vsub (sumB n bs c) b).sum
              · exact dA e he hes
              · exact (vo9 e (j2 e he (by omega))).up xA (kn8.ex e9).at_ t6
            obtain ⟨t, ll, h1, h2, h3⟩ := he'
            exact ⟨t, ll, h1, tTU _ _ (tAT _ _ h2), h3⟩
          · rw [show m + (j + 1) = (m + j) + 1 by omega, List.replicate_succ']
            exact (pf6.stab (stab_rep _) t6U).snoc ⟨pT, .int i, u5, .ref tA, rfl, tTU _ _ upd_same, by intro z; cases z⟩
      · rintro σ' H6 ⟨E6, fs6, a5, a6, rfl, ex6, tk6, kn6, hv6, hl6, pf6⟩
        rw [List.length_map] at pf6
        exact ⟨E6, fs6, _, _, _, _, _, rfl, ex6, (tk3.trans ((Tk.of e4).trans (Tk.of e5))).trans tk6, kn6, hv6, hl6, pf6, by omega⟩
    · rintro σ' H3 ⟨E, fs, m, a3, a4, a5, a6, rfl, ex3, tk3, kn3, hv3, hl3, pf3, hm3⟩
      rw [List.length_map] at hm3
      have := ob.2.2.1
      exact p_ret (D := dE Q) (ep_tupleL (Rs := List.replicate m trR) (ep_var rfl ⟨l, fs, rfl, hl3, pf3⟩)) fun v4 H4 e4 p4 => k v4 H4 m (ex3.trans e4) p4 (by omega)
end
end NL
end
section
set_option linter.all false
set_option Elab.async false
set_option maxRecDepth 100000
namespace NL
open PySem PySem.Spec PyProof.Rows L2
open Evl (Ex Ev EvT)
open C8 (pe_c pe_mk pe_mt pe_gc)
abbrev s_is_safe : Stmt := top 26
abbrev n_is_safe : List Str := ["book", "at", "cover", "run"]
abbrev p_is_safe : List Str := ["book"]
theorem sc_is_safe : FnScope n_is_safe p_is_safe (defScope s_is_safe) := ⟨rfl, rfl, rfl, by decide +kernel, rfl, by decide +kernel, by decide +kernel⟩
def spFound (C : Addr) (mg : Str → Option Value) : Sp := fun vs H Q _ => ∃ (o d fl : Addr) (k : Nat) (S : List Int → Prop) (bs : List (List Int)), vs = [.ref o, .str "leaves", .ref fl] ∧ mg "leaves" = some (.ref fl) ∧ BkA C k bs d o H ∧ H d = some (.dK []) ∧ Safe k S bs ∧
  ∀ v H' m, ExB d H H' → (tupR (List.replicate m trR)).p v H' → m ≤ 1000000 → Q v H'
def spAllLeaves (C : Addr) : Sp := fun vs H Q _ => ∃ (o d : Addr) (k : Nat) (S : List Int → Prop) (bs : List (List Int)), vs = [.ref o] ∧ BkA C k bs d o H ∧ H d = some (.dK []) ∧ Safe k S bs ∧
  ∀ v H' m, ExB d H H' → (tupR (List.replicate m trR)).p v H' → m ≤ 1000000 → Q v H'
def spSafe (C : Addr) : Sp := fun vs H Q _ => ∃ (o d : Addr) (k : Nat) (S : List Int → Prop) (bs : List (List Int)), vs = [.ref o] ∧ BkA C k bs d o H ∧ H d = some (.dK []) ∧ Safe k S bs ∧ ∀ H', ExB d H H' → Q (.bl true) H'
section
variable {P : Program} {w : World} {K : PySem.W.Frag} {mg : Str → Option Value} {base : Heap} {C : Addr}
theorem ok_found (B : BookT K mg C) (D : MDn K C "found" "Book.found" s_Book_found p_Book_found) (T : Txt mg) (c_leaves : Cl P w K mg base 14 "leaves" (spLeaves C)) : C8.Met P w K mg base 15 C "found" (spFound C mg) [] := by
  obtain ⟨f, fd, F, hb, hi, hf, hk⟩ := D.ex
  obtain ⟨f1, fd1, ps1, ds1, F1, m1, k1, b1, v1⟩ := c_leaves.ex
  refine ⟨f, fd, p_Book_found, [], B.cl, ⟨hi, hf, hk⟩, F.ok sc_Book_found (fun vs H Q E h => ?_) (fun cdv A outer s H vs Q E hr h => ?_), hb, .nil⟩
  · obtain ⟨_, _, _, _, _, _, rfl, _⟩ := h
    rfl
  · obtain ⟨o, d, fl, n, S, bs, rfl, hm, hB, hd, sf, k⟩ := h
    have hr1 : Room 14 _ := hr
    cases v1
    have efl : fl = f1 := by
      have := hm.symm.trans m1
      cases this; rfl
    subst efl
    refine ⟨_, (pss_cons (ps_if (pt_cmp (pc_dnotin (u1 hr.units) (pv 1) (kFld (K := K) rfl (pv 0) rfl))) (pss_one (ps_dput (u1 hr.units) (kFld (K := K) rfl (pv 0) rfl) (pv 1) (pe_callL (i := 2) (E := C8.E0) F1 hr1 rfl (Or.inl rfl) k1 b1 .nil C8.pass0 (pa_cons (pv 0) pa_nil)) rfl)) pss_nil)
      (pss_one (ps_ret (pe_dget (u1 hr.units) (kFld (K := K) rfl (pv 0) rfl) (pv 1) (fun _ _ => rfl))))), ?_⟩
    obtain ⟨dx, t, ho, ht⟩ := hB
    -- word not in self._found
    have x_t : ∀ xs : List V, (HO.dK ([] : List (Key × V))) ≠ .tup xs := fun xs z => by cases z
    have o_ne_d : o ≠ d := ne_of ho hd (by intro z; cases z)
    refine Evl.q_when (b := true) (et_epB fun H1 e Q q => ⟨.str "leaves", rfl, .ref o, rfl, o, C, dx, _, .ref d, rfl, e _ _ ho, B.cl, B.nF, bf_found _ _ _, d, none, rfl, DGet.k (k := .inr "leaves") (e _ _ hd), q _ _ (Ex.refl _) rfl⟩) (fun _ H1 e1 => ?_) (fun z => by cases z)
    have args : NL.EvA (tCons (tVar 0) tNil) [some (.ref o), some (.str "leaves"), some (.ref fl)] H1 [bookR C n bs] := ea_cons (ep_var (R := bookR C n bs) rfl ⟨o, d, rfl, dx, t, e1 _ _ ho, (tupT bs).up e1 ht⟩) ea_nil
    refine ⟨rfl, args H1 (Ex.refl _) _ fun vs H2 e2 p => ?_⟩
    match vs, p with
    | [z1], p =>
      refine ⟨z1, n, S, bs, rfl, p.1, sf, fun v H3 m e3 hv hm' => ?_⟩
      have eA := (e1.trans e2).trans e3
      have ho3 := eA _ _ ho
      have hd3 := eA _ _ hd
      refine ⟨.ref o, rfl, o, C, dx, _, .ref d, rfl, ho3, B.cl, B.nF, bf_found _ _ _, .str "leaves", rfl, d, _, rfl, DPut.k (k := .inr "leaves") hd3 (by rw [sizeLine_eq]; show 0 < _; omega), ?_⟩
      have ePut : putK ([] : List (Key × V)) (.inr "leaves") v = [(.inr "leaves", v)] := rfl
      rw [ePut]
      have hoB : (upd H3 d (.dK [(.inr "leaves", v)])) o = some (.ins C dx (bf n t d)) := by rw [upd_ne o_ne_d]; exact ho3
      refine ⟨.ref o, rfl, o, C, dx, _, .ref d, rfl, hoB, B.cl, B.nF, bf_found _ _ _, .str "leaves", rfl, d, v, rfl, DGet.k (k := .inr "leaves") (kvs := [(.inr "leaves", v)]) upd_same, ?_⟩
      refine k v _ m (fun a u hn q => by rw [upd_ne hn]; exact eA _ _ q) ?_ hm'
      obtain ⟨a, xs, h1, h2, h3⟩ := hv
      have tk : Tk H3 (upd H3 d (.dK [(.inr "leaves", v)])) := tk_upd hd3 x_t
      exact ⟨a, xs, h1, tk _ _ h2, h3.stab (stab_rep m) tk⟩
theorem ok_all_leaves (B : BookT K mg C) (D : Dn K mg "all_leaves" s_all_leaves p_all_leaves) (T : Txt mg) {fl : Addr} (m1 : mg "leaves" = some (.ref fl)) (c_found : C8.Met P w K mg base 15 C "found" (spFound C mg) []) : Cl P w K mg base 16 "all_leaves" (spAllLeaves C) := by
  refine D.cal sc_all_leaves (fun vs H Q E h => ?_) (fun f cdv A outer s H vs Q E hr h => ?_)
  · obtain ⟨_, _, _, _, _, rfl, _⟩ := h
    rfl
  · obtain ⟨o, d, n, S, bs, rfl, hB, hd, sf, k⟩ := h
    refine ⟨_, (pss_one (ps_ret (pe_mt c_found hr (by decide) (pv 0) (pa_cons pe_str (pa_cons (pe_glob (v := .ref fl) rfl m1 rfl) pa_nil))))), ?_⟩
    obtain ⟨dx, t, ho, ht⟩ := hB
    refine ⟨.ref o, rfl, o, dx, _, rfl, ho, bf_other _ _ _ (by decide +kernel) (by decide +kernel) (by decide +kernel), ?_⟩
    exact ⟨o, d, fl, n, S, bs, rfl, m1, ⟨dx, t, ho, ht⟩, hd, sf, k⟩
theorem ok_is_safe (B : BookT K mg C) (D : Dn K mg "is_safe" s_is_safe p_is_safe) (T : Txt mg) (c_all_leaves : Cl P w K mg base 16 "all_leaves" (spAllLeaves C)) : Cl P w K mg base 17 "is_safe" (spSafe C) := by
  refine D.cal sc_is_safe (fun vs H Q E h => ?_) (fun f cdv A outer s H vs Q E hr h => ?_)
  · obtain ⟨_, _, _, _, _, rfl, _⟩ := h
    rfl
  · obtain ⟨o, d, n, S, bs, rfl, hB, hd, sf, k⟩ := h
    refine ⟨_, (pss_one (ps_ret (pe_callB (kAll (K := K) rfl rfl) (by rfl) T.all (by decide +kernel) (pa_cons (pe_lc (own := [("at", 1), ("cover", 2), ("run", 3)]) (g := (gTup K 3 (gCons (gName 1) (gCons (gName 2) (gCons (gName 3) gNil))))) (tt := tYes) rfl sc_is_safe.nd (pi_tup (pe_c c_all_leaves hr (by decide) rfl (pa_cons (pv 0) pa_nil))) (blkOk_by (N := n_is_safe) (sc := defScope s_is_safe) (by decide +kernel)) (fun _ _ _ _ _ => (pg_tup rfl (pgs_cons (pg_name (i := 1) sc_is_safe.nd rfl (Or.inl rfl)) (pgs_cons (pg_name (i := 2) sc_is_safe.nd rfl (Or.inl rfl)) (pgs_cons (pg_name (i := 3) sc_is_safe.nd rfl (Or.inl rfl)) pgs_nil))))) (fun _ _ _ _ _ => pts_nil) (fun _ _ _ _ _ => (pe_cmpR op_notN (pv 3) pe_non (nomark _)))) pa_nil)))), ?_⟩
    refine ⟨.ref o, rfl, o, d, n, S, bs, rfl, hB, hd, sf, fun v H1 m x1 hv hm => ?_⟩
    have ev : EvP (tCB (rAll K) (tCons (tLc (iTup K (tC v)) (gTup K 3 (gCons (gName 1) (gCons (gName 2) (gCons (gName 3) gNil)))) tYes (tOp (fun x y H Q => y = .non ∧ Q (.bl (!decide (x = .non))) H) (tVar 3) (tC .non)) [1, 2, 3]) tNil)) (start n_is_safe [.ref o]) H1 (Rp.v (.bl ((List.replicate m true).all id))) := by
      refine ep_all (bs := List.replicate m true) (EvP.cast (ep_lcG (n := m) (f := fun _ => true) (Rs := fun _ => Rp.v (.bl true)) (σs := fun i σ2 H2 => ∃ a b c : V, c ≠ .non ∧ σ2 = (((wipe (start n_is_safe [.ref o]) [1, 2, 3]).set 1 (some a)).set 2 (some b)).set 3 (some c)) (EvW.len (ew_tup (Rs := List.replicate m trR) (fun H2 e2 Q q => q v H2 (Ex.refl _) ((tupR _).up e2 hv))) (by simp)) (by rw [sizeLine_eq]; omega) (fun _ _ => inferInstance) ?_ ?_ (fun _ _ _ _ _ _ => et_yes) ?_) ?_)
      · rintro i x H2 hi e2 ⟨R, hR, pR⟩ Q2 q2
        rw [List.getElem?_replicate, if_pos hi] at hR
        cases hR
        obtain ⟨T0, a, b, c, rfl, hT, hc⟩ := pR
        exact ⟨T0, [a, b, c], rfl, sqT_of hT, rfl, a, [b, c], rfl, b, [c], rfl, c, [], rfl, rfl, q2 _ H2 (Ex.refl _) ⟨a, b, c, hc, rfl⟩⟩
      · rintro i σ2 H2 hi ⟨a, b, c, hc, rfl⟩; rfl
      · rintro i σ2 H2 hi e2 ⟨a, b, c, hc, rfl⟩ _
        exact ep_op (ep_v rfl) ep_c fun x y H3 _ px py => Gi.now (fun Q q => ⟨py, q⟩) (by rw [show x = c from px, decide_eq_false hc]; rfl)
      · rw [kept_all]
        exact congrArg lstR (List.ext_getElem (by simp) fun i h1 h2 => by simp)
    refine ev H1 (Ex.refl _) _ fun v2 H2 e2 p2 => ?_
    have : v2 = .bl true := by
      rw [show v2 = _ from p2]
      have : (List.replicate m true).all id = true := List.all_eq_true.mpr fun b hb => (List.mem_replicate.mp hb).2
      rw [this]
    rw [this]
    exact k H2 (x1.trans (ExB.of e2))
end
end NL
end
section
set_option linter.all false
set_option Elab.async false
set_option maxRecDepth 100000
namespace NL
open PySem PySem.Spec PyProof.Rows L2
open Evl (Ex Ev EvT)
open C8 (pe_c pe_mk pe_mt pe_gc)
abbrev s__law_least_by : Stmt := top 43
abbrev n__law_least_by : List Str := ["_law_kinds", "_law_value", "_law_most", "_law_found", "_law_wave", "_law_size", "_law_later", "_law_crowd", "_law_kind", "_law_one", "_law_x", "_law_least"]
abbrev p__law_least_by : List Str := ["_law_kinds", "_law_value", "_law_most"]
theorem sc__law_least_by : FnScope n__law_least_by p__law_least_by (defScope s__law_least_by) := ⟨rfl, rfl, rfl, by decide +kernel, rfl, by decide +kernel, by decide +kernel⟩
section
variable {K : PySem.W.Frag} {σ : L2.St} {H : Hp} {ta tb te tl : TE} {Rs Ss : List Rp} {g : TG} {tu : TS} {D : Ends}
theorem ep_cat (ha : EvP ta σ H (lstR Rs)) (hb : EvP tb σ H (lstR Ss)) (hz : Rs.length + Ss.length ≤ 1000000) : EvP (tOp rCat ta tb) σ H (lstR (Rs ++ Ss)) :=
  ep_op ha hb fun x y H1 _ px py => by
    obtain ⟨a, xs, rfl, ha, pa⟩ := px
    obtain ⟨b, ys, rfl, hb, pb⟩ := py
    exact Gi.new (fun Q q => ⟨a, b, xs, ys, rfl, rfl, ha, hb, by rw [pa.length, pb.length, sizeLine_eq]; omega, q⟩) fun p hp => ⟨p, _, rfl, upd_same, (pa.append pb).up (Ex.new hp)⟩
theorem ep_catA (ha : EvP ta σ H (tupR Rs)) (hb : EvP tb σ H (tupR Ss)) (hz : Rs.length + Ss.length ≤ 1000000) : EvP (tOp (rCatA K) ta tb) σ H (tupR (Rs ++ Ss)) :=
  ep_op ha hb fun x y H1 _ px py Q q => by
    obtain ⟨a, xs, rfl, ha, pa⟩ := px
    obtain ⟨b, ys, rfl, hb, pb⟩ := py
    refine ⟨a, b, xs, ys, rfl, rfl, sqT_of ha, sqT_of hb, by rw [pa.length, pb.length, sizeLine_eq]; omega, fun z => ?_, fun z1 z2 => ?_, fun _ _ p hp => q _ _ (Ex.new hp) ⟨p, _, rfl, upd_same, (pa.append pb).up (Ex.new hp)⟩⟩
    · subst z
      have : Rs = [] := List.eq_nil_of_length_eq_zero pa.length.symm
      subst this
      exact q _ _ (Ex.refl _) ⟨b, ys, rfl, hb, pb⟩
    · subst z2
      have : Ss = [] := List.eq_nil_of_length_eq_zero pb.length.symm
      subst this
      rw [List.append_nil] at q
      exact q _ _ (Ex.refl _) ⟨a, xs, rfl, ha, pa⟩
theorem p_par {i j : Nat} {ta : TA} {tz : TS} {Ra Rb : Rp} (h : NL.EvA ta σ H [Ra, Rb]) (k : ∀ v w H1, Ex H H1 → Ra.p v H1 → Rb.p w H1 → tz D ((σ.set i (some v)).set j (some w)) H1) : tSeq (tPar i j ta) tz D σ H :=
  h H (Ex.refl H) _ fun vs H1 e p => by
    match vs, p with
    | [v, w], p => exact ⟨v, w, rfl, k v w H1 e p.1 p.2.1⟩
theorem ep_max {ns : List Int} {r : Int} (h : EvP tl σ H (lstR (ns.map fun n => Rp.v (.int n)))) (h0 : ns ≠ []) (hr : ∀ m, m ∈ ns → (∀ y, y ∈ ns → y ≤ m) → m = r) : EvP (tCB (rMax K) (tCons tl tNil)) σ H (Rp.v (.int r)) :=
  ep_cb (ea_cons h ea_nil) fun vs H1 _ p => by
    match vs, p with
    | [v], p =>
      obtain ⟨a, rfl, ha⟩ := lstI_of.mp p.1
      exact fun Q q => ⟨a, ns, rfl, sqL_of ha, List.length_pos_iff.mpr h0, fun m hm ht => q _ _ (Ex.refl _) (by rw [hr m hm ht]; rfl)⟩
theorem ep_min {ns : List Int} {r : Int} (h : EvP tl σ H (lstR (ns.map fun n => Rp.v (.int n)))) (h0 : ns ≠ []) (hr : ∀ m, m ∈ ns → (∀ y, y ∈ ns → m ≤ y) → m = r) : EvP (tCB (rMin K) (tCons tl tNil)) σ H (Rp.v (.int r)) :=
  ep_cb (ea_cons h ea_nil) fun vs H1 _ p => by
    match vs, p with
    | [v], p =>
      obtain ⟨a, rfl, ha⟩ := lstI_of.mp p.1
      exact fun Q q => ⟨a, ns, rfl, sqL_of ha, List.length_pos_iff.mpr h0, fun m hm ht => q _ _ (Ex.refl _) (by rw [hr m hm ht]; rfl)⟩
theorem l_forA {a : Addr} {xs : List V} (h : Ev tl σ H (.ref a)) (ha : H a = some (.lst xs)) (pa : AllP xs Rs H) (k : ∀ H1, Ex H H1 → Nonempty (Loop D tu g Rs.length σ H1 (fun H' => H' a = some (.lst xs)) (ItR Rs H1))) : tFor (iList K tl) g tu D σ H :=
  h H (Ex.refl H) _ fun H1 e => by
    obtain ⟨L⟩ := k H1 e
    refine ⟨a, rfl, ⟨xs, sqL_of (e _ _ ha)⟩, ?_⟩
    refine loop_it (n := Rs.length) (by rw [← pa.length]; exact walk_list (K := K) (a := a) (xs := xs)) L (fun H' t => sqL_of t) fun i H' x H'' hi _ y => ?_
    obtain ⟨rfl, hx⟩ := y
    exact ⟨Ex.refl _, (pa.up e).get hx⟩
theorem kept_filter {α : Type} (l : List α) (d : α) (p : α → Bool) (f : α → Rp) : kept l.length (fun i => p (l.getD i d)) (fun i => f (l.getD i d)) = (l.filter p).map f := by
  have e : (List.range l.length).map (fun i => l.getD i d) = l := List.ext_getElem (by simp) fun i h1 h2 => by
    simp [List.getD_eq_getElem?_getD, List.getElem?_eq_getElem h2]
  unfold kept
  conv => rhs; rw [← e, List.filter_map, List.map_map]
  rfl
/-- the crowds of a list for which the test holds -/
theorem ep_lcT {cs : List (List Int)} {tt : TT} {vs : List Nat} {j : Nat} {p : List Int → Bool} (h : EvP tl σ H (lstT cs)) (hn : cs.length ≤ 1000000) (wp : ∀ x, wipe ((wipe σ vs).set j (some x)) vs = wipe σ vs) (self : ∀ x, ((wipe σ vs).set j (some x))[j]? = some (some x))
    (tst : ∀ c x H2, c ∈ cs → Ex H H2 → (tupI c).p x H2 → EvT tt ((wipe σ vs).set j (some x)) H2 (p c)) : EvP (tLc (iList K tl) (gName j) tt (tVar j) vs) σ H (lstT (cs.filter p)) :=
  EvP.cast (ep_lc1 (n := cs.length) (f := fun i => p (cs.getD i [])) (Rs := fun i => tupI (cs.getD i [])) (EvW.len (ew_lst h) (by simp)) (by rw [sizeLine_eq]; omega) (fun _ _ => inferInstance) wp
    (fun i x H2 hi e ⟨R, hR, pR⟩ => by
      obtain ⟨c, hc, rfl⟩ := getR hR
      rw [getD_of hc]
      exact tst c x H2 (List.mem_of_getElem? hc) e pR)
    fun i x H2 hi e ⟨R, hR, pR⟩ _ => by
      obtain ⟨c, hc, rfl⟩ := getR hR
      rw [getD_of hc]
      exact ep_var (self x) pR) (congrArg lstR (kept_filter cs [] p tupI))
end
/-- what is told of the law's own search -/
def spLlb : Sp := Pur fun vs H R => ∃ (k n : Nat) (y : V) (ps : List Pr), vs = [.int k, y, .int n] ∧ 1 ≤ k ∧ k ≤ 4 ∧ n ≤ 16 ∧ (nmR ps).p y H ∧ (∀ p ∈ ps, p.2.length = k ∧ 0 ≤ p.1) ∧ R = lstT (lb k ps n).1
section
variable {P : Program} {w : World} {K : PySem.W.Frag} {mg : Str → Option Value} {base : Heap}
theorem et_zero {σ : L2.St} {H : Hp} {ta tb : TE} {k : Nat} {ps : List Pr} {c : List Int} {E : XK} (ha : EvP ta σ H (nmR ps)) (hb : EvP tb σ H (tupI c)) (hp : ∀ p ∈ ps, p.2.length = k ∧ 0 ≤ p.1) (hk : k ≤ 4) (hc : Dom k c) (hs : c.sum ≤ 1000) :
    EvP (tCall spZero [] E (tCons ta (tCons tb tNil))) σ H (Rp.v (.bl (zvB ps c))) :=
  ep_pur (ea_cons ha (ea_cons hb ea_nil)) fun vs H1 _ p => by
    match vs, p with
    | [u, v], p => exact ⟨u, v, ps, c, rfl, p.1, p.2.1, fun q hq => ⟨by rw [hc.1]; exact (hp q hq).1, (hp q hq).2⟩, by rw [hc.1]; omega, med_of hc (by omega), rfl⟩
theorem ok_law_least_by (D : Dn K mg "_law_least_by" s__law_least_by p__law_least_by) (T : Txt mg) (c__law_within : Cl P w K mg base 1 "_law_within" spWithin) (c__law_zero : Cl P w K mg base 1 "_law_zero" spZero) : Cl P w K mg base 2 "_law_least_by" spLlb := by
  refine D.cal sc__law_least_by (fun vs H Q E h => ?_) (fun f cdv A outer s H vs Q E hr h => ?_)
  · obtain ⟨_, ⟨_, _, _, _, rfl, _⟩, _⟩ := h
    rfl
  · obtain ⟨_, ⟨n, m, y, ps, rfl, n1, n4, m16, hy, hp, rfl⟩, k⟩ := h
    refine ⟨_, (pss_cons (ps_par (i := 3) (j := 4) (by rfl) sc__law_least_by.nd rfl rfl (by decide) rfl rfl (pa_cons (pe_lst pa_nil) (pa_cons (pe_lst (pa_cons (pe_op op_repT1 (pe_tup (pa_cons pe_int pa_nil)) (pv 0)) pa_nil)) pa_nil)) (by rfl))
      (pss_cons (ps_for PassesOwn.never rfl (pi_range1 (by rfl) T.range (pa_cons (pv 2) pa_nil)) (pg_name (i := 5) sc__law_least_by.nd rfl (Or.inl rfl)) (pss_cons (ps_set (i := 6) sc__law_least_by.nd rfl (Or.inl rfl) (pe_lst pa_nil))
      (pss_cons (ps_for PassesOwn.never rfl (pi_list (pv 4)) (pg_name (i := 7) sc__law_least_by.nd rfl (Or.inl rfl)) (pss_one (ps_for PassesOwn.never rfl (pi_range2 (by rfl) T.range (pa_cons (pe_callB (kMax (K := K) rfl rfl) (by rfl) T.max (by decide +kernel) (pa_cons (pe_op op_cat (pe_lst (pa_cons pe_int pa_nil)) (pe_lc (own := [("_law_kind", 8), ("_law_x", 10)]) (g := (gTup K 2 (gCons (gName 8) (gCons (gName 10) gNil)))) rfl sc__law_least_by.nd (pi_enumT (by rfl) T.enumerate (pa_cons (pv 7) pa_nil)) (blkOk_by (N := n__law_least_by) (sc := defScope s__law_least_by) (by decide +kernel)) (fun _ _ _ _ _ => (pg_tup rfl (pgs_cons (pg_name (i := 8) sc__law_least_by.nd rfl (Or.inl rfl)) (pgs_cons (pg_name (i := 10) sc__law_least_by.nd rfl (Or.inl rfl)) pgs_nil)))) (fun _ _ _ _ _ => (pts_one (pt_cmpR op_gt (pv 10) pe_int (nomark _)))) (fun _ _ _ _ _ => (pv 8)))) pa_nil)) (pa_cons (pv 0) pa_nil))) (pg_name (i := 8) sc__law_least_by.nd rfl (Or.inl rfl)) (pss_cons (ps_set (i := 9) sc__law_least_by.nd rfl (Or.inr rfl) (pe_op (kCatA (K := K) rfl) (pe_op (kCatA (K := K) rfl) (pe_slice (kSlA (K := K) rfl) (pv 7) po_none (po_some (pv 8))) (pe_tup (pa_cons (pe_op op_add (pe_ix (kIxT (K := K) rfl) (pv 7) (pv 8) (fun _ _ => rfl)) pe_int) pa_nil))) (pe_slice (kSlA (K := K) rfl) (pv 7) (po_some (pe_op op_add (pv 8) pe_int)) po_none)))
      (pss_one (ps_if (pt_cmpR (kEqD (K := K) rfl hr.units) (pe_lc (own := [("_law_least", 11)]) (g := (gName 11)) rfl sc__law_least_by.nd (pi_list (pv 3)) (blkOk_by (N := n__law_least_by) (sc := defScope s__law_least_by) (by decide +kernel)) (fun _ _ _ _ _ => (pg_name (i := 11) sc__law_least_by.nd rfl (Or.inl rfl))) (fun _ _ _ _ _ => (pts_one (pt_val (pe_c c__law_within hr (by decide) rfl (pa_cons (pv 11) (pa_cons (pv 9) pa_nil)))))) (fun _ _ _ _ _ => (pv 11))) (pe_lst pa_nil) (nomark _)) (pss_one (ps_expr (pe_bm PySem.F.plainAttrs_list PySem.F.slot_list_append PySem.F.type_list_append mt_append (pv 6) (pa_cons (pv 9) pa_nil)))) pss_nil))))))
      (pss_cons (ps_set (i := 3) sc__law_least_by.nd rfl (Or.inl rfl) (pe_op op_cat (pv 3) (pe_lc (own := [("_law_one", 9)]) (g := (gName 9)) rfl sc__law_least_by.nd (pi_list (pv 6)) (blkOk_by (N := n__law_least_by) (sc := defScope s__law_least_by) (by decide +kernel)) (fun _ _ _ _ _ => (pg_name (i := 9) sc__law_least_by.nd rfl (Or.inl rfl))) (fun _ _ _ _ _ => (pts_one (pt_val (pe_c c__law_zero hr (by decide) rfl (pa_cons (pv 1) (pa_cons (pv 9) pa_nil)))))) (fun _ _ _ _ _ => (pv 9)))))
      (pss_one (ps_setLc (i := 4) (own := [("_law_one", 9)]) (g := (gName 9)) rfl sc__law_least_by.nd rfl rfl (sw_true rfl rfl rfl (by decide +kernel)) (pi_list (pv 6)) (blkOk_by (N := n__law_least_by) (sc := defScope s__law_least_by) (by decide +kernel)) (fun _ _ _ _ _ => (pg_name (i := 9) sc__law_least_by.nd rfl (Or.inl rfl))) (fun _ _ _ _ _ => (pts_one (pt_not (pt_val (pe_c c__law_zero hr (by decide) rfl (pa_cons (pv 1) (pa_cons (pv 9) pa_nil))))))) (fun _ _ _ _ _ => (pv 9))))))))
      (pss_one (ps_ret (pv 3))))), ?_⟩
    refine p_par (Ra := lstT []) (Rb := lstT [zeros n]) (ea_cons (ep_lst ea_nil (Nat.zero_le _)) (ea_cons (ep_lst (Rs := [tupI (zeros n)]) (ea_cons ?_ ea_nil) (by simp)) ea_nil)) fun vf vw H1 e1 pf pw => ?_
    · refine tupI_R (EvP.cast (ep_rep (k := n) (ep_tup (ea_cons ep_c ea_nil) (by simp)) (ep_v rfl) (by omega) (by omega)) ?_)
      unfold zeros
      rw [List.map_replicate]; rfl
    refine p_for (l_forR1 (j := m) (ea_cons (ep_v rfl) ea_nil) (by omega) fun H2 e2 => ⟨{
      Pv := fun i σ' H' => ∃ vf vw a5 a6 a7 a8 a9 a10 a11, σ' = [some (.int n), some y, some (.int m), some vf, some vw, a5, a6, a7, a8, a9, a10, a11] ∧ Ex H H' ∧ (lstT (lb n ps i).1).p vf H' ∧ (lstT (lb n ps i).2).p vw H'
      h0 := ⟨vf, vw, _, _, _, _, _, _, _, rfl, e1.trans e2, (lstT []).up e2 pf, (lstT [zeros n]).up e2 pw⟩
      hk := fun _ _ _ _ _ => trivial
      hs := ?_
      hd := ?_ }⟩)
    · rintro i u σ' H3 H4 hi ⟨vf, vw, a5, a6, a7, a8, a9, a10, a11, rfl, ex3, pf3, pw3⟩ e4 rfl
      have hwl := lb_wave_len n4 (show i ≤ 16 by omega) ps
      have hfl := lb_found_len n4 (show i ≤ 16 by omega) ps
      have hfd : ∀ f ∈ (lb n ps i).1, Dom n f := fun f hf => (((lb_ok n ps i).fm f).mp hf).1.1
      have hwd : ∀ f ∈ (lb n ps i).2, Dom n f ∧ f.sum = i := fun f hf => let ⟨a, b, _⟩ := ((lb_ok n ps i).wm f).mp hf; ⟨a, b⟩
      have hlat : ∀ x ∈ laterOf n (lb n ps i).1 (lb n ps i).2, Dom n x ∧ x.sum = i + 1 := fun x hx => later_dom hx
      rw [lb_succ1, lb_succ2]
      show gName 5 _ _ _ _
      have hll : (laterOf n (lb n ps i).1 (lb n ps i).2).length ≤ 4 * 83521 := Nat.le_trans flat_len (Nat.mul_le_mul n4 hwl)
      generalize hF : (lb n ps i).1 = F at *
      generalize hW : (lb n ps i).2 = W at *
      have ex4 := ex3.trans e4
      have pf4 := (lstT F).up e4 pf3
      obtain ⟨aw, xw, rfl, haw, paw⟩ := (lstT W).up e4 pw3
      refine ⟨Nat.zero_le _, fun l hl => ?_⟩
      have exl : Ex H4 (upd H4 l (.lst [])) := Ex.new hl
      have Hl : (upd H4 l (.lst [])) l = some (.lst []) := upd_same
      have hawl := exl _ _ haw
      have pawl := paw.up exl
      generalize upd H4 l (.lst []) = H5 at exl Hl hawl pawl ⊢
      refine p_for (l_forA (Rs := W.map tupI) (Evl.ev_var rfl) hawl pawl fun H6 e6 => ⟨{
        Pv := fun j σ' H' => ∃ a7 a8 a9 a10 a11 fs, σ' = [some (.int n), some y, some (.int m), some vf, some (.ref aw), some (.int i), some (.ref l), a7, a8, a9, a10, a11] ∧ Ex H4 H' ∧ Tk H6 H' ∧ H' l = some (.lst fs) ∧ AllP fs (((W.take j).flatMap (kids n F)).map tupI) H'
        h0 := ⟨_, _, _, _, _, [], rfl, exl.trans e6, Tk.refl _, e6 _ _ Hl, trivial⟩
        hk := fun j σ' H' _ ⟨_, _, _, _, _, _, _, e, _⟩ => e _ _ haw
        hs := ?_
        hd := ?_ }⟩)
      · rintro j u σ' H7 H8 hj ⟨a7, a8, a9, a10, a11, fs, rfl, ex7, tk7, hl7, pf7⟩ e8 ⟨R, hR, pR⟩
        obtain ⟨c, hc, rfl⟩ := getR hR
        have hjW : j < W.length := by rw [List.length_map] at hj; exact hj
        obtain ⟨cd, cs⟩ := hwd c (List.mem_of_getElem? hc)
        have hu8 : (tupI c).p u H8 := (inferInstance : Stab (tupI c)).st (tk7.trans (Tk.of e8)) pR
        have hlk := lastK_lt n1 cd.1
        rw [flat_take hc]
        refine l_forR2 (lo := (lastK c : Int)) (hi := n) (ea_cons (ep_max (ns := (0 : Int) :: ((List.range c.length).filter fun j => decide (0 < at_ c j)).map fun (j : Nat) => (j : Int)) ?_ (by simp) fun m hm ht => IsLast.of_list hm ht) (ea_cons (ep_v rfl) ea_nil)) (by omega) (by omega) (by omega) (by omega) fun H9 e9 => ⟨{
          Pv := fun t σ' H' => ∃ a8 a9 a10 a11 fs, σ' = [some (.int n), some y, some (.int m), some vf, some (.ref aw), some (.int i), some (.ref l), some u, a8, a9, a10, a11] ∧ Ex H4 H' ∧ Tk H9 H' ∧ H' l = some (.lst fs) ∧ AllP fs (((W.take j).flatMap (kids n F) ++ kidsTo n F c t).map tupI) H'
          h0 := ⟨_, _, _, _, fs, rfl, (ex7.trans e8).trans e9, Tk.refl _, e9 _ _ (e8 _ _ hl7), by
            rw [show kidsTo n F c 0 = [] from rfl, List.append_nil]; exact pf7.up (e8.trans e9)⟩
          hk := fun _ _ _ _ _ => trivial
          hs := ?_
          hd := ?_ }⟩
        · refine EvP.cast (ep_cat (Rs := [Rp.v (.int 0)]) (ep_lst (ea_cons ep_c ea_nil) (by simp)) (ep_lc2 (n := c.length) (f := fun j => decide (0 < at_ c j)) (Rs := fun j => Rp.v (.int j)) (EvW.len (ew_enumT (Rs := c.map fun i => Rp.v (.int i)) (ea_cons (tupR_I (ep_var rfl hu8)) ea_nil)) (by simp)) (small (by rw [cd.1]; omega)) (fun _ _ => inferInstance) (fun _ _ => rfl)
            (fun j u v H2 hj e hu hv => ?_) fun j u v H2 hj e hu hv _ => ?_) ?_) ?_
          · rw [IsI.get hv]
            exact et_I0 (p := fun i j => decide (j < i)) (ep_v rfl) ep_c
          · rw [show u = V.int j from hu]; exact ep_v rfl
          · have := kept_len c.length (fun j => decide (0 < at_ c j)) (fun j : Nat => Rp.v (.int j))
            rw [cd.1] at this
            rw [cd.1]
            simp
            omega
          · unfold kept
            rw [List.map_cons, List.map_map]; rfl
        · rintro t v σ' HA HB ht ⟨b8, b9, b10, b11, gs, rfl, exA, tkA, hlA, pgA⟩ eB rfl
          have htk : lastK c + t < n := by omega
          have huB : (tupI c).p u HB := (inferInstance : Stab (tupI c)).st ((Tk.of e9).trans (tkA.trans (Tk.of eB))) hu8
          have exB := exA.trans eB
          show gName 8 _ _ _ _
          have eiv : (V.int ((lastK c : Int) + (t : Int))) = V.int ((lastK c + t : Nat) : Int) := by congr 1
          rw [eiv]
          refine p_set (R := tupI (vadd c (uni n (lastK c + t)))) ?_ fun vo HC eC po => ?_
          · refine tupI_R (EvP.cast (ep_catA (ep_catA (ep_toT (i := lastK c + t) (tupR_I (ep_var rfl huB)) (ep_v rfl)) (ep_tup (ea_cons (ep_I0 (f := fun i j => .int (i + j)) (ep_ixTI (i := lastK c + t) (n := at_ c (lastK c + t)) (ep_var rfl huB) (ep_v rfl) (get_lt (by rw [cd.1]; exact htk))) ep_c) ea_nil) (by simp)) ?_) (ep_fromT (i := lastK c + t + 1) (tupR_I (ep_var rfl huB)) (EvP.cast (ep_I0 (f := fun i j => .int (i + j)) (ep_v rfl) ep_c) rfl)) ?_) ?_)
            · simp; omega
            · have := cd.1
              simp; omega
            · rw [← bump cd.1 htk]
              simp [List.map_take, List.map_drop]
          have exC := exB.trans eC
          rw [kidsTo_succ]
          have ud : Dom n (vadd c (uni n (lastK c + t))) := add_uni_dom cd
          generalize vadd c (uni n (lastK c + t)) = o at po ud ⊢
          have evC : (lstT F).p vf HC := (lstT F).up exC pf4
          refine Evl.s_if (b := !(F.any fun f => vle f o)) (Evl.et_is (et_ep (ep_eqLr (a := F.filter fun f => vle f o) (b := []) (ep_lcT (cs := F) (p := fun f => vle f o) (ep_var rfl evC) (by omega) (fun _ => rfl) (fun _ => rfl) fun f x H2 hf e pf => ?_) (ep_lst ea_nil (Nat.zero_le _)))) ?_) (fun hb HD eD => ?_) fun hb HD eD => ?_
          · have hfd' := hfd f hf
            exact et_ep (ep_within (ep_var rfl pf) (ep_var (R := tupI o) rfl ((tupI o).up e po)) (by rw [hfd'.1, ud.1]) (by rw [hfd'.1]; omega))
          · cases hh : F.any fun f => vle f o with
            | true =>
              obtain ⟨f, hf, hle⟩ := List.any_eq_true.mp hh
              refine decide_eq_false fun z => ?_
              have : f ∈ F.filter fun f => vle f o := List.mem_filter.mpr ⟨hf, hle⟩
              rw [z] at this
              cases this
            | false =>
              refine decide_eq_true (List.filter_eq_nil_iff.mpr fun f hf hle => ?_)
              have := List.any_eq_false.mp hh f hf
              exact this hle
          · have hb' : (F.any fun f => vle f o) = false := by simpa using hb
            rw [hb']
            have hlD := eD _ _ (eC _ _ (eB _ _ hlA))
            refine l_app hlD (Evl.ev_var rfl) (R := tupI o) (ep_var rfl ((tupI o).up eD po)) ?_ fun v2 HE eE pv => ?_
            · rw [pgA.length, List.length_map, List.length_append]
              have h1 := flat_len (k := n) (found := F) (l := W.take j)
              have h2 := kidsTo_len n F c t
              have h3 : n * (W.take j).length ≤ 4 * 83521 := Nat.mul_le_mul n4 (by rw [List.length_take]; omega)
              rw [sizeLine_eq]
              omega
            · have hlE := eE _ _ hlD
              have tE : Tk HE (upd HE l (.lst (gs ++ [v2]))) := Tk.lst hlE
              refine ⟨_, _, _, _, gs ++ [v2], rfl, fun a o' q => ?_, tkA.trans ((Tk.of (((eB.trans eC).trans eD).trans eE)).trans tE), upd_same, ?_⟩
              · rw [upd_ne (ne_of_none q hl)]
                exact eE _ _ (eD _ _ (exC _ _ q))
              · rw [← List.append_assoc, List.map_append]
                exact ((pgA.tk ((Tk.of (((eB.trans eC).trans eD).trans eE)).trans tE))).append ⟨(inferInstance : Stab (tupI o)).st tE pv, trivial⟩
          · have hb' : (F.any fun f => vle f o) = true := by simpa using hb
            rw [hb']
            refine ⟨_, _, _, _, gs, rfl, exC.trans eD, tkA.trans (Tk.of ((eB.trans eC).trans eD)), eD _ _ (eC _ _ (eB _ _ hlA)), ?_⟩
            rw [if_pos rfl, List.append_nil]
            exact pgA.up ((eB.trans eC).trans eD)
        · rintro σ' HA ⟨b8, b9, b10, b11, gs, rfl, exA, tkA, hlA, pgA⟩
          refine ⟨_, _, _, _, _, gs, rfl, exA, ((tk7.trans (Tk.of e8)).trans (Tk.of e9)).trans tkA, hlA, ?_⟩
          have : ((n : Int) - (lastK c : Int)).toNat = n - lastK c := by omega
          rw [this, kidsTo_all] at pgA
          exact pgA
      · rintro σ' H7 ⟨a7, a8, a9, a10, a11, fs, rfl, ex7, tk7, hl7, pf7⟩
        rw [List.length_map, List.take_length] at pf7
        have hlater : (lstT (laterOf n F W)).p (.ref l) H7 := ⟨l, fs, rfl, hl7, pf7⟩
        have hy7 := (nmR ps).up (ex4.trans ex7) hy
        generalize laterOf n F W = L at hlat hlater hll ⊢
        refine p_set (R := lstT (F ++ L.filter (zvB ps))) (EvP.cast (ep_cat (ep_var rfl ((lstT F).up ex7 pf4)) (ep_lcT (cs := L) (p := zvB ps) (ep_var rfl hlater) (by omega) (fun _ => rfl) (fun _ => rfl) fun c x H2 hc e pc => et_ep (et_zero (ep_var rfl ((nmR ps).up e hy7)) (ep_var rfl pc) hp n4 (hlat c hc).1 (by have := (hlat c hc).2; omega))) ?_) (congrArg lstR (List.map_append (f := tupI)).symm)) fun vf2 H8 e8 pf8 => ?_
        · rw [List.length_map, List.length_map]
          have := List.length_filter_le (zvB ps) L
          omega
        refine l_set (R := lstT (L.filter fun c => !zvB ps c)) (ep_lcT (cs := L) (p := fun c => !zvB ps c) (ep_var rfl ((lstT L).up e8 hlater)) (by omega) (fun _ => rfl) (fun _ => rfl) fun c x H2 hc e pc => Evl.et_not (et_ep (et_zero (ep_var rfl ((nmR ps).up (e8.trans e) hy7)) (ep_var rfl pc) hp n4 (hlat c hc).1 (by have := (hlat c hc).2; omega)))) fun vw2 H9 e9 pw9 => ?_
        exact ⟨_, _, _, _, _, _, _, _, _, rfl, ((ex4.trans ex7).trans e8).trans e9, (lstT _).up e9 pf8, pw9⟩
    · rintro σ' H3 ⟨vf, vw, a5, a6, a7, a8, a9, a10, a11, rfl, ex3, pf3, pw3⟩
      exact p_ret (D := dE Q) (ep_var rfl pf3) fun v4 H4 e4 p4 => k v4 H4 (ex3.trans e4) p4
end
end NL
end
section
set_option linter.all false
set_option Elab.async false
set_option maxRecDepth 100000
namespace NL
open PySem PySem.Spec PyProof.Rows L2
open Evl (Ex Ev EvT)
open C8 (pe_c pe_mk pe_mt pe_gc)
abbrev s__law_due : Stmt := top 44
abbrev n__law_due : List Str := ["_law_kinds", "_law_value", "_law_balances", "_law_most", "_law_modulus", "_law_hours", "_law_one", "_law_other", "_law_row", "_law_whole", "_law_n", "_law_x"]
abbrev p__law_due : List Str := ["_law_kinds", "_law_value"]
theorem sc__law_due : FnScope n__law_due p__law_due (defScope s__law_due) := ⟨rfl, rfl, rfl, by decide +kernel, rfl, by decide +kernel, by decide +kernel⟩
def noStmt : Stmt := .Pass ⟨0, 0, 0, 0⟩
def bodyOf : Stmt → List Stmt
  | .If _ b _ _ => b
  | _ => []
def valOf : Stmt → Expr
  | .Assign _ e _ => e
  | _ => .Constant .none 0 ⟨0, 0, 0, 0⟩
def arg0 : Expr → Expr
  | .Call _ (a :: _) _ _ => a
  | e => e
def lcWhole : Scope := lcOf (arg0 (valOf ((bodyOf ((bodyOf ((defBody s__law_due).getD 3 noStmt)).getD 2 noStmt)).getD 0 noStmt)))
theorem kPiL {X : Cx} {K : PySem.W.Frag} {tg e : Expr} {te : TE} (h : X.K = K) (he : PE X e te) : PI X tg e (iList K te) := h ▸ pi_list he
theorem kPiT {X : Cx} {K : PySem.W.Frag} {tg e : Expr} {te : TE} (h : X.K = K) (he : PE X e te) : PI X tg e (iTup K te) := h ▸ pi_tup he
/-- the greatest of some -/
def maxP (ns : List Int) : Rp := ⟨fun v _ => ∃ m, v = .int m ∧ m ∈ ns ∧ ∀ y ∈ ns, y ≤ m, fun _ h => h⟩
section
variable {K : PySem.W.Frag} {σ : L2.St} {H : Hp} {ta tb tc te tl : TE} {Rs Ss : List Rp} {g : TG} {tu : TS} {D : Ends}
theorem ep_maxE {ns : List Int} (h : EvP tl σ H (lstR (ns.map fun n => Rp.v (.int n)))) (h0 : ns ≠ []) : EvP (tCB (rMax K) (tCons tl tNil)) σ H (maxP ns) :=
  ep_cb (ea_cons h ea_nil) fun vs H1 _ p => by
    match vs, p with
    | [v], p =>
      obtain ⟨a, rfl, ha⟩ := lstI_of.mp p.1
      exact fun Q q => ⟨a, ns, rfl, sqL_of ha, List.length_pos_iff.mpr h0, fun m hm ht => q _ _ (Ex.refl _) ⟨m, rfl, hm, ht⟩⟩
theorem ep_chain {p q : Int → Int → Bool} {i j l : Int} (ha : EvP ta σ H (Rp.v (.int i))) (hb : EvP tb σ H (Rp.v (.int j))) (hc : EvP tc σ H (Rp.v (.int l))) :
    EvP (tChain (rI0 fun i j => .bl (p i j)) (rI0 fun i j => .bl (q i j)) ta tb tc) σ H (Rp.v (.bl (p i j && q j l))) := fun H1 e Q k =>
  ha H1 e _ fun x H2 e2 px => hb H2 (e.trans e2) _ fun y H3 e3 py => by
    cases (show x = V.int i from px)
    cases (show y = V.int j from py)
    refine ⟨i, j, rfl, rfl, _, rfl, ?_⟩
    cases hp : p i j with
    | true =>
      rw [if_pos rfl]
      refine hc H3 ((e.trans e2).trans e3) _ fun z H4 e4 pz => ?_
      cases (show z = V.int l from pz)
      exact ⟨j, l, rfl, rfl, k _ _ ((e2.trans e3).trans e4) (by rw [hp, Bool.true_and]; rfl)⟩
    | false =>
      rw [if_neg (by decide)]
      exact k _ _ (e2.trans e3) (by rw [hp, Bool.false_and]; rfl)
theorem ep_lstN {ta : TA} {H0 : Hp} (h0 : Ex H0 H) (h : NL.EvA ta σ H Rs) (hl : Rs.length ≤ 1000) : EvP (tLst ta) σ H (lstN H0 Rs) := fun H1 e Q q =>
  h H1 e _ fun vs H2 e2 pv => ⟨by rw [pv.length]; exact Nat.le_trans hl (by decide), fun p hp => q (.ref p) _ (e2.trans (Ex.new hp)) ⟨p, vs, rfl, none_of ((h0.trans e).trans e2) hp, upd_same, pv.up (Ex.new hp)⟩⟩
theorem lstN_mono {H0 H1 : Hp} (e : Ex H0 H1) {v : V} (h : (lstN H1 Rs).p v H) : (lstN H0 Rs).p v H := let ⟨a, xs, h1, h2, h3, h4⟩ := h; ⟨a, xs, h1, none_of e h2, h3, h4⟩
theorem ep_abs {i : Int} (h : EvP te σ H (Rp.v (.int i))) : EvP (tCB (fun xs H Q => ∃ i, xs = [.int i] ∧ Q (.int (if i < 0 then -i else i)) H) (tCons te tNil)) σ H (Rp.v (.int (if i < 0 then -i else i))) :=
  ep_cb (ea_cons h ea_nil) fun vs H1 _ p => by
    match vs, p with
    | [v], p =>
      cases (show v = V.int i from p.1)
      exact Gi.now (fun Q q => ⟨i, rfl, q⟩) rfl
theorem ep_int1 {i : Int} (h : EvP te σ H (Rp.v (.int i))) : EvP (tCB (fun xs H Q => (∃ i, xs = [.int i] ∧ Q (.int i) H) ∨ ∃ k, xs = [.bl k] ∧ Q (.int (if k then 1 else 0)) H) (tCons te tNil)) σ H (Rp.v (.int i)) :=
  ep_cb (ea_cons h ea_nil) fun vs H1 _ p => by
    match vs, p with
    | [v], p =>
      cases (show v = V.int i from p.1)
      exact Gi.now (fun Q q => .inl ⟨i, rfl, q⟩) rfl
theorem lstI_R {ns : List Int} (h : EvP te σ H (lstR (ns.map fun n => Rp.v (.int n)))) : EvP te σ H (lstI ns) := h.weak fun v H1 _ p => lstI_of.mp p
/-- a list of ints, one by one -/
theorem ep_lcLI {ns : List Int} {tt : TT} {vs : List Nat} {j : Nat} {p : Int → Bool} {f : Int → Int} (h : EvP tl σ H (lstI ns)) (hn : ns.length ≤ 1000) (wp : ∀ x, wipe ((wipe σ vs).set j (some x)) vs = wipe σ vs)
    (tst : ∀ n H2, n ∈ ns → Ex H H2 → EvT tt ((wipe σ vs).set j (some (.int n))) H2 (p n)) (el : ∀ n H2, n ∈ ns → Ex H H2 → p n = true → EvP te ((wipe σ vs).set j (some (.int n))) H2 (Rp.v (.int (f n)))) :
    EvP (tLc (iList K tl) (gName j) tt te vs) σ H (lstI ((ns.filter p).map f)) :=
  (EvP.cast (ep_lc1 (n := ns.length) (f := fun i => p (ns.getD i 0)) (Rs := fun i => Rp.v (.int (f (ns.getD i 0)))) (ew_lstI h) (small hn) (fun _ _ => inferInstance) wp
    (fun i x H2 hi e ⟨n, hc, hx⟩ => by
      subst hx
      rw [getD_of hc]
      exact tst n H2 (List.mem_of_getElem? hc) e)
    fun i x H2 hi e ⟨n, hc, hx⟩ hp => by
      subst hx
      rw [getD_of hc] at hp ⊢
      exact el n H2 (List.mem_of_getElem? hc) e hp) (congrArg lstR (kept_filter ns 0 p fun n => Rp.v (.int (f n))))).weak fun v H1 _ q => lstI_of.mp (by rw [List.map_map]; exact q)
end
theorem Named.small {k : Nat} {vs : List Pr} (h : Named k vs) : ∀ p ∈ vs, p.1 ≤ 12 := by
  cases h with
  | clocks hm hl =>
    intro p hp
    have hx : p.1 ∈ vs.map (·.1) := List.mem_map_of_mem hp
    generalize vs.map (·.1) = ms at hm hx
    unfold clockLists at hm
    rcases List.mem_append.mp hm with h | h
    · simp only [List.mem_cons, List.not_mem_nil, or_false] at h
      rcases h with rfl | rfl | rfl | rfl | rfl | rfl | rfl | rfl | rfl <;> simp at hx <;> omega
    · split at h
      · simp only [List.mem_cons, List.not_mem_nil, or_false] at h
        rcases h with rfl | rfl | rfl | rfl | rfl | rfl | rfl | rfl | rfl | rfl | rfl | rfl <;> simp at hx <;> omega
      · simp at h
  | bal hl _ => intro p hp; rw [List.mem_singleton.mp hp]; show (0 : Int) ≤ 12; omega
  | balClock _ h2 h4 _ hl gl _ =>
    intro p hp
    simp only [List.mem_cons, List.not_mem_nil, or_false] at hp
    rcases hp with rfl | rfl
    · show (0 : Int) ≤ 12; omega
    · show _ ≤ (12 : Int); omega
  | clockBal _ h2 h4 _ hl gl _ =>
    intro p hp
    simp only [List.mem_cons, List.not_mem_nil, or_false] at hp
    rcases hp with rfl | rfl
    · show _ ≤ (12 : Int); omega
    · show (0 : Int) ≤ 12; omega
  | two _ hl gl _ _ =>
    intro p hp
    simp only [List.mem_cons, List.not_mem_nil, or_false] at hp
    rcases hp with rfl | rfl <;> (show (0 : Int) ≤ 12; omega)
theorem Named.short {k : Nat} {vs : List Pr} (h : Named k vs) : vs.length ≤ 3 := by
  cases h with
  | clocks hm hl =>
    have e : vs.length = (vs.map (·.1)).length := by simp
    rw [e]
    generalize vs.map (·.1) = ms at hm
    unfold clockLists at hm
    rcases List.mem_append.mp hm with h | h
    · simp only [List.mem_cons, List.not_mem_nil, or_false] at h
      rcases h with rfl | rfl | rfl | rfl | rfl | rfl | rfl | rfl | rfl <;> simp
    · split at h
      · simp only [List.mem_cons, List.not_mem_nil, or_false] at h
        rcases h with rfl | rfl | rfl | rfl | rfl | rfl | rfl | rfl | rfl | rfl | rfl | rfl <;> simp
      · simp at h
  | bal hl _ => simp
  | balClock _ h2 h4 _ hl gl _ => simp
  | clockBal _ h2 h4 _ hl gl _ => simp
  | two _ hl gl _ _ => simp
/-- the balances -/
def bals (ns : List Pr) : List (List Int) := (ns.filter fun p => decide (p.1 = 0)).map (·.2)
theorem Named.two_of {k : Nat} {vs : List Pr} (h : Named k vs) (hl : (bals vs).length = 2) : ∃ u v, vs = [(0, u), (0, v)] ∧ u.length = k ∧ v.length = k ∧ Small u ∧ Small v ∧ bals vs = [u, v] := by
  unfold bals at hl ⊢
  cases h with
  | clocks hm hlen =>
    have : (vs.filter fun p => decide (p.1 = 0)) = [] := filter_none fun p hp => by
      have := (clock_ok hm).1 p.1 (List.mem_map_of_mem hp)
      omega
    rw [this] at hl; simp at hl
  | bal h1 _ => simp at hl
  | @balClock h g m h3 h2 h4 hm2 h1 gl sh => simp [show ¬ m = 0 by omega] at hl
  | @clockBal h g m h3 h2 h4 hm2 h1 gl sh => simp [show ¬ m = 0 by omega] at hl
  | @two h g h3 h1 gl sh sg => exact ⟨h, g, rfl, h1, gl, sh, sg, by simp⟩
theorem due_lb {k : Nat} {ns : List Pr} (h : Named k ns) (hs : ¬ Special k ns) : BkOf k ns (srt (lb k ns (mostOf ns).toNat).1) := by
  have hl := lb_ok k ns (mostOf ns).toNat
  refine ⟨(srt_perm _).nodup_iff.mpr hl.fn, srt_sorted _, fun x => ?_⟩
  rw [(srt_perm _).mem_iff, hl.fm]
  have := most_small h
  exact ⟨fun z => z.1, fun z => ⟨z, by have := most_le h hs z; omega⟩⟩
def spDue : Sp := fun vs H Q _ => ∃ (k : Nat) (y : V) (ns : List Pr), vs = [.int k, y] ∧ 1 ≤ k ∧ k ≤ 4 ∧ Named k ns ∧ (nmR ns).p y H ∧ ∀ v H' cs, Ex H H' → (lstN H (cs.map tupI)).p v H' → BkOf k ns cs → Q v H'
section
variable {P : Program} {w : World} {K : PySem.W.Frag} {mg : Str → Option Value} {base : Heap}
theorem ok_law_due (D : Dn K mg "_law_due" s__law_due p__law_due) (T : Txt mg) (c__law_least_by : Cl P w K mg base 2 "_law_least_by" spLlb) : Cl P w K mg base 3 "_law_due" spDue := by
  refine D.cal sc__law_due (fun vs H Q E h => ?_) (fun f cdv A outer s H vs Q E hr h => ?_)
  · obtain ⟨_, _, _, rfl, _⟩ := h
    rfl
  · obtain ⟨n, y, ns, rfl, n1, n4, hN, hy, k⟩ := h
    refine ⟨_, (pss_cons (ps_setLc (i := 2) (own := [("_law_modulus", 4), ("_law_hours", 5)]) (g := (gTup K 2 (gCons (gName 4) (gCons (gName 5) gNil)))) rfl sc__law_due.nd rfl rfl (sw_true rfl rfl rfl (by decide +kernel)) (pi_tup (pv 1)) (blkOk_by (N := n__law_due) (sc := defScope s__law_due) (by decide +kernel)) (fun _ _ _ _ _ => (pg_tup rfl (pgs_cons (pg_name (i := 4) sc__law_due.nd rfl (Or.inl rfl)) (pgs_cons (pg_name (i := 5) sc__law_due.nd rfl (Or.inl rfl)) pgs_nil)))) (fun _ _ _ _ _ => (pts_one (pt_cmpR op_eq (pv 4) pe_int (nomark _)))) (fun _ _ _ _ _ => (pv 5)))
      (pss_cons (ps_set (i := 3) sc__law_due.nd rfl (Or.inl rfl) (pe_ifExp (pt_cmpR (kNeD (K := K) rfl hr.units) (pv 2) (pe_lst pa_nil) (nomark _)) pe_int pe_int))
      (pss_cons (ps_for PassesOwn.never rfl (pi_tup (pv 1)) (pg_tup rfl (pgs_cons (pg_name (i := 4) sc__law_due.nd rfl (Or.inl rfl)) (pgs_cons (pg_name (i := 5) sc__law_due.nd rfl (Or.inl rfl)) pgs_nil))) (pss_one (ps_set (i := 3) sc__law_due.nd rfl (Or.inl rfl) (pe_ifExp (pt_cmpR op_gt (pv 4) pe_int (nomark _)) (pe_op op_mul (pv 3) (pv 4)) (pv 3)))))
      (pss_cons (ps_if (PW.pt (pw_and (pt_cmpR op_eq (pe_callB (kLenS (K := K) rfl) (by rfl) T.len (by decide +kernel) (pa_cons (pv 2) pa_nil)) pe_int (nomark _)) (pw_and1 (pt_cmpR op_eq (pv 0) pe_int (nomark _))))) (pss_cons (ps_asg (pv 2) (pg_unl rfl (pgs_cons (pg_name (i := 6) sc__law_due.nd rfl (Or.inl rfl)) (pgs_cons (pg_name (i := 7) sc__law_due.nd rfl (Or.inl rfl)) pgs_nil))))
      (pss_cons (ps_set (i := 8) sc__law_due.nd rfl (Or.inr rfl) (pe_lst (pa_cons (pe_op op_sub (pe_op op_mul (pe_ix (kIxT (K := K) rfl) (pv 6) pe_int (fun _ _ => rfl)) (pe_ix (kIxT (K := K) rfl) (pv 7) pe_int (fun _ _ => rfl))) (pe_op op_mul (pe_ix (kIxT (K := K) rfl) (pv 6) pe_int (fun _ _ => rfl)) (pe_ix (kIxT (K := K) rfl) (pv 7) pe_int (fun _ _ => rfl)))) (pa_cons (pe_op op_sub (pe_op op_mul (pe_ix (kIxT (K := K) rfl) (pv 6) pe_int (fun _ _ => rfl)) (pe_ix (kIxT (K := K) rfl) (pv 7) pe_int (fun _ _ => rfl))) (pe_op op_mul (pe_ix (kIxT (K := K) rfl) (pv 6) pe_int (fun _ _ => rfl)) (pe_ix (kIxT (K := K) rfl) (pv 7) pe_int (fun _ _ => rfl)))) (pa_cons (pe_op op_sub (pe_op op_mul (pe_ix (kIxT (K := K) rfl) (pv 6) pe_int (fun _ _ => rfl)) (pe_ix (kIxT (K := K) rfl) (pv 7) pe_int (fun _ _ => rfl))) (pe_op op_mul (pe_ix (kIxT (K := K) rfl) (pv 6) pe_int (fun _ _ => rfl)) (pe_ix (kIxT (K := K) rfl) (pv 7) pe_int (fun _ _ => rfl)))) pa_nil)))))
      (pss_one (ps_if (pt_cmpR (kNeD (K := K) rfl hr.units) (pv 8) (pe_lst (pa_cons pe_int (pa_cons pe_int (pa_cons pe_int pa_nil)))) (nomark _)) (pss_cons (ps_set (i := 9) sc__law_due.nd rfl (Or.inr rfl) (pe_callB (kMax (K := K) rfl rfl) (by rfl) T.max (by decide +kernel) (pa_cons (pe_lc (own := [("_law_n", 10)]) (g := (gName 10)) rfl sc__law_due.nd (pi_range2 (by rfl) T.range (pa_cons pe_int (pa_cons pe_int pa_nil))) (blkOk_by (N := n__law_due) (sc := defScope s__law_due) (by decide +kernel)) (fun _ _ _ _ _ => (pg_name (i := 10) sc__law_due.nd rfl (Or.inr rfl))) (fun _ _ _ _ _ => (pts_one (pt_cmpR (kEqD (K := K) rfl hr.units) (pe_lc (own := [("_law_x", 11)]) (g := (gName 11)) rfl sc__law_due.nd (kPiL (K := K) rfl (pv 8)) (blkOk_by (N := n__law_due) (sc := relS lcWhole (defScope s__law_due)) (by decide +kernel)) (fun _ _ _ _ _ => (pg_name (i := 11) sc__law_due.nd rfl (Or.inl rfl))) (fun _ _ _ _ _ => (pts_one (pt_cmpR op_ne (pe_op op_mod (pe_callTy call_int1 (by rfl) T.int (by decide +kernel) (pa_cons (pv 11) pa_nil)) (pv 10)) pe_int (nomark _)))) (fun _ _ _ _ _ => (pv 11))) (pe_lst pa_nil) (nomark _)))) (fun _ _ _ _ _ => (pv 10))) pa_nil)))
      (pss_cons (ps_set (i := 8) sc__law_due.nd rfl (Or.inr rfl) (pe_lc (own := [("_law_x", 11)]) (g := (gName 11)) (tt := tYes) rfl sc__law_due.nd (pi_list (pv 8)) (blkOk_by (N := n__law_due) (sc := defScope s__law_due) (by decide +kernel)) (fun _ _ _ _ _ => (pg_name (i := 11) sc__law_due.nd rfl (Or.inl rfl))) (fun _ _ _ _ _ => pts_nil) (fun _ _ _ _ _ => (pe_op op_fdiv (pv 11) (pv 9)))))
      (pss_cons (ps_if (pt_chain op_lt op_lt (pe_callB (kMin (K := K) rfl rfl) (by rfl) T.min (by decide +kernel) (pa_cons (pv 8) pa_nil)) pe_int (pe_callB (kMax (K := K) rfl rfl) (by rfl) T.max (by decide +kernel) (pa_cons (pv 8) pa_nil))) (pss_one (ps_ret (pe_lst pa_nil))) pss_nil)
      (pss_one (ps_ret (pe_lst (pa_cons (pe_callTy (kTupOf (K := K) rfl) (by rfl) T.tuple (by decide +kernel) (pa_cons (pe_lc (own := [("_law_x", 11)]) (g := (gName 11)) (tt := tYes) rfl sc__law_due.nd (pi_list (pv 8)) (blkOk_by (N := n__law_due) (sc := defScope s__law_due) (by decide +kernel)) (fun _ _ _ _ _ => (pg_name (i := 11) sc__law_due.nd rfl (Or.inl rfl))) (fun _ _ _ _ _ => pts_nil) (fun _ _ _ _ _ => (pe_callB call_abs (by rfl) T.abs (by decide +kernel) (pa_cons (pv 11) pa_nil)))) pa_nil)) pa_nil))))))) pss_nil)))) pss_nil)
      (pss_one (ps_ret (pe_callB (cr_sortedT hr.units) (by rfl) T.sorted (by decide +kernel) (pa_cons (pe_c c__law_least_by hr (by decide) rfl (pa_cons (pv 0) (pa_cons (pv 1) (pa_cons (pv 3) pa_nil)))) pa_nil)))))))), ?_⟩
    have hsm := hN.small
    have hok := hN.ok
    have hmost := most_small hN
    have y1 : (tupR (ns.map pairR)).p y H := hy
    refine p_set (R := lstT (bals ns)) ?_ fun vb H1 e1 pb => ?_
    · refine EvP.cast (ep_lcG (n := ns.length) (f := fun i => decide ((ns.getD i (0, [])).1 = 0)) (Rs := fun i => tupI (ns.getD i (0, [])).2) (σs := fun i σ2 H2 => ∃ x, σ2 = ((wipe [some (.int n), some y, none, none, none, none, none, none, none, none, none, none] [4, 5]).set 4 (some (.int (ns.getD i (0, [])).1))).set 5 (some x) ∧ (tupI (ns.getD i (0, [])).2).p x H2)
        (EvW.len (ew_tup (Rs := ns.map pairR) (ep_var rfl y1)) (by simp)) (small (by have := hN.short; omega)) (fun _ _ => inferInstance) ?_ ?_ ?_ ?_) (congrArg lstR (kept_filter ns (0, []) (fun p => decide (p.1 = 0)) fun p => tupI p.2) |>.trans ?_)
      · rintro i x H2 hi e2 ⟨R, hR, pR⟩ Q2 q2
        obtain ⟨p, hp, rfl⟩ := getR hR
        refine g_pair pR fun z hz' => q2 _ H2 (Ex.refl _) ⟨z, ?_, ?_⟩
        · rw [getD_of hp]; rfl
        · rw [getD_of hp]; exact hz'
      · rintro i σ2 H2 hi ⟨x, rfl, _⟩; rfl
      · rintro i σ2 H2 hi e2 ⟨x, rfl, _⟩
        exact et_eqI (ep_v rfl) ep_c
      · rintro i σ2 H2 hi e2 ⟨x, rfl, px⟩ _
        exact ep_var rfl px
      · unfold bals lstT
        rw [List.map_map]; rfl
    -- most
    refine p_set (R := Rp.v (.int (if bals ns = [] then 1 else 4))) (ep_if (b := !decide (bals ns = [])) (et_ep (ep_neLr (ep_var rfl pb) (ep_lst ea_nil (Nat.zero_le _)))) (fun hb => ?_) fun hb => ?_) fun vm H2 e2 pm => ?_
    · rw [if_neg (by simpa using hb)]; exact ep_c
    · rw [if_pos (by simpa using hb)]; exact ep_c
    cases (show vm = _ from pm)
    have e12 := e1.trans e2
    refine p_for (l_forT (Rs := ns.map pairR) (ep_var rfl ((tupR _).up e12 y1)) fun H3 e3 => ⟨{
      Pv := fun i σ' H' => ∃ a4 a5, σ' = [some (.int n), some y, some vb, some (.int ((ns.take i).foldl (fun a p => if 0 < p.1 then a * p.1 else a) (if bals ns = [] then 1 else 4))), a4, a5, none, none, none, none, none, none] ∧ Ex H3 H'
      h0 := ⟨_, _, rfl, Ex.refl _⟩
      hk := fun _ _ _ _ ⟨_, _, _, e⟩ => Tk.of e
      hs := ?_
      hd := ?_ }⟩)
    · rintro i u σ' H4 H5 hi ⟨a4, a5, rfl, e4⟩ e5 ⟨R, hR, pR⟩
      obtain ⟨p, hp, rfl⟩ := getR hR
      refine g_pair ((pairR p).up (e4.trans e5) pR) fun z hz' => ?_
      have hpm := hsm p (List.mem_of_getElem? hp)
      have hp0 := (hok p (List.mem_of_getElem? hp)).1
      refine l_set (R := Rp.v (.int ((ns.take (i + 1)).foldl (fun a p => if 0 < p.1 then a * p.1 else a) (if bals ns = [] then 1 else 4)))) (ep_if (b := decide (0 < p.1)) (et_I0 (p := fun i j => decide (j < i)) (ep_v rfl) ep_c) (fun hb => ?_) fun hb => ?_) fun v6 H6 e6 p6 => ?_
      · refine EvP.cast (ep_I (f := fun i j => .int (i * j)) (ep_v rfl) (ep_v rfl) (.inr ⟨by omega, by omega⟩)) ?_
        rw [List.take_add_one, hp, List.foldl_append]
        show _ = Rp.v (.int (if 0 < p.1 then _ else _))
        rw [if_pos (of_decide_eq_true hb)]
      · refine EvP.cast (ep_v rfl) ?_
        rw [List.take_add_one, hp, List.foldl_append]
        show _ = Rp.v (.int (if 0 < p.1 then _ else _))
        rw [if_neg (of_decide_eq_false hb)]
      · cases (show v6 = _ from p6)
        exact ⟨_, _, rfl, (e4.trans e5).trans e6⟩
    rintro σ' H4 ⟨a4, a5, rfl, e4⟩
    have emost : (ns.take (ns.map pairR).length).foldl (fun a p => if 0 < p.1 then a * p.1 else a) (if bals ns = [] then 1 else 4) = mostOf ns := by
      rw [List.length_map, List.take_length]
      unfold mostOf bals
      congr 1
      simp only [List.map_eq_nil_iff]
    rw [emost]
    have ex4 := (e12.trans e3).trans e4
    -- the search
    have fin : ∀ σ0 H5, (∃ r, σ0 = some (.int n) :: some y :: r ∧ r[1]? = some (some (.int (mostOf ns)))) → Ex H H5 → ¬ Special n ns → tRet (tCB rSortedT (tCons (tCall spLlb [] E (tCons (tVar 0) (tCons (tVar 1) (tCons (tVar 3) tNil)))) tNil)) (dE Q) σ0 H5 := by
      rintro σ0 H5 ⟨r, rfl, hr3⟩ ex5 hns
      have em : V.int (mostOf ns) = V.int (((mostOf ns).toNat : Nat) : Int) := by
        rw [Int.toNat_of_nonneg hmost.1]
      rw [em] at hr3
      refine p_ret (D := dE Q) (ep_sortedT (cs := (lb n ns (mostOf ns).toNat).1) (ep_pur (ea_cons (R := Rp.v (.int n)) (ep_v rfl) (ea_cons (R := nmR ns) (ep_var rfl ((nmR ns).up ex5 hy)) (ea_cons (R := Rp.v (.int (((mostOf ns).toNat : Nat) : Int))) (ep_v hr3) ea_nil))) fun vs H6 _ p => ?_) fun c hc z => ?_) fun v H6 e6 pv => k v H6 _ (ex5.trans e6) (lstN_mono ex5 pv) (due_lb hN hns)
      · match vs, p with
        | [u1, u2, u3], p =>
          cases (show u1 = V.int n from p.1)
          cases (show u3 = _ from p.2.2.1)
          exact ⟨n, _, u2, ns, rfl, n1, n4, by omega, p.2.1, fun q hq => ⟨(hok q hq).2.2, (hok q hq).1⟩, rfl⟩
      · have := ((lb_ok n ns _).fm c).mp hc
        have h1 := this.1.2.2.1
        rw [z] at h1
        simp at h1
    refine p_when (b := decide ((bals ns).length = 2) && decide (n = 3)) (Evl.et_and (Evl.et_is (et_eqI (ep_lenL (ep_var (R := lstT (bals ns)) rfl ((lstT _).up (((e2.trans e3).trans e4)) pb))) ep_c) (decide_eq_decide.mpr (by rw [List.length_map]; omega))) fun _ => Evl.et_is (et_eqI (ep_v rfl) ep_c) (decide_eq_decide.mpr (by omega))) (fun hb H5 e5 => ?_) fun hb H5 e5 => ?_
    · rw [Bool.and_eq_true] at hb
      have hb1 := of_decide_eq_true hb.1
      have hb2 := of_decide_eq_true hb.2
      subst hb2
      obtain ⟨u, v, rfl, hu, hv, su, sv, eb⟩ := hN.two_of hb1
      have ex5 := ex4.trans e5
      have pb5 := (lstT _).up (((e2.trans e3).trans e4).trans e5) pb
      rw [eb] at pb5
      obtain ⟨ab, xb, rfl, hab, pab⟩ := pb5
      match xb, pab with
      | [xu, xv], pab =>
      refine ⟨.ref ab, rfl, ab, [xu, xv], rfl, sqL_of hab, rfl, xu, [xv], rfl, xv, [], rfl, rfl, ?_⟩
      have pu : (tupI u).p xu H5 := pab.1
      have pv : (tupI v).p xv H5 := pab.2.1
      have b1 : ∀ i, i < 3 → -2 ≤ at_ u i ∧ at_ u i ≤ 2 := fun i hi => su _ (at_mem (by omega))
      have b2 : ∀ i, i < 3 → -2 ≤ at_ v i ∧ at_ v i ≤ 2 := fun i hi => sv _ (at_mem (by omega))
      have px : ∀ i j : Nat, i < 3 → j < 3 → EvP (tOp (rI CMul fun i j => .int (i * j)) (tOp (rIxT K) (tVar 6) (tC (.int i))) (tOp (rIxT K) (tVar 7) (tC (.int j)))) [some (.int (3 : Nat)), some y, some (.ref ab), some (.int (mostOf [(0, u), (0, v)])), a4, a5, some xu, some xv, none, none, none, none] H5 (Rp.v (.int (at_ u i * at_ v j))) := fun i j hi hj =>
        ep_I (f := fun i j => .int (i * j)) (ep_ixTI (ns := u) (i := i) (n := at_ u i) (ep_var rfl pu) ep_c (get_lt (by omega))) (ep_ixTI (ns := v) (i := j) (n := at_ v j) (ep_var rfl pv) ep_c (get_lt (by omega))) (.inl (by have := b1 i hi; omega))
      have hcs := cross_small hu hv su sv
      refine p_set (R := lstI (cross u v)) (lstI_R (ep_lst (ea_cons (ep_I0 (f := fun i j => .int (i - j)) (px 1 2 (by omega) (by omega)) (px 2 1 (by omega) (by omega))) (ea_cons (ep_I0 (f := fun i j => .int (i - j)) (px 2 0 (by omega) (by omega)) (px 0 2 (by omega) (by omega))) (ea_cons (ep_I0 (f := fun i j => .int (i - j)) (px 0 1 (by omega) (by omega)) (px 1 0 (by omega) (by omega))) ea_nil))) (by show 3 ≤ 1000; omega))) fun vr H6 e6 pr => ?_
      have zz : ∀ {σ : L2.St} {H : Hp}, EvP (tLst (tCons (tC (V.int 0)) (tCons (tC (V.int 0)) (tCons (tC (V.int 0)) tNil)))) σ H (lstI [0, 0, 0]) := lstI_R (ep_lst (ea_cons ep_c (ea_cons ep_c (ea_cons ep_c ea_nil))) (by show 3 ≤ 1000; omega))
      refine Evl.s_when (b := !decide (cross u v = [0, 0, 0])) (et_ep (ep_neLi (ep_var rfl pr) zz)) (fun hne H7 e7 => ?_) fun hne H7 e7 => ?_
      · have ne : cross u v ≠ [0, 0, 0] := by simpa using hne
        have hcr : cross u v = [at_ u 1 * at_ v 2 - at_ u 2 * at_ v 1, at_ u 2 * at_ v 0 - at_ u 0 * at_ v 2, at_ u 0 * at_ v 1 - at_ u 1 * at_ v 0] := rfl
        generalize at_ u 1 * at_ v 2 - at_ u 2 * at_ v 1 = r0 at hcr
        generalize at_ u 2 * at_ v 0 - at_ u 0 * at_ v 2 = r1 at hcr
        generalize at_ u 0 * at_ v 1 - at_ u 1 * at_ v 0 = r2 at hcr
        have pr7 := (lstI _).up e7 pr
        have spm := fun m hw x => special_mn (m := m) hu hv su sv hcr (by rw [← hcr]; exact ne) hw x
        rw [hcr] at pr7
        have ex7 := (ex5.trans e6).trans e7
        clear px zz
        refine p_set (R := maxP (((List.range 8).filter fun (i : Nat) => decide (([r0, r1, r2].filter fun x => !decide (x % ((1 : Int) + (i : Int)) = 0)) = [])).map fun (i : Nat) => (1 : Int) + i)) (ep_maxE (EvP.cast (ep_lc1 (n := 8) (f := fun i => decide (([r0, r1, r2].filter fun x => !decide (x % ((1 : Int) + i) = 0)) = [])) (Rs := fun i => Rp.v (.int ((1 : Int) + i)))
          (EvW.len (ew_range2 (lo := 1) (hi := 9) (ea_cons ep_c (ea_cons ep_c ea_nil)) (by omega) (by omega) (by omega) (by omega)) rfl) (small (by omega)) (fun _ _ => inferInstance) (fun _ => rfl)
          (fun i x H8 hi e8 hx => ?_) fun i x H8 hi e8 hx _ => ?_) ?_) ?_) fun vm H8 e8 pm => ?_
        · cases (show x = V.int (1 + i) from hx)
          refine et_ep (ep_eqLi (a := [r0, r1, r2].filter fun x => !decide (x % ((1 : Int) + i) = 0)) (b := []) (EvP.cast (ep_lcLI (ns := [r0, r1, r2]) (p := fun x => !decide (x % ((1 : Int) + i) = 0)) (f := id) (ep_var rfl ((lstI _).up e8 pr7)) (by simp) (fun _ => rfl) (fun m H9 hm e9 => et_neI (ep_I (f := fun i j => .int (i % j)) (ep_int1 (ep_v rfl)) (ep_v rfl) (by show (0 : Int) < 1 + i; omega)) ep_c) fun m H9 hm e9 _ => ep_v rfl) (by rw [List.map_id])) (lstI_R (ep_lst ea_nil (Nat.zero_le _))))
        · cases (show x = V.int (1 + i) from hx)
          exact ep_v rfl
        · unfold kept
          rw [List.map_map]; rfl
        · intro z
          rw [List.map_eq_nil_iff, List.filter_eq_nil_iff] at z
          refine z 0 (by simp) ?_
          simp [Int.emod_one]
        obtain ⟨m, rfl, hm, ht⟩ := pm
        have hw : Whole [r0, r1, r2] m := by
          obtain ⟨i, hi, rfl⟩ := List.mem_map.mp hm
          rw [List.mem_filter, List.mem_range] at hi
          have hf := List.filter_eq_nil_iff.mp (of_decide_eq_true hi.2)
          refine ⟨by omega, by omega, fun x hx => by simpa using hf x hx, fun n h1 h8 hn => ?_⟩
          refine ht n (List.mem_map.mpr ⟨(n - 1).toNat, List.mem_filter.mpr ⟨List.mem_range.mpr (by omega), decide_eq_true (List.filter_eq_nil_iff.mpr fun x hx => ?_)⟩, by omega⟩)
          have e1 : (1 : Int) + ((n - 1).toNat : Int) = n := by omega
          rw [e1]
          simpa using hn x hx
        have mlo := hw.lo
        have mhi := hw.hi
        refine p_set (R := lstI [r0 / m, r1 / m, r2 / m]) (EvP.cast (ep_lcLI (ns := [r0, r1, r2]) (p := fun _ => true) (f := fun x => x / m) (ep_var rfl ((lstI _).up e8 pr7)) (by simp) (fun _ => rfl) (fun _ _ _ _ => et_yes) fun x H9 hx e9 _ => ep_I (f := fun i j => .int (i / j)) (ep_v rfl) (ep_v rfl) ⟨by omega, by omega⟩) rfl) fun vq H9 e9 pq => ?_
        have pq' : ∀ {H'}, Ex H9 H' → (lstR ([r0 / m, r1 / m, r2 / m].map fun n => Rp.v (.int n))).p vq H' := fun e => lstI_of.mpr ((lstI _).up e pq)
        have ex9 := (ex7.trans e8).trans e9
        have spm2 := fun x => spm m hw x
        refine p_when (b := decide (min (r0 / m) (min (r1 / m) (r2 / m)) < 0) && decide (0 < max (r0 / m) (max (r1 / m) (r2 / m)))) (et_ep (ep_chain (p := fun i j => decide (i < j)) (q := fun i j => decide (i < j)) (ep_min (ns := [r0 / m, r1 / m, r2 / m]) (ep_var rfl (pq' (Ex.refl _))) (by simp) fun t ht1 ht2 => ?_) ep_c (ep_max (ns := [r0 / m, r1 / m, r2 / m]) (ep_var rfl (pq' (Ex.refl _))) (by simp) fun t ht1 ht2 => ?_))) (fun hb HA eA => ?_) fun hb HA eA => ?_
        · simp only [List.mem_cons, List.not_mem_nil, or_false, forall_eq_or_imp, forall_eq] at ht1 ht2
          omega
        · simp only [List.mem_cons, List.not_mem_nil, or_false, forall_eq_or_imp, forall_eq] at ht1 ht2
          omega
        · refine p_ret (D := dE Q) (ep_lstN (H0 := H) (ex9.trans eA) ea_nil (Nat.zero_le _)) fun v1 HB eB p1 => k v1 HB [] ((ex9.trans eA).trans eB) p1 ⟨List.nodup_nil, List.Pairwise.nil, fun x => ?_⟩
          rw [spm2]
          rw [Bool.and_eq_true] at hb
          simp only [List.not_mem_nil, false_iff]
          exact fun z => z.1 ⟨of_decide_eq_true hb.1, of_decide_eq_true hb.2⟩
        · refine p_ret (D := dE Q) (ep_lstN (H0 := H) (Rs := [tupI [if r0 / m < 0 then -(r0 / m) else r0 / m, if r1 / m < 0 then -(r1 / m) else r1 / m, if r2 / m < 0 then -(r2 / m) else r2 / m]]) (ex9.trans eA) (ea_cons (tupI_R (ep_tupleL ((EvP.cast (ep_lcLI (ns := [r0 / m, r1 / m, r2 / m]) (p := fun _ => true) (f := fun x => if x < 0 then -x else x) (ep_var rfl (lstI_of.mp (pq' eA))) (by simp) (fun _ => rfl) (fun _ _ _ _ => et_yes) fun x HC hx eC _ => ep_abs (ep_v rfl)) rfl).weak fun v HD _ p => lstI_of.mpr p))) ea_nil) (by simp)) fun v1 HB eB p1 => k v1 HB [[if r0 / m < 0 then -(r0 / m) else r0 / m, if r1 / m < 0 then -(r1 / m) else r1 / m, if r2 / m < 0 then -(r2 / m) else r2 / m]] ((ex9.trans eA).trans eB) p1 ⟨by simp, by simp, fun x => ?_⟩
          rw [spm2, List.mem_singleton]
          refine ⟨fun z => ⟨fun c => ?_, z⟩, fun z => z.2⟩
          rw [decide_eq_true c.1, decide_eq_true c.2] at hb
          cases hb
      · refine fin _ H7 ⟨_, rfl, rfl⟩ ((ex5.trans e6).trans e7) ?_
        rintro ⟨_, u', v', e, ne⟩
        cases e
        have : cross u v = [0, 0, 0] := by simpa using hne
        exact ne this
    · refine fin _ H5 ⟨_, rfl, rfl⟩ (ex4.trans e5) ?_
      rintro ⟨e3, u', v', rfl, ne⟩
      rw [decide_eq_true e3, Bool.and_true] at hb
      exact of_decide_eq_false hb (by simp [bals])
end
end NL
end
section
set_option linter.all false
set_option Elab.async false
set_option maxRecDepth 100000
namespace NL
open PySem PySem.Spec PyProof.Rows L2
open Evl (Ex Ev EvT)
open C8 (pe_c pe_mk pe_mt pe_gc)
abbrev s__law_any : Stmt := top 37
abbrev n__law_any : List Str := ["_law_deal", "_law_bound", "_law_rest"]
abbrev p__law_any : List Str := ["_law_deal", "_law_bound"]
theorem sc__law_any : FnScope n__law_any p__law_any (defScope s__law_any) := ⟨rfl, rfl, rfl, by decide +kernel, rfl, by decide +kernel, by decide +kernel⟩
abbrev s__law_of : Stmt := top 38
abbrev n__law_of : List Str := ["_law_deal", "_law_some"]
abbrev p__law_of : List Str := ["_law_deal", "_law_some"]
theorem sc__law_of : FnScope n__law_of p__law_of (defScope s__law_of) := ⟨rfl, rfl, rfl, by decide +kernel, rfl, by decide +kernel, by decide +kernel⟩
/-- what is drawn from: numbers at c, a number that is blended on -/
def DealAt (d c : Addr) (bigs : List Int) (z : Int) (H : Hp) : Prop := H d = some (.lst [.ref c, .int z]) ∧ H c = some (.lst (bigs.map V.int)) ∧ bigs.length ≤ 48
def Deal (d c : Addr) (H : Hp) : Prop := ∃ bigs z, DealAt d c bigs z H
theorem Deal.ne {d c : Addr} {H : Hp} (h : Deal d c H) : d ≠ c := fun z => by
  obtain ⟨bigs, x, h1, h2, _⟩ := h
  rw [z, h2] at h1
  match bigs, h1 with
  | a :: l, h1 => cases h1
theorem Deal.ex {d c : Addr} {H H' : Hp} (h : Deal d c H) (e : Ex H H') : Deal d c H' := let ⟨b, z, h1, h2, h3⟩ := h; ⟨b, z, e _ _ h1, e _ _ h2, h3⟩
/-- all kept but the deal -/
structure DX (d c : Addr) (H H' : Hp) : Prop where
  keep : ∀ a u, a ≠ d → a ≠ c → H a = some u → H' a = some u
  deal : Deal d c H'
theorem DX.trans {d c : Addr} {H H1 H2 : Hp} (a : DX d c H H1) (b : DX d c H1 H2) : DX d c H H2 := ⟨fun x u h1 h2 h => b.keep x u h1 h2 (a.keep x u h1 h2 h), b.deal⟩
theorem DX.of {d c : Addr} {H H' : Hp} (h : Deal d c H) (e : Ex H H') : DX d c H H' := ⟨fun a u _ _ q => e a u q, h.ex e⟩
theorem DX.refl {d c : Addr} {H : Hp} (h : Deal d c H) : DX d c H H := .of h (Ex.refl H)
theorem DX.tk {d c : Addr} {H H' : Hp} (h : Deal d c H) (x : DX d c H H') : Tk H H' := fun a xs q => by
  obtain ⟨b, z, h1, h2, _⟩ := h
  refine x.keep a _ (fun e => ?_) (fun e => ?_) q
  · rw [e, h1] at q; cases q
  · rw [e, h2] at q; cases q
def spAny : Sp := fun vs H Q _ => ∃ (d c : Addr) (b : Int), vs = [.ref d, .int b] ∧ Deal d c H ∧ 1 ≤ b ∧ b ≤ 1000000 ∧ ∀ r H', 0 ≤ r → r < b → DX d c H H' → Q (.int r) H'
section
variable {P : Program} {w : World} {K : PySem.W.Frag} {mg : Str → Option Value} {base : Heap}
section
variable {σ : L2.St} {H : Hp} {d c : Addr} {bigs : List Int} {z : Int}
theorem ep_deal0 (hi : σ[0]? = some (some (.ref d))) (h : DealAt d c bigs z H) : EvP (tOp (rIxL K) (tVar 0) (tC (.int 0))) σ H ⟨fun v H => v = .ref c ∧ H c = some (.lst (bigs.map V.int)), fun e ⟨a, b⟩ => ⟨a, e _ _ b⟩⟩ :=
  fun H1 e Q q => ⟨.ref d, hi, d, _, 0, _, rfl, rfl, sqL_of (e _ _ h.1), rfl, q _ H1 (Ex.refl _) ⟨rfl, e _ _ h.2.1⟩⟩
theorem ep_dealL (hi : σ[0]? = some (some (.ref d))) (h : DealAt d c bigs z H) : EvP (tOp (rIxL K) (tVar 0) (tC (.int 0))) σ H (lstI bigs) := (ep_deal0 hi h).weak fun v H1 _ p => ⟨c, p.1, p.2⟩
theorem ep_deal1 (hi : σ[0]? = some (some (.ref d))) (h : DealAt d c bigs z H) : EvP (tOp (rIxL K) (tVar 0) (tC (.int 1))) σ H (Rp.v (.int z)) :=
  fun H1 e Q q => ⟨.ref d, hi, d, _, 1, _, rfl, rfl, sqL_of (e _ _ h.1), rfl, q _ H1 (Ex.refl _) rfl⟩
theorem et_has (hi : σ[0]? = some (some (.ref d))) (h : DealAt d c bigs z H) : EvT (tTest (tOp (rNeD K) (tOp (rIxL K) (tVar 0) (tC (.int 0))) (tLst tNil))) σ H (!decide (bigs = [])) :=
  et_ep (ep_neLi (ep_dealL hi h) (lstI_R (ep_lst ea_nil (Nat.zero_le _))))
end
theorem ok_law_any (D : Dn K mg "_law_any" s__law_any p__law_any) (T : Txt mg) : Cl P w K mg base 1 "_law_any" spAny := by
  refine D.cal sc__law_any (fun vs H Q E h => ?_) (fun f cdv A outer s H vs Q E hr h => ?_)
  · obtain ⟨_, _, _, rfl, _⟩ := h
    rfl
  · obtain ⟨d, c, b, rfl, ⟨bigs, z, hD⟩, b1, b2, k⟩ := h
    refine ⟨_, (pss_cons (ps_while PassesOwn.never (PW.pt (pw_and (pt_cmpR (kNeD (K := K) rfl hr.units) (pe_ix (kIxL (K := K) rfl) (pv 0) pe_int (fun _ _ => rfl)) (pe_lst pa_nil) (nomark _)) (pw_and1 (pt_cmpR op_eq (pe_ix (kIxL (K := K) rfl) (pe_ix (kIxL (K := K) rfl) (pv 0) pe_int (fun _ _ => rfl)) (pe_un un_neg pe_int) (fun _ _ => rfl)) pe_int (nomark _))))) (pss_one (ps_expr (pe_bm0 PySem.F.plainAttrs_list PySem.F.slot_list_pop PySem.F.type_list_pop mt_pop (pe_ix (kIxL (K := K) rfl) (pv 0) pe_int (fun _ _ => rfl))))))
      (pss_cons (ps_if (pt_cmpR (kNeD (K := K) rfl hr.units) (pe_ix (kIxL (K := K) rfl) (pv 0) pe_int (fun _ _ => rfl)) (pe_lst pa_nil) (nomark _)) (pss_cons (ps_set (i := 2) sc__law_any.nd rfl (Or.inl rfl) (pe_callTy call_int1 (by rfl) T.int (by decide +kernel) (pa_cons (pe_bm0 PySem.F.plainAttrs_list PySem.F.slot_list_pop PySem.F.type_list_pop mt_pop (pe_ix (kIxL (K := K) rfl) (pv 0) pe_int (fun _ _ => rfl))) pa_nil)))
      (pss_cons (ps_expr (pe_bm PySem.F.plainAttrs_list PySem.F.slot_list_append PySem.F.type_list_append mt_append (pe_ix (kIxL (K := K) rfl) (pv 0) pe_int (fun _ _ => rfl)) (pa_cons (pe_op op_fdiv (pv 2) (pv 1)) pa_nil)))
      (pss_one (ps_ret (pe_op op_mod (pv 2) (pv 1)))))) pss_nil)
      (pss_cons (ps_asg (pe_op op_mod (pe_callTy call_int1 (by rfl) T.int (by decide +kernel) (pa_cons (pe_op op_add (pe_op op_mul (pe_ix (kIxL (K := K) rfl) (pv 0) pe_int (fun _ _ => rfl)) pe_int) pe_int) pa_nil)) pe_int) (pg_sub (pv 0) pe_int set_list))
      (pss_one (ps_ret (pe_op op_mod (pe_callTy call_int1 (by rfl) T.int (by decide +kernel) (pa_cons (pe_op op_fdiv (pe_ix (kIxL (K := K) rfl) (pv 0) pe_int (fun _ _ => rfl)) pe_int) pa_nil)) (pv 1))))))), ?_⟩
    refine Evl.q_while (fun m σ' H' => σ' = [some (.ref d), some (.int b), none] ∧ (∀ a u, a ≠ d → a ≠ c → H a = some u → H' a = some u) ∧ ∃ bigs z, DealAt d c bigs z H' ∧ bigs.length = m) bigs.length ⟨rfl, fun a u _ _ q => q, bigs, z, hD, rfl⟩ ?_
    rintro m σ' H' ⟨rfl, hk, bs, z', hd, rfl⟩
    rcases List.eq_nil_or_concat bs with rfl | ⟨ini, x, rfl⟩
    · refine ⟨false, Evl.et_and (a := false) (b := false) (Evl.et_is (et_has rfl hd) (by simp)) (fun z => by cases z), (fun z => by cases z), fun _ H1 e1 => ?_⟩
      have hd1 : DealAt d c [] z' H1 := ⟨e1 _ _ hd.1, e1 _ _ hd.2.1, hd.2.2⟩
      refine p_skip (Evl.et_is (et_has rfl hd1) (by simp)) fun H2 e2 => ?_
      have hd2 : DealAt d c [] z' H2 := ⟨e2 _ _ hd1.1, e2 _ _ hd1.2.1, hd.2.2⟩
      have hdc : d ≠ c := Deal.ne ⟨_, _, hd2⟩
      have ev : EvP (tOp (rI (fun _ j => 0 < j) fun i j => .int (i % j)) (tCB (fun xs H Q => (∃ i, xs = [.int i] ∧ Q (.int i) H) ∨ ∃ k, xs = [.bl k] ∧ Q (.int (if k then 1 else 0)) H) (tCons (tOp (rI0 fun i j => .int (i + j)) (tOp (rI CMul fun i j => .int (i * j)) (tOp (rIxL K) (tVar 0) (tC (.int 1))) (tC (.int 40693))) (tC (.int 71))) tNil)) (tC (.int 2147483647))) [some (.ref d), some (.int b), none] H2 (Rp.v (.int ((z' * 40693 + 71) % 2147483647))) :=
        ep_I (f := fun i j => .int (i % j)) (ep_int1 (ep_I0 (f := fun i j => .int (i + j)) (ep_I (f := fun i j => .int (i * j)) (ep_deal1 rfl hd2) ep_c (.inr ⟨by decide, by decide⟩)) ep_c)) ep_c (by show (0 : Int) < 2147483647; omega)
      refine ev H2 (Ex.refl _) _ fun v H3 e3 p3 => ?_
      cases (show v = _ from p3)
      generalize (z' * 40693 + 71) % 2147483647 = z2
      refine ⟨.ref d, rfl, d, _, 1, 1, rfl, rfl, e3 _ _ hd2.1, rfl, ?_⟩
      have hd4 : DealAt d c [] z2 (upd H3 d (.lst [.ref c, .int z2])) := ⟨upd_same, by rw [upd_ne (Ne.symm hdc)]; exact e3 _ _ hd2.2.1, hd.2.2⟩
      rw [show ([V.ref c, V.int z'].set 1 (V.int z2)) = [V.ref c, V.int z2] from rfl]
      refine p_ret (D := dE Q) (ep_I (f := fun i j => .int (i % j)) (ep_int1 (ep_I (f := fun i j => .int (i / j)) (ep_deal1 rfl hd4) ep_c ⟨by decide, by decide⟩)) (ep_v rfl) (by show (0 : Int) < b; omega)) fun v5 H5 e5 p5 => ?_
      cases (show v5 = _ from p5)
      refine k _ H5 (Int.emod_nonneg _ (by omega)) (Int.emod_lt_of_pos _ (by omega)) ⟨fun a u h1 h2 q => e5 _ _ ?_, ⟨_, _, e5 _ _ hd4.1, e5 _ _ hd4.2.1, hd4.2.2⟩⟩
      rw [upd_ne h1]
      exact e3 _ _ (e2 _ _ (e1 _ _ (hk a u h1 h2 q)))
    · rw [List.concat_eq_append] at hd ⊢
      have hdc : d ≠ c := Deal.ne ⟨_, _, hd⟩
      have hlen : (ini ++ [x]).length ≤ 48 := hd.2.2
      have pop : ∀ {T2 : TE → TE} {H1 : Hp} {Q : VK}, DealAt d c (ini ++ [x]) z' H1 → Q (.int x) (upd H1 c (.lst (ini.map V.int))) → tBM0 K "list" rPop (tOp (rIxL K) (tVar 0) (tC (.int 0))) [some (.ref d), some (.int b), none] H1 Q := fun {T2 H1 Q} h q =>
        ⟨.ref d, rfl, d, _, 0, .ref c, rfl, rfl, sqL_of h.1, rfl, .inl ⟨rfl, _, SqL.of h.2.1⟩, c, _, .int x, rfl, rfl, h.2.1, by simp, by
          rw [List.map_append, List.map_singleton, List.dropLast_concat]; exact q⟩
      have last : ∀ {H1}, DealAt d c (ini ++ [x]) z' H1 → EvT (tTest (tOp rEq (tOp (rIxL K) (tOp (rIxL K) (tVar 0) (tC (.int 0))) (tUn (rU fun i => .int (-i)) (tC (.int 1)))) (tC (.int 0)))) [some (.ref d), some (.int b), none] H1 (decide (x = 0)) := fun {H1} h =>
        et_eqI (fun H2 e2 Q q => ep_deal0 rfl h H2 e2 _ fun v H3 e3 p3 => ⟨1, rfl, c, _, -1, .int x, p3.1, rfl, sqL_of p3.2, by rw [List.map_append, List.map_singleton]; exact atI_last _ _, q _ _ e3 rfl⟩) ep_c
      refine ⟨decide (x = 0), Evl.et_is (Evl.et_and (a := true) (b := decide (x = 0)) (Evl.et_is (et_has rfl hd) (by simp)) fun _ => last hd) (by simp), fun hb H1 e1 => ?_, fun hb H1 e1 => ?_⟩
      · have hd1 : DealAt d c (ini ++ [x]) z' H1 := ⟨e1 _ _ hd.1, e1 _ _ hd.2.1, hd.2.2⟩
        refine ⟨fun σ2 H2 => σ2 = [some (.ref d), some (.int b), none] ∧ H2 = upd H1 c (.lst (ini.map V.int)), ?_, ?_⟩
        · rintro σ2 H2 ⟨rfl, rfl⟩
          refine ⟨ini.length, by simp, rfl, fun a u h1 h2 q => ?_, ini, z', ⟨?_, upd_same, ?_⟩, rfl⟩
          · rw [upd_ne h2]; exact e1 _ _ (hk a u h1 h2 q)
          · rw [upd_ne hdc]; exact hd1.1
          · simp at hlen; omega
        · exact pop (T2 := id) hd1 ⟨rfl, rfl⟩
      · have hd1 : DealAt d c (ini ++ [x]) z' H1 := ⟨e1 _ _ hd.1, e1 _ _ hd.2.1, hd.2.2⟩
        refine p_when (b := true) (Evl.et_is (et_has rfl hd1) (by simp)) (fun _ H2 e2 => ?_) (fun z => by cases z)
        have hd2 : DealAt d c (ini ++ [x]) z' H2 := ⟨e2 _ _ hd1.1, e2 _ _ hd1.2.1, hd1.2.2⟩
        refine pop (T2 := id) hd2 (.inl ⟨x, rfl, ?_⟩)
        have hd3 : DealAt d c ini z' (upd H2 c (.lst (ini.map V.int))) := ⟨by rw [upd_ne hdc]; exact hd2.1, upd_same, by simp at hlen; omega⟩
        have hk3 : ∀ a u, a ≠ d → a ≠ c → H a = some u → (upd H2 c (.lst (ini.map V.int))) a = some u := fun a u h1 h2 q => by
          rw [upd_ne h2]; exact e2 _ _ (e1 _ _ (hk a u h1 h2 q))
        generalize upd H2 c (.lst (ini.map V.int)) = H3 at hd3 hk3 ⊢
        refine ⟨.ref d, rfl, d, _, 0, .ref c, rfl, rfl, sqL_of hd3.1, rfl, .inl ⟨rfl, _, SqL.of hd3.2.1⟩, ?_⟩
        have ev : EvP (tOp (rI CDiv fun i j => .int (i / j)) (tVar 2) (tVar 1)) [some (.ref d), some (.int b), some (.int x)] H3 (Rp.v (.int (x / b))) := ep_I (f := fun i j => .int (i / j)) (ep_v rfl) (ep_v rfl) ⟨by omega, by omega⟩
        refine ev H3 (Ex.refl _) _ fun v4 H4 e4 p4 => ?_
        cases (show v4 = _ from p4)
        refine ⟨c, _, _, rfl, rfl, e4 _ _ hd3.2.1, ?_, ?_⟩
        · have := hd3.2.2
          rw [List.length_map, sizeLine_eq]; omega
        · refine p_ret (D := dE Q) (ep_I (f := fun i j => .int (i % j)) (ep_v rfl) (ep_v rfl) (by show (0 : Int) < b; omega)) fun v5 H5 e5 p5 => ?_
          cases (show v5 = _ from p5)
          refine k _ H5 (Int.emod_nonneg _ (by omega)) (Int.emod_lt_of_pos _ (by omega)) ⟨fun a u h1 h2 q => e5 _ _ ?_, ⟨ini ++ [x / b], z', e5 _ _ ?_, e5 _ _ ?_, ?_⟩⟩
          · rw [upd_ne h2]; exact e4 _ _ (hk3 a u h1 h2 q)
          · rw [upd_ne hdc]; exact e4 _ _ hd3.1
          · rw [upd_same, List.map_append]; rfl
          · simp at hlen ⊢; omega
end
end NL
end
section
set_option linter.all false
set_option Elab.async false
set_option maxRecDepth 100000
namespace NL
open PySem PySem.Spec PyProof.Rows L2
open Evl (Ex Ev EvT)
open C8 (pe_c pe_mk pe_mt pe_gc)
/-- a value that a draw leaves as it was -/
def Dst (d c : Addr) (R : Rp) : Prop := ∀ {v : V} {H H' : Hp}, Deal d c H → DX d c H H' → R.p v H → R.p v H'
theorem dst_stab {d c : Addr} (R : Rp) [s : Stab R] : Dst d c R := fun h x p => s.st (x.tk h) p
theorem AllP.dst {d c : Addr} : ∀ {vs : List V} {Rs : List Rp} {H H' : Hp}, (∀ R ∈ Rs, Dst d c R) → Deal d c H → DX d c H H' → AllP vs Rs H → AllP vs Rs H'
  | [], [], _, _, _, _, _, h => h
  | v :: vs, R :: Rs, _, _, st, hd, x, h => ⟨st R (List.mem_cons_self ..) hd x h.1, AllP.dst (fun S hS => st S (List.mem_cons_of_mem _ hS)) hd x h.2⟩
  | [], _ :: _, _, _, _, _, _, h => h.elim
  | _ :: _, [], _, _, _, _, _, h => h.elim
theorem dst_lstN {d c : Addr} {H0 : Hp} {Rs : List Rp} (h0 : Deal d c H0) (st : ∀ R ∈ Rs, Dst d c R) : Dst d c (lstN H0 Rs) := fun hd x ⟨a, xs, h1, h2, h3, h4⟩ => by
  obtain ⟨b, z, g1, g2, _⟩ := h0
  exact ⟨a, xs, h1, h2, x.keep a _ (fun e => by rw [e, g1] at h2; cases h2) (fun e => by rw [e, g2] at h2; cases h2) h3, h4.dst st hd x⟩
theorem dst_tupR {d c : Addr} {Rs : List Rp} (st : ∀ R ∈ Rs, Dst d c R) : Dst d c (tupR Rs) := fun hd x ⟨a, xs, h1, h3, h4⟩ =>
  ⟨a, xs, h1, x.tk hd _ _ h3, h4.dst st hd x⟩
def EvD (d c : Addr) (te : TE) (σ : L2.St) (H : Hp) (R : Rp) : Prop := ∀ H1, DX d c H H1 → ∀ Q : VK, (∀ v H2, DX d c H1 H2 → R.p v H2 → Q v H2) → te σ H1 Q
def EvDA (d c : Addr) (ta : TA) (σ : L2.St) (H : Hp) (Rs : List Rp) : Prop := ∀ H1, DX d c H H1 → ∀ Q : List V → Hp → Prop, (∀ vs H2, DX d c H1 H2 → AllP vs Rs H2 → Q vs H2) → ta σ H1 Q
def intP (p : Int → Prop) : Rp := ⟨fun v _ => ∃ r, v = .int r ∧ p r, fun _ h => h⟩
instance (p : Int → Prop) : Stab (intP p) := ⟨fun _ h => h⟩
def rngP (b : Int) : Rp := intP fun r => 0 ≤ r ∧ r < b
/-- one of some -/
def oneOf (Rs : List Rp) : Rp := ⟨fun v H => ∃ R, R ∈ Rs ∧ R.p v H, fun e ⟨R, h1, h2⟩ => ⟨R, h1, R.up e h2⟩⟩
def spOf : Sp := fun vs H Q _ => ∃ (d c a : Addr) (xs : List V), vs = [.ref d, .ref a] ∧ Deal d c H ∧ a ≠ d ∧ a ≠ c ∧ H a = some (.lst xs) ∧ 1 ≤ xs.length ∧ xs.length ≤ 1000000 ∧ ∀ (i : Nat) (v : V) (H' : Hp), xs[i]? = some v → DX d c H H' → Q v H'
section
variable {K : PySem.W.Frag} {d c : Addr} {σ : L2.St} {H H0 : Hp} {ta tb te tl : TE} {R Ra Rb : Rp} {Rs : List Rp} {D : Ends} {tz tu tw : TS}
theorem EvD.weak (h : EvD d c te σ H R) (w : ∀ v H1, DX d c H H1 → R.p v H1 → Ra.p v H1) : EvD d c te σ H Ra := fun H1 x Q q => h H1 x Q fun v H2 x2 p => q v H2 x2 (w v H2 (x.trans x2) p)
theorem EvD.cast (h : EvD d c te σ H R) (e : R = Ra) : EvD d c te σ H Ra := e ▸ h
theorem ed_p (h : ∀ H1, DX d c H H1 → EvP te σ H1 R) : EvD d c te σ H R := fun H1 x Q q => h H1 x H1 (Ex.refl _) Q fun v H2 e p => q v H2 (.of x.deal e) p
theorem ed_c {v : V} : EvD d c (tC v) σ H (Rp.v v) := ed_p fun _ _ => ep_c
theorem ed_ci {n : Int} : EvD d c (tC (.int n)) σ H (intP fun r => r = n) := ed_p fun _ _ => ep_c.weak fun v H1 _ p => ⟨n, p, rfl⟩
theorem ed_v {i : Nat} {v : V} (h : σ[i]? = some (some v)) : EvD d c (tVar i) σ H (Rp.v v) := ed_p fun _ _ => ep_v h
theorem ed_var {i : Nat} {v : V} (hd : Deal d c H) (s : Dst d c R) (h : σ[i]? = some (some v)) (hp : R.p v H) : EvD d c (tVar i) σ H R := ed_p fun H1 x => ep_var h (s hd x hp)
theorem ed_op {r : R2} (ha : EvD d c ta σ H Ra) (hb : EvD d c tb σ H Rb) (sa : Dst d c Ra) (hr : ∀ x y H1, DX d c H H1 → Ra.p x H1 → Rb.p y H1 → Gi (r x y) H1 R) : EvD d c (tOp r ta tb) σ H R := fun H1 x Q q =>
  ha H1 x _ fun u H2 x2 pu => hb H2 (x.trans x2) _ fun v H3 x3 pv => hr u v H3 ((x.trans x2).trans x3) (sa x2.deal x3 pu) pv Q fun z H4 e4 pz => q z H4 ((x2.trans x3).trans (.of x3.deal e4)) pz
theorem ed_I0 {p q s : Int → Prop} {g : Int → Int → Int} (ha : EvD d c ta σ H (intP p)) (hb : EvD d c tb σ H (intP q)) (hs : ∀ i j, p i → q j → s (g i j)) : EvD d c (tOp (rI0 fun i j => .int (g i j)) ta tb) σ H (intP s) :=
  ed_op ha hb (dst_stab _) fun x y H1 _ ⟨i, ex, pi⟩ ⟨j, ey, pj⟩ => Gi.now (fun Q q => ⟨i, j, ex, ey, q⟩) ⟨_, rfl, hs i j pi pj⟩
theorem ed_I {p q s : Int → Prop} {C : Int → Int → Prop} {g : Int → Int → Int} (ha : EvD d c ta σ H (intP p)) (hb : EvD d c tb σ H (intP q)) (hc : ∀ i j, p i → q j → C i j) (hs : ∀ i j, p i → q j → s (g i j)) : EvD d c (tOp (rI C fun i j => .int (g i j)) ta tb) σ H (intP s) :=
  ed_op ha hb (dst_stab _) fun x y H1 _ ⟨i, ex, pi⟩ ⟨j, ey, pj⟩ => Gi.now (fun Q q => ⟨i, j, ex, ey, hc i j pi pj, q⟩) ⟨_, rfl, hs i j pi pj⟩
theorem eda_nil : EvDA d c tNil σ H [] := fun H1 x Q q => q [] H1 (.refl x.deal) trivial
theorem eda_cons {tr : TA} (h : EvD d c te σ H R) (s : Dst d c R) (hr : EvDA d c tr σ H Rs) : EvDA d c (tCons te tr) σ H (R :: Rs) := fun H1 x _ q =>
  h H1 x _ fun v H2 x2 pv => hr H2 (x.trans x2) _ fun vs H3 x3 ps => q _ H3 (x2.trans x3) ⟨s x2.deal x3 pv, ps⟩
theorem ed_cb {r : List V → Hp → VK → Prop} {ta : TA} (h : EvDA d c ta σ H Rs) (hr : ∀ vs H1, DX d c H H1 → AllP vs Rs H1 → Gi (r vs) H1 R) : EvD d c (tCB r ta) σ H R := fun H1 x Q q =>
  h H1 x _ fun vs H2 x2 pv => hr vs H2 (x.trans x2) pv Q fun v H3 e3 p => q v H3 (x2.trans (.of x2.deal e3)) p
theorem ed_tup {ta : TA} (h : EvDA d c ta σ H Rs) (hl : Rs.length ≤ 1000) : EvD d c (tTup ta) σ H (tupR Rs) := fun H1 x Q q =>
  h H1 x _ fun vs H2 x2 pv => ⟨by rw [pv.length]; exact Nat.le_trans hl (by decide), fun p hp => q (.ref p) _ (x2.trans (.of x2.deal (Ex.new hp))) ⟨p, vs, rfl, upd_same, pv.up (Ex.new hp)⟩⟩
theorem DX.none {H' : Hp} (x : DX d c H H') (hd : Deal d c H) {p : Addr} (hp : H' p = none) : H p = none := by
  cases hz : H p with
  | none => rfl
  | some o =>
    obtain ⟨b, z, h1, h2, _⟩ := x.deal
    rw [x.keep p o (fun e => by rw [e, h1] at hp; cases hp) (fun e => by rw [e, h2] at hp; cases hp) hz] at hp
    cases hp
theorem ed_lst {ta : TA} (hd : Deal d c H) (h : EvDA d c ta σ H Rs) (hl : Rs.length ≤ 1000) : EvD d c (tLst ta) σ H (lstN H Rs) := fun H1 x Q q =>
  h H1 x _ fun vs H2 x2 pv => ⟨by rw [pv.length]; exact Nat.le_trans hl (by decide), fun p hp => q (.ref p) _ (x2.trans (.of x2.deal (Ex.new hp))) ⟨p, vs, rfl, (x.trans x2).none hd hp, upd_same, pv.up (Ex.new hp)⟩⟩
theorem ed_if {b : Bool} {t : TT} (h : ∀ H1, DX d c H H1 → EvT t σ H1 b) (h1 : b = true → EvD d c ta σ H R) (h2 : b = false → EvD d c tb σ H R) : EvD d c (tIf t ta tb) σ H R := fun H1 x Q q => h H1 x H1 (Ex.refl _) _ fun H2 e2 => by
  have x2 : DX d c H1 H2 := .of x.deal e2
  cases b with
  | true =>
    show ta σ H2 Q
    exact h1 rfl H2 (x.trans x2) Q fun v H3 x3 => q v H3 (x2.trans x3)
  | false =>
    show tb σ H2 Q
    exact h2 rfl H2 (x.trans x2) Q fun v H3 x3 => q v H3 (x2.trans x3)
theorem ed_any {i : Nat} {b : Int} {E : XK} (hi : σ[i]? = some (some (.ref d))) (hb : EvD d c tb σ H (Rp.v (.int b))) (b1 : 1 ≤ b) (b2 : b ≤ 1000000) : EvD d c (tCall spAny [] E (tCons (tVar i) (tCons tb tNil))) σ H (rngP b) := fun H1 x Q q =>
  ⟨.ref d, hi, hb H1 x _ fun v H2 x2 pv => by
    cases (show v = V.int b from pv)
    exact ⟨d, c, b, rfl, x2.deal, b1, b2, fun r H' h0 h1 x3 => q _ H' (x2.trans x3) ⟨r, rfl, h0, h1⟩⟩⟩
theorem ed_of {i : Nat} {E : XK} (hi : σ[i]? = some (some (.ref d))) (h0 : Deal d c H0) (hl : EvD d c tl σ H (lstN H0 Rs)) (l1 : 1 ≤ Rs.length) (l2 : Rs.length ≤ 1000000) (st : ∀ R ∈ Rs, Dst d c R) : EvD d c (tCall spOf [] E (tCons (tVar i) (tCons tl tNil))) σ H (oneOf Rs) := fun H1 x Q q =>
  ⟨.ref d, hi, hl H1 x _ fun v H2 x2 ⟨a, xs, ev, hn, ha, pa⟩ => by
    subst ev
    obtain ⟨b, z, g1, g2, _⟩ := h0
    refine ⟨d, c, a, xs, rfl, x2.deal, fun e => (by rw [e, g1] at hn; cases hn), fun e => (by rw [e, g2] at hn; cases hn), ha, by rw [pa.length]; exact l1, by rw [pa.length]; exact l2, fun j v H' hv x3 => ?_⟩
    obtain ⟨R, hR, pR⟩ := pa.get hv
    exact q _ H' (x2.trans x3) ⟨R, List.mem_of_getElem? hR, st R (List.mem_of_getElem? hR) x2.deal x3 pR⟩⟩
/-- [e for x in range(n)], e drawn -/
theorem ed_lcR {ta : TA} {n j : Nat} {vs : List Nat} [sb : Stab R] (hd : Deal d c H) (hn : n ≤ 1000) (ha : ∀ H1, DX d c H H1 → NL.EvA ta σ H1 [Rp.v (.int n)]) (wp : ∀ x, wipe ((wipe σ vs).set j (some x)) vs = wipe σ vs)
    (el : ∀ x, EvD d c te ((wipe σ vs).set j (some x)) H R) : EvD d c (tLc (iRng1 ta) (gName j) tYes te vs) σ H (lstN H (List.replicate n R)) := fun H1 x1 Q q =>
  ha H1 x1 H1 (Ex.refl _) _ fun us H2 e2 p => by
    match us, p with
    | [u], p =>
    cases (show u = V.int n from p.1)
    refine ⟨n, rfl, by omega, by omega, fun D hD => ?_⟩
    have x2 : DX d c H1 H2 := .of x1.deal e2
    obtain ⟨b0, z0, g1, g2, _⟩ := x2.deal
    have Dd : D ≠ d := fun e => by rw [e, g1] at hD; cases hD
    have Dc : D ≠ c := fun e => by rw [e, g2] at hD; cases hD
    have dup : ∀ {H' : Hp} {o : HO}, Deal d c H' → Deal d c (upd H' D o) := fun {H' o} ⟨b, z, h1, h2, h3⟩ => ⟨b, z, by rw [upd_ne (Ne.symm Dd)]; exact h1, by rw [upd_ne (Ne.symm Dc)]; exact h2, h3⟩
    have mtd : ∀ {H' : Hp} {o : HO}, DX d c H2 H' → DX d c H2 (upd H' D o) := fun {H' o} x => ⟨fun a u h1 h2 h => by rw [upd_ne (ne_of_none h hD)]; exact x.keep a u h1 h2 h, dup x.deal⟩
    have wr := walk_range (lo := 0) (n := n)
    refine lc_it (n := n) wr (fun i H' => DX d c H2 H' ∧ ∃ acc, H' D = some (.lst acc) ∧ AllP acc (List.replicate i R) H') ⟨mtd (.refl x2.deal), [], upd_same, trivial⟩ (fun _ _ _ _ => trivial) ?_ ?_
    · rintro i y H4 H4' hi ⟨x3, acc, hacc, pacc⟩ ⟨rfl, rfl⟩
      refine ⟨wp _, ?_⟩
      show te _ _ _
      have x13 := (x1.trans x2).trans x3
      refine el _ _ x13 _ fun v H5 x5 pv => ?_
      have hD5 := x5.keep D _ Dd Dc hacc
      refine ⟨acc, hD5, by rw [pacc.length, List.length_replicate, sizeLine_eq]; omega, mtd (x3.trans x5), acc ++ [v], upd_same, ?_⟩
      rw [List.replicate_succ']
      have t1 : Tk _ (upd H5 D (.lst (acc ++ [v]))) := (x5.tk x3.deal).trans (Tk.lst hD5)
      exact (pacc.stab (fun S hS => by rw [(List.mem_replicate.mp hS).2]; exact sb) t1).snoc (sb.st (Tk.lst hD5) pv)
    · rintro H' ⟨x3, acc, hacc, pacc⟩
      exact q _ H' (x2.trans x3) ⟨D, acc, rfl, (x1.trans x2).none hd hD, hacc, pacc⟩
/-! statements -/
theorem d_set {i : Nat} (hd : Deal d c H) (h : EvD d c te σ H R) (k : ∀ v H1, DX d c H H1 → R.p v H1 → tz D (σ.set i (some v)) H1) : tSeq (tAsg te (gName i)) tz D σ H := h H (.refl hd) _ fun v H1 e p => k v H1 e p
theorem dl_set {i : Nat} (hd : Deal d c H) (h : EvD d c te σ H R) (k : ∀ v H1, DX d c H H1 → R.p v H1 → D.nx (σ.set i (some v)) H1) : tAsg te (gName i) D σ H := h H (.refl hd) _ fun v H1 e p => k v H1 e p
theorem d_ret (hd : Deal d c H) (h : EvD d c te σ H R) (k : ∀ v H1, DX d c H H1 → R.p v H1 → D.rt v H1) : tRet te D σ H := h H (.refl hd) _ k
end
section
variable {P : Program} {w : World} {K : PySem.W.Frag} {mg : Str → Option Value} {base : Heap}
theorem ok_law_of (D : Dn K mg "_law_of" s__law_of p__law_of) (T : Txt mg) (c__law_any : Cl P w K mg base 1 "_law_any" spAny) : Cl P w K mg base 2 "_law_of" spOf := by
  refine D.cal sc__law_of (fun vs H Q E h => ?_) (fun f cdv A outer s H vs Q E hr h => ?_)
  · obtain ⟨_, _, _, _, rfl, _⟩ := h
    rfl
  · obtain ⟨d, c, a, xs, rfl, hD, ad, ac, ha, l1, l2, k⟩ := h
    refine ⟨_, (pss_one (ps_ret (pe_ix (kIxL (K := K) rfl) (pv 1) (pe_c c__law_any hr (by decide) rfl (pa_cons (pv 0) (pa_cons (pe_callB (kLenS (K := K) rfl) (by rfl) T.len (by decide +kernel) (pa_cons (pv 1) pa_nil)) pa_nil))) (fun _ _ => rfl)))), ?_⟩
    refine ⟨.ref a, rfl, .ref d, rfl, .ref a, rfl, a, xs, rfl, .inl (sqL_of ha), d, c, xs.length, rfl, hD, by omega, by omega, fun r H' h0 h1 x => ?_⟩
    have hv : xs[r.toNat]? = some (xs[r.toNat]'(by omega)) := List.getElem?_eq_getElem _
    refine ⟨a, xs, r, _, rfl, rfl, sqL_of (x.keep a _ ad ac ha), ?_, k r.toNat _ H' hv x⟩
    have := atI_nat hv
    rw [show ((r.toNat : Nat) : Int) = r by omega] at this
    exact this
end
end NL
end
section
set_option linter.all false
set_option Elab.async false
set_option maxRecDepth 100000
namespace NL
open PySem PySem.Spec PyProof.Rows L2
open Evl (Ex Ev EvT)
open C8 (pe_c pe_mk pe_mt pe_gc)
abbrev s__law_draw : Stmt := top 36
abbrev n__law_draw : List Str := ["_law_script", "_law_salt", "_law_cells", "_law_blend", "_law_cell"]
abbrev p__law_draw : List Str := ["_law_script", "_law_salt"]
theorem sc__law_draw : FnScope n__law_draw p__law_draw (defScope s__law_draw) := ⟨rfl, rfl, rfl, by decide +kernel, rfl, by decide +kernel, by decide +kernel⟩
def spDraw (K : PySem.W.Frag) : Sp := fun vs H Q _ => ∃ (a : Addr) (ns : List Int) (salt : Int), vs = [.ref a, .int salt] ∧ SqL K H a (ns.map V.int) ∧ ns.length ≤ 1000 ∧ ∀ d c H', Ex H H' → Deal d c H' → Q (.ref d) H'
section
variable {P : Program} {w : World} {K : PySem.W.Frag} {mg : Str → Option Value} {base : Heap} {σ : L2.St} {H : Hp} {te : TE}
theorem ep_revL {ns : List Int} (h : EvP te σ H (lstI ns)) : EvP (tRevL K te) σ H (lstI ns.reverse) := fun H1 e Q q =>
  h H1 e _ fun v H2 e2 ⟨a, hv, ha⟩ => ⟨a, _, hv, sqL_of ha, fun p hp => q _ _ (e2.trans (Ex.new hp)) ⟨p, rfl, by rw [upd_same, List.map_reverse]⟩⟩
theorem ok_law_draw (D : Dn K mg "_law_draw" s__law_draw p__law_draw) (T : Txt mg) : Cl P w K mg base 1 "_law_draw" (spDraw K) := by
  refine D.cal sc__law_draw (fun vs H Q E h => ?_) (fun f cdv A outer s H vs Q E hr h => ?_)
  · obtain ⟨_, _, _, rfl, _⟩ := h
    rfl
  · obtain ⟨a, ns, salt, rfl, ha, hl, k⟩ := h
    refine ⟨_, (pss_cons (ps_setLc (i := 2) (own := [("_law_cell", 4)]) (g := (gName 4)) (tt := tYes) rfl sc__law_draw.nd rfl rfl (sw_true rfl rfl rfl (by decide +kernel)) (pi_list (pe_slice (kSlL (K := K) rfl) (pv 0) po_none (po_some pe_int))) (blkOk_by (N := n__law_draw) (sc := defScope s__law_draw) (by decide +kernel)) (fun _ _ _ _ _ => (pg_name (i := 4) sc__law_draw.nd rfl (Or.inl rfl))) (fun _ _ _ _ _ => pts_nil) (fun _ _ _ _ _ => (pe_callB call_abs (by rfl) T.abs (by decide +kernel) (pa_cons (pe_callTy call_int1 (by rfl) T.int (by decide +kernel) (pa_cons (pv 4) pa_nil)) pa_nil))))
      (pss_cons (ps_set (i := 3) sc__law_draw.nd rfl (Or.inl rfl) (pe_op op_add pe_int (pe_op op_mul pe_int (pv 1))))
      (pss_cons (ps_for PassesOwn.never rfl (pi_list (pv 2)) (pg_name (i := 4) sc__law_draw.nd rfl (Or.inl rfl)) (pss_one (ps_set (i := 3) sc__law_draw.nd rfl (Or.inl rfl) (pe_op op_mod (pe_callTy call_int1 (by rfl) T.int (by decide +kernel) (pa_cons (pe_op op_add (pe_op op_add (pe_op op_mul (pv 3) pe_int) (pe_op op_mod (pv 4) pe_int)) pe_int) pa_nil)) pe_int))))
      (pss_one (ps_ret (pe_lst (pa_cons (pe_revL (pe_lc (own := [("_law_cell", 4)]) (g := (gName 4)) rfl sc__law_draw.nd (pi_list (pv 2)) (blkOk_by (N := n__law_draw) (sc := defScope s__law_draw) (by decide +kernel)) (fun _ _ _ _ _ => (pg_name (i := 4) sc__law_draw.nd rfl (Or.inl rfl))) (fun _ _ _ _ _ => (pts_one (pt_cmpR op_ge (pv 4) (pe_op op_pow pe_int pe_int) (nomark _)))) (fun _ _ _ _ _ => (pv 4)))) (pa_cons (pv 3) pa_nil)))))))), ?_⟩
    have hsl : EvP (tSl (rSlL K) (tVar 0) tNoPart (tPart (tC (.int 48)))) (start n__law_draw [.ref a, .int salt]) H (lstI (ns.take 48)) := fun H1 e Q q =>
      ⟨.ref a, rfl, 48, rfl, a, _, rfl, Evl.ex_l e ha, fun p hp => q _ _ (Ex.new hp) ⟨p, rfl, by
        rw [upd_same, show ((48 : Int)) = ((48 : Nat) : Int) from rfl, cut_to, List.map_take]⟩⟩
    refine p_set (R := lstI ((ns.take 48).map fun x => if x < 0 then -x else x)) (EvP.cast (ep_lcLI (ns := ns.take 48) (p := fun _ => true) (f := fun x => if x < 0 then -x else x) hsl (by rw [List.length_take]; omega) (fun _ => rfl) (fun _ _ _ _ => et_yes) fun x H9 hx e9 _ => ep_abs (ep_int1 (ep_v rfl))) (by rw [List.filter_eq_self.mpr (fun _ _ => rfl)])) fun vc H1 e1 pc => ?_
    have hcl : ((ns.take 48).map fun x => if x < 0 then -x else x).length ≤ 48 := by rw [List.length_map, List.length_take]; omega
    generalize (ns.take 48).map (fun x => if x < 0 then -x else x) = cs at pc hcl
    refine p_set (R := Rp.v (.int (7919 + 104729 * salt))) (ep_I0 (f := fun i j => .int (i + j)) ep_c (ep_I (f := fun i j => .int (i * j)) ep_c (ep_v rfl) (.inl ⟨by decide, by decide⟩))) fun vb H2 e2 pb => ?_
    cases (show vb = _ from pb)
    generalize 7919 + 104729 * salt = z0
    obtain ⟨ac, rfl, hac⟩ := (lstI cs).up e2 pc
    have hacR : (lstR (cs.map fun n => Rp.v (.int n))).p (.ref ac) H2 := lstI_of.mpr ⟨ac, rfl, hac⟩
    obtain ⟨_, xs, h1, h2, pxs⟩ := hacR
    cases h1
    refine p_for (l_forA (Rs := cs.map fun n => Rp.v (.int n)) (Evl.ev_var rfl) h2 pxs fun H3 e3 => ⟨{
      Pv := fun i σ' H' => ∃ z a4, σ' = [some (.ref a), some (.int salt), some (.ref ac), some (.int z), a4] ∧ Ex H2 H'
      h0 := ⟨z0, _, rfl, e3⟩
      hk := fun _ _ _ _ ⟨_, _, _, e⟩ => e _ _ h2
      hs := ?_
      hd := ?_ }⟩)
    · rintro i x σ' H4 H5 hi ⟨z, a4, rfl, e4⟩ e5 ⟨R, hR, pR⟩
      obtain ⟨n, hn, rfl⟩ := getR hR
      cases (show x = V.int n from pR)
      refine l_set (R := Rp.v (.int ((z * 48271 + n % 2147483549 + 11) % 2147483647))) (ep_I (f := fun i j => .int (i % j)) (ep_int1 (ep_I0 (f := fun i j => .int (i + j)) (ep_I0 (f := fun i j => .int (i + j)) (ep_I (f := fun i j => .int (i * j)) (ep_v rfl) ep_c (.inr ⟨by decide, by decide⟩)) (ep_I (f := fun i j => .int (i % j)) (ep_v rfl) ep_c (by show (0 : Int) < 2147483549; omega))) ep_c)) ep_c (by show (0 : Int) < 2147483647; omega)) fun v6 H6 e6 p6 => ?_
      cases (show v6 = _ from p6)
      exact ⟨_, _, rfl, (e4.trans e5).trans e6⟩
    · rintro σ' H4 ⟨z, a4, rfl, e4⟩
      refine p_ret (D := dE Q) (ep_lst (Rs := [lstI ((cs.filter fun x => decide (x ≥ 10 ^ 18)).map id).reverse, Rp.v (.int z)]) (ea_cons (ep_revL (ep_lcLI (ns := cs) (p := fun x => decide (x ≥ 10 ^ 18)) (f := id) (ep_var rfl ⟨ac, rfl, e4 _ _ hac⟩) (by omega) (fun _ => rfl) (fun x H9 hx e9 => et_I0 (p := fun i j => decide (i ≥ j)) (ep_v rfl) (ep_I (f := fun i j => .int (i ^ j.toNat)) ep_c ep_c ?_)) fun x H9 hx e9 _ => ep_v rfl)) (ea_cons (ep_v rfl) ea_nil)) (by show 2 ≤ 1000; omega)) fun v5 H5 e5 p5 => ?_
      · refine ⟨by decide, by decide, by decide⟩
      · obtain ⟨d, ys, rfl, hd, pd⟩ := p5
        match ys, pd with
        | [y1, y2], pd =>
          obtain ⟨⟨c, rfl, hc⟩, hz, _⟩ := pd
          cases (show y2 = V.int z from hz)
          refine k d c H5 (((e1.trans e2).trans e4).trans e5) ⟨_, z, hd, hc, ?_⟩
          rw [List.length_reverse, List.length_map]
          have := List.length_filter_le (fun x => decide (x ≥ 10 ^ 18)) cs
          omega
end
end NL
end
section
set_option linter.all false
set_option Elab.async false
set_option maxRecDepth 100000
namespace NL
open PySem PySem.Spec PyProof.Rows L2
open Evl (Ex Ev EvT)
open C8 (pe_c pe_mk pe_mt pe_gc)
abbrev s__law_walked : Stmt := top 47
abbrev n__law_walked : List Str := ["_law_deal", "_law_batches", "_law_crowd", "_law_rest", "_law_turn", "_law_fits", "_law_batch"]
abbrev p__law_walked : List Str := ["_law_deal", "_law_batches", "_law_crowd"]
theorem sc__law_walked : FnScope n__law_walked p__law_walked (defScope s__law_walked) := ⟨rfl, rfl, rfl, by decide +kernel, rfl, by decide +kernel, by decide +kernel⟩
theorem zv_sub {k : Nat} {ns : List Pr} (K : Ker k (Zv ns)) {b r : List Int} (hb : Dom k b) (hr : Dom k r) (zb : Zv ns b) (l : vle b r = true) : Zv ns (vsub r b) ↔ Zv ns r := by
  have hs := hb.sub hr l
  refine ⟨fun z => ?_, fun z => K.sub hb hr zb z l⟩
  have := K.add hb hs zb z
  rwa [add_sub hb.1 hr.1] at this
def spWalked : Sp := fun vs H Q _ => ∃ (d c : Addr) (x y : V) (k : Nat) (ns : List Pr) (bs : List (List Int)) (cr : List Int), vs = [.ref d, x, y] ∧ Deal d c H ∧ k ≤ 4 ∧ Ker k (Zv ns) ∧ BkOf k ns bs ∧ bs.length ≤ 1000000 ∧ (tupT bs).p x H ∧ (tupI cr).p y H ∧ Dom k cr ∧ cr.sum < 130 ∧
  ∀ v H' r, DX d c H H' → (tupI r).p v H' → Dom k r → (r.sum = 0 ↔ Zv ns cr) → Q v H'
section
variable {K : PySem.W.Frag} {d c : Addr} {σ : L2.St} {H H0 : Hp} {ta tb te tl : TE} {R Ra Rb : Rp} {Rs : List Rp} {D : Ends} {tz tu tw : TS}
/-- the crowds of a tuple for which the test holds -/
theorem ep_lcTT {cs : List (List Int)} {tt : TT} {vs : List Nat} {j : Nat} {p : List Int → Bool} (h : EvP tl σ H (tupT cs)) (hn : cs.length ≤ 1000000) (wp : ∀ x, wipe ((wipe σ vs).set j (some x)) vs = wipe σ vs) (self : ∀ x, ((wipe σ vs).set j (some x))[j]? = some (some x))
    (tst : ∀ c x H2, c ∈ cs → Ex H H2 → (tupI c).p x H2 → EvT tt ((wipe σ vs).set j (some x)) H2 (p c)) : EvP (tLc (iTup K tl) (gName j) tt (tVar j) vs) σ H (lstN H ((cs.filter p).map tupI)) :=
  EvP.cast (ep_lc1N (n := cs.length) (f := fun i => p (cs.getD i [])) (Rs := fun i => tupI (cs.getD i [])) (EvW.len (ew_tup h) (by simp)) (by rw [sizeLine_eq]; omega) (fun _ _ => inferInstance) wp
    (fun i x H2 hi e ⟨R, hR, pR⟩ => by
      obtain ⟨c, hc, rfl⟩ := getR hR
      rw [getD_of hc]
      exact tst c x H2 (List.mem_of_getElem? hc) e pR)
    fun i x H2 hi e ⟨R, hR, pR⟩ _ => by
      obtain ⟨c, hc, rfl⟩ := getR hR
      rw [getD_of hc]
      exact ep_var (self x) pR) (congrArg (lstN H) (kept_filter cs [] p tupI))
theorem ed_pur {ok : List V → Hp → Rp → Prop} {E : XK} {ta : TA} (h : EvDA d c ta σ H Rs) (hr : ∀ vs H1, DX d c H H1 → AllP vs Rs H1 → ∃ R', ok vs H1 R' ∧ ∀ v H2, R'.p v H2 → R.p v H2) : EvD d c (tCall (Pur ok) [] E ta) σ H R := fun H1 x Q q =>
  h H1 x _ fun vs H2 x2 pv => by
    obtain ⟨R', h1, h2⟩ := hr vs H2 (x.trans x2) pv
    refine ⟨R', by rw [List.append_nil]; exact h1, fun v H3 e3 p => q v H3 (x2.trans (.of x2.deal e3)) (h2 v H3 p)⟩
end
section
variable {P : Program} {w : World} {K : PySem.W.Frag} {mg : Str → Option Value} {base : Heap}
theorem ok_law_walked (D : Dn K mg "_law_walked" s__law_walked p__law_walked) (T : Txt mg) (c__law_within : Cl P w K mg base 1 "_law_within" spWithin) (c__law_less : Cl P w K mg base 1 "_law_less" spLess) (c__law_of : Cl P w K mg base 2 "_law_of" spOf) : Cl P w K mg base 3 "_law_walked" spWalked := by
  refine D.cal sc__law_walked (fun vs H Q E h => ?_) (fun f cdv A outer s H vs Q E hr h => ?_)
  · obtain ⟨_, _, _, _, _, _, _, _, rfl, _⟩ := h
    rfl
  · obtain ⟨d, c, x, y, n, ns, bs, cr, rfl, hD, n4, K1, bk, hbl, hx, hy, cd, cs, k⟩ := h
    refine ⟨_, (pss_cons (ps_set (i := 3) sc__law_walked.nd rfl (Or.inr rfl) (pv 2))
      (pss_cons (ps_for PassesOwn.never rfl (pi_range1 (by rfl) T.range (pa_cons pe_int pa_nil)) (pg_name (i := 4) sc__law_walked.nd rfl (Or.inl rfl)) (pss_cons (ps_setLc (i := 5) (own := [("_law_batch", 6)]) (g := (gName 6)) rfl sc__law_walked.nd rfl rfl (sw_true rfl rfl rfl (by decide +kernel)) (pi_tup (pv 1)) (blkOk_by (N := n__law_walked) (sc := defScope s__law_walked) (by decide +kernel)) (fun _ _ _ _ _ => (pg_name (i := 6) sc__law_walked.nd rfl (Or.inl rfl))) (fun _ _ _ _ _ => (pts_one (pt_val (pe_c c__law_within hr (by decide) rfl (pa_cons (pv 6) (pa_cons (pv 3) pa_nil)))))) (fun _ _ _ _ _ => (pv 6)))
      (pss_cons (ps_if (pt_cmpR (kEqD (K := K) rfl hr.units) (pv 5) (pe_lst pa_nil) (nomark _)) (pss_one (ps_ret (pv 3))) pss_nil)
      (pss_one (ps_set (i := 3) sc__law_walked.nd rfl (Or.inr rfl) (pe_c c__law_less hr (by decide) rfl (pa_cons (pv 3) (pa_cons (pe_c c__law_of hr (by decide) rfl (pa_cons (pv 0) (pa_cons (pv 5) pa_nil))) pa_nil))))))))
      (pss_one (ps_ret (pv 3))))), ?_⟩
    have hbm : ∀ b ∈ bs, Mn n (Zv ns) b := fun b hb => (bk.mem b).mp hb
    refine p_set (R := tupI cr) (ep_var rfl hy) fun v0 H1 e1 p0 => ?_
    refine p_for (l_forR1 (j := 130) (ea_cons ep_c ea_nil) (by omega) fun H2 e2 => ⟨{
      Pv := fun i σ' H' => ∃ r vr a4 a5 a6, σ' = [some (.ref d), some x, some y, some vr, a4, a5, a6] ∧ DX d c H H' ∧ (tupI r).p vr H' ∧ Dom n r ∧ (Zv ns r ↔ Zv ns cr) ∧ r.sum + i ≤ cr.sum
      h0 := ⟨cr, v0, _, _, _, rfl, .of hD (e1.trans e2), (tupI cr).up e2 p0, cd, Iff.rfl, by omega⟩
      hk := fun _ _ _ _ _ => trivial
      hs := ?_
      hd := ?_ }⟩)
    · rintro i u σ' H3 H4 hi ⟨r, vr, a4, a5, a6, rfl, x3, pr, rd, rz, rs⟩ e4 rfl
      show gName 4 _ _ _ _
      have x4 := x3.trans (.of x3.deal e4)
      have hx4 := dst_stab (d := d) (c := c) (tupT bs) (s := stab_tupR (allTup_stab bs)) hD x4 hx
      have pr4 := (tupI r).up e4 pr
      refine p_set (R := lstN H4 ((bs.filter fun b => vle b r).map tupI)) (ep_lcTT (p := fun b => vle b r) (ep_var rfl hx4) hbl (fun _ => rfl) (fun _ => rfl) fun b z H5 hb e5 pb => et_ep (ep_within (ep_var rfl pb) (ep_var (R := tupI r) rfl ((tupI r).up e5 pr4)) (by rw [(hbm b hb).1.1, rd.1]) (by rw [(hbm b hb).1.1]; omega))) fun vf H5 e5 pf => ?_
      have x5 := x4.trans (.of x4.deal e5)
      have pr5 := (tupI r).up e5 pr4
      refine p_when (b := decide ((bs.filter fun b => vle b r) = [])) (et_ep (ep_eqLr (ep_var (R := lstT (bs.filter fun b => vle b r)) rfl (lstN_R pf)) (ep_lst ea_nil (Nat.zero_le _)))) (fun hb H6 e6 => ?_) fun hb H6 e6 => ?_
      · have hnil := List.filter_eq_nil_iff.mp (of_decide_eq_true hb)
        refine p_ret (R := tupI r) (ep_var rfl ((tupI r).up e6 pr5)) fun v7 H7 e7 p7 => k v7 H7 r ((x5.trans (.of x5.deal e6)).trans (.of (x5.deal.ex e6) e7)) p7 rd ?_
        rw [← rz]
        constructor
        · intro z
          rw [rd.eq_zeros z]
          exact K1.zero
        · intro z
          have h0 := rd.sum_nonneg
          by_cases hp : 0 < r.sum
          · obtain ⟨m, hm, hle⟩ := mn_within rd z hp
            exact absurd hle (hnil m ((bk.mem m).mpr hm))
          · omega
      · have hne := of_decide_eq_false hb
        have x6 := x5.trans (.of x5.deal e6)
        have pf6 := (lstN H4 _).up e6 pf
        refine dl_set (d := d) (c := c) (R := ⟨fun v H => ∃ b, b ∈ bs.filter (fun b => vle b r) ∧ (tupI (vsub r b)).p v H, fun e ⟨b, h1, h2⟩ => ⟨b, h1, (tupI _).up e h2⟩⟩) x6.deal (ed_pur (Rs := [tupI r, oneOf ((bs.filter fun b => vle b r).map tupI)]) (eda_cons (ed_var x6.deal (dst_stab _) rfl ((tupI r).up e6 pr5)) (dst_stab _) (eda_cons (ed_of (H0 := H4) rfl x4.deal (ed_var x6.deal (dst_lstN x4.deal fun R hR => ?_) rfl pf6) ?_ ?_ fun R hR => ?_) ?_ eda_nil)) fun vs H7 x7 p => ?_) fun v7 H7 x7 p7 => ?_
        · obtain ⟨b, _, rfl⟩ := List.mem_map.mp hR
          exact dst_stab _
        · rw [List.length_map]; exact List.length_pos_iff.mpr hne
        · rw [List.length_map]
          have := List.length_filter_le (fun b => vle b r) bs
          omega
        · obtain ⟨b, _, rfl⟩ := List.mem_map.mp hR
          exact dst_stab _
        · intro v H H' hd x ⟨R, hR, pR⟩
          obtain ⟨b, _, rfl⟩ := List.mem_map.mp hR
          exact ⟨_, hR, dst_stab _ hd x pR⟩
        · match vs, p with
          | [z1, z2], p =>
            obtain ⟨p1, ⟨R, hR, pR⟩, _⟩ := p
            obtain ⟨b, hb, rfl⟩ := List.mem_map.mp hR
            have hbd := (hbm b (List.mem_filter.mp hb).1).1
            exact ⟨tupI (vsub r b), ⟨z1, z2, r, b, rfl, p1, pR, by rw [rd.1, hbd.1], by rw [rd.1]; omega, rfl⟩, fun v H2 p => ⟨b, hb, p⟩⟩
        · obtain ⟨b, hb, pb⟩ := p7
          obtain ⟨hb1, hb2⟩ := List.mem_filter.mp hb
          have hm := hbm b hb1
          refine ⟨vsub r b, v7, _, _, _, rfl, x6.trans x7, pb, hm.1.sub rd hb2, (zv_sub K1 hm.1 rd hm.2.1 hb2).trans rz, ?_⟩
          rw [sum_sub rd.1 hm.1.1]
          have := hm.2.2.1
          omega
    · rintro σ' H3 ⟨r, vr, a4, a5, a6, rfl, x3, pr, rd, rz, rs⟩
      have := rd.sum_nonneg
      omega
end
end NL
end
section
set_option linter.all false
set_option Elab.async false
set_option maxRecDepth 100000
namespace NL
open PySem PySem.Spec PyProof.Rows L2
open Evl (Ex Ev EvT)
open C8 (pe_c pe_mk pe_mt pe_gc)
abbrev s__law_naming : Stmt := top 45
abbrev n__law_naming : List Str := ["_law_deal", "_law_kinds", "_law_form", "_law_clocks", "_law_moduli", "_law_clock", "_law_one", "_law_other", "_law_turn", "_law_found", "_law_modulus", "_law_kind"]
abbrev p__law_naming : List Str := ["_law_deal", "_law_kinds"]
theorem sc__law_naming : FnScope n__law_naming p__law_naming (defScope s__law_naming) := ⟨rfl, rfl, rfl, by decide +kernel, rfl, by decide +kernel, by decide +kernel⟩
/-- a list of moduli -/
def clR (H : Hp) (ms : List Int) : Rp := lstN H (ms.map fun m => Rp.v (.int m))
theorem dst_clR {d c : Addr} {H : Hp} (h : Deal d c H) (ms : List Int) : Dst d c (clR H ms) := dst_lstN h fun R hR => by
  obtain ⟨m, _, rfl⟩ := List.mem_map.mp hR
  exact dst_stab _
def tInts : List Int → TA
  | [] => tNil
  | m :: r => tCons (tC (.int m)) (tInts r)
def tIntss : List (List Int) → TA
  | [] => tNil
  | m :: r => tCons (tLst (tInts m)) (tIntss r)
/-- what the moduli may be -/
def GoodM (k : Nat) (ms : List Int) : Prop := ms ∈ clockLists k ∨ ms = [0] ∨ (k ≤ 3 ∧ ∃ m, 2 ≤ m ∧ m ≤ 4 ∧ (k = 3 → m = 2) ∧ (ms = [0, m] ∨ ms = [m, 0])) ∨ (k ≤ 3 ∧ ms = [0, 0])
def modR (H : Hp) (k : Nat) : Rp := ⟨fun v H' => ∃ ms, GoodM k ms ∧ (clR H ms).p v H', fun e ⟨ms, h1, h2⟩ => ⟨ms, h1, (clR H ms).up e h2⟩⟩
theorem dst_modR {d c : Addr} {H : Hp} (h : Deal d c H) (k : Nat) : Dst d c (modR H k) := fun hd x ⟨ms, h1, h2⟩ => ⟨ms, h1, dst_clR h ms hd x h2⟩
theorem GoodM.small {k : Nat} {ms : List Int} (h : GoodM k ms) : ∀ m ∈ ms, 0 ≤ m ∧ m ≤ 12 := by
  rcases h with hm | rfl | ⟨_, m, h2, h4, _, rfl | rfl⟩ | ⟨_, rfl⟩
  · have h2 := (clock_ok hm).1
    intro m hmm
    refine ⟨by have := h2 m hmm; omega, ?_⟩
    unfold clockLists at hm
    rcases List.mem_append.mp hm with h | h
    · simp only [List.mem_cons, List.not_mem_nil, or_false] at h
      rcases h with rfl | rfl | rfl | rfl | rfl | rfl | rfl | rfl | rfl <;> simp at hmm <;> omega
    · split at h
      · simp only [List.mem_cons, List.not_mem_nil, or_false] at h
        rcases h with rfl | rfl | rfl | rfl | rfl | rfl | rfl | rfl | rfl | rfl | rfl | rfl <;> simp at hmm <;> omega
      · simp at h
  all_goals (intro x hx; simp at hx; omega)
theorem GoodM.short {k : Nat} {ms : List Int} (h : GoodM k ms) : ms.length ≤ 3 := by
  rcases h with hm | rfl | ⟨_, m, h2, h4, _, rfl | rfl⟩ | ⟨_, rfl⟩
  · unfold clockLists at hm
    rcases List.mem_append.mp hm with h | h
    · simp only [List.mem_cons, List.not_mem_nil, or_false] at h
      rcases h with rfl | rfl | rfl | rfl | rfl | rfl | rfl | rfl | rfl <;> simp
    · split at h
      · simp only [List.mem_cons, List.not_mem_nil, or_false] at h
        rcases h with rfl | rfl | rfl | rfl | rfl | rfl | rfl | rfl | rfl | rfl | rfl | rfl <;> simp
      · simp at h
  all_goals simp
theorem GoodM.named {k : Nat} {ps : List Pr} (h : GoodM k (ps.map (·.1))) (hl : ∀ p ∈ ps, p.2.length = k) (hs : ∀ p ∈ ps, p.1 = 0 → Small p.2) : Named k ps := by
  rcases h with hm | h | ⟨h3, m, h2, h4, hk, h | h⟩ | ⟨h3, h⟩
  · exact .clocks hm hl
  · match ps, h with
    | [(a, g)], h =>
      simp at h
      subst h
      exact .bal (hl (0, g) (by simp)) (hs (0, g) (by simp) rfl)
  · match ps, h with
    | [(a, g), (b, g2)], h =>
      simp at h
      obtain ⟨rfl, rfl⟩ := h
      exact .balClock h3 h2 h4 hk (hl (0, g) (by simp)) (hl (b, g2) (by simp)) (hs (0, g) (by simp) rfl)
  · match ps, h with
    | [(a, g), (b, g2)], h =>
      simp at h
      obtain ⟨rfl, rfl⟩ := h
      exact .clockBal h3 h2 h4 hk (hl (0, g2) (by simp)) (hl (a, g) (by simp)) (hs (0, g2) (by simp) rfl)
  · match ps, h with
    | [(a, g), (b, g2)], h =>
      simp at h
      obtain ⟨rfl, rfl⟩ := h
      exact .two h3 (hl (0, g) (by simp)) (hl (0, g2) (by simp)) (hs (0, g) (by simp) rfl) (hs (0, g2) (by simp) rfl)
section
variable {K : PySem.W.Frag} {d c : Addr} {σ : L2.St} {H H0 : Hp} {ta tb te tl : TE} {R Ra Rb : Rp} {Rs : List Rp} {D : Ends} {tz tu tw : TS} {t u : TT}
theorem ea_ints : ∀ ms : List Int, NL.EvA (tInts ms) σ H (ms.map fun m => Rp.v (.int m))
  | [] => ea_nil
  | m :: r => ea_cons ep_c (ea_ints r)
/-- what is new now was new then -/
def NW (H0 H : Hp) : Prop := ∀ p, H p = none → H0 p = none
theorem NW.ex (e : Ex H0 H) : NW H0 H := fun p hp => none_of e hp
theorem NW.dx (h : Deal d c H0) (x : DX d c H0 H) : NW H0 H := fun p hp => x.none h hp
theorem ep_lstW {ta : TA} (h0 : NW H0 H) (h : NL.EvA ta σ H Rs) (hl : Rs.length ≤ 1000) : EvP (tLst ta) σ H (lstN H0 Rs) := fun H1 e Q q =>
  h H1 e _ fun vs H2 e2 pv => ⟨by rw [pv.length]; exact Nat.le_trans hl (by decide), fun p hp => q (.ref p) _ (e2.trans (Ex.new hp)) ⟨p, vs, rfl, h0 p (none_of (e.trans e2) hp), upd_same, pv.up (Ex.new hp)⟩⟩
theorem ep_ints (h0 : NW H0 H) (ms : List Int) (hl : ms.length ≤ 1000) : EvP (tLst (tInts ms)) σ H (clR H0 ms) := ep_lstW h0 (ea_ints ms) (by rw [List.length_map]; exact hl)
theorem ea_intss (h0 : NW H0 H) : ∀ mss : List (List Int), (∀ ms ∈ mss, ms.length ≤ 1000) → NL.EvA (tIntss mss) σ H (mss.map (clR H0))
  | [], _ => ea_nil
  | ms :: r, h => ea_cons (ep_ints h0 ms (h ms (List.mem_cons_self ..))) (ea_intss h0 r fun x hx => h x (List.mem_cons_of_mem _ hx))
theorem ep_catN {Ss : List Rp} (h0 : NW H0 H) (ha : EvP ta σ H (lstR Rs)) (hb : EvP tb σ H (lstR Ss)) (hz : Rs.length + Ss.length ≤ 1000000) : EvP (tOp rCat ta tb) σ H (lstN H0 (Rs ++ Ss)) :=
  ep_op ha hb fun x y H1 e1 px py => by
    obtain ⟨a, xs, rfl, ha, pa⟩ := px
    obtain ⟨b, ys, rfl, hb, pb⟩ := py
    exact Gi.new (fun Q q => ⟨a, b, xs, ys, rfl, rfl, ha, hb, by rw [pa.length, pb.length, sizeLine_eq]; omega, q⟩) fun p hp => ⟨p, _, rfl, h0 p (none_of e1 hp), upd_same, (pa.append pb).up (Ex.new hp)⟩
/-- if t: name = e -/
theorem p_optSet {b : Bool} {i : Nat} (h : EvT t σ H b) (h1 : b = true → ∀ H1, Ex H H1 → EvP te σ H1 R) (h2 : b = false → ∃ v0, σ.set i (some v0) = σ ∧ R.p v0 H) (k : ∀ v H1, Ex H H1 → R.p v H1 → tz D (σ.set i (some v)) H1) : tSeq (tIfS t (tAsg te (gName i)) tNext) tz D σ H :=
  p_when h (fun hb H1 e1 => h1 hb H1 e1 H1 (Ex.refl _) _ fun v H2 e2 p => k v H2 (e1.trans e2) p) fun hb H1 e1 => by
    obtain ⟨v0, hs, p⟩ := h2 hb
    have := k v0 H1 e1 (R.up e1 p)
    rwa [hs] at this
theorem p_join {M : L2.St → Hp → Prop} {b : Bool} (h : EvT t σ H b) (hk : ∀ σ' H', M σ' H' → tz D σ' H') (h1 : b = true → (∀ σ' H', M σ' H' → tz D σ' H') → ∀ H1, Ex H H1 → tu { D with nx := tz D } σ H1) (h2 : b = false → ∀ H1, Ex H H1 → M σ H1) : tSeq (tIfS t tu tNext) tz D σ H :=
  p_when h (fun hb H1 e1 => h1 hb hk H1 e1) fun hb H1 e1 => hk σ H1 (h2 hb H1 e1)
/-- a test that draws -/
def EvTD (d c : Addr) (t : TT) (σ : L2.St) (H : Hp) (p : Prop) : Prop := ∀ H1, DX d c H H1 → ∀ Q : Bool → Hp → Prop, (∀ b H2, (b = true → p) → DX d c H1 H2 → Q b H2) → t σ H1 Q
theorem etd_and {p : Prop} (h1 : ∀ H1, DX d c H H1 → EvT t σ H1 true) (h2 : EvTD d c u σ H p) : EvTD d c (tAnd t u) σ H p := fun H1 x Q q => h1 H1 x H1 (Ex.refl _) _ fun H2 e2 => by
  show u σ H2 Q
  have x2 : DX d c H1 H2 := .of x.deal e2
  exact h2 H2 (x.trans x2) Q fun b H3 hp x3 => q b H3 hp (x2.trans x3)
theorem etd_no {p : Prop} (h1 : ∀ H1, DX d c H H1 → EvT t σ H1 false) : EvTD d c t σ H p := fun H1 x Q q => h1 H1 x H1 (Ex.refl _) _ fun H2 e2 => q false H2 (fun z => by cases z) (.of x.deal e2)
theorem etd_gt {p : Int → Prop} {r : Prop} {n : Int} (hr : r) (ha : EvD d c ta σ H (intP p)) : EvTD d c (tTest (tOp (rI0 fun i j => .bl (decide (i > j))) ta (tC (.int n)))) σ H r := fun H1 x Q q =>
  ha H1 x _ fun v H2 x2 ⟨i, hv, _⟩ => by
    subst hv
    exact ⟨i, n, rfl, rfl, _, rfl, q _ H2 (fun _ => hr) x2⟩
theorem d_join {M : L2.St → Hp → Prop} {p : Prop} (hd : Deal d c H) (h : EvTD d c t σ H p) (hk : ∀ σ' H', M σ' H' → tz D σ' H') (h1 : p → ∀ H1, DX d c H H1 → tu { D with nx := tz D } σ H1) (h2 : ∀ H1, DX d c H H1 → M σ H1) : tSeq (tIfS t tu tNext) tz D σ H := h H (.refl hd) _ fun b H2 hp x2 => by
  cases b with
  | true =>
    show tu _ σ H2
    exact h1 (hp rfl) H2 x2
  | false =>
    show tz D σ H2
    exact hk σ H2 (h2 H2 x2)
theorem ed_neg1 : EvD d c (tUn (rU fun i => .int (-i)) (tC (.int 1))) σ H (intP fun r => r = -1) := ed_p fun _ _ H1 e Q q => ⟨1, rfl, q _ _ (Ex.refl _) ⟨-1, rfl, rfl⟩⟩
theorem ed_tupleL {n : Nat} {p : Int → Prop} (h : EvD d c tl σ H (lstN H0 (List.replicate n (intP p)))) : EvD d c (tCB (rTupOf K) (tCons tl tNil)) σ H ⟨fun v H => ∃ hs, (tupI hs).p v H ∧ hs.length = n ∧ ∀ x ∈ hs, p x, fun e ⟨hs, h1, h2⟩ => ⟨hs, (tupI hs).up e h1, h2⟩⟩ := fun H1 x Q q =>
  h H1 x _ fun v H2 x2 pv => (show EvP (tCB (rTupOf K) (tCons (tC v) tNil)) σ H2 (tupR (List.replicate n (intP p))) from ep_tupleL fun H3 e3 Q3 q3 => q3 v H3 (Ex.refl _) ((lstR _).up e3 (lstN_R pv))) H2 (Ex.refl _) Q fun u H3 e3 pu => q u H3 (x2.trans (.of x2.deal e3)) (by
    obtain ⟨a, xs, rfl, ha, pa⟩ := pu
    have : ∀ {xs : List V} {m : Nat}, AllP xs (List.replicate m (intP p)) H3 → ∃ hs : List Int, xs = hs.map V.int ∧ hs.length = m ∧ ∀ x ∈ hs, p x := by
      intro xs
      induction xs with
      | nil =>
        intro m pa
        match m, pa with
        | 0, _ => exact ⟨[], rfl, rfl, fun x hx => by cases hx⟩
      | cons y ys ih =>
        intro m pa
        match m, pa with
        | m + 1, pa =>
          obtain ⟨⟨r, rfl, hr⟩, pb⟩ := pa
          obtain ⟨hs, rfl, hl, hp⟩ := ih pb
          refine ⟨r :: hs, rfl, by simp [hl], fun x hx => ?_⟩
          rcases List.mem_cons.mp hx with rfl | hx
          · exact hr
          · exact hp x hx
    obtain ⟨hs, rfl, hl, hp⟩ := this pa
    exact ⟨hs, ⟨a, rfl, ha⟩, hl, hp⟩)
theorem d_par {i j : Nat} {ta : TA} (hd : Deal d c H) (h : EvDA d c ta σ H [Ra, Rb]) (k : ∀ v w H1, DX d c H H1 → Ra.p v H1 → Rb.p w H1 → tz D ((σ.set i (some v)).set j (some w)) H1) : tSeq (tPar i j ta) tz D σ H :=
  h H (.refl hd) _ fun vs H1 x p => by
    match vs, p with
    | [v, w], p => exact ⟨v, w, rfl, k v w H1 x p.1 p.2.1⟩
/-- a row of small hours -/
def smR (k : Nat) : Rp := ⟨fun v H => ∃ ns, (tupI ns).p v H ∧ ns.length = k ∧ Small ns, fun e ⟨ns, h1, h2⟩ => ⟨ns, (tupI ns).up e h1, h2⟩⟩
instance (k : Nat) : Stab (smR k) := ⟨fun t ⟨ns, h1, h2⟩ => ⟨ns, (inferInstance : Stab (tupI ns)).st t h1, h2⟩⟩
end
def spNaming : Sp := fun vs H Q _ => ∃ (d c : Addr) (k : Nat), vs = [.ref d, .int k] ∧ Deal d c H ∧ 1 ≤ k ∧ k ≤ 4 ∧ ∀ v H' ns, DX d c H H' → (nmR ns).p v H' → Named k ns → Q v H'
section
variable {P : Program} {w : World} {K : PySem.W.Frag} {mg : Str → Option Value} {base : Heap}
theorem ok_law_naming (D : Dn K mg "_law_naming" s__law_naming p__law_naming) (T : Txt mg) (c__law_any : Cl P w K mg base 1 "_law_any" spAny) (c__law_of : Cl P w K mg base 2 "_law_of" spOf) : Cl P w K mg base 3 "_law_naming" spNaming := by
  refine D.cal sc__law_naming (fun vs H Q E h => ?_) (fun f cdv A outer s H vs Q E hr h => ?_)
  · obtain ⟨_, _, _, rfl, _⟩ := h
    rfl
  · obtain ⟨d, c, n, rfl, hD, n1, n4, k⟩ := h
    refine ⟨_, (pss_cons (ps_set (i := 2) sc__law_naming.nd rfl (Or.inl rfl) (pe_c c__law_any hr (by decide) rfl (pa_cons (pv 0) (pa_cons pe_int pa_nil))))
      (pss_cons (ps_set (i := 3) sc__law_naming.nd rfl (Or.inl rfl) (pe_lst (pa_cons (pe_lst pa_nil) (pa_cons (pe_lst (pa_cons pe_int pa_nil)) (pa_cons (pe_lst (pa_cons pe_int pa_nil)) (pa_cons (pe_lst (pa_cons pe_int pa_nil)) (pa_cons (pe_lst (pa_cons pe_int pa_nil)) (pa_cons (pe_lst (pa_cons pe_int pa_nil)) (pa_cons (pe_lst (pa_cons pe_int (pa_cons pe_int pa_nil))) (pa_cons (pe_lst (pa_cons pe_int (pa_cons pe_int pa_nil))) (pa_cons (pe_lst (pa_cons pe_int (pa_cons pe_int pa_nil))) pa_nil)))))))))))
      (pss_cons (ps_if (pt_cmpR op_lt (pv 1) pe_int (nomark _)) (pss_one (ps_set (i := 3) sc__law_naming.nd rfl (Or.inl rfl) (pe_op op_cat (pv 3) (pe_lst (pa_cons (pe_lst (pa_cons pe_int pa_nil)) (pa_cons (pe_lst (pa_cons pe_int pa_nil)) (pa_cons (pe_lst (pa_cons pe_int pa_nil)) (pa_cons (pe_lst (pa_cons pe_int pa_nil)) (pa_cons (pe_lst (pa_cons pe_int pa_nil)) (pa_cons (pe_lst (pa_cons pe_int pa_nil)) (pa_cons (pe_lst (pa_cons pe_int (pa_cons pe_int pa_nil))) (pa_cons (pe_lst (pa_cons pe_int (pa_cons pe_int pa_nil))) (pa_cons (pe_lst (pa_cons pe_int (pa_cons pe_int pa_nil))) (pa_cons (pe_lst (pa_cons pe_int (pa_cons pe_int pa_nil))) (pa_cons (pe_lst (pa_cons pe_int (pa_cons pe_int (pa_cons pe_int pa_nil)))) (pa_cons (pe_lst (pa_cons pe_int (pa_cons pe_int (pa_cons pe_int pa_nil)))) pa_nil)))))))))))))))) pss_nil)
      (pss_cons (ps_set (i := 4) sc__law_naming.nd rfl (Or.inl rfl) (pe_c c__law_of hr (by decide) rfl (pa_cons (pv 0) (pa_cons (pv 3) pa_nil))))
      (pss_cons (ps_if (pt_cmpR op_eq (pv 2) pe_int (nomark _)) (pss_one (ps_set (i := 4) sc__law_naming.nd rfl (Or.inl rfl) (pe_lst (pa_cons pe_int pa_nil)))) pss_nil)
      (pss_cons (ps_if (pt_cmpR op_eq (pv 2) pe_int (nomark _)) (pss_cons (ps_set (i := 5) sc__law_naming.nd rfl (Or.inl rfl) (pe_op op_add pe_int (pe_c c__law_any hr (by decide) rfl (pa_cons (pv 0) (pa_cons (pe_ix (kIxL (K := K) rfl) (pe_lst (pa_cons pe_int (pa_cons pe_int (pa_cons pe_int (pa_cons pe_int pa_nil))))) (pe_op op_sub (pv 1) pe_int) (fun _ _ => rfl)) pa_nil)))))
      (pss_one (ps_set (i := 4) sc__law_naming.nd rfl (Or.inl rfl) (pe_ifExp (pt_cmpR op_gt (pv 1) pe_int (nomark _)) (pe_lst (pa_cons pe_int pa_nil)) (pe_c c__law_of hr (by decide) rfl (pa_cons (pv 0) (pa_cons (pe_lst (pa_cons (pe_lst (pa_cons pe_int (pa_cons (pv 5) pa_nil))) (pa_cons (pe_lst (pa_cons (pv 5) (pa_cons pe_int pa_nil))) pa_nil))) pa_nil))))))) pss_nil)
      (pss_cons (ps_if (pt_cmpR op_eq (pv 2) pe_int (nomark _)) (pss_one (ps_set (i := 4) sc__law_naming.nd rfl (Or.inl rfl) (pe_ifExp (pt_cmpR op_gt (pv 1) pe_int (nomark _)) (pe_lst (pa_cons pe_int pa_nil)) (pe_lst (pa_cons pe_int (pa_cons pe_int pa_nil)))))) pss_nil)
      (pss_cons (ps_if (PW.pt (pw_and (pt_cmpR op_eq (pv 2) pe_int (nomark _)) (pw_and (pt_cmpR op_eq (pv 1) pe_int (nomark _)) (pw_and1 (pt_cmpR op_gt (pe_c c__law_any hr (by decide) rfl (pa_cons (pv 0) (pa_cons pe_int pa_nil))) pe_int (nomark _)))))) (pss_cons (ps_par (i := 6) (j := 7) (by rfl) sc__law_naming.nd rfl rfl (by decide) rfl rfl (pa_cons (pe_tup (pa_cons (pe_op op_add pe_int (pe_c c__law_any hr (by decide) rfl (pa_cons (pv 0) (pa_cons pe_int pa_nil)))) (pa_cons (pe_op op_sub (pe_un un_neg pe_int) (pe_c c__law_any hr (by decide) rfl (pa_cons (pv 0) (pa_cons pe_int pa_nil)))) (pa_cons pe_int pa_nil)))) (pa_cons (pe_tup (pa_cons pe_int (pa_cons (pe_op op_add pe_int (pe_c c__law_any hr (by decide) rfl (pa_cons (pv 0) (pa_cons pe_int pa_nil)))) (pa_cons (pe_op op_sub (pe_un un_neg pe_int) (pe_c c__law_any hr (by decide) rfl (pa_cons (pv 0) (pa_cons pe_int pa_nil)))) pa_nil)))) pa_nil)) (by rfl))
      (pss_cons (ps_set (i := 8) sc__law_naming.nd rfl (Or.inl rfl) (pe_c c__law_any hr (by decide) rfl (pa_cons (pv 0) (pa_cons pe_int pa_nil))))
      (pss_one (ps_ret (pe_tup (pa_cons (pe_tup (pa_cons pe_int (pa_cons (pe_op (kCatA (K := K) rfl) (pe_slice (kSlA (K := K) rfl) (pv 6) (po_some (pv 8)) po_none) (pe_slice (kSlA (K := K) rfl) (pv 6) po_none (po_some (pv 8)))) pa_nil))) (pa_cons (pe_tup (pa_cons pe_int (pa_cons (pe_op (kCatA (K := K) rfl) (pe_slice (kSlA (K := K) rfl) (pv 7) (po_some (pv 8)) po_none) (pe_slice (kSlA (K := K) rfl) (pv 7) po_none (po_some (pv 8)))) pa_nil))) pa_nil))))))) pss_nil)
      (pss_cons (ps_set (i := 9) sc__law_naming.nd rfl (Or.inl rfl) (pe_lst pa_nil))
      (pss_cons (ps_for PassesOwn.never rfl (pi_list (pv 4)) (pg_name (i := 10) sc__law_naming.nd rfl (Or.inr rfl)) (pss_one (ps_expr (pe_bm PySem.F.plainAttrs_list PySem.F.slot_list_append PySem.F.type_list_append mt_append (pv 9) (pa_cons (pe_tup (pa_cons (pv 10) (pa_cons (pe_callTy (kTupOf (K := K) rfl) (by rfl) T.tuple (by decide +kernel) (pa_cons (pe_lc (own := [("_law_kind", 11)]) (g := (gName 11)) (tt := tYes) rfl sc__law_naming.nd (pi_range1 (by rfl) T.range (pa_cons (pv 1) pa_nil)) (blkOk_by (N := n__law_naming) (sc := defScope s__law_naming) (by decide +kernel)) (fun _ _ _ _ _ => (pg_name (i := 11) sc__law_naming.nd rfl (Or.inl rfl))) (fun _ _ _ _ _ => pts_nil) (fun _ _ _ _ _ => (pe_ifExp (pt_cmpR op_gt (pv 10) pe_int (nomark _)) (pe_op op_sub (pe_c c__law_any hr (by decide) rfl (pa_cons (pv 0) (pa_cons (pe_op op_mul pe_int (pv 10)) pa_nil))) (pv 10)) (pe_op op_sub (pe_c c__law_any hr (by decide) rfl (pa_cons (pv 0) (pa_cons pe_int pa_nil))) pe_int)))) pa_nil)) pa_nil))) pa_nil)))))
      (pss_one (ps_ret (pe_callTy (kTupOf (K := K) rfl) (by rfl) T.tuple (by decide +kernel) (pa_cons (pv 9) pa_nil)))))))))))))), ?_⟩
    refine d_set hD (ed_any rfl ed_c (by omega) (by omega)) fun v1 H1 x1 p1 => ?_
    obtain ⟨form, rfl, f0, f6⟩ := p1
    have dl := x1.deal
    refine p_set (R := lstN H1 ([[], [2], [3], [4], [5], [6], [2, 2], [2, 3], [3, 2]].map (clR H1))) (ep_lstW (NW.ex (Ex.refl _)) (ea_intss (NW.ex (Ex.refl _)) [[], [2], [3], [4], [5], [6], [2, 2], [2, 3], [3, 2]] (by simp)) (by simp)) fun vc H2 e2 p2 => ?_
    refine p_optSet (R := lstN H1 ((clockLists n).map (clR H1))) (b := decide (n < 3)) (Evl.et_is (et_I0 (p := fun i j => decide (i < j)) (ep_v rfl) ep_c) (decide_eq_decide.mpr (by omega))) (fun hb H3 e3 => ?_) (fun hb => ⟨vc, rfl, ?_⟩) fun vcl H3 e3 p3 => ?_
    · have hb' := of_decide_eq_true hb
      unfold clockLists
      rw [if_pos hb', List.map_append]
      exact ep_catN (NW.ex (e2.trans e3)) (ep_var (R := lstR _) rfl ((lstR _).up e3 (lstN_R p2))) (ep_lst (ea_intss (NW.ex (e2.trans e3)) [[7], [8], [9], [10], [11], [12], [2, 4], [3, 3], [6, 2], [4, 3], [2, 2, 2], [2, 2, 3]] (by simp)) (by simp)) (by simp)
    · unfold clockLists
      rw [if_neg (of_decide_eq_false hb), List.append_nil]
      exact p2
    have x3 : DX d c H1 H3 := .of dl (e2.trans e3)
    have d3 := x3.deal
    have dcl : ∀ R ∈ (clockLists n).map (clR H1), Dst d c R := fun R hR => by
      obtain ⟨ms, _, rfl⟩ := List.mem_map.mp hR
      exact dst_clR dl ms
    refine d_set (R := modR H1 n) d3 ((ed_of (H0 := H1) rfl dl (ed_var d3 (dst_lstN dl dcl) rfl p3) ?_ ?_ dcl).weak fun v H4 x4 ⟨R, hR, pR⟩ => ?_) fun vm H4 x4 p4 => ?_
    · rw [List.length_map]
      unfold clockLists
      simp
    · rw [List.length_map]
      unfold clockLists
      split <;> simp
    · obtain ⟨ms, hms, rfl⟩ := List.mem_map.mp hR
      exact ⟨ms, .inl hms, pR⟩
    have x14 := x3.trans x4
    have gets : ∀ {te : TE} {σ : L2.St} {H' : Hp} {ms : List Int}, GoodM n ms → EvP te σ H' (clR H1 ms) → EvP te σ H' (modR H1 n) := fun {te σ H' ms} g h => h.weak fun v H6 e6 p6 => ⟨ms, g, p6⟩
    -- form 3
    refine p_optSet (R := modR H1 n) (b := decide (form = 3)) (et_eqI (ep_v rfl) ep_c) (fun hb H5 e5 => gets (.inr (.inl rfl)) (ep_ints (NW.dx dl (x14.trans (.of x14.deal e5))) [0] (by simp))) (fun hb => ⟨vm, rfl, p4⟩) fun vm5 H5 e5 p5 => ?_
    have x15 := x14.trans (.of x14.deal e5)
    -- form 4
    refine p_join (M := fun σ' H' => ∃ vm a5, σ' = [some (.ref d), some (.int n), some (.int form), some vcl, some vm, a5, none, none, none, none, none, none] ∧ DX d c H1 H' ∧ (modR H1 n).p vm H') (b := decide (form = 4)) (et_eqI (ep_v rfl) ep_c) ?_ (fun hb kk H6 e6 => ?_) fun hb H6 e6 => ⟨_, _, rfl, x15.trans (.of x15.deal e6), (modR H1 n).up e6 p5⟩
    rotate_left
    · have x16 := x15.trans (.of x15.deal e6)
      refine d_set (R := intP fun r => 2 ≤ r ∧ r ≤ 4 ∧ (n = 3 → r = 2)) x16.deal (ed_I0 (p := fun r => r = 2) (q := fun r => 0 ≤ r ∧ r < (if n ≤ 2 then 3 else 1)) (g := fun i j => i + j) ed_ci (ed_any (b := if n ≤ 2 then 3 else 1) rfl (ed_p fun H7 x7 => ep_ixL (Rs := [3, 3, 1, 1].map fun m => Rp.v (.int m)) (i := n - 1) (ep_lst (ea_ints [3, 3, 1, 1]) (by simp)) (EvP.cast (ep_I0 (f := fun i j => .int (i - j)) (ep_v rfl) ep_c) ?_) ?_) ?_ ?_) fun i j hi hj => ?_) fun v7 H7 x7 p7 => ?_
      · show Rp.v (.int ((n : Int) - 1)) = Rp.v (.int ((n - 1 : Nat) : Int))
        congr 2; omega
      · have : n = 1 ∨ n = 2 ∨ n = 3 ∨ n = 4 := by omega
        rcases this with rfl | rfl | rfl | rfl <;> rfl
      · split <;> omega
      · split <;> omega
      · split at hj <;> omega
      · obtain ⟨m, rfl, m2, m4, m3⟩ := p7
        have x17 := x16.trans x7
        refine dl_set (R := modR H1 n) x17.deal (ed_if (b := decide (3 < n)) (fun H8 x8 => Evl.et_is (et_I0 (p := fun i j => decide (i > j)) (ep_v rfl) ep_c) (decide_eq_decide.mpr (by omega))) (fun hb => ed_p fun H8 x8 => gets (.inr (.inl rfl)) (ep_ints (NW.dx dl (x17.trans x8)) [0] (by simp))) fun hb => ?_) fun v8 H8 x8 p8 => kk _ _ ⟨_, _, rfl, x17.trans x8, p8⟩
        have hn3 := of_decide_eq_false hb
        have dd : ∀ R ∈ [clR H1 [0, m], clR H1 [m, 0]], Dst d c R := fun R hR => by
          simp only [List.mem_cons, List.not_mem_nil, or_false] at hR
          rcases hR with rfl | rfl <;> exact dst_clR dl _
        refine (ed_of (H0 := H1) (Rs := [clR H1 [0, m], clR H1 [m, 0]]) rfl dl (ed_p fun H8 x8 => ?_) (by simp) (by simp) dd).weak fun v H9 x9 ⟨R, hR, pR⟩ => ?_
        · have nw := NW.dx dl (x17.trans x8)
          exact ep_lstW nw (ea_cons (ep_lstW nw (ea_cons ep_c (ea_cons (ep_v rfl) ea_nil)) (by simp)) (ea_cons (ep_lstW nw (ea_cons (ep_v rfl) (ea_cons ep_c ea_nil)) (by simp)) ea_nil)) (by simp)
        · simp only [List.mem_cons, List.not_mem_nil, or_false] at hR
          rcases hR with rfl | rfl
          · exact ⟨[0, m], .inr (.inr (.inl ⟨by omega, m, m2, m4, m3, .inl rfl⟩)), pR⟩
          · exact ⟨[m, 0], .inr (.inr (.inl ⟨by omega, m, m2, m4, m3, .inr rfl⟩)), pR⟩
    rintro σ6 H6 ⟨vm6, a5, rfl, x16, p6⟩
    -- form 5
    refine p_optSet (R := modR H1 n) (b := decide (form = 5)) (et_eqI (ep_v rfl) ep_c) (fun hb H7 e7 => ep_if (b := decide (3 < n)) (Evl.et_is (et_I0 (p := fun i j => decide (i > j)) (ep_v rfl) ep_c) (decide_eq_decide.mpr (by omega))) (fun hc => gets (.inr (.inl rfl)) (ep_ints (NW.dx dl (x16.trans (.of x16.deal e7))) [0] (by simp))) fun hc => gets (.inr (.inr (.inr ⟨by have := of_decide_eq_false hc; omega, rfl⟩))) (ep_ints (NW.dx dl (x16.trans (.of x16.deal e7))) [0, 0] (by simp))) (fun hb => ⟨vm6, rfl, p6⟩) fun vm7 H7 e7 p7 => ?_
    have x17 := x16.trans (.of x16.deal e7)
    refine d_join (M := fun σ' H' => σ' = [some (.ref d), some (.int n), some (.int form), some vcl, some vm7, a5, none, none, none, none, none, none] ∧ DX d c H1 H' ∧ (modR H1 n).p vm7 H') (p := n = 3) x17.deal ?_ ?_ (fun n3 H8 x8 => ?_) fun H8 x8 => ⟨rfl, x17.trans x8, dst_modR dl n x17.deal x8 p7⟩
    · by_cases h5 : form = 5
      · by_cases h3 : n = 3
        · refine etd_and (fun H8 x8 => Evl.et_is (et_eqI (ep_v rfl) ep_c) (decide_eq_true h5)) (etd_and (fun H8 x8 => Evl.et_is (et_eqI (ep_v rfl) ep_c) (decide_eq_true (by omega))) (etd_gt h3 (ed_any rfl ed_c (by omega) (by omega))))
        · exact etd_no fun H8 x8 => Evl.et_and (a := true) (b := false) (Evl.et_is (et_eqI (ep_v rfl) ep_c) (decide_eq_true h5)) fun _ => Evl.et_and (a := false) (b := false) (Evl.et_is (et_eqI (ep_v rfl) ep_c) (decide_eq_false (by omega))) (fun z => by cases z)
      · exact etd_no fun H8 x8 => Evl.et_and (a := false) (b := false) (Evl.et_is (et_eqI (ep_v rfl) ep_c) (decide_eq_false h5)) (fun z => by cases z)
    · -- the rest
      rintro σ8 H8 ⟨rfl, x18, ms, gm, am, xm, rfl, hn0, ham, pam⟩
      refine ⟨Nat.zero_le _, fun l hl => ?_⟩
      have d8 := x18.deal
      have exl : Ex H8 (upd H8 l (.lst [])) := Ex.new hl
      have Hl : (upd H8 l (.lst [])) l = some (.lst []) := upd_same
      obtain ⟨b8, z8, g1, g2, _⟩ := d8
      have ld : l ≠ d := fun e => by rw [e, g1] at hl; cases hl
      have lc : l ≠ c := fun e => by rw [e, g2] at hl; cases hl
      have d8 := x18.deal
      obtain ⟨b1, z1, g11, g12, _⟩ := dl
      have dl := x1.deal
      have amd : am ≠ d := fun e => by rw [e, g11] at hn0; cases hn0
      have amc : am ≠ c := fun e => by rw [e, g12] at hn0; cases hn0
      have dlu : ∀ {H' : Hp} {o : HO}, Deal d c H' → Deal d c (upd H' l o) := fun {H' o} ⟨b, z, h1, h2, h3⟩ => ⟨b, z, by rw [upd_ne (Ne.symm ld)]; exact h1, by rw [upd_ne (Ne.symm lc)]; exact h2, h3⟩
      have mtd : ∀ {H' : Hp} {o : HO}, DX d c H8 H' → DX d c H8 (upd H' l o) := fun {H' o} x => ⟨fun a u h1 h2 h => by rw [upd_ne (ne_of_none h hl)]; exact x.keep a u h1 h2 h, dlu x.deal⟩
      have haml := exl _ _ ham
      have paml := pam.up exl
      have x9 : DX d c H8 (upd H8 l (.lst [])) := .of d8 exl
      generalize upd H8 l (.lst []) = H9 at exl Hl haml paml x9 ⊢
      refine p_for (l_forA (Rs := ms.map fun m => Rp.v (.int m)) (Evl.ev_var rfl) haml paml fun HA eA => ⟨{
        Pv := fun i σ' H' => ∃ (a10 a11 : Option V) (fs : List V) (ps : List Pr), σ' = [some (.ref d), some (.int n), some (.int form), some vcl, some (.ref am), a5, none, none, none, some (.ref l), a10, a11] ∧ DX d c H8 H' ∧ H' l = some (.lst fs) ∧ AllP fs (ps.map pairR) H' ∧ ps.map (·.1) = ms.take i ∧ (∀ p ∈ ps, p.2.length = n) ∧ (∀ p ∈ ps, p.1 = 0 → Small p.2)
        h0 := ⟨_, _, [], [], rfl, x9.trans (.of x9.deal eA), eA _ _ Hl, trivial, rfl, fun p hp => (by cases hp), fun p hp => (by cases hp)⟩
        hk := fun i σ' H' _ ⟨_, _, _, _, _, x, _⟩ => x.keep am _ amd amc ham
        hs := ?_
        hd := ?_ }⟩)
      · rintro i u σ' HB HC hi ⟨a10, a11, fs, ps, rfl, xB, hlB, pfB, psm, psl, pss⟩ eC ⟨R, hR, pR⟩
        obtain ⟨m, hm, rfl⟩ := getR hR
        cases (show u = V.int m from pR)
        obtain ⟨m0, m12⟩ := gm.small m (List.mem_of_getElem? hm)
        have xC := xB.trans (.of xB.deal eC)
        have hlC := eC _ _ hlB
        have pfC := pfB.up eC
        refine ⟨.ref l, rfl, .inl ⟨rfl, _, SqL.of hlC⟩, ?_⟩
        have ev : EvD d c (tCB (rTupOf K) (tCons (tLc (iRng1 (tCons (tVar 1) tNil)) (gName 11) tYes
                          (tIf (tTest (tOp (rI0 fun i j => V.bl (decide (j < i))) (tVar 10) (tC (V.int 0))))
                            (tOp (rI0 fun i j => V.int (i - j)) (tCall spAny [] C8.E0 (tCons (tVar 0) (tCons (tOp (rI CMul fun i j => V.int (i * j)) (tC (V.int 3)) (tVar 10)) tNil))) (tVar 10))
                            (tOp (rI0 fun i j => V.int (i - j)) (tCall spAny [] C8.E0 (tCons (tVar 0) (tCons (tC (V.int 5)) tNil))) (tC (V.int 2)))) [11]) tNil)) [some (.ref d), some (.int n), some (.int form), some vcl, some (.ref am), a5, none, none, none, some (.ref l), some (.int m), a11] HC _ :=
          ed_tupleL (n := n) (p := fun r => m = 0 → -2 ≤ r ∧ r ≤ 2) (ed_lcR (R := intP fun r => m = 0 → -2 ≤ r ∧ r ≤ 2) xC.deal (by omega) (fun HD xD => ea_cons (ep_v rfl) ea_nil) (fun _ => rfl) fun x => ed_if (b := decide (0 < m)) (fun HD xD => et_I0 (p := fun i j => decide (j < i)) (ep_v rfl) ep_c)
            (fun hb => ed_I0 (p := fun r => 0 ≤ r ∧ r < 3 * m) (q := fun r => r = m) (g := fun i j => i - j) (ed_any (b := 3 * m) rfl (ed_p fun HD xD => ep_I (f := fun i j => .int (i * j)) ep_c (ep_v rfl) (.inl ⟨by decide, by decide⟩)) (by have := of_decide_eq_true hb; omega) (by omega)) (ed_p fun HD xD => (ep_v rfl).weak fun v _ _ p => ⟨m, p, rfl⟩) fun i j hi hj h0 => (by have := of_decide_eq_true hb; omega))
            (fun hb => ed_I0 (p := fun r => 0 ≤ r ∧ r < 5) (q := fun r => r = 2) (g := fun i j => i - j) (ed_any (b := 5) rfl ed_c (by omega) (by omega)) ed_ci fun i j hi hj h0 => (by omega)))
        refine ed_tup (eda_cons (ed_v (v := .int m) rfl) (dst_stab _) (eda_cons ev (fun hd x ⟨hs, h1, h2⟩ => ⟨hs, dst_stab (tupI hs) hd x h1, h2⟩) eda_nil)) (by simp) HC (.refl xC.deal) _ fun v HD xD pv => ?_
        obtain ⟨ap, xp, rfl, hap, pap⟩ := pv
        match xp, pap with
        | [q1, q2], pap =>
          cases (show q1 = V.int m from pap.1)
          obtain ⟨hs, ph, hhl, hhp⟩ := pap.2.1
          have hlD := xD.keep l _ ld lc hlC
          have tD : Tk HC (upd HD l (.lst (fs ++ [.ref ap]))) := (xD.tk xC.deal).trans (Tk.lst hlD)
          refine ⟨l, fs, .ref ap, rfl, rfl, hlD, ?_, ?_⟩
          · have h1 := congrArg List.length psm
            rw [pfC.length, List.length_map, sizeLine_eq]
            rw [List.length_map, List.length_take] at h1
            have := gm.short
            omega
          · refine ⟨_, _, fs ++ [.ref ap], ps ++ [(m, hs)], rfl, mtd (xC.trans xD), upd_same, ?_, ?_, fun p hp => ?_, fun p hp h0 => ?_⟩
            · rw [List.map_append]
              refine (pfC.stab (fun S hS => ?_) tD).append ⟨⟨ap, _, rfl, (Tk.lst hlD) _ _ hap, rfl, (inferInstance : Stab (tupI hs)).st (Tk.lst hlD) ph, trivial⟩, trivial⟩
              obtain ⟨p, _, rfl⟩ := List.mem_map.mp hS
              exact stab_tupR fun R hR => by
                simp only [List.mem_cons, List.not_mem_nil, or_false] at hR
                rcases hR with rfl | rfl <;> exact inferInstance
            · rw [List.map_append, psm, List.take_add_one, hm]; rfl
            · rcases List.mem_append.mp hp with hp | hp
              · exact psl p hp
              · rw [List.mem_singleton.mp hp]; exact hhl
            · rcases List.mem_append.mp hp with hp | hp
              · exact pss p hp h0
              · rw [List.mem_singleton.mp hp] at h0 ⊢
                exact fun x hx => hhp x hx h0
      · rintro σ' HB ⟨a10, a11, fs, ps, rfl, xB, hlB, pfB, psm, psl, pss⟩
        rw [List.length_map, List.take_length] at psm
        refine p_ret (D := dE Q) (ep_tupleL (Rs := ps.map pairR) (ep_var rfl ⟨l, fs, rfl, hlB, pfB⟩)) fun v HC eC pv => k v HC ps (((x1.trans x18).trans xB).trans (.of xB.deal eC)) pv (GoodM.named (by rw [psm]; exact gm) psl pss)
    · -- the special case
      subst n3
      have x18 := x17.trans x8
      have d8 := x18.deal
      have two : ∀ {q : Int → Int} {te : TE}, EvD d c te [some (.ref d), some (.int (3 : Nat)), some (.int form), some vcl, some vm7, a5, none, none, none, none, none, none] H8 (intP fun r => -2 ≤ r ∧ r ≤ 2) → True := fun _ => trivial
      have sm : ∀ {te : TE} {σ : L2.St} {H' : Hp}, EvD d c te σ H' (tupR [intP fun r => -2 ≤ r ∧ r ≤ 2, intP fun r => -2 ≤ r ∧ r ≤ 2, intP fun r => -2 ≤ r ∧ r ≤ 2]) → EvD d c te σ H' (smR 3) := fun {te σ H'} h => h.weak fun v H9 x9 pv => by
        obtain ⟨a, xs, rfl, ha, pa⟩ := pv
        match xs, pa with
        | [y1, y2, y3], pa =>
          obtain ⟨⟨r1, rfl, h1⟩, ⟨r2, rfl, h2⟩, ⟨r3, rfl, h3⟩, _⟩ := pa
          refine ⟨[r1, r2, r3], ⟨a, rfl, ha⟩, rfl, fun x hx => ?_⟩
          simp only [List.mem_cons, List.not_mem_nil, or_false] at hx
          rcases hx with rfl | rfl | rfl <;> assumption
      have up : ∀ {σ : L2.St} {H' : Hp}, σ[0]? = some (some (.ref d)) → EvD d c (tOp (rI0 fun i j => V.int (i + j)) (tC (.int 1)) (tCall spAny [] C8.E0 (tCons (tVar 0) (tCons (tC (.int 2)) tNil)))) σ H' (intP fun r => -2 ≤ r ∧ r ≤ 2) := fun {σ H'} h =>
        ed_I0 (p := fun r => r = 1) (q := fun r => 0 ≤ r ∧ r < 2) (g := fun i j => i + j) ed_ci (ed_any h ed_c (by omega) (by omega)) fun i j hi hj => by omega
      have dn : ∀ {σ : L2.St} {H' : Hp}, σ[0]? = some (some (.ref d)) → EvD d c (tOp (rI0 fun i j => V.int (i - j)) (tUn (rU fun i => .int (-i)) (tC (.int 1))) (tCall spAny [] C8.E0 (tCons (tVar 0) (tCons (tC (.int 2)) tNil)))) σ H' (intP fun r => -2 ≤ r ∧ r ≤ 2) := fun {σ H'} h =>
        ed_I0 (p := fun r => r = -1) (q := fun r => 0 ≤ r ∧ r < 2) (g := fun i j => i - j) ed_neg1 (ed_any h ed_c (by omega) (by omega)) fun i j hi hj => by omega
      have ze : ∀ {σ : L2.St} {H' : Hp}, EvD d c (tC (.int 0)) σ H' (intP fun r => -2 ≤ r ∧ r ≤ 2) := fun {σ H'} => ed_ci.weak fun v _ _ ⟨r, h1, h2⟩ => ⟨r, h1, by omega⟩
      refine d_par (Ra := smR 3) (Rb := smR 3) d8 (eda_cons (sm (ed_tup (eda_cons (up rfl) (dst_stab _) (eda_cons (dn rfl) (dst_stab _) (eda_cons ze (dst_stab _) eda_nil))) (by simp))) (dst_stab _) (eda_cons (sm (ed_tup (eda_cons ze (dst_stab _) (eda_cons (up rfl) (dst_stab _) (eda_cons (dn rfl) (dst_stab _) eda_nil))) (by simp))) (dst_stab _) eda_nil)) fun va vb H9 x9 pa pb => ?_
      refine d_set x9.deal (ed_any rfl ed_c (by omega) (by omega)) fun vt HA xA pt => ?_
      obtain ⟨t, rfl, t0, t3⟩ := pt
      obtain ⟨g, pg, gl, gs⟩ := dst_stab (smR 3) x9.deal xA pa
      obtain ⟨h, ph, hl, hs⟩ := dst_stab (smR 3) x9.deal xA pb
      have et : V.int t = V.int ((t.toNat : Nat) : Int) := by rw [Int.toNat_of_nonneg t0]
      rw [et]
      generalize t.toNat = t'
      have rot : ∀ {i : Nat} {v : V} {g : List Int} {σ : L2.St}, σ[i]? = some (some v) → σ[8]? = some (some (.int (t' : Nat))) → (tupI g).p v HA → g.length = 3 → EvP (tOp (rCatA K) (tSl (rSlA K) (tVar i) (tPart (tVar 8)) tNoPart) (tSl (rSlA K) (tVar i) tNoPart (tPart (tVar 8)))) σ HA (tupI (g.drop t' ++ g.take t')) := fun {i v g σ} h1 h2 h3 h4 =>
        tupI_R (EvP.cast (ep_catA (ep_fromT (i := t') (tupR_I (ep_var h1 h3)) (ep_v h2)) (ep_toT (i := t') (tupR_I (ep_var h1 h3)) (ep_v h2)) (by simp; omega)) (by simp [List.map_take, List.map_drop]))
      have rl : ∀ {g : List Int}, g.length = 3 → (g.drop t' ++ g.take t').length = 3 := fun {g} h => by simp; omega
      have rs : ∀ {g : List Int}, Small g → Small (g.drop t' ++ g.take t') := fun {g} h x hx => by
        rcases List.mem_append.mp hx with hx | hx
        · exact h x (List.mem_of_mem_drop hx)
        · exact h x (List.mem_of_mem_take hx)
      refine p_ret (ep_tup (Rs := [pairR (0, g.drop t' ++ g.take t'), pairR (0, h.drop t' ++ h.take t')]) (ea_cons (ep_tup (Rs := [Rp.v (.int 0), tupI (g.drop t' ++ g.take t')]) (ea_cons ep_c (ea_cons (rot rfl rfl pg gl) ea_nil)) (by simp)) (ea_cons (ep_tup (Rs := [Rp.v (.int 0), tupI (h.drop t' ++ h.take t')]) (ea_cons ep_c (ea_cons (rot rfl rfl ph hl) ea_nil)) (by simp)) ea_nil)) (by simp)) fun v HB eB pv => ?_
      exact k v HB [(0, g.drop t' ++ g.take t'), (0, h.drop t' ++ h.take t')] ((((x1.trans x18).trans x9).trans xA).trans (.of xA.deal eB)) pv (.two (by omega) (rl gl) (rl hl) (rs gs) (rs hs))
end
end NL
end
section
set_option linter.all false
set_option Elab.async false
set_option maxRecDepth 100000
namespace NL
open PySem PySem.Spec PyProof.Rows L2
open Evl (Ex Ev EvT)
open C8 (pe_c pe_mk pe_mt pe_gc)
abbrev s__law_spoilt : Stmt := top 46
abbrev n__law_spoilt : List Str := ["_law_deal", "_law_kinds", "_law_value", "_law_hours", "_law_at", "_law_bad", "_law_place", "_law_more_here", "_law_kind"]
abbrev p__law_spoilt : List Str := ["_law_deal", "_law_kinds", "_law_value"]
theorem sc__law_spoilt : FnScope n__law_spoilt p__law_spoilt (defScope s__law_spoilt) := ⟨rfl, rfl, rfl, by decide +kernel, rfl, by decide +kernel, by decide +kernel⟩
/-- a value told as one of the values that told_book may get -/
def AO (R : Rp) (a : Any) : Prop := ∀ v H, R.p v H → (anyR a).p v H
def AOs : List Rp → List Any → Prop
  | [], [] => True
  | R :: Rs, a :: as => AO R a ∧ AOs Rs as
  | _, _ => False
theorem AOs.all : ∀ {Rs : List Rp} {as : List Any} {vs : List V} {H : Hp}, AOs Rs as → AllP vs Rs H → AllP vs (as.map anyR) H
  | [], [], [], _, _, _ => trivial
  | R :: Rs, a :: as, v :: vs, _, h, p => ⟨h.1 _ _ p.1, AOs.all h.2 p.2⟩
  | [], _ :: _, _, _, h, _ => h.elim
  | _ :: _, [], _, _, h, _ => h.elim
  | [], [], _ :: _, _, _, p => p.elim
  | _ :: _, _ :: _, [], _, _, p => p.elim
theorem AOs.append : ∀ {Rs Ss : List Rp} {as bs : List Any}, AOs Rs as → AOs Ss bs → AOs (Rs ++ Ss) (as ++ bs)
  | [], _, [], _, _, h => h
  | R :: Rs, _, a :: as, _, h, g => ⟨h.1, AOs.append h.2 g⟩
  | [], _, _ :: _, _, h, _ => h.elim
  | _ :: _, _, [], _, h, _ => h.elim
theorem ac {R : Rp} {a : Any} {Rs : List Rp} {as : List Any} (h : AO R a) (g : AOs Rs as) : AOs (R :: Rs) (a :: as) := ⟨h, g⟩
theorem an : AOs [] [] := trivial
theorem ao_tup {Rs : List Rp} {as : List Any} (h : AOs Rs as) : AO (tupR Rs) (.tup as) := fun v H ⟨a, xs, h1, h2, h3⟩ => by
  rw [anyR_tup]; exact ⟨a, xs, h1, h2, h.all h3⟩
theorem ao_lst {H0 : Hp} {Rs : List Rp} {as : List Any} (h : AOs Rs as) : AO (lstN H0 Rs) (.lst as) := fun v H ⟨a, xs, h1, _, h2, h3⟩ => by
  rw [anyR_lst]; exact ⟨a, xs, h1, h2, h.all h3⟩
theorem ao_int (n : Int) : AO (Rp.v (.int n)) (.int n) := fun v H h => by simpa [anyR] using h
theorem ao_bl (b : Bool) : AO (Rp.v (.bl b)) (.bl b) := fun v H h => by simpa [anyR] using h
theorem ao_str (z : Str) : AO (Rp.v (.str z)) (.str z) := fun v H h => by simpa [anyR] using h
theorem ao_non : AO (Rp.v .non) .non := fun v H h => by simpa [anyR] using h
theorem ao_I (hs : List Int) : AO (tupI hs) (.tup (hs.map .int)) := fun v H h => (anyR_ints hs).mpr h
theorem aos_ints : ∀ hs : List Int, AOs (hs.map fun n => Rp.v (.int n)) (hs.map .int)
  | [] => trivial
  | n :: hs => ⟨ao_int n, aos_ints hs⟩
theorem aos_prs : ∀ ns : List Pr, AOs (ns.map pairR) (ns.map prAny)
  | [] => trivial
  | p :: ns => ⟨fun v H h => pairR_any.mp h, aos_prs ns⟩
/-- no pair -/
def BadR (k : Nat) (R : Rp) : Prop := ∃ a, AO R a ∧ isPairA k a = false ∧ ∀ m l, a = .tup [m, .tup l] → l.length ≤ 1000
/-- the wrong entries -/
def badRs (H0 : Hp) (hs : List Int) (at' : Nat) : List Rp :=
  [tupR [Rp.v (.int 1), tupI hs], tupR [Rp.v (.int (-2)), tupI hs], tupR [Rp.v (.bl true), tupI hs], tupR [Rp.v (.bl false), tupI hs], tupR [Rp.v (.int 2), tupI (hs ++ [0])], tupR [Rp.v (.int 2), tupI (hs.drop 1)],
   tupR [Rp.v (.int 2), lstN H0 (hs.map fun n => Rp.v (.int n))], lstN H0 [Rp.v (.int 2), tupI hs], tupR [Rp.v (.int 2)], tupR [Rp.v (.int 2), tupI hs, tupI hs], Rp.v .non, Rp.v (.int 3), Rp.v (.str "ab"), tupR [Rp.v .non, tupI hs], tupR [Rp.v (.int 0), Rp.v .non],
   tupR [Rp.v (.int 2), tupR ((hs.take at').map (fun n => Rp.v (.int n)) ++ [Rp.v (.bl true)] ++ (hs.drop (at' + 1)).map fun n => Rp.v (.int n))],
   tupR [Rp.v (.int 0), tupR ((hs.take at').map (fun n => Rp.v (.int n)) ++ [Rp.v (.str "1")] ++ (hs.drop (at' + 1)).map fun n => Rp.v (.int n))], tupR []]
theorem dst_intsR {d c : Addr} {hs : List Int} : ∀ R ∈ hs.map (fun n => Rp.v (.int n)), Dst d c R := fun R hR => by
  obtain ⟨n, _, rfl⟩ := List.mem_map.mp hR
  exact dst_stab _
theorem badRs_dst {d c : Addr} {H0 : Hp} (h0 : Deal d c H0) (hs : List Int) (at' : Nat) : ∀ R ∈ badRs H0 hs at', Dst d c R := by
  have two : ∀ {Ra Rb : Rp}, Dst d c Ra → Dst d c Rb → Dst d c (tupR [Ra, Rb]) := fun {Ra Rb} ha hb => dst_tupR fun R hR => by
    simp only [List.mem_cons, List.not_mem_nil, or_false] at hR
    rcases hR with rfl | rfl <;> assumption
  have mid : ∀ {x : V}, Dst d c (tupR ((hs.take at').map (fun n => Rp.v (.int n)) ++ [Rp.v x] ++ (hs.drop (at' + 1)).map fun n => Rp.v (.int n))) := fun {x} => dst_tupR fun R hR => by
    rcases List.mem_append.mp hR with hR | hR
    · rcases List.mem_append.mp hR with hR | hR
      · exact dst_intsR R hR
      · rw [List.mem_singleton.mp hR]; exact dst_stab _
    · exact dst_intsR R hR
  intro R hR
  simp only [badRs, List.mem_cons, List.not_mem_nil, or_false] at hR
  rcases hR with rfl | rfl | rfl | rfl | rfl | rfl | rfl | rfl | rfl | rfl | rfl | rfl | rfl | rfl | rfl | rfl | rfl | rfl
  · exact two (dst_stab _) (dst_stab _)
  · exact two (dst_stab _) (dst_stab _)
  · exact two (dst_stab _) (dst_stab _)
  · exact two (dst_stab _) (dst_stab _)
  · exact two (dst_stab _) (dst_stab _)
  · exact two (dst_stab _) (dst_stab _)
  · exact two (dst_stab _) (dst_lstN h0 dst_intsR)
  · exact dst_lstN h0 fun R hR => by
      simp only [List.mem_cons, List.not_mem_nil, or_false] at hR
      rcases hR with rfl | rfl <;> exact dst_stab _
  · exact dst_tupR fun R hR => by rw [List.mem_singleton.mp hR]; exact dst_stab _
  · exact dst_tupR fun R hR => by
      simp only [List.mem_cons, List.not_mem_nil, or_false] at hR
      rcases hR with rfl | rfl | rfl <;> exact dst_stab _
  · exact dst_stab _
  · exact dst_stab _
  · exact dst_stab _
  · exact two (dst_stab _) (dst_stab _)
  · exact two (dst_stab _) (dst_stab _)
  · exact two (dst_stab _) mid
  · exact two (dst_stab _) mid
  · exact dst_tupR fun R hR => by cases hR
theorem badRs_bad {k : Nat} {H0 : Hp} {hs : List Int} (k4 : k ≤ 4) (k1 : 1 ≤ k) (hl : hs.length = k) {at' : Nat} (ha : at' < k) : ∀ R ∈ badRs H0 hs at', BadR k R := by
  have aos : ∀ {x : V} {a : Any}, AO (Rp.v x) a → AOs ((hs.take at').map (fun n => Rp.v (.int n)) ++ [Rp.v x] ++ (hs.drop (at' + 1)).map fun n => Rp.v (.int n)) ((hs.take at').map .int ++ [a] ++ (hs.drop (at' + 1)).map .int) := fun {x a} h =>
    ((aos_ints _).append (ac h an)).append (aos_ints _)
  intro R hR
  simp only [badRs, List.mem_cons, List.not_mem_nil, or_false] at hR
  rcases hR with rfl | rfl | rfl | rfl | rfl | rfl | rfl | rfl | rfl | rfl | rfl | rfl | rfl | rfl | rfl | rfl | rfl | rfl
  · exact ⟨_, ao_tup (ac (ao_int 1) (ac (ao_I hs) an)), by simp [isPairA], fun m l e => by simp at e; obtain ⟨_, rfl⟩ := e; simp; omega⟩
  · exact ⟨_, ao_tup (ac (ao_int (-2)) (ac (ao_I hs) an)), by simp [isPairA, isNumA], fun m l e => by simp at e; obtain ⟨_, rfl⟩ := e; simp; omega⟩
  · exact ⟨_, ao_tup (ac (ao_bl true) (ac (ao_I hs) an)), by simp [isPairA, isNumA], fun m l e => by simp at e; obtain ⟨_, rfl⟩ := e; simp; omega⟩
  · exact ⟨_, ao_tup (ac (ao_bl false) (ac (ao_I hs) an)), by simp [isPairA, isNumA], fun m l e => by simp at e; obtain ⟨_, rfl⟩ := e; simp; omega⟩
  · exact ⟨_, ao_tup (ac (ao_int 2) (ac (ao_I (hs ++ [0])) an)), by simp [isPairA, isNumA, hl], fun m l e => by simp at e; obtain ⟨_, rfl⟩ := e; simp; omega⟩
  · exact ⟨_, ao_tup (ac (ao_int 2) (ac (ao_I (hs.drop 1)) an)), by simp [isPairA, isNumA, hl]; omega, fun m l e => by simp at e; obtain ⟨_, rfl⟩ := e; simp; omega⟩
  · exact ⟨_, ao_tup (ac (ao_int 2) (ac (ao_lst (aos_ints hs)) an)), by simp [isPairA], fun m l e => by simp at e⟩
  · exact ⟨_, ao_lst (ac (ao_int 2) (ac (ao_I hs) an)), by simp [isPairA], fun m l e => by simp at e⟩
  · exact ⟨_, ao_tup (ac (ao_int 2) an), by simp [isPairA], fun m l e => by simp at e⟩
  · exact ⟨_, ao_tup (ac (ao_int 2) (ac (ao_I hs) (ac (ao_I hs) an))), by simp [isPairA], fun m l e => by simp at e⟩
  · exact ⟨_, ao_non, by simp [isPairA], fun m l e => by simp at e⟩
  · exact ⟨_, ao_int 3, by simp [isPairA], fun m l e => by simp at e⟩
  · exact ⟨_, ao_str "ab", by simp [isPairA], fun m l e => by simp at e⟩
  · exact ⟨_, ao_tup (ac (ao_non) (ac (ao_I hs) an)), by simp [isPairA, isNumA], fun m l e => by simp at e; obtain ⟨_, rfl⟩ := e; simp; omega⟩
  · exact ⟨_, ao_tup (ac (ao_int 0) (ac (ao_non) an)), by simp [isPairA], fun m l e => by simp at e⟩
  · exact ⟨_, ao_tup (ac (ao_int 2) (ac (ao_tup (aos (ao_bl true))) an)), by simp [isPairA, isIntA, isT, Any.ty], fun m l e => by simp at e; obtain ⟨_, rfl⟩ := e; simp; omega⟩
  · exact ⟨_, ao_tup (ac (ao_int 0) (ac (ao_tup (aos (ao_str "1"))) an)), by simp [isPairA, isIntA, isT, Any.ty], fun m l e => by simp at e; obtain ⟨_, rfl⟩ := e; simp; omega⟩
  · exact ⟨_, ao_tup an, by simp [isPairA], fun m l e => by simp at e⟩
/-- a new dict -/
def dicN (H0 : Hp) : Rp := ⟨fun v H => ∃ a, v = .ref a ∧ H0 a = none ∧ H a = some (.dT []), fun e ⟨a, h1, h2, h3⟩ => ⟨a, h1, h2, e _ _ h3⟩⟩
theorem dst_dicN {d c : Addr} {H0 : Hp} (h0 : Deal d c H0) : Dst d c (dicN H0) := fun hd x ⟨a, h1, h2, h3⟩ => by
  obtain ⟨b, z, g1, g2, _⟩ := h0
  exact ⟨a, h1, h2, x.keep a _ (fun e => by rw [e, g1] at h2; cases h2) (fun e => by rw [e, g2] at h2; cases h2) h3⟩
def spSpoilt : Sp := fun vs H Q _ => ∃ (d c : Addr) (k : Nat) (x : V) (ns : List Pr), vs = [.ref d, .int k, x] ∧ Deal d c H ∧ 1 ≤ k ∧ k ≤ 4 ∧ (nmR ns).p x H ∧ (∀ p ∈ ns, PairOk k p) ∧ ns.length ≤ 1000 ∧
  ∀ T y H' a n, DX d c H H' → H' T = some (.tup [y, .int ((n : Nat) : Int)]) → (anyR a).p y H' → BadAt k a n → SmallA a → Q (.ref T) H'
section
variable {K : PySem.W.Frag} {d c : Addr} {σ : L2.St} {H H0 : Hp} {ta tb te tl : TE} {R Ra Rb : Rp} {Rs : List Rp} {D : Ends} {tz tu tw : TS} {t u : TT}
theorem ep_listT (h0 : NW H0 H) (h : EvP tl σ H (tupR Rs)) : EvP (tCB (fun xs H Q => ∃ p ys, xs = [.ref p] ∧ (SqL K H p ys ∨ SqT K H p ys) ∧ ∀ l, H l = none → Q (.ref l) (upd H l (.lst ys))) (tCons tl tNil)) σ H (lstN H0 Rs) :=
  ep_cb (ea_cons h ea_nil) fun vs H1 e1 p => by
    match vs, p with
    | [v], p =>
      obtain ⟨⟨a, xs, rfl, ha, pa⟩, _⟩ := p
      exact fun Q q => ⟨a, xs, rfl, .inr (sqT_of ha), fun l hl => q _ _ (Ex.new hl) ⟨l, xs, rfl, h0 l (none_of e1 hl), upd_same, pa.up (Ex.new hl)⟩⟩
theorem etd_eq {p : Int → Prop} {n : Int} (ha : EvD d c ta σ H (intP p)) : EvTD d c (tTest (tOp rEq ta (tC (.int n)))) σ H True := fun H1 x Q q =>
  ha H1 x _ fun v H2 x2 ⟨i, hv, _⟩ => by
    subst hv
    exact ⟨rfl, _, rfl, q _ H2 (fun _ => trivial) x2⟩
theorem d_when {p : Prop} (hd : Deal d c H) (h : EvTD d c t σ H p) (h1 : p → ∀ H1, DX d c H H1 → tu { D with nx := tz D } σ H1) (h2 : ∀ H1, DX d c H H1 → tz D σ H1) : tSeq (tIfS t tu tNext) tz D σ H := h H (.refl hd) _ fun b H2 hp x2 => by
  cases b with
  | true =>
    show tu _ σ H2
    exact h1 (hp rfl) H2 x2
  | false =>
    show tz D σ H2
    exact h2 H2 x2
theorem ep_neg {i : Int} : EvP (tUn (rU fun i => .int (-i)) (tC (.int i))) σ H (Rp.v (.int (-i))) := fun H1 e Q q => ⟨i, rfl, q _ _ (Ex.refl _) rfl⟩
end
instance (b : Int) : Stab (rngP b) := ⟨fun _ h => h⟩
theorem smallA_of {l : List Any} (h : ∀ b ∈ l, ∀ m l', b = .tup [m, .tup l'] → l'.length ≤ 1000) : SmallA (.tup l) := fun l2 e b hb => by
  cases e; exact h b hb
theorem prAny_small {k : Nat} {p : Pr} (h : PairOk k p) (k4 : k ≤ 4) : ∀ m l', prAny p = .tup [m, .tup l'] → l'.length ≤ 1000 := fun m l' e => by
  unfold prAny at e
  simp at e
  obtain ⟨_, rfl⟩ := e
  rw [List.length_map, h.2.2]; omega
theorem badAt_mid {k : Nat} {ns : List Pr} {a : Any} {more : List Any} {p : Nat} (hn : ∀ q ∈ ns, PairOk k q) (hp : p ≤ ns.length) (ha : isPairA k a = false) : BadAt k (.tup ((ns.take p).map prAny ++ [a] ++ (ns.drop p).map prAny ++ more)) p := by
  have hl : ((ns.take p).map prAny).length = p := by rw [List.length_map, List.length_take]; omega
  refine ⟨a, ?_, ha, fun i hi c hc => ?_⟩
  · rw [List.append_assoc, List.append_assoc, List.getElem?_append_right (by omega), hl, Nat.sub_self]; rfl
  · rw [List.append_assoc, List.append_assoc, List.getElem?_append_left (by omega), List.getElem?_map, List.getElem?_take, if_pos hi] at hc
    cases e : ns[i]? with
    | none => rw [e] at hc; cases hc
    | some q =>
      rw [e] at hc
      cases hc
      exact isPair_pr (hn q (List.mem_of_getElem? e))
section
variable {P : Program} {w : World} {K : PySem.W.Frag} {mg : Str → Option Value} {base : Heap}
theorem ok_law_spoilt (D : Dn K mg "_law_spoilt" s__law_spoilt p__law_spoilt) (T : Txt mg) (c__law_any : Cl P w K mg base 1 "_law_any" spAny) (c__law_of : Cl P w K mg base 2 "_law_of" spOf) : Cl P w K mg base 3 "_law_spoilt" spSpoilt := by
  refine D.cal sc__law_spoilt (fun vs H Q E h => ?_) (fun f cdv A outer s H vs Q E hr h => ?_)
  · obtain ⟨_, _, _, _, _, rfl, _⟩ := h
    rfl
  · obtain ⟨d, c, n, x, ns, rfl, hD, n1, n4, hx, hok, hnl, k⟩ := h
    refine ⟨_, (pss_cons (ps_set (i := 3) sc__law_spoilt.nd rfl (Or.inl rfl) (pe_callTy (kTupOf (K := K) rfl) (by rfl) T.tuple (by decide +kernel) (pa_cons (pe_lc (own := [("_law_kind", 8)]) (g := (gName 8)) (tt := tYes) rfl sc__law_spoilt.nd (pi_range1 (by rfl) T.range (pa_cons (pv 1) pa_nil)) (blkOk_by (N := n__law_spoilt) (sc := defScope s__law_spoilt) (by decide +kernel)) (fun _ _ _ _ _ => (pg_name (i := 8) sc__law_spoilt.nd rfl (Or.inl rfl))) (fun _ _ _ _ _ => pts_nil) (fun _ _ _ _ _ => (pe_c c__law_any hr (by decide) rfl (pa_cons (pv 0) (pa_cons pe_int pa_nil))))) pa_nil)))
      (pss_cons (ps_set (i := 4) sc__law_spoilt.nd rfl (Or.inl rfl) (pe_c c__law_any hr (by decide) rfl (pa_cons (pv 0) (pa_cons (pv 1) pa_nil))))
      (pss_cons (ps_set (i := 5) sc__law_spoilt.nd rfl (Or.inl rfl) (pe_c c__law_of hr (by decide) rfl (pa_cons (pv 0) (pa_cons (pe_lst (pa_cons (pe_tup (pa_cons pe_int (pa_cons (pv 3) pa_nil))) (pa_cons (pe_tup (pa_cons (pe_un un_neg pe_int) (pa_cons (pv 3) pa_nil))) (pa_cons (pe_tup (pa_cons pe_bl (pa_cons (pv 3) pa_nil))) (pa_cons (pe_tup (pa_cons pe_bl (pa_cons (pv 3) pa_nil))) (pa_cons (pe_tup (pa_cons pe_int (pa_cons (pe_op (kCatA (K := K) rfl) (pv 3) (pe_tup (pa_cons pe_int pa_nil))) pa_nil))) (pa_cons (pe_tup (pa_cons pe_int (pa_cons (pe_slice (kSlA (K := K) rfl) (pv 3) (po_some pe_int) po_none) pa_nil))) (pa_cons (pe_tup (pa_cons pe_int (pa_cons (pe_callTy (kListOf (K := K) rfl) (by rfl) T.list (by decide +kernel) (pa_cons (pv 3) pa_nil)) pa_nil))) (pa_cons (pe_lst (pa_cons pe_int (pa_cons (pv 3) pa_nil))) (pa_cons (pe_tup (pa_cons pe_int pa_nil)) (pa_cons (pe_tup (pa_cons pe_int (pa_cons (pv 3) (pa_cons (pv 3) pa_nil)))) (pa_cons pe_non (pa_cons pe_int (pa_cons pe_str (pa_cons (pe_tup (pa_cons pe_non (pa_cons (pv 3) pa_nil))) (pa_cons (pe_tup (pa_cons pe_int (pa_cons pe_non pa_nil))) (pa_cons (pe_tup (pa_cons pe_int (pa_cons (pe_op (kCatA (K := K) rfl) (pe_op (kCatA (K := K) rfl) (pe_slice (kSlA (K := K) rfl) (pv 3) po_none (po_some (pv 4))) (pe_tup (pa_cons pe_bl pa_nil))) (pe_slice (kSlA (K := K) rfl) (pv 3) (po_some (pe_op op_add (pv 4) pe_int)) po_none)) pa_nil))) (pa_cons (pe_tup (pa_cons pe_int (pa_cons (pe_op (kCatA (K := K) rfl) (pe_op (kCatA (K := K) rfl) (pe_slice (kSlA (K := K) rfl) (pv 3) po_none (po_some (pv 4))) (pe_tup (pa_cons pe_str pa_nil))) (pe_slice (kSlA (K := K) rfl) (pv 3) (po_some (pe_op op_add (pv 4) pe_int)) po_none)) pa_nil))) (pa_cons (pe_tup pa_nil) pa_nil))))))))))))))))))) pa_nil))))
      (pss_cons (ps_set (i := 6) sc__law_spoilt.nd rfl (Or.inl rfl) (pe_c c__law_any hr (by decide) rfl (pa_cons (pv 0) (pa_cons (pe_op op_add (pe_callB (kLenS (K := K) rfl) (by rfl) T.len (by decide +kernel) (pa_cons (pv 2) pa_nil)) pe_int) pa_nil))))
      (pss_cons (ps_if (pt_cmpR op_eq (pe_c c__law_any hr (by decide) rfl (pa_cons (pv 0) (pa_cons pe_int pa_nil))) pe_int (nomark _)) (pss_one (ps_ret (pe_tup (pa_cons (pe_c c__law_of hr (by decide) rfl (pa_cons (pv 0) (pa_cons (pe_lst (pa_cons pe_non (pa_cons (pe_callTy (kListOf (K := K) rfl) (by rfl) T.list (by decide +kernel) (pa_cons (pv 2) pa_nil)) (pa_cons pe_int (pa_cons pe_dnewT (pa_cons pe_str pa_nil)))))) pa_nil))) (pa_cons pe_int pa_nil))))) pss_nil)
      (pss_cons (ps_set (i := 7) sc__law_spoilt.nd rfl (Or.inl rfl) (pe_c c__law_of hr (by decide) rfl (pa_cons (pv 0) (pa_cons (pe_lst (pa_cons (pe_tup pa_nil) (pa_cons (pe_tup (pa_cons (pv 5) pa_nil)) (pa_cons (pe_tup (pa_cons (pe_tup (pa_cons pe_int (pa_cons (pv 3) pa_nil))) pa_nil)) pa_nil)))) pa_nil))))
      (pss_one (ps_ret (pe_tup (pa_cons (pe_op (kCatA (K := K) rfl) (pe_op (kCatA (K := K) rfl) (pe_op (kCatA (K := K) rfl) (pe_slice (kSlA (K := K) rfl) (pv 2) po_none (po_some (pv 6))) (pe_tup (pa_cons (pv 5) pa_nil))) (pe_slice (kSlA (K := K) rfl) (pv 2) (po_some (pv 6)) po_none)) (pv 7)) (pa_cons (pv 6) pa_nil))))))))))), ?_⟩
    refine d_set hD (ed_tupleL (n := n) (p := fun r => 0 ≤ r ∧ r < 4) (ed_lcR (R := rngP 4) hD (by omega) (fun H1 x1 => ea_cons (ep_v rfl) ea_nil) (fun _ => rfl) fun z => ed_any rfl ed_c (by omega) (by omega))) fun vh H1 x1 p1 => ?_
    obtain ⟨hs, ph, hl, _⟩ := p1
    refine d_set x1.deal (ed_any (b := n) rfl (ed_v rfl) (by omega) (by omega)) fun va H2 x2 p2 => ?_
    obtain ⟨a', rfl, a0, an'⟩ := p2
    have ea : V.int a' = V.int ((a'.toNat : Nat) : Int) := by rw [Int.toNat_of_nonneg a0]
    have hat : a'.toNat < n := by omega
    rw [ea]
    generalize a'.toNat = at' at hat ⊢
    have d2 := x2.deal
    have ph2 := dst_stab (tupI hs) x1.deal x2 ph
    have bdst := badRs_dst (H0 := H2) d2 hs at'
    refine d_set (R := oneOf (badRs H2 hs at')) d2 (ed_of (H0 := H2) (Rs := badRs H2 hs at') rfl d2 (ed_p fun H3 x3 => ?_) (by simp [badRs]) (by simp [badRs]) bdst) fun vb H3 x3 p3 => ?_
    · have nw : NW H2 H3 := NW.dx d2 x3
      have hv : EvP (tVar 3) [some (.ref d), some (.int n), some x, some vh, some (.int (at' : Nat)), none, none, none, none] H3 (tupI hs) := ep_var rfl (dst_stab (tupI hs) d2 x3 ph2)
      have two : ∀ {ta tb : TE} {Ra Rb : Rp}, EvP ta [some (.ref d), some (.int n), some x, some vh, some (.int (at' : Nat)), none, none, none, none] H3 Ra → EvP tb [some (.ref d), some (.int n), some x, some vh, some (.int (at' : Nat)), none, none, none, none] H3 Rb → EvP (tTup (tCons ta (tCons tb tNil))) [some (.ref d), some (.int n), some x, some vh, some (.int (at' : Nat)), none, none, none, none] H3 (tupR [Ra, Rb]) := fun {ta tb Ra Rb} ha hb => ep_tup (ea_cons ha (ea_cons hb ea_nil)) (by simp)
      have mid : ∀ {z : V}, EvP (tOp (rCatA K) (tOp (rCatA K) (tSl (rSlA K) (tVar 3) tNoPart (tPart (tVar 4))) (tTup (tCons (tC z) tNil))) (tSl (rSlA K) (tVar 3) (tPart (tOp (rI0 fun i j => .int (i + j)) (tVar 4) (tC (.int 1)))) tNoPart)) [some (.ref d), some (.int n), some x, some vh, some (.int (at' : Nat)), none, none, none, none] H3 (tupR ((hs.take at').map (fun n => Rp.v (.int n)) ++ [Rp.v z] ++ (hs.drop (at' + 1)).map fun n => Rp.v (.int n))) := fun {z} =>
        EvP.cast (ep_catA (ep_catA (ep_toT (i := at') (tupR_I hv) (ep_v rfl)) (ep_tup (ea_cons ep_c ea_nil) (by simp)) (by simp; omega)) (ep_fromT (i := at' + 1) (tupR_I hv) (EvP.cast (ep_I0 (f := fun i j => .int (i + j)) (ep_v rfl) ep_c) rfl)) (by simp; omega)) (by simp [List.map_take, List.map_drop])
      unfold badRs
      refine ep_lstW nw (ea_cons (two ep_c hv) (ea_cons (two ep_neg hv) (ea_cons (two ep_c hv) (ea_cons (two ep_c hv) (ea_cons (two ep_c (tupI_R (EvP.cast (ep_catA (tupR_I hv) (ep_tup (Rs := [Rp.v (.int 0)]) (ea_cons ep_c ea_nil) (by simp)) (by simp; omega)) (by simp)))) (ea_cons (two ep_c (tupI_R (EvP.cast (ep_fromT (i := 1) (tupR_I hv) ep_c) (by simp [List.map_drop])))) (ea_cons (two ep_c (ep_listT nw (tupR_I hv))) (ea_cons (ep_lstW nw (ea_cons ep_c (ea_cons hv ea_nil)) (by simp)) (ea_cons (ep_tup (ea_cons ep_c ea_nil) (by simp)) (ea_cons (ep_tup (ea_cons ep_c (ea_cons hv (ea_cons hv ea_nil))) (by simp))
        (ea_cons ep_c (ea_cons ep_c (ea_cons ep_c (ea_cons (two ep_c hv) (ea_cons (two ep_c ep_c) (ea_cons (two ep_c mid) (ea_cons (two ep_c mid) (ea_cons (ep_tup ea_nil (by simp)) ea_nil)))))))))))))))))) (by simp)
    obtain ⟨Rb, hRb, pb⟩ := p3
    have dRb : Dst d c Rb := bdst Rb hRb
    obtain ⟨ab, aob, nob, smb⟩ := badRs_bad (H0 := H2) n4 n1 hl hat Rb hRb
    have x03 := (x1.trans x2).trans x3
    have hx3 : (nmR ns).p x H3 := dst_stab (tupR (ns.map pairR)) (s := stab_tupR fun R hR => by
      obtain ⟨p, _, rfl⟩ := List.mem_map.mp hR
      exact stab_tupR fun R hR => by
        simp only [List.mem_cons, List.not_mem_nil, or_false] at hR
        rcases hR with rfl | rfl <;> exact inferInstance) hD x03 hx
    have dnm : Dst d c (nmR ns) := dst_stab (tupR (ns.map pairR)) (s := stab_tupR fun R hR => by
      obtain ⟨p, _, rfl⟩ := List.mem_map.mp hR
      exact stab_tupR fun R hR => by
        simp only [List.mem_cons, List.not_mem_nil, or_false] at hR
        rcases hR with rfl | rfl <;> exact inferInstance)
    have dpr : ∀ R ∈ ns.map pairR, Dst d c R := fun R hR => by
      obtain ⟨p, _, rfl⟩ := List.mem_map.mp hR
      exact dst_stab (pairR p) (s := stab_tupR fun R hR => by
        simp only [List.mem_cons, List.not_mem_nil, or_false] at hR
        rcases hR with rfl | rfl <;> exact inferInstance)
    have d3 := x3.deal
    refine d_set d3 (ed_any (b := (ns.length : Int) + 1) rfl (ed_p fun H4 x4 => EvP.cast (ep_I0 (f := fun i j => .int (i + j)) (ep_lenT (Rs := ns.map pairR) (ep_var rfl (dnm d3 x4 hx3))) ep_c) (by rw [List.length_map])) (by omega) (by omega)) fun vp H4 x4 p4 => ?_
    obtain ⟨pl', rfl, p0, pn⟩ := p4
    have ep : V.int pl' = V.int ((pl'.toNat : Nat) : Int) := by rw [Int.toNat_of_nonneg p0]
    have hpl : pl'.toNat ≤ ns.length := by omega
    rw [ep]
    generalize pl'.toNat = pl at hpl ⊢
    have d4 := x4.deal
    have x04 := x03.trans x4
    refine d_when d4 (etd_eq (ed_any rfl ed_c (by omega) (by omega))) (fun _ H5 x5 => ?_) fun H5 x5 => ?_
    · have d5 := x5.deal
      have dd : ∀ R ∈ [Rp.v .non, lstN H5 (ns.map pairR), Rp.v (.int 2), dicN H5, Rp.v (.str "ab")], Dst d c R := fun R hR => by
        simp only [List.mem_cons, List.not_mem_nil, or_false] at hR
        rcases hR with rfl | rfl | rfl | rfl | rfl
        · exact dst_stab _
        · exact dst_lstN d5 dpr
        · exact dst_stab _
        · exact dst_dicN d5
        · exact dst_stab _
      refine d_ret (D := _) d5 (ed_tup (Rs := [oneOf [Rp.v .non, lstN H5 (ns.map pairR), Rp.v (.int 2), dicN H5, Rp.v (.str "ab")], Rp.v (.int 0)]) (eda_cons (ed_of (H0 := H5) (Rs := [Rp.v .non, lstN H5 (ns.map pairR), Rp.v (.int 2), dicN H5, Rp.v (.str "ab")]) rfl d5 (ed_p fun H6 x6 => ?_) (by simp) (by simp) dd) (fun hd x ⟨R, hR, pR⟩ => ⟨R, hR, dd R hR hd x pR⟩) (eda_cons ed_c (dst_stab _) eda_nil)) (by simp)) fun v H6 x6 pv => ?_
      · have nw : NW H5 H6 := NW.dx d5 x6
        exact ep_lstW nw (ea_cons ep_c (ea_cons (ep_listT nw (ep_var rfl (dnm d3 ((x4.trans x5).trans x6) hx3))) (ea_cons ep_c (ea_cons (fun H7 e7 Q7 q7 p hp => q7 _ _ (Ex.new hp) ⟨p, rfl, nw p (none_of e7 hp), upd_same⟩) (ea_cons ep_c ea_nil))))) (by simp)
      · obtain ⟨T, xs, rfl, hT, pT⟩ := pv
        match xs, pT with
        | [y1, y2], pT =>
          cases (show y2 = V.int 0 from pT.2.1)
          obtain ⟨R, hR, pR⟩ := pT.1
          have x06 := (x04.trans x5).trans x6
          simp only [List.mem_cons, List.not_mem_nil, or_false] at hR
          rcases hR with rfl | rfl | rfl | rfl | rfl
          · exact k T y1 H6 .non 0 x06 hT (ao_non _ _ pR) rfl fun l e => by cases e
          · exact k T y1 H6 (.lst (ns.map prAny)) 0 x06 hT (ao_lst (aos_prs ns) _ _ pR) rfl fun l e => by cases e
          · exact k T y1 H6 (.int 2) 0 x06 hT (ao_int 2 _ _ pR) rfl fun l e => by cases e
          · exact k T y1 H6 .dic 0 x06 hT (by obtain ⟨a, h1, _, h2⟩ := pR; simp only [anyR]; exact ⟨a, h1, h2⟩) rfl fun l e => by cases e
          · exact k T y1 H6 (.str "ab") 0 x06 hT (ao_str _ _ _ pR) rfl fun l e => by cases e
    · have d5 := x5.deal
      have x45 := x4.trans x5
      have pb5 := dRb d3 x45 pb
      have ph5 := dst_stab (tupI hs) d2 (x3.trans x45) ph2
      have dd : ∀ R ∈ [tupR [], tupR [Rb], tupR [tupR [Rp.v (.int 1), tupI hs]]], Dst d c R := fun R hR => by
        simp only [List.mem_cons, List.not_mem_nil, or_false] at hR
        rcases hR with rfl | rfl | rfl
        · exact dst_tupR fun R hR => by cases hR
        · exact dst_tupR fun R hR => by rw [List.mem_singleton.mp hR]; exact dRb
        · exact dst_tupR fun R hR => by
            rw [List.mem_singleton.mp hR]
            exact dst_tupR fun R hR => by
              simp only [List.mem_cons, List.not_mem_nil, or_false] at hR
              rcases hR with rfl | rfl <;> exact dst_stab _
      refine d_set (R := oneOf [tupR [], tupR [Rb], tupR [tupR [Rp.v (.int 1), tupI hs]]]) d5 (ed_of (H0 := H5) (Rs := [tupR [], tupR [Rb], tupR [tupR [Rp.v (.int 1), tupI hs]]]) rfl d5 (ed_p fun H6 x6 => ep_lstW (NW.dx d5 x6) (ea_cons (ep_tup ea_nil (by simp)) (ea_cons (ep_tup (ea_cons (ep_var rfl (dRb d5 x6 pb5)) ea_nil) (by simp)) (ea_cons (ep_tup (ea_cons (ep_tup (ea_cons ep_c (ea_cons (ep_var rfl (dst_stab (tupI hs) d5 x6 ph5)) ea_nil)) (by simp)) ea_nil) (by simp)) ea_nil))) (by simp)) (by simp) (by simp) dd) fun vm H6 x6 p6 => ?_
      have fin : ∀ (Rm : List Rp) (am : List Any), (tupR Rm).p vm H6 → AOs Rm am → Rm.length ≤ 10 → (∀ b ∈ am, ∀ m l', b = .tup [m, .tup l'] → l'.length ≤ 1000) → tRet (tTup (tCons (tOp (rCatA K) (tOp (rCatA K) (tOp (rCatA K) (tSl (rSlA K) (tVar 2) tNoPart (tPart (tVar 6))) (tTup (tCons (tVar 5) tNil))) (tSl (rSlA K) (tVar 2) (tPart (tVar 6)) tNoPart)) (tVar 7)) (tCons (tVar 6) tNil))) (dE Q) [some (.ref d), some (.int n), some x, some vh, some (.int (at' : Nat)), some vb, some (.int (pl : Nat)), some vm, none] H6 := by
        intro Rm am pm aom hlm hsm
        have hx6 : (tupR (ns.map pairR)).p x H6 := dnm d3 (x45.trans x6) hx3
        refine p_ret (D := dE Q) (ep_tup (Rs := [tupR ((ns.map pairR).take pl ++ [Rb] ++ (ns.map pairR).drop pl ++ Rm), Rp.v (.int (pl : Nat))]) (ea_cons (ep_catA (ep_catA (ep_catA (ep_toT (i := pl) (ep_var rfl hx6) (ep_v rfl)) (ep_tup (ea_cons (ep_var rfl (dRb d3 (x45.trans x6) pb)) ea_nil) (by simp)) (by simp; omega)) (ep_fromT (i := pl) (ep_var rfl hx6) (ep_v rfl)) (by simp; omega)) (ep_var rfl pm) (by simp; omega)) (ea_cons (ep_v rfl) ea_nil)) (by simp)) fun v H7 e7 pv => ?_
        obtain ⟨T, xs, rfl, hT, pT⟩ := pv
        match xs, pT with
        | [y1, y2], pT =>
          cases (show y2 = V.int (pl : Nat) from pT.2.1)
          refine k T y1 H7 (.tup ((ns.take pl).map prAny ++ [ab] ++ (ns.drop pl).map prAny ++ am)) pl (((x04.trans x5).trans x6).trans (.of x6.deal e7)) hT (ao_tup ?_ _ _ pT.1) (badAt_mid hok hpl nob) (smallA_of fun b hb => ?_)
          · rw [← List.map_take, ← List.map_drop]
            exact (((aos_prs _).append (ac aob an)).append (aos_prs _)).append aom
          · rcases List.mem_append.mp hb with hb | hb
            · rcases List.mem_append.mp hb with hb | hb
              · rcases List.mem_append.mp hb with hb | hb
                · obtain ⟨q, hq, rfl⟩ := List.mem_map.mp hb
                  exact prAny_small (hok q (List.mem_of_mem_take hq)) n4
                · rw [List.mem_singleton.mp hb]; exact smb
              · obtain ⟨q, hq, rfl⟩ := List.mem_map.mp hb
                exact prAny_small (hok q (List.mem_of_mem_drop hq)) n4
            · exact hsm b hb
      obtain ⟨R, hR, pR⟩ := p6
      simp only [List.mem_cons, List.not_mem_nil, or_false] at hR
      rcases hR with rfl | rfl | rfl
      · exact fin [] [] pR an (by simp) fun b hb => by cases hb
      · exact fin [Rb] [ab] pR (ac aob an) (by simp) fun b hb => by rw [List.mem_singleton.mp hb]; exact smb
      · refine fin [tupR [Rp.v (.int 1), tupI hs]] [.tup [.int 1, .tup (hs.map .int)]] pR (ac (ao_tup (ac (ao_int 1) (ac (ao_I hs) an))) an) (by simp) fun b hb m l' e => ?_
        rw [List.mem_singleton.mp hb] at e
        simp at e
        obtain ⟨_, rfl⟩ := e
        simp; omega
end
end NL
end
section
set_option linter.all false
set_option Elab.async false
set_option maxRecDepth 100000
set_option maxHeartbeats 4000000
/-! E7a: isinstance of a caught error of an own class that holds fields; a field of it. -/
namespace PySem.W
open PySem PySem.Spec PySem.Calls PyProof.Rows
section
variable {prog : Program} {w : World} {A : Around} {E : Value → Shared → Prop} {s : Shared} {K : Frag} {x D : Addr} {ox : Obj} {od : Obj}
theorem nl_classE {Q : Option Value → Shared → Prop} (hga : findIn K (.ref D) "__getattribute__" = some (some (.builtin "BaseException.__getattribute__"))) (hgt : findIn K (.ref D) "__getattr__" = some none) (hsub : subIn K (.ref D) (.type "BaseException") = some true)
    (hf : findObj K D (some od) "__class__" = some (.bind (.builtin "getset_descriptor.__get__") (.builtin "object.__class__"))) (hm : mroIn K D (.type "object") = some true)
    (X : K.In s.heap) (I : InstAt s.heap x ox D (some od)) (h : Q (some (.ref D)) { s with toks := s.toks + 1 }) : wpAny (model prog w) A (getAttr? (.ref x) "__class__") Q E s := by
  obtain ⟨hp, g, d, t, os⟩ := s
  have L0 := I.type (M := model prog w)
  have L1 := looks_findIn (M := model prog w) X hga
  have L2 := looks_findIn (M := model prog w) X hgt
  have L3 := looks_find (M := model prog w) X I hf
  have sub : Looks (model prog w) hp (isInstance (.ref x) (.type "BaseException")) true := L0.andThen (looks_subIn X hsub)
  have hx0 : (false && onTheHeap (Value.builtin "BaseException.__getattribute__")) = false := rfl
  have hx2 : (Value.builtin "BaseException.__getattribute__" == Value.builtin "object.__getattribute__") = false := by decide +kernel
  have hx1 : (onTheHeap (Value.ref D) && Value.builtin "BaseException.__getattribute__" == Value.builtin "object.__getattribute__") = false := by rw [hx2]; rfl
  unfold getAttr? getAttrBy? getAttrBy
  refine wpAny_bind (wpAny_mkText (wpAny_bind (wpAny_attempt (wpAny_holding (wpAny_bind (L0.at (wpAny_bind (L1.at ?_))))))))
  show wpAny _ _ (if (onTheHeap (Value.ref D) && Value.builtin "BaseException.__getattribute__" == Value.builtin "object.__getattribute__") = true then _ else _) _ _ _
  rw [hx1, if_neg Bool.false_ne_true]
  unfold getAttrByItsOwn hookBefore
  refine wpAny_bind ?_
  rw [if_pos (show onTheHeap (Value.ref D) = true from rfl)]
  refine L2.at ?_
  refine wpAny_bind (wpAny_attempt (wpAny_holding ?_))
  unfold callGetattribute
  rw [hx0, if_neg Bool.false_ne_true]
  unfold boundAndCalled
  rw [PySem.F.excAttr_ValueError.ga.bind (.ref x)]
  refine wpAny_bind (wpAny_pure ?_)
  show wpAny _ _ (call (.builtin "BaseException.__getattribute__") [.ref x, .str "__class__" t]) _ _ _
  refine wpAny_call (codeAny_call_builtin PySem.F.excAttr_ValueError.ga.plain PySem.F.entry_bexc_ga ?_)
  refine @check_slot (model prog w) _ _ ⟨hp, g, d, t + 1, os⟩ "BaseException.__getattribute__" "BaseException" "__getattribute__" (.ref x) [.str "__class__" t] [] _ (by decide +kernel) (by decide +kernel) sub (PySem.F.args_bexc_ga (.ref x) (.str "__class__" t)) ?_
  unfold Builtin.«object.__getattribute__»
  refine wpAny_bind (wpAny_of_eq (a := ((Value.ref x : Value), [Value.str "__class__" t])) (by first | rfl | (simp only [slotArgs]; rfl)) ?_)
  refine wpAny_bind (wpAny_pure (wpAny_bind (L0.at (wpAny_bind (L3.at ?_)))))
  show wpAny _ _ (holding [Value.builtin "object.__class__"] (call (.builtin "getset_descriptor.__get__") [.builtin "object.__class__", .ref x, .ref D]) >>= ret) _ _ _
  refine wpAny_bind (wpAny_holding (wpAny_call (class_get (s := ⟨hp, g, d, t + 1, os⟩) (ox := ox) (od := some od) X I hm ?_)))
  refine wpAny_pure ?_
  show wpAny _ _ (handedOut (.ref D)) _ _ _
  rw [handedOut_of (v := .ref D) rfl]
  first
    | exact wpAny_pure (wpAny_pure h)
    | exact wpAny_pure h
    | exact wpAny_pure (wpAny_bind (wpAny_pure (wpAny_pure h)))
theorem nl_kitx_exc (hga : findIn K (.ref D) "__getattribute__" = some (some (.builtin "BaseException.__getattribute__"))) (hgt : findIn K (.ref D) "__getattr__" = some none) (hsub : subIn K (.ref D) (.type "BaseException") = some true) (hdct : hasDictIn K D = true) (ha : findIn K (.ref D) "__class__" = some (some (.builtin "object.__class__")))
    (hn : specialIn K (.builtin "object.__class__") "__get__" = some (some (.builtin "getset_descriptor.__get__"))) (htk : takesIn K (.builtin "object.__class__") = some true) (hm : mroIn K D (.type "object") = some true) :
    KitX K (.ref x) (.ref D) (fun h => InstAt h x ox D (some od)) where
  ty := fun _ _ _ I => I.type
  it := fun _ _ X _ => by
    obtain ⟨cdD, hcD, _⟩ := any_some hdct
    unfold clsIn at hcD
    split at hcD
    · rename_i c' d' cd' sl' ho
      intro A' Q' E' s' k q
      unfold isType loadHead
      exact wpAny_bind (wpAny_loadPart (k _ _ (X _ _ ho)) (wpAny_pure q))
    · cases hcD
  ne := fun h tp dd its n sl X htp => by
    obtain ⟨cdD, hcD, _⟩ := any_some hdct
    refine Bool.eq_false_iff.mpr fun q => ?_
    have e : D = tp := Value.ref.inj (beq_iff_eq.mp q)
    subst e
    unfold clsIn at hcD
    split at hcD
    · rename_i c' d' cd' sl' ho
      have z := (X _ _ ho).symm.trans htp
      cases z
    · cases hcD
  ca := fun X I k => nl_classE hga hgt hsub (findObj_data (by obtain ⟨cd, hc, _⟩ := any_some hdct; rw [hc]; rfl) ha hn htk) hm X I k
end
end PySem.W
namespace NL
open PySem PySem.Spec PyProof.Rows L2
/-- isinstance(e, c), e the exception that the suite holds, its fields at d -/
def rIsEd (K : PySem.W.Frag) (D a d : Addr) : List V → Hp → VK → Prop := fun xs H Q => ∃ (c : V) (cv : Value) (b : Bool) (fs : List (Str × V)), xs = [.ref a, c] ∧ H d = some (.xd fs) ∧ (∀ u, RelV c u → u = cv) ∧ PySem.W.kitOne K (.ref D) cv = some b ∧ Q (.bl b) H
theorem instE {X : Cx} {a D d : Addr} {oe : Obj} {pn pins : List (Addr × Obj)} {σ : L2.St} {H : Hp} {s : Shared} {fs : List (Str × V)} (hz : Zc (.ref D) (some d) oe) (hf : ∃ vs, oe.data = .fields vs) (I : Inv (X.suite a ((a, oe) :: pn)) pins σ H s) (hd : H d = some (.xd fs)) :
    ∃ od, PySem.W.InstAt s.heap a oe D (some od) := by
  obtain ⟨ha, _⟩ := I.pin (a, oe) (List.mem_append_left _ List.mem_cons_self)
  obtain ⟨vs, hv⟩ := hf
  obtain ⟨mA, hns, _⟩ := I.hok d _ hd
  obtain ⟨od, ho, _⟩ := lookIn_ns hns
  exact ⟨od, ha, hz.1, by unfold PySem.W.notCls; rw [hv] <;> rfl, by rw [hz.2]; exact ho⟩
theorem call_isEd {X : Cx} {a D d : Addr} {oe : Obj} {pn : List (Addr × Obj)} (C : ExcC X.K D) (hz : Zc (.ref D) (some d) oe) (hf : ∃ vs, oe.data = .fields vs) : CallR (X.suite a ((a, oe) :: pn)) (.builtin "isinstance") (rIsEd X.K D a d) := by
  intro pins s σ H xs us Q I r h
  obtain ⟨c, cv, b, fs, rfl, hd, hcv, e, q⟩ := h
  cases r with
  | cons rx rr =>
    cases rr with
    | cons rt rr =>
      cases rr
      cases rx
      have ec := hcv _ rt
      subst ec
      obtain ⟨od, J⟩ := instE hz hf I hd
      exact PySem.W.kia_one (PySem.W.nl_kitx_exc C.hg C.hk C.hs C.hd C.ha C.hn C.ht C.hm) I.kIn J e (fun z => nomatch z) fun tk => ⟨.bl b, H, I.kept (t' := tk) fun _ _ z => z, rfl, q⟩
end NL
end
section
set_option linter.all false
set_option Elab.async false
set_option maxRecDepth 100000
namespace NL
open PySem PySem.Spec PyProof.Rows L2
open Evl (Ex Ev EvT)
open C8 (pe_c pe_mk pe_mt pe_gc)
abbrev s__law_refused : Stmt := top 48
abbrev n__law_refused : List Str := ["_law_kinds", "_law_value", "_law_at", "e"]
abbrev p__law_refused : List Str := ["_law_kinds", "_law_value", "_law_at"]
theorem sc__law_refused : FnScope n__law_refused p__law_refused (defScope s__law_refused) := ⟨rfl, rfl, rfl, by decide +kernel, rfl, by decide +kernel, by decide +kernel⟩
def rIsX (K : PySem.W.Frag) (cls : Value) (d : Option Addr) (a : Addr) : List V → Hp → VK → Prop := fun xs H Q => ∃ (D dd : Addr), cls = .ref D ∧ d = some dd ∧ ExcC K D ∧ rIsEd K D a dd xs H Q
/-- isinstance(e, (c, ..)) -/
def rIsXT (K : PySem.W.Frag) (cls : Value) (d : Option Addr) (a : Addr) : List V → Hp → VK → Prop := fun xs H Q => ∃ (D dd p : Addr) (cs : List V) (cvs : List Value) (b : Bool) (fs : List (Str × V)), cls = .ref D ∧ d = some dd ∧ ExcC K D ∧ xs = [.ref a, .ref p] ∧ H dd = some (.xd fs) ∧
  H p = some (.tup cs) ∧ (∀ us, Vals cs us → us = cvs) ∧ PySem.W.kitAny K (.ref D) cvs = some b ∧ Q (.bl b) H
/-- e.at -/
def tAtX (C a : Addr) (cls : Value) (d : Option Addr) (te : TE) : TE := fun σ H Q => te σ H fun x H1 => x = .ref a ∧ cls = .ref C ∧ ∃ (dd : Addr) (v : V), d = some dd ∧ H1 dd = some (.xd [(("at" : Str), v)]) ∧ Q v H1
section
variable {X : Cx} {C fI a : Addr} {cls : Value} {d : Option Addr} {oe : Obj} {pn : List (Addr × Obj)} {mg : Str → Option Value} {P : Program}
theorem call_isX (hz : Zc cls d oe) (hf : ∃ vs, oe.data = .fields vs) : CallR (X.suite a ((a, oe) :: pn)) (.builtin "isinstance") (rIsX X.K cls d a) := by
  intro pins s σ H xs us Q I r h
  obtain ⟨D, dd, rfl, rfl, E, h⟩ := h
  exact call_isEd E hz hf pins s σ H xs us Q I r h
theorem call_isXT (hz : Zc cls d oe) (hf : ∃ vs, oe.data = .fields vs) : CallR (X.suite a ((a, oe) :: pn)) (.builtin "isinstance") (rIsXT X.K cls d a) := by
  intro pins s σ H xs us Q I r h
  obtain ⟨D, dd, p, cs, cvs, b, fs, rfl, rfl, E, rfl, hd, hp, hcs, e, q⟩ := h
  cases r with
  | cons rx rr =>
    cases rr with
    | cons rt rr =>
      cases rr
      cases rx
      cases rt
      obtain ⟨od, J⟩ := instE hz hf I hd
      obtain ⟨its, rv, ht, hz'⟩ := I.tuple (sqT_of hp)
      have := hcs _ rv
      subst this
      obtain ⟨⟨oc, od', oda, osl⟩, ho, hc, n, hdat⟩ := ht
      dsimp only at hc hdat
      subst hc hdat
      exact PySem.W.kia_tup (PySem.W.nl_kitx_exc E.hg E.hk E.hs E.hd E.ha E.hn E.ht E.hm) I.kIn J ho e (fun z => nomatch z) fun tk => ⟨.bl b, H, I.kept (t' := tk) fun _ _ z => z, rfl, q⟩
theorem pe_at {e : Expr} {te : TE} {pos : Pos} (T : PySem.NLX.IgTxt P X.K mg "InvalidGroup" C fI) (hz : Zc cls d oe) (hf : ∃ vs, oe.data = .fields vs) (he : PE (X.suite a ((a, oe) :: pn)) e te)
    (hb : attributeBase e "at" X.env (eval e X.env) = eval e X.env := by rfl) :
    PE (X.suite a ((a, oe) :: pn)) (.Attribute e "at" pos) (tAtX C a cls d te) := by
  refine ⟨fun pins s σ H Q I h => ?_⟩
  refine attr_of hb (thn (he.run pins s σ H _ I h) fun u s1 hh => ?_)
  obtain ⟨x, H1, I1, rx, ex, ec, dd, v, ed, ea, q⟩ := hh
  subst ex
  obtain rfl : u = Value.ref a := rx
  subst ec
  subst ed
  obtain ⟨ha, _⟩ := I1.pin (a, oe) (List.mem_append_left _ List.mem_cons_self)
  obtain ⟨vs, hd⟩ := hf
  have hx : ObjOk X.prog X.w H1 s1.heap dd (.xd [(("at" : Str), v)]) := I1.hok dd _ ea
  obtain ⟨mA, hns, hr⟩ := hx
  obtain ⟨od, ho, hl⟩ := lookIn_ns hns
  have l : List.lookup ("at" : Str) [(("at" : Str), v)] = some v := by simp [List.lookup]
  obtain ⟨u, hu, ru⟩ := RelO.some_of (v := v) (o := mA "at") (by rw [← l]; exact hr "at")
  have J : PySem.W.InstAt s1.heap a oe C (some od) := ⟨ha, hz.1, by unfold PySem.W.notCls; rw [hd] <;> rfl, by rw [hz.2]; exact ho⟩
  exact PySem.HandSPX.exc_get I1.kIn J T.ga T.gg T.exC (PySem.W.findObj_own T.hdC T.noN rfl (by rw [hl, hu])) (handed_of ru) ⟨v, H1, I1.tok _, ru, q⟩
end
/-- what is told of the classes that _law_refused names -/
structure ErT (K : PySem.W.Frag) (mg : Str → Option Value) (CI CL CR CF : Addr) : Prop where
  exc : ExcC K CI
  self : PySem.W.exmOne K (.ref CI) (.ref CI) = some true
  gL : mg "LeftError" = some (.ref CL)
  gR : mg "InvalidRun" = some (.ref CR)
  gF : mg "Refused" = some (.ref CF)
  isL : PySem.W.kitOne K (.ref CI) (.ref CL) = some true
  no : PySem.W.kitAny K (.ref CI) [.ref CR, .ref CF] = some false
theorem q_try {σ : L2.St} {H : Hp} {D : Ends} {tz : TS} {sp : Sp} {ta : TA} {W : Ends → WX} {Rs : List Rp} (h : NL.EvA ta σ H Rs) (k : ∀ vs H1, Ex H H1 → AllP vs Rs H1 → sp vs H1 (fun _ H2 => tz D σ H2) (WE (W { D with nx := tz D }) σ)) :
    tSeq (fun D σ H => tDrop (tCallS sp (WE (W D)) ta) D σ H) tz D σ H := h H (Ex.refl _) _ fun vs H1 e p => k vs H1 e p
def spRefused : Sp := fun vs H Q _ => ∃ (k : Nat) (x : V) (a : Any) (n : Nat), vs = [.int k, x, .int ((n : Nat) : Int)] ∧ k ≤ 1000 ∧ (anyR a).p x H ∧ BadAt k a n ∧ SmallA a ∧ ∀ H', Ex H H' → Q (.bl true) H'
section
variable {P : Program} {w : World} {K : PySem.W.Frag} {mg : Str → Option Value} {base : Heap}
theorem ok_law_refused {CI fI CL CR CF : Addr} (D : Dn K mg "_law_refused" s__law_refused p__law_refused) (T : Txt mg) (I : PySem.NLX.IgTxt P K mg "InvalidGroup" CI fI) (Er : ErT K mg CI CL CR CF)
    (x_told : ClX P w K mg base 6 "told_book" (fun vs H Q E => ∃ k : Nat, vs.head? = some (.int k) ∧ k ≤ 1000 ∧ spCheckX CI vs H Q E)) : Cl P w K mg base 7 "_law_refused" spRefused := by
  refine D.cal sc__law_refused (fun vs H Q E h => ?_) (fun f cdv A outer s H vs Q E hr h => ?_)
  · obtain ⟨_, _, _, _, rfl, _⟩ := h
    rfl
  · obtain ⟨n, x, a, m, rfl, hk, hx, hbad, hsm, k⟩ := h
    obtain ⟨f1, fd1, ps1, F1, m1, k1, b1⟩ := x_told.ex
    have hr1 : Room 6 _ := hr
    refine ⟨_, pss_cons (ps_try_as (i := 3) (tb := fun W => tDrop (tCallS (fun vs H Q E => ∃ k : Nat, vs.head? = some (.int k) ∧ k ≤ 1000 ∧ spCheckX CI vs H Q E) (WE W) (tCons (tVar 0) (tCons (tVar 1) tNil))))
        (ts := fun a cls d => tRet (tAndV (tCB (rIsX K cls d a) (tCons (tVar 3) (tCons (tC (.ref CL)) tNil))) (tAndV (tNotV (tCB (rIsXT K cls d a) (tCons (tVar 3) (tCons (tTup (tCons (tC (.ref CR)) (tCons (tC (.ref CF)) tNil))) tNil))))
          (tAndV (tOp rEq (tAtX CI a cls d (tVar 3)) (tVar 2)) (tNotV (tCB (rIsi K) (tCons (tAtX CI a cls d (tVar 3)) (tCons (tC (.ty "bool")) tNil))))))))
        (Wout := fun _ _ _ _ => False) rfl rfl sc__law_refused.nd rfl rfl ⟨rfl, by decide, Or.inl I.gC⟩ takes0
        (fun W pn xe tk _ => pss_one (ps_expr (by exact (pe_callS F1 hr1 rfl m1 k1 b1 (fun σ => passAt tk σ) (by exact (pa_cons (pv 0) (pa_cons (pv 1) pa_nil)))))))
        (fun a oe cls d pn hz hf => pss_one (ps_ret (by exact (pe_and (pe_callB (call_isX hz hf) (by rfl) T.isinstance (by decide +kernel) (pa_cons (pv 3) (pa_cons (pe_glob (v := .ref CL) rfl Er.gL rfl) pa_nil)))
          (pe_and (pe_not (pe_callB (call_isXT hz hf) (by rfl) T.isinstance (by decide +kernel) (pa_cons (pv 3) (pa_cons (pe_tup (pa_cons (pe_glob (v := .ref CR) rfl Er.gR rfl) (pa_cons (pe_glob (v := .ref CF) rfl Er.gF rfl) pa_nil))) pa_nil))))
          (pe_and (pe_cmpR op_eq (pe_at I hz hf (pv 3)) (pv 2) (nomark _))
          (pe_one (pe_not (pe_callB (kIsi (K := K) rfl) (by rfl) T.isinstance (by decide +kernel) (pa_cons (pe_at I hz hf (pv 3)) (pa_cons (pe_bltn (v := .ty "bool") (by rfl) T.bool (by decide +kernel) rfl) pa_nil))))))))))))
      (pss_one (ps_ret pe_bl)), ?_⟩
    have args : NL.EvA (tCons (tVar 0) (tCons (tVar 1) tNil)) (start n__law_refused [.int n, x, .int (m : Nat)]) H [Rp.v (.int n), anyR a] := ea_cons (ep_v rfl) (ea_cons (ep_var rfl hx) ea_nil)
    refine q_try args fun vs H1 e1 p => ?_
    match vs, p with
    | [y1, y2], p =>
      cases (show y1 = V.int n from p.1)
      refine ⟨n, rfl, hk, n, y2, a, m, rfl, p.2.1, hbad, hsm, fun H2 d e2 hd => ?_⟩
      refine ⟨true, Er.self, fun _ a' ha' => ?_, fun z => by cases z⟩
      have hat : ∀ {H3}, Ex H2 H3 → EvP (tAtX CI a' (.ref CI) (some d) (tVar 3)) [some (.int n), some x, some (.int (m : Nat)), some (.ref a')] H3 (Rp.v (.int (m : Nat))) := fun {H3} e3 H4 e4 Q4 q4 => ⟨.ref a', rfl, rfl, rfl, d, _, rfl, e4 _ _ (e3 _ _ hd), q4 _ H4 (Ex.refl _) rfl⟩
      refine p_ret (R := Rp.v (.bl true)) (EvP.cast (ep_and (b := true) (c := true) (ep_cb (Rs := [Rp.v (.ref a'), Rp.v (.ref CL)]) (ea_cons (ep_v rfl) (ea_cons ep_c ea_nil)) fun vs H3 e3 p3 => ?_) fun _ => EvP.cast (ep_and (b := true) (c := true) (EvP.cast (ep_not (b := false) (ep_cb (Rs := [Rp.v (.ref a'), tupR [Rp.v (.ref CR), Rp.v (.ref CF)]]) (ea_cons (ep_v rfl) (ea_cons (ep_tup (ea_cons ep_c (ea_cons ep_c ea_nil)) (by simp)) ea_nil)) fun vs H3 e3 p3 => ?_)) rfl) fun _ => EvP.cast (ep_and (b := true) (c := true) (EvP.cast (ep_eqI (hat (Ex.refl _)) (ep_v rfl)) (by simp)) fun _ => EvP.cast (ep_not (ep_isi (a := .int (m : Nat)) ((hat (Ex.refl _)).weak fun v H3 _ p => ao_int _ v H3 p))) (by simp [isT, Any.ty])) rfl) rfl) rfl) fun v H3 e3 p3 => ?_
      · match vs, p3 with
        | [z1, z2], p3 =>
          cases (show z1 = V.ref a' from p3.1)
          cases (show z2 = V.ref CL from p3.2.1)
          exact Gi.now (fun Q q => ⟨CI, d, rfl, rfl, Er.exc, .ref CL, .ref CL, true, _, rfl, e3 _ _ hd, fun u r => r, Er.isL, q⟩) rfl
      · match vs, p3 with
        | [z1, z2], p3 =>
          cases (show z1 = V.ref a' from p3.1)
          obtain ⟨p, cs, rfl, hp, pcs⟩ := p3.2.1
          match cs, pcs with
          | [c1, c2], pcs =>
            cases (show c1 = V.ref CR from pcs.1)
            cases (show c2 = V.ref CF from pcs.2.1)
            refine Gi.now (fun Q q => ⟨CI, d, p, _, [.ref CR, .ref CF], false, _, rfl, rfl, Er.exc, rfl, e3 _ _ hd, hp, fun us r => ?_, Er.no, q⟩) rfl
            cases r with
            | cons r1 r2 =>
              cases r2 with
              | cons r2 r3 =>
                cases r3
                cases r1
                cases r2
                rfl
      · cases (show v = V.bl true from p3)
        exact k H3 ((e1.trans e2).trans e3)
end
end NL
end
section
set_option linter.all false
set_option Elab.async false
set_option maxRecDepth 100000
namespace NL
theorem safe_of {k : Nat} {ns : List Pr} {bs : List (List Int)} (k1 : 1 ≤ k) (k4 : k ≤ 4) (hl : ∀ p ∈ ns, p.2.length = k) (bk : BkOf k ns bs) (n4 : bs.length ≤ 4) (s3 : ∀ b ∈ bs, b.sum ≤ 3) : Safe k (Zv ns) bs := by
  have K := ker_zv (k := k) (vs := ns) hl
  refine ⟨⟨k1, k4, n4, fun b hb => ?_⟩, K, fun b hb => ((bk.mem b).mp hb).2.1, fun c hc zc hp => ?_⟩
  · have m := (bk.mem b).mp hb
    exact ⟨m.1, m.2.2.1, s3 b hb⟩
  · obtain ⟨i, hi, hpi⟩ := sum_pos_at hc hp
    have hm : i ∈ hasK c := List.mem_filter.mpr ⟨List.mem_range.mpr (by rw [hc.1]; exact hi), decide_eq_true hpi⟩
    unfold firsts
    cases e : hasK c with
    | nil => rw [e] at hm; cases hm
    | cons j r =>
      have hj : j ∈ hasK c := by rw [e]; exact List.mem_cons_self ..
      have hj2 := of_decide_eq_true (List.mem_filter.mp hj).2
      obtain ⟨m, mm, lm, pm⟩ := mn_at K _ (Nat.le_refl _) hc zc j hj2
      have hmb := (bk.mem m).mpr mm
      obtain ⟨t, ht⟩ := List.mem_iff_getElem?.mp hmb
      intro z
      rw [List.map_eq_nil_iff, List.filter_eq_nil_iff] at z
      have htl : t < bs.length := (List.getElem?_eq_some_iff.mp ht).1
      refine z t (List.mem_range.mpr htl) ?_
      rw [getD_of ht, lm, decide_eq_true pm]; rfl
end NL
end
section
set_option linter.all false
set_option Elab.async false
set_option maxRecDepth 100000
namespace NL
open PySem PySem.Spec PyProof.Rows L2
open Evl (Ex Ev EvT)
open C8 (pe_c pe_mk pe_mt pe_gc)
theorem kIsC {X : Cx} {K : PySem.W.Frag} {C : Addr} (h : X.K = K) (c : C8.InsC K C) : CallR X (.builtin "isinstance") (fun xs H Q => ∃ a dx fs, xs = [.ref a, .ref C] ∧ H a = some (.ins C dx fs) ∧ Q (.bl true) H) := by
  subst h
  exact C8.call_isC c
/-- two books that hold the same -/
def BkEq (C : Addr) : Addr → Addr → Hp → Prop := fun a b H => ∃ k bs d e, BkA C k bs d a H ∧ BkA C k bs e b H
section
variable {P : Program} {w : World} {K : PySem.W.Frag} {mg : Str → Option Value} {base : Heap} {C : Addr}
structure EqT (P : Program) (w : World) (K : PySem.W.Frag) (mg : Str → Option Value) (base : Heap) (C : Addr) : Prop where
  ex : ∃ (f : Addr) (fd : FuncData), FnOk P w K mg base CX0 1 f fd p_Book___eq__ (spEq (BkEq C)) ∧ PySem.W.findIn K (.ref C) "__eq__" = some (some (.ref f)) ∧ PySem.W.isFn K (.ref f) = true ∧ Binds K fd p_Book___eq__ []
theorem ok_Beq (D : MDn K C "__eq__" "Book.__eq__" s_Book___eq__ p_Book___eq__) (B : BookT K mg C) (I : C8.InsC K C) (T : Txt mg) : EqT P w K mg base C := by
  obtain ⟨f, fd, F, hb, hi, hf, hk⟩ := D.ex
  refine ⟨f, fd, F.ok sc_Book___eq__ (fun vs H Q E h => ?_) (fun cdv A outer s H vs Q E hr h => ?_), hi, hf, hb⟩
  · obtain ⟨_, _, rfl, _⟩ := h
    rfl
  · obtain ⟨a, b, rfl, ⟨n, bs, d, e, hA, hB⟩, k⟩ := h
    refine ⟨_, (pss_cons (ps_if (pt_not (pt_val (pe_callB (kIsC (K := K) rfl I) (by rfl) T.isinstance (by decide +kernel) (pa_cons (pv 1) (pa_cons (pe_glob (v := .ref C) rfl B.mgC rfl) pa_nil))))) (pss_one (ps_ret pe_bl)) pss_nil)
      (pss_one (ps_ret (pe_and (pe_cmpR op_eq (kFld (K := K) rfl (pv 0) rfl) (kFld (K := K) rfl (pv 1) rfl) (nomark _)) (pe_one (pe_cmpR (kEqD (K := K) rfl hr.units) (kFld (K := K) rfl (pv 0) rfl) (kFld (K := K) rfl (pv 1) rfl) (nomark _))))))), ?_⟩
    obtain ⟨dx, t, ha, ht⟩ := hA
    obtain ⟨ex, u, hb', hu⟩ := hB
    refine p_skip (Evl.et_is (Evl.et_not (et_ep (b := true) (ep_cb (Rs := [Rp.v (.ref b), Rp.v (.ref C)]) (ea_cons (ep_v rfl) (ea_cons ep_c ea_nil)) fun vs H1 e1 p => ?_))) rfl) fun H1 e1 => ?_
    · match vs, p with
      | [z1, z2], p =>
        cases (show z1 = V.ref b from p.1)
        cases (show z2 = V.ref C from p.2.1)
        exact Gi.now (fun Q q => ⟨b, ex, _, rfl, e1 _ _ hb', q⟩) rfl
    · have hA1 : (bookR C n bs).p (.ref a) H1 := ⟨a, d, rfl, dx, t, e1 _ _ ha, (tupT bs).up e1 ht⟩
      have hB1 : (bookR C n bs).p (.ref b) H1 := ⟨b, e, rfl, ex, u, e1 _ _ hb', (tupT bs).up e1 hu⟩
      refine p_ret (D := dE Q) (R := Rp.v (.bl true)) (EvP.cast (ep_and (b := true) (c := true) (EvP.cast (ep_eqI (ep_kinds B (ep_var rfl hA1)) (ep_kinds B (ep_var rfl hB1))) (by simp)) fun _ => EvP.cast (ep_eqT (ep_batches B (ep_var rfl hA1)) (ep_batches B (ep_var rfl hB1))) (by simp)) rfl) fun v H2 e2 p2 => ?_
      cases (show v = V.bl true from p2)
      exact k H2 fun a o q => e2 _ _ (e1 _ _ q)
end
end NL
end
section
set_option linter.all false
set_option Elab.async false
set_option maxRecDepth 100000
/-! F3: f(k = v, ..), no positional values. -/
namespace NL
open PySem PySem.Spec PyProof.Rows L2
open Evl (Ex Ev EvT)
def tCallK0 (sp : Sp) (gV : List V → List V → List V) (E : XK) (tk : TA) : TE := fun σ H Q => tk σ H fun zs H2 => sp (gV [] zs) H2 Q E
section
variable {X : Cx} {CX : CXT} {k : Nat} {f : Addr} {fd : FuncData} {ps ks : List Str} {sp : Sp} {E : XK} {x : Str} {p pos : Pos} {kws : List Keyword} {tk : TA} {g : List Value → List Value → List Value} {gV : List V → List V → List V}
theorem pe_callK0 (F : FnOk X.prog X.w X.K X.mg X.base CX k f fd ps sp) (hr : Room k X.A) (hg : Gl X x) (hm : X.mg x = some (.ref f)) (hk : PySem.W.keepIn X.K (.ref f) = true) (hb : KBinds X.K fd ps ks g gV) (hx : Passes CX X E)
    (hkw : PK X kws tk) (hall : (backToKw pos (keywordEach kws X.env)).all (·.1.isSome) = true := by rfl) (hks : (backToKw pos (keywordEach kws X.env)).filterMap (·.1) = ks := by rfl)
    (hdb : (x == ("__debug__" : Str)) = false := by decide)
    (hpl : ((backTo pos (starEach [] X.env)).any (·.1) || (backToKw pos (keywordEach kws X.env)).any (·.1.isNone)) = false := by rfl) :
    PE X (.Call (.Name x p) [] kws pos) (tCallK0 sp gV E tk) := by
  refine ⟨fun pins s σ H Q I h => ?_⟩
  refine wpAny_Call_Name_kw (ld_glob I hg hm ?_ hdb)
  refine PySem.W.callWith_KW0 (h₀ := X.base) I.ok.mod.kin hk hall (thn (hkw.run pos pins s σ H _ I h) fun ws s2 ⟨zs, H2, I2, rz, q2⟩ => ⟨I2.kIn, ?_⟩) hpl
  rw [hks]
  exact run_fnk F hr hb hx I2 .nil rz q2
end
end NL
end
section
set_option linter.all false
set_option Elab.async false
set_option maxRecDepth 100000
/-! F4: bounds for told batches; how told_book binds its keywords. -/
namespace NL
open PySem PySem.Spec PyProof.Rows L2
open Evl (Ex Ev EvT)
theorem whole_ex (r : List Int) : ∃ m, Whole r m := by
  have key : ∀ N : Nat, 1 ≤ N → ∃ m : Int, 1 ≤ m ∧ m ≤ N ∧ (∀ x ∈ r, x % m = 0) ∧ ∀ n : Int, 1 ≤ n → n ≤ N → (∀ x ∈ r, x % n = 0) → n ≤ m := by
    intro N
    induction N with
    | zero => intro h; omega
    | succ N ih =>
      intro _
      by_cases h : ∀ x ∈ r, x % ((N + 1 : Nat) : Int) = 0
      · exact ⟨((N + 1 : Nat) : Int), by omega, by omega, h, fun n _ h2 _ => h2⟩
      · by_cases hN : 1 ≤ N
        · obtain ⟨m, m1, m2, m3, m4⟩ := ih hN
          refine ⟨m, m1, by omega, m3, fun n h1 h2 h3 => ?_⟩
          by_cases e : n = ((N + 1 : Nat) : Int)
          · exact absurd (e ▸ h3) h
          · exact m4 n h1 (by omega) h3
        · have hN0 : N = 0 := by omega
          subst hN0
          exact absurd (fun x hx => Int.emod_one x) h
  obtain ⟨m, m1, m2, m3, m4⟩ := key 8 (by omega)
  exact ⟨m, m1, m2, m3, m4⟩
theorem part_le {r m : Int} (h : -8 ≤ r ∧ r ≤ 8) (h1 : 1 ≤ m) (h8 : m ≤ 8) : (if r / m < 0 then -(r / m) else r / m) ≤ 8 := by
  have : m = 1 ∨ m = 2 ∨ m = 3 ∨ m = 4 ∨ m = 5 ∨ m = 6 ∨ m = 7 ∨ m = 8 := by omega
  rcases this with rfl | rfl | rfl | rfl | rfl | rfl | rfl | rfl <;> (split <;> omega)
theorem mn_bound {k : Nat} {ns : List Pr} {x : List Int} (h : Named k ns) (hx : Mn k (Zv ns) x) : x.sum ≤ 24 := by
  by_cases hs : Special k ns
  · obtain ⟨rfl, u, v, rfl, ne⟩ := hs
    obtain ⟨u', v', e, hu, hv, su, sv, _⟩ := h.two_of (by simp [bals])
    simp only [List.cons.injEq, Prod.mk.injEq, true_and, and_true] at e
    obtain ⟨rfl, rfl⟩ := e
    obtain ⟨m, hw⟩ := whole_ex (cross u v)
    have hsm := cross_small hu hv su sv
    have hc : cross u v = [at_ u 1 * at_ v 2 - at_ u 2 * at_ v 1, at_ u 2 * at_ v 0 - at_ u 0 * at_ v 2, at_ u 0 * at_ v 1 - at_ u 1 * at_ v 0] := rfl
    generalize at_ u 1 * at_ v 2 - at_ u 2 * at_ v 1 = r0 at hc
    generalize at_ u 2 * at_ v 0 - at_ u 0 * at_ v 2 = r1 at hc
    generalize at_ u 0 * at_ v 1 - at_ u 1 * at_ v 0 = r2 at hc
    rw [hc] at hw hsm ne
    obtain ⟨_, rfl⟩ := (special_mn hu hv su sv hc ne hw x).mp hx
    have b0 := part_le (hsm r0 (by simp)) hw.lo hw.hi
    have b1 := part_le (hsm r1 (by simp)) hw.lo hw.hi
    have b2 := part_le (hsm r2 (by simp)) hw.lo hw.hi
    simp only [List.sum_cons, List.sum_nil]
    omega
  · have := most_le h hs hx
    have := (most_small h).2
    omega
theorem due_sum {k : Nat} {ns : List Pr} {bs : List (List Int)} (h : Named k ns) (bk : BkOf k ns bs) : ∀ b ∈ bs, b.sum ≤ 24 := fun b hb => mn_bound h ((bk.mem b).mp hb)
theorem due_len {k : Nat} {ns : List Pr} {bs : List (List Int)} (h : Named k ns) (k4 : k ≤ 4) (bk : BkOf k ns bs) : bs.length ≤ 1000000 := by
  have := count_le (k := k) (n := 24) bk.nd fun c hc => ⟨((bk.mem c).mp hc).1, due_sum h bk c hc⟩
  have h3 : (24 + 1) ^ k ≤ (24 + 1) ^ 4 := Nat.pow_le_pow_right (by omega) k4
  omega
def kwG : List Value → List Value → List Value
  | [], [v, k] => [k, v]
  | _, _ => []
def kwGV : List V → List V → List V
  | [], [v, k] => [k, v]
  | _, _ => []
theorem kb_told {K : PySem.W.Frag} {f : Addr} {fd : FuncData} (F : L2.Fun K "told_book" "told_book" s_told_book f fd) : KBinds K fd p_told_book ["value", "kinds"] kwG kwGV := by
  obtain ⟨oc, od, kV, doc, pm, an, cdv, ct, osl, rfl, lk, hcd⟩ := F.ex
  refine ⟨fun s us ws hK hl => ?_, fun h1 h2 => ?_⟩
  · match us, ws, hl with
    | [], [v, k], _ => exact BindsTo.of_eq rfl
  · cases h1 with
    | cons a b => exact .nil
    | nil =>
      cases h2 with
      | nil => exact .nil
      | cons a b =>
        cases b with
        | nil => exact .nil
        | cons c d =>
          cases d with
          | nil => exact .cons c (.cons a .nil)
          | cons e f => exact .nil
end NL
end
section
set_option linter.all false
set_option Elab.async false
set_option maxRecDepth 100000
/-! F5: law itself. -/
namespace NL
open PySem PySem.Spec PyProof.Rows L2
open Evl (Ex Ev EvT)
open C8 (pe_c pe_mk pe_mt pe_gc)
abbrev s_law : Stmt := top 49
abbrev n_law : List Str := ["_law_script", "_law_deal", "_law_kinds", "_law_value", "_law_due_here", "_law_book", "_law_batch", "_law_turn", "_law_crowd", "_law_more_here", "_law_rest", "_law_wrong", "_law_at", "_law_other", "_law_x", "_law_kind"]
abbrev p_law : List Str := ["_law_script"]
theorem sc_law : FnScope n_law p_law (defScope s_law) := ⟨rfl, rfl, rfl, by decide +kernel, rfl, by decide +kernel, by decide +kernel⟩
/-- a crowd of so many members at most -/
def crR (n : Nat) (B : Int) : Rp := ⟨fun v H => ∃ cr, (tupI cr).p v H ∧ Dom n cr ∧ cr.sum ≤ B, fun e ⟨cr, h1, h2⟩ => ⟨cr, (tupI cr).up e h1, h2⟩⟩
instance (n : Nat) (B : Int) : Stab (crR n B) := ⟨fun t ⟨cr, h1, h2⟩ => ⟨cr, (inferInstance : Stab (tupI cr)).st t h1, h2⟩⟩
theorem sum3 : ∀ {hs : List Int}, (∀ x ∈ hs, 0 ≤ x ∧ x ≤ 3) → hs.sum ≤ 3 * (hs.length : Int)
  | [], _ => by simp
  | x :: r, h => by
    have h1 := h x (List.mem_cons_self ..)
    have h2 := sum3 (hs := r) fun y hy => h y (List.mem_cons_of_mem _ hy)
    rw [List.sum_cons, List.length_cons]
    omega
theorem max_ex : ∀ l : List Int, l ≠ [] → ∃ m, m ∈ l ∧ ∀ y, y ∈ l → y ≤ m
  | [], h => absurd rfl h
  | [x], _ => ⟨x, by simp, fun y hy => by simp at hy; omega⟩
  | x :: z :: r, _ => by
    obtain ⟨m, hm, ht⟩ := max_ex (z :: r) (by simp)
    by_cases h : m ≤ x
    · refine ⟨x, by simp, fun y hy => ?_⟩
      rcases List.mem_cons.mp hy with rfl | hy
      · omega
      · have := ht y hy; omega
    · refine ⟨m, List.mem_cons_of_mem _ hm, fun y hy => ?_⟩
      rcases List.mem_cons.mp hy with rfl | hy
      · omega
      · exact ht y hy
theorem stab_nm (ns : List Pr) : Stab (nmR ns) := stab_tupR fun S hS => by
  obtain ⟨p, _, rfl⟩ := List.mem_map.mp hS
  exact stab_tupR fun R hR => by
    simp only [List.mem_cons, List.not_mem_nil, or_false] at hR
    rcases hR with rfl | rfl <;> exact inferInstance
/-- what stands: the deal, the naming, the due list, the book -/
structure LS (C d c : Addr) (n : Nat) (ns : List Pr) (bs : List (List Int)) (o bd : Addr) (vv vd : V) (H0 H : Hp) : Prop where
  dl : Deal d c H
  nm : (nmR ns).p vv H
  du : (lstN H0 (bs.map tupI)).p vd H
  bk : BkA C n bs bd o H
/-- the told batches, whatever they are -/
def bkT (n : Nat) (ns : List Pr) : Rp := ⟨fun v H => ∃ bs, BkOf n ns bs ∧ (tupT bs).p v H, fun e ⟨bs, h1, h2⟩ => ⟨bs, h1, (tupT bs).up e h2⟩⟩
section
variable {C d c : Addr} {n : Nat} {ns : List Pr} {bs : List (List Int)} {o bd : Addr} {vv vd : V} {H0 H H' : Hp}
theorem LS.dx (h0 : Deal d c H0) (h : LS C d c n ns bs o bd vv vd H0 H) (x : DX d c H H') : LS C d c n ns bs o bd vv vd H0 H' := by
  refine ⟨x.deal, dst_stab (nmR ns) (s := stab_nm ns) h.dl x h.nm, dst_lstN h0 (fun R hR => ?_) h.dl x h.du, ?_⟩
  · obtain ⟨b, _, rfl⟩ := List.mem_map.mp hR
    exact dst_stab _
  · obtain ⟨dx, t, h1, h2⟩ := h.bk
    obtain ⟨b, z, g1, g2, _⟩ := h.dl
    exact ⟨dx, t, x.keep o _ (fun e => by rw [e, g1] at h1; cases h1) (fun e => by rw [e, g2] at h1; cases h1) h1, dst_stab (tupT bs) (s := stab_tupR (allTup_stab bs)) h.dl x h2⟩
theorem LS.exb (h : LS C d c n ns bs o bd vv vd H0 H) (hb : H bd = some (.dK [])) (x : ExB bd H H') : LS C d c n ns bs o bd vv vd H0 H' := by
  have t : Tk H H' := fun a xs q => x a _ (fun e => by rw [e, hb] at q; cases q) q
  refine ⟨?_, (stab_nm ns).st t h.nm, ?_, ?_⟩
  · obtain ⟨b, z, g1, g2, g3⟩ := h.dl
    exact ⟨b, z, x d _ (fun e => by rw [e, hb] at g1; cases g1) g1, x c _ (fun e => by rw [e, hb] at g2; cases g2) g2, g3⟩
  · obtain ⟨a, xs, h1, h2, h3, h4⟩ := h.du
    exact ⟨a, xs, h1, h2, x a _ (fun e => by rw [e, hb] at h3; cases h3) h3, h4.tk t⟩
  · obtain ⟨dx, u, h1, h2⟩ := h.bk
    exact ⟨dx, u, x o _ (fun e => by rw [e, hb] at h1; cases h1) h1, (stab_tupR (allTup_stab bs)).st t h2⟩
theorem DX.dK (hd : Deal d c H) (x : DX d c H H') (h : H bd = some (.dK [])) : H' bd = some (.dK []) := by
  obtain ⟨b, z, g1, g2, _⟩ := hd
  exact x.keep bd _ (fun e => by rw [e, g1] at h; cases h) (fun e => by rw [e, g2] at h; cases h) h
end
section
variable {K : PySem.W.Frag} {C d c : Addr} {σ : L2.St} {H H0 : Hp} {ta tb te tl tx : TE} {R Ra Rb : Rp} {Rs : List Rp} {D : Ends} {tz tu tw : TS} {t u : TT} {g : TG}
theorem ep_isTup (hx : EvP tx σ H (tupR Rs)) : EvP (tCB (rIsi K) (tCons tx (tCons (tC (.ty "tuple")) tNil))) σ H (Rp.v (.bl true)) :=
  ep_cb (ea_cons hx (ea_cons ep_c ea_nil)) fun vs H1 _ p => by
    match vs, p with
    | [x, c], p =>
      cases (show c = V.ty "tuple" from p.2.1)
      obtain ⟨a, xs, rfl, ha, _⟩ := p.1
      exact Gi.now (fun Q q => ⟨.ref a, .ty "tuple", .type "tuple", .type "tuple", _, rfl, .ty "tuple", .base (.tup ha), kit_ty (kit_all "tuple" (by simp) "tuple" (by simp)), q⟩) rfl
theorem ep_isBook {k : Nat} {bs : List (List Int)} (hx : EvP tx σ H (bookR C k bs)) : EvP (tCB (fun xs H Q => ∃ a dx fs, xs = [V.ref a, V.ref C] ∧ H a = some (.ins C dx fs) ∧ Q (.bl true) H) (tCons tx (tCons (tC (.ref C)) tNil))) σ H (Rp.v (.bl true)) :=
  ep_cb (ea_cons hx (ea_cons ep_c ea_nil)) fun vs H1 _ p => by
    match vs, p with
    | [x, z], p =>
      cases (show z = V.ref C from p.2.1)
      obtain ⟨o, e, rfl, dx, t, h1, _⟩ := p.1
      exact Gi.now (fun Q q => ⟨o, dx, _, rfl, h1, q⟩) rfl
theorem ep_neB {a b : Bool} (ha : EvP ta σ H (Rp.v (.bl a))) (hb : EvP tb σ H (Rp.v (.bl b))) : EvP (tOp rNe ta tb) σ H (Rp.v (.bl (!decide (a = b)))) :=
  (ep_of (Evl.ev_op (ev_of ha) (ev_of hb) (Evl.rv_ne rfl))).cast (by simp)
theorem d_optSet {i : Nat} (hd : Deal d c H) (h : EvTD d c t σ H True) (h1 : EvD d c te σ H R) (st : Dst d c R) (h2 : ∃ v0, σ.set i (some v0) = σ ∧ R.p v0 H) (k : ∀ v H1, DX d c H H1 → R.p v H1 → tz D (σ.set i (some v)) H1) :
    tSeq (tIfS t (tAsg te (gName i)) tNext) tz D σ H := h H (.refl hd) _ fun b H2 _ x2 => by
  cases b with
  | true =>
    show tAsg te (gName i) _ σ H2
    exact h1 H2 x2 _ fun v H3 x3 p => k v H3 (x2.trans x3) p
  | false =>
    show tz D σ H2
    obtain ⟨v0, hs, p⟩ := h2
    have := k v0 H2 x2 (st hd x2 p)
    rwa [hs] at this
theorem l_forRD {p : Int → Prop} (hd : Deal d c H) (h : EvD d c te σ H (intP p)) (hp : ∀ r, p r → 0 ≤ r ∧ r ≤ 1000) (k : ∀ (j : Nat) H1, DX d c H H1 → p j → Nonempty (Loop D tu g j σ H1 (fun _ => True) (fun i x _ => x = .int i))) :
    tFor (iRng1 (tCons te tNil)) g tu D σ H := h H (.refl hd) _ fun v H1 x ⟨r, hv, hr⟩ => by
  subst hv
  obtain ⟨j, rfl⟩ : ∃ j : Nat, r = j := ⟨r.toNat, by have := hp r hr; omega⟩
  have hj := hp _ hr
  obtain ⟨L⟩ := k j H1 x hr
  refine ⟨j, rfl, by omega, by omega, ?_⟩
  refine loop_it (n := j) (show Walk (Itr 0 j) j (fun _ => True) (YFn fun i => .int (0 + (i : Int))) from walk_range (lo := 0) (n := j)) L (fun _ _ => trivial) fun i H' x H'' hi _ y => ?_
  obtain ⟨rfl, rfl⟩ := y
  exact ⟨Ex.refl _, by show V.int (0 + (i : Int)) = V.int (i : Int); rw [Int.zero_add]⟩
/-- a test that says no and leaves what M tells -/
theorem p_test {M : Hp → Prop} (h : ∀ Q : Bool → Hp → Prop, (∀ H', M H' → Q false H') → t σ H Q) (hk : ∀ H', M H' → tz D σ H') : tSeq (tIfS t tu tNext) tz D σ H :=
  h _ fun H' m => by
    show tz D σ H'
    exact hk H' m
end
def spLaw (K : PySem.W.Frag) : Sp := fun vs H Q _ => ∃ (a : Addr) (xs : List Int), vs = [.ref a] ∧ SqL K H a (xs.map V.int) ∧ xs.length ≤ 1000 ∧ ∀ H', Q (.bl true) H'
section
variable {P : Program} {w : World} {K : PySem.W.Frag} {mg : Str → Option Value} {base : Heap} {C : Addr}
theorem fn_law {f : Addr} {fd : FuncData} (F : L2.Fun K "law" "law" s_law f fd) (T : Txt mg) (B : BookT K mg C) (I : C8.InsC K C) (Eq : EqT P w K mg base C)
    (c__law_draw : Cl P w K mg base 1 "_law_draw" (spDraw K)) (c__law_any : Cl P w K mg base 1 "_law_any" spAny) (c__law_of : Cl P w K mg base 2 "_law_of" spOf) (c__law_more : Cl P w K mg base 1 "_law_more" spMore) (c__law_zero : Cl P w K mg base 1 "_law_zero" spZero)
    (c__law_due : Cl P w K mg base 3 "_law_due" spDue) (c__law_naming : Cl P w K mg base 3 "_law_naming" spNaming) (c__law_walked : Cl P w K mg base 3 "_law_walked" spWalked) (c__law_spoilt : Cl P w K mg base 3 "_law_spoilt" spSpoilt) (c__law_refused : Cl P w K mg base 7 "_law_refused" spRefused)
    (c_told_book : Cl P w K mg base 6 "told_book" (spTold C)) (c_is_safe : Cl P w K mg base 17 "is_safe" (spSafe C))
    {f1 : Addr} {fd1 : FuncData} (F1 : L2.Fun K "told_book" "told_book" s_told_book f1 fd1) (m1 : mg "told_book" = some (.ref f1)) (Fn1 : FnOk P w K mg base CX0 6 f1 fd1 p_told_book (spTold C)) : FnOk P w K mg base CX0 18 f fd p_law (spLaw K) := by
  obtain ⟨fe, fde, Fe, he, hfe, hbe⟩ := Eq.ex
  refine F.ok sc_law (fun vs H Q E h => ?_) (fun cdv A outer s H vs Q E hr h => ?_)
  · obtain ⟨_, _, rfl, _⟩ := h
    rfl
  · obtain ⟨a, xs, rfl, hsq, hlen, k⟩ := h
    have hr6 : Room 6 _ := hr.mono (by decide)
    have hre : Room 1 _ := hr.mono (by decide)
    refine ⟨_, (pss_cons (ps_set (i := 1) sc_law.nd rfl (Or.inr rfl) (pe_c c__law_draw hr (by decide) rfl (pa_cons (pv 0) (pa_cons pe_int pa_nil))))
      (pss_cons (ps_set (i := 2) sc_law.nd rfl (Or.inl rfl) (pe_op op_add pe_int (pe_c c__law_any hr (by decide) rfl (pa_cons (pv 1) (pa_cons pe_int pa_nil)))))
      (pss_cons (ps_set (i := 3) sc_law.nd rfl (Or.inl rfl) (pe_c c__law_naming hr (by decide) rfl (pa_cons (pv 1) (pa_cons (pv 2) pa_nil))))
      (pss_cons (ps_set (i := 4) sc_law.nd rfl (Or.inl rfl) (pe_c c__law_due hr (by decide) rfl (pa_cons (pv 2) (pa_cons (pv 3) pa_nil))))
      (pss_cons (ps_set (i := 5) sc_law.nd rfl (Or.inl rfl) (pe_c c_told_book hr (by decide) rfl (pa_cons (pv 2) (pa_cons (pv 3) pa_nil))))
      (pss_cons (ps_if (PW.pt (pw_or (pt_not (pt_val (pe_callB (kIsC (K := K) rfl I) (by rfl) T.isinstance (by decide +kernel) (pa_cons (pv 5) (pa_cons (pe_glob (v := .ref C) rfl B.mgC rfl) pa_nil))))) (pw_or (pt_cmpR op_ne (kFld (K := K) rfl (pv 5) rfl) (pv 2) (nomark _)) (pw_or (pt_not (pt_val (pe_callB (kIsi (K := K) rfl) (by rfl) T.isinstance (by decide +kernel) (pa_cons (kFld (K := K) rfl (pv 5) rfl) (pa_cons (pe_bltn (v := .ty "tuple") (by rfl) T.tuple (by decide +kernel) rfl) pa_nil))))) (pw_or1 (pt_cmpR (kNeD (K := K) rfl hr.units) (kFld (K := K) rfl (pv 5) rfl) (pe_callTy (kTupOf (K := K) rfl) (by rfl) T.tuple (by decide +kernel) (pa_cons (pv 4) pa_nil)) (nomark _))))))) (pss_one (ps_ret pe_bl)) pss_nil)
      (pss_cons (ps_for PassesOwn.never rfl (pi_tup (kFld (K := K) rfl (pv 5) rfl)) (pg_name (i := 6) sc_law.nd rfl (Or.inl rfl)) (pss_one (ps_if (PW.pt (pw_or (pt_not (pt_val (pe_callB (kIsi (K := K) rfl) (by rfl) T.isinstance (by decide +kernel) (pa_cons (pv 6) (pa_cons (pe_bltn (v := .ty "tuple") (by rfl) T.tuple (by decide +kernel) rfl) pa_nil))))) (pw_or1 (pt_cmpR (kNeD (K := K) rfl hr.units) (pe_lc (own := [("_law_x", 14)]) (g := (gName 14)) rfl sc_law.nd (pi_tup (pv 6)) (blkOk_by (N := n_law) (sc := defScope s_law) (by decide +kernel)) (fun _ _ _ _ _ => (pg_name (i := 14) sc_law.nd rfl (Or.inl rfl))) (fun _ _ _ _ _ => (pts_one (PW.pt (pw_or (pt_not (pt_val (pe_callB (kIsi (K := K) rfl) (by rfl) T.isinstance (by decide +kernel) (pa_cons (pv 14) (pa_cons (pe_bltn (v := .ty "int") (by rfl) T.int (by decide +kernel) rfl) pa_nil))))) (pw_or1 (pt_val (pe_callB (kIsi (K := K) rfl) (by rfl) T.isinstance (by decide +kernel) (pa_cons (pv 14) (pa_cons (pe_bltn (v := .ty "bool") (by rfl) T.bool (by decide +kernel) rfl) pa_nil))))))))) (fun _ _ _ _ _ => (pv 14))) (pe_lst pa_nil) (nomark _))))) (pss_one (ps_ret pe_bl)) pss_nil)))
      (pss_cons (ps_for PassesOwn.never rfl (pi_range1 (by rfl) T.range (pa_cons pe_int pa_nil)) (pg_name (i := 7) sc_law.nd rfl (Or.inl rfl)) (pss_cons (ps_set (i := 8) sc_law.nd rfl (Or.inl rfl) (pe_callTy (kTupOf (K := K) rfl) (by rfl) T.tuple (by decide +kernel) (pa_cons (pe_lc (own := [("_law_kind", 15)]) (g := (gName 15)) (tt := tYes) rfl sc_law.nd (pi_range1 (by rfl) T.range (pa_cons (pv 2) pa_nil)) (blkOk_by (N := n_law) (sc := defScope s_law) (by decide +kernel)) (fun _ _ _ _ _ => (pg_name (i := 15) sc_law.nd rfl (Or.inl rfl))) (fun _ _ _ _ _ => pts_nil) (fun _ _ _ _ _ => (pe_c c__law_of hr (by decide) rfl (pa_cons (pv 1) (pa_cons (pe_lst (pa_cons pe_int (pa_cons pe_int (pa_cons pe_int (pa_cons pe_int (pa_cons pe_int pa_nil)))))) pa_nil))))) pa_nil)))
      (pss_cons (ps_if (pt_cmpR op_eq (pe_c c__law_any hr (by decide) rfl (pa_cons (pv 1) (pa_cons pe_int pa_nil))) pe_int (nomark _)) (pss_one (ps_set (i := 8) sc_law.nd rfl (Or.inl rfl) (pe_op op_repT1 (pe_tup (pa_cons pe_int pa_nil)) (pv 2)))) pss_nil)
      (pss_cons (ps_for PassesOwn.never rfl (pi_range1 (by rfl) T.range (pa_cons (pe_ifExp (pt_cmpR (kNeD (K := K) rfl hr.units) (pv 4) (pe_lst pa_nil) (nomark _)) (pe_c c__law_any hr (by decide) rfl (pa_cons (pv 1) (pa_cons pe_int pa_nil))) pe_int) pa_nil)) (pg_name (i := 9) sc_law.nd rfl (Or.inl rfl)) (pss_one (ps_set (i := 8) sc_law.nd rfl (Or.inl rfl) (pe_c c__law_more hr (by decide) rfl (pa_cons (pv 8) (pa_cons (pe_c c__law_of hr (by decide) rfl (pa_cons (pv 1) (pa_cons (pv 4) pa_nil))) pa_nil))))))
      (pss_cons (ps_set (i := 10) sc_law.nd rfl (Or.inl rfl) (pe_c c__law_walked hr (by decide) rfl (pa_cons (pv 1) (pa_cons (kFld (K := K) rfl (pv 5) rfl) (pa_cons (pv 8) pa_nil)))))
      (pss_one (ps_if (pt_cmpR op_ne (pe_cmpR op_eq (pe_callB (cr_sumT rfl) (by rfl) T.sum (by decide +kernel) (pa_cons (pv 10) pa_nil)) pe_int (nomark _)) (pe_c c__law_zero hr (by decide) rfl (pa_cons (pv 3) (pa_cons (pv 8) pa_nil))) (nomark _)) (pss_one (ps_ret pe_bl)) pss_nil)))))))
      (pss_cons (ps_if (PW.pt (pw_and (pt_cmpR op_lt (pe_callB (kLenS (K := K) rfl) (by rfl) T.len (by decide +kernel) (pa_cons (pv 4) pa_nil)) pe_int (nomark _)) (pw_and (pt_cmpR op_lt (pe_callB (kMax (K := K) rfl rfl) (by rfl) T.max (by decide +kernel) (pa_cons (pe_op op_cat (pe_lst (pa_cons pe_int pa_nil)) (pe_lc (own := [("_law_batch", 6)]) (g := (gName 6)) (tt := tYes) rfl sc_law.nd (pi_list (pv 4)) (blkOk_by (N := n_law) (sc := defScope s_law) (by decide +kernel)) (fun _ _ _ _ _ => (pg_name (i := 6) sc_law.nd rfl (Or.inl rfl))) (fun _ _ _ _ _ => pts_nil) (fun _ _ _ _ _ => (pe_callB (cr_sumT rfl) (by rfl) T.sum (by decide +kernel) (pa_cons (pv 6) pa_nil))))) pa_nil)) pe_int (nomark _)) (pw_and1 (pt_cmpR op_notBl (pe_c c_is_safe hr (by decide) rfl (pa_cons (pv 5) pa_nil)) pe_bl (nomark _)))))) (pss_one (ps_ret pe_bl)) pss_nil)
      (pss_cons (ps_asg (pe_c c__law_spoilt hr (by decide) rfl (pa_cons (pv 1) (pa_cons (pv 2) (pa_cons (pv 3) pa_nil)))) (pg_tup rfl (pgs_cons (pg_name (i := 11) sc_law.nd rfl (Or.inl rfl)) (pgs_cons (pg_name (i := 12) sc_law.nd rfl (Or.inl rfl)) pgs_nil))))
      (pss_cons (ps_if (pt_not (pt_val (pe_c c__law_refused hr (by decide) rfl (pa_cons (pv 2) (pa_cons (pv 11) (pa_cons (pv 12) pa_nil)))))) (pss_one (ps_ret pe_bl)) pss_nil)
      (pss_cons (ps_set (i := 13) sc_law.nd rfl (Or.inl rfl) (pe_c c__law_naming hr (by decide) rfl (pa_cons (pv 1) (pa_cons (pv 2) pa_nil))))
      (pss_cons (ps_if (pt_cmpR (kNeD (K := K) rfl hr.units) (kFld (K := K) rfl (pe_callK0 (E := C8.E0) Fn1 hr6 rfl m1 F1.kp (kb_told F1) C8.pass0 (pk_cons (pv 13) (pk_cons (pv 2) pk_nil))) rfl) (pe_callTy (kTupOf (K := K) rfl) (by rfl) T.tuple (by decide +kernel) (pa_cons (pe_c c__law_due hr (by decide) rfl (pa_cons (pv 2) (pa_cons (pv 13) pa_nil))) pa_nil)) (nomark _)) (pss_one (ps_ret pe_bl)) pss_nil)
      (pss_one (ps_ret (pe_and (pe_cmpR (op_eqG (rcG_ins (E := C8.E0) Fe he hfe hbe C8.pass0) hre) (pe_c c_told_book hr (by decide) rfl (pa_cons (pv 2) (pa_cons (pv 3) pa_nil))) (pv 5) (nomark _)) (pe_one (pe_cmpR (kEqD (K := K) rfl hr.units) (kFld (K := K) rfl (pv 5) rfl) (pe_callTy (kTupOf (K := K) rfl) (by rfl) T.tuple (by decide +kernel) (pa_cons (pv 4) pa_nil)) (nomark _))))))))))))))))))), ?_⟩
    -- the deal
    refine ⟨.ref a, rfl, a, xs, 46, rfl, hsq, hlen, fun d c H1 e1 dl1 => ?_⟩
    refine d_set (R := intP fun r => 1 ≤ r ∧ r ≤ 4) dl1 (ed_I0 (p := fun r => r = 1) (q := fun r => 0 ≤ r ∧ r < 4) (g := fun i j => i + j) ed_ci (ed_any (b := 4) rfl ed_c (by omega) (by omega)) fun i j hi hj => by omega) fun v2 H2 x2 p2 => ?_
    obtain ⟨nn, rfl, m1', m4⟩ := p2
    obtain ⟨n, rfl⟩ : ∃ n : Nat, nn = n := ⟨nn.toNat, by omega⟩
    have n1 : 1 ≤ n := by omega
    have n4 : n ≤ 4 := by omega
    -- the naming, the due ones, the book
    refine ⟨.ref d, rfl, .int n, rfl, d, c, n, rfl, x2.deal, n1, n4, fun vv H3 ns x3 pv hN => ?_⟩
    refine ⟨.int n, rfl, vv, rfl, n, vv, ns, rfl, n1, n4, hN, pv, fun vd H4 bs e4 pd bk => ?_⟩
    refine ⟨.int n, rfl, vv, rfl, n, vv, ns, rfl, (nmR ns).up e4 pv, hN, n1, n4, fun vb H5 bs' e5 pb bk' => ?_⟩
    cases bk.uniq bk'
    obtain ⟨o, bd, rfl, hB, hbd, -, -⟩ := pb
    have h0 : Deal d c H3 := x3.deal
    have L5 : LS C d c n ns bs o bd vv vd H3 H5 := ⟨(h0.ex e4).ex e5, (nmR ns).up (e4.trans e5) pv, (lstN H3 _).up e5 pd, hB⟩
    have bR : ∀ {H'}, LS C d c n ns bs o bd vv vd H3 H' → (bookR C n bs).p (.ref o) H' := fun l => ⟨o, bd, rfl, l.bk⟩
    have hsum := due_sum hN bk
    refine p_skip (Evl.et_is (Evl.et_or (a := false) (Evl.et_is (Evl.et_not (et_ep (b := true) (ep_isBook (ep_var rfl (bR L5))))) rfl) fun _ => Evl.et_or (a := false) (Evl.et_is (et_neI (ep_kinds B (ep_var rfl (bR L5))) (ep_v rfl)) (by simp)) fun _ => Evl.et_or (a := false) (b := false) (Evl.et_is (Evl.et_not (et_ep (b := true) (ep_isTup (Rs := bs.map tupI) (ep_batches B (ep_var rfl (bR L5)))))) rfl) fun _ => Evl.et_is (et_ep (ep_neT (ep_batches B (ep_var rfl (bR L5))) (ep_tupleL (Rs := bs.map tupI) (ep_var rfl (lstN_R L5.du))))) (by simp)) rfl) fun H6 e6 => ?_
    have L6 := L5.dx h0 (.of L5.dl e6)
    refine p_for (l_forT (Rs := bs.map tupI) (ep_batches B (ep_var rfl (bR L6))) fun H7 e7 => ⟨{
      Pv := fun i σ' H' => ∃ a6, σ' = [some (.ref a), some (.ref d), some (.int n), some vv, some vd, some (.ref o), a6, none, none, none, none, none, none, none, none, none] ∧ Ex H7 H'
      h0 := ⟨_, rfl, Ex.refl _⟩
      hk := fun _ _ _ _ ⟨_, _, e⟩ => Tk.of e
      hs := ?_
      hd := ?_ }⟩)
    · rintro i u σ' H8 H9 hi ⟨a6, rfl, e8⟩ e9 ⟨R, hR, pR⟩
      obtain ⟨b, hb, rfl⟩ := getR hR
      have hbm := ((bk.mem b).mp (List.mem_of_getElem? hb)).1.1
      have pb := (tupI b).up (e8.trans e9) pR
      show gName 6 _ _ _ _
      refine Evl.s_when (b := false) (Evl.et_is (Evl.et_or (a := false) (b := false) (Evl.et_is (Evl.et_not (et_ep (b := true) (ep_isTup (tupR_I (ep_var rfl pb))))) rfl) fun _ => Evl.et_is (et_ep (ep_neLi (a := []) (b := []) (lstI_R (EvP.cast (ep_lc1 (n := b.length) (f := fun _ => false) (Rs := fun i => Rp.v (.int (b.getD i 0))) (EvW.len (ew_tup (Rs := b.map fun m => Rp.v (.int m)) (tupR_I (ep_var rfl pb))) (by simp)) (small (by omega)) (fun _ _ => inferInstance) (fun _ => rfl)
        (fun i x H2 hi e hx => ?_) fun i x H2 hi e hx hf => (by cases hf)) ?_)) (lstI_R (ep_lst ea_nil (Nat.zero_le _))))) (by simp)) rfl) (fun z => by cases z) fun _ HA eA => ⟨_, rfl, (e8.trans e9).trans eA⟩
      · obtain ⟨R, hR, pR⟩ := hx
        obtain ⟨m, hm, rfl⟩ := getR hR
        cases (show x = V.int m from pR)
        exact Evl.et_is (Evl.et_or (a := false) (b := false) (Evl.et_is (Evl.et_not (et_ep (ep_isi (a := .int m) (ep_var rfl (by simp only [anyR]; rfl))))) rfl) fun _ => Evl.et_is (et_ep (ep_isi (a := .int m) (ep_var rfl (by simp only [anyR]; rfl)))) rfl) rfl
      · unfold kept
        rw [show (List.range b.length).filter (fun _ => false) = [] from List.filter_eq_nil_iff.mpr (by simp)]; rfl
    rintro σ' H8 ⟨a6, rfl, e8⟩
    have e58 := (e6.trans e7).trans e8
    have L8 := L5.dx h0 (.of L5.dl e58)
    have hbd8 := e58 _ _ hbd
    clear L5 L6 hbd hB
    -- three crowds
    refine p_for (l_forR1 (j := 3) (ea_cons ep_c ea_nil) (by omega) fun H9 e9 => ⟨{
      Pv := fun i σ' H' => ∃ a7 a8 a9 a10, σ' = [some (.ref a), some (.ref d), some (.int n), some vv, some vd, some (.ref o), a6, a7, a8, a9, a10, none, none, none, none, none] ∧ DX d c H8 H'
      h0 := ⟨_, _, _, _, rfl, .of L8.dl e9⟩
      hk := fun _ _ _ _ _ => trivial
      hs := ?_
      hd := ?_ }⟩)
    · rintro i u σ' HA HB hi ⟨a7, a8, a9, a10, rfl, xA⟩ eB rfl
      show gName 7 _ _ _ _
      have xB := xA.trans (.of xA.deal eB)
      have LB := L8.dx h0 xB
      refine d_set (R := crR n 12) xB.deal ((ed_tupleL (n := n) (p := fun r => 0 ≤ r ∧ r ≤ 3) (ed_lcR (R := intP fun r => 0 ≤ r ∧ r ≤ 3) xB.deal (by omega) (fun H1 x1 => ea_cons (ep_v rfl) ea_nil) (fun _ => rfl) fun x => ?_)).weak fun v H1 x1 ⟨hs, h1, h2, h3⟩ => ⟨hs, h1, ⟨h2, fun y hy => (h3 y hy).1⟩, by have := sum3 h3; omega⟩) fun vc HC xC pC => ?_
      · refine (ed_of (H0 := HB) (Rs := [0, 0, 1, 2, 3].map fun m => Rp.v (.int m)) rfl xB.deal (ed_p fun H7 x7 => ep_ints (NW.dx xB.deal x7) [0, 0, 1, 2, 3] (by simp)) (by simp) (by simp) fun R hR => ?_).weak fun v H1 x1 ⟨R, hR, pR⟩ => ?_
        · obtain ⟨m, _, rfl⟩ := List.mem_map.mp hR
          exact dst_stab _
        · obtain ⟨m, hm, rfl⟩ := List.mem_map.mp hR
          refine ⟨m, pR, ?_⟩
          simp at hm
          omega
      refine d_optSet (R := crR n 12) xC.deal (etd_eq (ed_any rfl ed_c (by omega) (by omega))) (ed_p fun H1 x1 => ?_) (dst_stab _) ⟨vc, rfl, pC⟩ fun vc2 HD xD pD => ?_
      · refine (tupI_R (ns := zeros n) (EvP.cast (ep_rep (k := n) (ep_tup (ea_cons ep_c ea_nil) (by simp)) (ep_v rfl) (by omega) (by omega)) ?_)).weak fun v H2 e2 p => ⟨zeros n, p, dom_zeros n, by rw [sum_zeros]; omega⟩
        unfold zeros
        rw [List.map_replicate]; rfl
      have LD := LB.dx h0 (xC.trans xD)
      refine p_for (l_forRD (p := fun r => 0 ≤ r ∧ r < 4 ∧ (0 < r → bs ≠ [])) LD.dl (ed_if (b := !decide (bs = [])) (fun H1 x1 => et_ep (ep_neLr (ep_var rfl (lstN_R (LD.dx h0 x1).du)) (ep_lst ea_nil (Nat.zero_le _)))) (fun hb => (ed_any (b := 4) rfl ed_c (by omega) (by omega)).weak fun v H1 x1 ⟨r, h1, h2, h3⟩ => ⟨r, h1, h2, h3, fun _ => by simpa using hb⟩) fun hb => ed_c.weak fun v H1 x1 p => ⟨0, p, by omega, by omega, fun z => by omega⟩) (fun r hr => by omega) fun j HE xE hj => ⟨{
        Pv := fun i' σ' H' => ∃ a9 vc', σ' = [some (.ref a), some (.ref d), some (.int n), some vv, some vd, some (.ref o), a6, some (.int i), some vc', a9, a10, none, none, none, none, none] ∧ DX d c HE H' ∧ (crR n (12 + 24 * (i' : Int))).p vc' H'
        h0 := ⟨_, _, rfl, .refl xE.deal, by have := dst_stab (crR n 12) LD.dl xE pD; simpa using this⟩
        hk := fun _ _ _ _ _ => trivial
        hs := ?_
        hd := ?_ }⟩)
      · rintro t u σ' HF HG ht ⟨a9', vc', rfl, xF, pF⟩ eG rfl
        show gName 9 _ _ _ _
        have xG := xF.trans (.of xF.deal eG)
        have LG := LD.dx h0 (xE.trans xG)
        have hne : bs ≠ [] := hj.2.2 (by omega)
        refine dl_set (R := crR n (12 + 24 * ((t + 1 : Nat) : Int))) LG.dl (ed_pur (Rs := [crR n (12 + 24 * (t : Int)), oneOf (bs.map tupI)]) (eda_cons (ed_var LG.dl (dst_stab _) rfl ((crR n _).up eG pF)) (dst_stab _) (eda_cons (ed_of (H0 := H3) rfl h0 (ed_var LG.dl (dst_lstN h0 fun R hR => ?_) rfl LG.du) ?_ ?_ fun R hR => ?_) ?_ eda_nil)) fun vs H7 x7 p => ?_) fun v7 H7 x7 p7 => ⟨_, _, rfl, xG.trans x7, p7⟩
        · obtain ⟨b, _, rfl⟩ := List.mem_map.mp hR
          exact dst_stab _
        · rw [List.length_map]; exact List.length_pos_iff.mpr hne
        · rw [List.length_map]; exact due_len hN n4 bk
        · obtain ⟨b, _, rfl⟩ := List.mem_map.mp hR
          exact dst_stab _
        · intro v H H' hd x ⟨R, hR, pR⟩
          obtain ⟨b, _, rfl⟩ := List.mem_map.mp hR
          exact ⟨_, hR, dst_stab _ hd x pR⟩
        · match vs, p with
          | [z1, z2], p =>
            obtain ⟨⟨cr, p1, cd, cs⟩, ⟨R, hR, pR⟩, _⟩ := p
            obtain ⟨b, hb, rfl⟩ := List.mem_map.mp hR
            have hbd := ((bk.mem b).mp hb).1
            refine ⟨tupI (vadd cr b), ⟨z1, z2, cr, b, rfl, p1, pR, by rw [cd.1, hbd.1], by rw [cd.1]; omega, rfl⟩, fun v H2 p => ⟨_, p, cd.add hbd, ?_⟩⟩
            rw [sum_add cd.1 hbd.1]
            have := hsum b hb
            omega
      · rintro σ' HF ⟨a9', vc', rfl, xF, cr, pc, cd, cs⟩
        have LF := LD.dx h0 (xE.trans xF)
        refine ⟨.ref d, rfl, (ep_batches B (ep_var rfl (bR LF))) HF (Ex.refl _) _ fun vt HG eG pt => ?_⟩
        refine ⟨vc', rfl, d, c, vt, vc', n, ns, bs, cr, rfl, LF.dl.ex eG, n4, ker_zv (k := n) (vs := ns) hN.len, bk, due_len hN n4 bk, pt, (tupI cr).up eG pc, cd, by omega, fun vr HH r xH pr rd hz => ?_⟩
        have LG := LF.dx h0 (.of LF.dl eG)
        have LH := LG.dx h0 xH
        have pcH := dst_stab (tupI cr) LG.dl xH ((tupI cr).up eG pc)
        refine Evl.s_when (b := false) (Evl.et_is (et_ep (ep_neB (a := decide (r.sum = 0)) (b := zvB ns cr) (ep_eqI (ep_sumT (ep_var rfl pr)) ep_c) (et_zero (k := n) (ep_var rfl LH.nm) (ep_var rfl pcH) (fun p hp => ⟨hN.len p hp, (hN.ok p hp).1⟩) n4 cd (by omega)))) ?_) (fun z => by cases z) fun _ HI eI => ⟨_, _, _, _, rfl, ((((xB.trans xC).trans xD).trans xE).trans xF).trans ((DX.of xF.deal eG).trans (xH.trans (.of xH.deal eI)))⟩
        have : decide (r.sum = 0) = zvB ns cr := by rw [Bool.eq_iff_iff, decide_eq_true_iff, hz, zvB_iff]
        rw [this]
        simp
    rintro σ' HA ⟨a7, a8, a9, a10, rfl, xA⟩
    have LA := L8.dx h0 xA
    have hbdA := xA.dK L8.dl hbd8
    clear L8 hbd8
    -- is the book safe?
    dsimp only
    refine p_test (M := fun H' => LS C d c n ns bs o bd vv vd H3 H') (fun Q q => ?_) fun HB LB => ?_
    · refine (show EvT _ _ HA (decide (((bs.map tupI).length : Int) < 5)) from et_I0 (p := fun i j => decide (i < j)) (ep_lenL (ep_var rfl (lstN_R LA.du))) ep_c) HA (Ex.refl _) _ fun HB eB => ?_
      have LB := LA.dx h0 (.of LA.dl eB)
      refine L2.ite2 (fun h5 => ?_) fun _ => q HB LB
      have h5 := of_decide_eq_true h5
      rw [List.length_map] at h5
      obtain ⟨m, hm, ht⟩ := max_ex (0 :: bs.map List.sum) (by simp)
      refine (show EvT _ _ HB (decide (m < 4)) from et_I0 (p := fun i j => decide (i < j)) (ep_max (ns := 0 :: bs.map List.sum) (EvP.cast (ep_cat (Rs := [Rp.v (.int 0)]) (Ss := bs.map fun b => Rp.v (.int b.sum)) (ep_lst (ea_cons ep_c ea_nil) (by simp)) ?_ (by simp; omega)) (by rw [List.map_cons, List.map_map]; rfl)) (by simp) fun x hx hx2 => ?_) ep_c) HB (Ex.refl _) _ fun HC eC => ?_
      · refine EvP.cast (ep_lc1 (n := bs.length) (f := fun _ => true) (Rs := fun i => Rp.v (.int (bs.getD i []).sum)) (EvW.len (ew_lst (Rs := bs.map tupI) (ep_var rfl (lstN_R LB.du))) (by simp)) (small (by omega)) (fun _ _ => inferInstance) (fun _ => rfl) (fun i x H2 hi e hx => et_yes) fun i x H2 hi e ⟨R, hR, pR⟩ _ => ?_) ?_
        · obtain ⟨b, hb, rfl⟩ := getR hR
          rw [getD_of hb]
          exact ep_sumT (ep_var rfl pR)
        · exact (congrArg lstR (kept_filter bs [] (fun _ => true) fun b => Rp.v (.int b.sum))).trans (by rw [List.filter_eq_self.mpr fun _ _ => rfl])
      · have h1 := ht x hx
        have h2 := hx2 m hm
        omega
      have LC := LB.dx h0 (.of LB.dl eC)
      refine L2.ite2 (fun h4 => ?_) fun _ => q HC LC
      have h4 := of_decide_eq_true h4
      have hbdC := eC _ _ (eB _ _ hbdA)
      exact ⟨.ref o, rfl, o, bd, n, Zv ns, bs, rfl, LC.bk, hbdC, safe_of n1 n4 hN.len bk (by omega) (fun b hb => by have := ht b.sum (List.mem_cons_of_mem _ (List.mem_map.mpr ⟨b, hb, rfl⟩)); omega), fun HD xD => ⟨true, true, rfl, rfl, false, rfl, q HD (LC.exb hbdC xD)⟩⟩
    -- what is no naming
    refine ⟨.ref d, rfl, .int n, rfl, vv, rfl, d, c, n, vv, ns, rfl, LB.dl, n1, n4, LB.nm, hN.ok, by have := hN.short; omega, fun T2 y HC b at_ xC hT pa hbad hsm => ?_⟩
    refine ⟨T2, [y, .int at_], rfl, sqT_of hT, rfl, y, [.int at_], rfl, .int at_, [], rfl, rfl, ?_⟩
    dsimp only
    refine p_skip (Evl.et_is (Evl.et_not (et_epB (b := true) fun H1 e1 Q q => ⟨.int n, rfl, y, rfl, .int at_, rfl, n, y, b, at_, rfl, by omega, (anyR b).up e1 pa, hbad, hsm, fun H' e' => q _ H' e' rfl⟩)) rfl) fun HD eD => ?_
    have LD := LB.dx h0 (xC.trans (.of xC.deal eD))
    -- another naming
    refine ⟨.ref d, rfl, .int n, rfl, d, c, n, rfl, LD.dl, n1, n4, fun vo HE ns2 xE po hN2 => ?_⟩
    have LE := LD.dx h0 xE
    dsimp only [gName]
    refine p_skip (Evl.et_is (et_ep (b := false) (ep_op (Ra := bkT n ns2) (Rb := bkT n ns2) (fun H1 e1 Q q => ⟨vo, rfl, .int n, rfl, n, vo, ns2, rfl, (nmR ns2).up e1 po, hN2, n1, n4, fun vb H2 bs2 e2 pb bk2 => ?_⟩) (fun H1 e1 Q q => ⟨.int n, rfl, vo, rfl, n, vo, ns2, rfl, n1, n4, hN2, (nmR ns2).up e1 po, fun v2 H2 bs2 e2 p2 bk2 => ?_⟩) fun x y H1 e1 px py => ?_)) rfl) fun HF eF => ?_
    · obtain ⟨o2, d2, hv, ⟨dx, t, h1, h2⟩, _⟩ := pb
      exact ⟨o2, C, dx, _, _, hv, h1, B.cl, B.nB, bf_batches _ _ _, q _ _ e2 ⟨bs2, bk2, h2⟩⟩
    · exact (show EvP (tCB (rTupOf K) (tCons (tC v2) tNil)) [] H2 (tupT bs2) from ep_tupleL fun H3 e3 Q3 q3 => q3 v2 H3 (Ex.refl _) ((lstR _).up e3 (lstN_R p2))) H2 (Ex.refl _) Q fun u H3 e3 pu => q u H3 (e2.trans e3) ⟨bs2, bk2, pu⟩
    · obtain ⟨b1, k1, p1⟩ := px
      obtain ⟨b2, k2, p2⟩ := py
      cases k1.uniq k2
      exact Gi.now (fun Q q => ⟨_, _, dp_tupT p1, dp_tupT p2, shaped_T b1, shaped_T b1, q⟩) (by rw [eqv_T]; show V.bl _ = V.bl _; simp)
    have LF := LE.dx h0 (.of LE.dl eF)
    refine p_ret (R := Rp.v (.bl true)) (EvP.cast (ep_and (b := true) (c := true) (ep_op (Ra := bookR C n bs) (Rb := bookR C n bs) (fun H1 e1 Q q => ⟨.int n, rfl, vv, rfl, n, vv, ns, rfl, (nmR ns).up e1 LF.nm, hN, n1, n4, fun vb H2 bs2 e2 pb bk2 => ?_⟩) (ep_var rfl (bR LF)) fun x y H1 e1 px py => ?_) fun _ => EvP.cast (ep_eqT (ep_batches B (ep_var rfl (bR LF))) (ep_tupleL (Rs := bs.map tupI) (ep_var rfl (lstN_R LF.du)))) (by simp)) rfl) fun v HG eG pv => by
      cases (show v = V.bl true from pv)
      exact k HG
    · cases bk.uniq bk2
      exact q _ _ e2 (bookN_R pb)
    · obtain ⟨o1, d1, rfl, hb1⟩ := px
      obtain ⟨o2, d2, rfl, hb2⟩ := py
      obtain ⟨dx1, t1, h1, h1'⟩ := id hb1
      obtain ⟨dx2, t2, h2, h2'⟩ := id hb2
      exact fun Q q => ⟨⟨o1, o2, _, _, _, _, rfl, rfl, h1, h2, n, bs, d1, d2, hb1, hb2⟩, fun H' e => q _ H' e rfl⟩
end
end NL
end
section
set_option linter.all false
set_option Elab.async false
set_option maxRecDepth 100000
/-! G1: what the program's top leaves, and the promises joined. -/
namespace NL
open PySem PySem.Spec PyProof.Rows L2
section
variable {P : Program} {w : World} {K : PySem.W.Frag} {h : Heap} {mg : Str → Option Value}
theorem dn_mk {x : Str} {st : Stmt} {ps : List Str} {f : Addr} {oc : Value} {od an : Option Addr} {osl : Array (Option Value)} {kV dc pm cd ct : Value} (b : ∀ (kV doc pm : Value) (an : Option Addr) (cdv ct : Value) (us : List Value), us.length = ps.length → bindArgs (PySem.W.fnOf x x (defArgs st) (defBody st) (defScope st) .none kV doc pm an cdv ct) ⟨us, []⟩ = pure (ps.zip us))
    (X : K.In h) (G : h.Ns mainGlobals mg) (a : PySem.W.nsIn K mainGlobals x = some (some (.ref f))) (l : K.lookup f = some ⟨oc, od, .func (PySem.W.fnOf x x (defArgs st) (defBody st) (defScope st) .none kV dc pm an cd ct), osl⟩) (c : PySem.W.codeIn K cd x = true) (k : PySem.W.keepIn K (.ref f) = true) : Dn K mg x st ps :=
  ⟨f, _, fun_mk l c k, PySem.W.mg_of X G a, (fun_mk l c k).binds b⟩
theorem md_mk {C : Addr} {x qual : Str} {st : Stmt} {ps : List Str} {f : Addr} {oc : Value} {od an : Option Addr} {osl : Array (Option Value)} {kV dc pm cd ct : Value} (b : ∀ (kV doc pm : Value) (an : Option Addr) (cdv ct : Value) (us : List Value), us.length = ps.length → bindArgs (PySem.W.fnOf x qual (defArgs st) (defBody st) (defScope st) .none kV doc pm an cdv ct) ⟨us, []⟩ = pure (ps.zip us))
    (a : PySem.W.findIn K (.ref C) x = some (some (.ref f))) (i : PySem.W.isFn K (.ref f) = true) (l : K.lookup f = some ⟨oc, od, .func (PySem.W.fnOf x qual (defArgs st) (defBody st) (defScope st) .none kV dc pm an cd ct), osl⟩) (c : PySem.W.codeIn K cd qual = true) (k : PySem.W.keepIn K (.ref f) = true) : MDn K C x qual st ps :=
  ⟨f, _, fun_mk l c k, (fun_mk l c k).binds b, a, i, k⟩
theorem dn_is_integer {f : Addr} {oc : Value} {od an : Option Addr} {osl : Array (Option Value)} {kV dc pm cd ct : Value} (X : K.In h) (G : h.Ns mainGlobals mg) (a : PySem.W.nsIn K mainGlobals "is_integer" = some (some (.ref f))) (l : K.lookup f = some ⟨oc, od, .func (PySem.W.fnOf "is_integer" "is_integer" (defArgs s_is_integer) (defBody s_is_integer) (defScope s_is_integer) .none kV dc pm an cd ct), osl⟩) (c : PySem.W.codeIn K cd "is_integer" = true) (k : PySem.W.keepIn K (.ref f) = true) : Dn K mg "is_integer" s_is_integer p_is_integer :=
  dn_mk (fun _ _ _ _ _ _ us hl => match us, hl with | [_], _ => rfl) X G a l c k
theorem dn_is_number {f : Addr} {oc : Value} {od an : Option Addr} {osl : Array (Option Value)} {kV dc pm cd ct : Value} (X : K.In h) (G : h.Ns mainGlobals mg) (a : PySem.W.nsIn K mainGlobals "is_number" = some (some (.ref f))) (l : K.lookup f = some ⟨oc, od, .func (PySem.W.fnOf "is_number" "is_number" (defArgs s_is_number) (defBody s_is_number) (defScope s_is_number) .none kV dc pm an cd ct), osl⟩) (c : PySem.W.codeIn K cd "is_number" = true) (k : PySem.W.keepIn K (.ref f) = true) : Dn K mg "is_number" s_is_number p_is_number :=
  dn_mk (fun _ _ _ _ _ _ us hl => match us, hl with | [_], _ => rfl) X G a l c k
theorem dn_is_sequence {f : Addr} {oc : Value} {od an : Option Addr} {osl : Array (Option Value)} {kV dc pm cd ct : Value} (X : K.In h) (G : h.Ns mainGlobals mg) (a : PySem.W.nsIn K mainGlobals "is_sequence" = some (some (.ref f))) (l : K.lookup f = some ⟨oc, od, .func (PySem.W.fnOf "is_sequence" "is_sequence" (defArgs s_is_sequence) (defBody s_is_sequence) (defScope s_is_sequence) .none kV dc pm an cd ct), osl⟩) (c : PySem.W.codeIn K cd "is_sequence" = true) (k : PySem.W.keepIn K (.ref f) = true) : Dn K mg "is_sequence" s_is_sequence p_is_sequence :=
  dn_mk (fun _ _ _ _ _ _ us hl => match us, hl with | [_], _ => rfl) X G a l c k
theorem dn_within {f : Addr} {oc : Value} {od an : Option Addr} {osl : Array (Option Value)} {kV dc pm cd ct : Value} (X : K.In h) (G : h.Ns mainGlobals mg) (a : PySem.W.nsIn K mainGlobals "within" = some (some (.ref f))) (l : K.lookup f = some ⟨oc, od, .func (PySem.W.fnOf "within" "within" (defArgs s_within) (defBody s_within) (defScope s_within) .none kV dc pm an cd ct), osl⟩) (c : PySem.W.codeIn K cd "within" = true) (k : PySem.W.keepIn K (.ref f) = true) : Dn K mg "within" s_within p_within :=
  dn_mk (fun _ _ _ _ _ _ us hl => match us, hl with | [_, _], _ => rfl) X G a l c k
theorem dn_less {f : Addr} {oc : Value} {od an : Option Addr} {osl : Array (Option Value)} {kV dc pm cd ct : Value} (X : K.In h) (G : h.Ns mainGlobals mg) (a : PySem.W.nsIn K mainGlobals "less" = some (some (.ref f))) (l : K.lookup f = some ⟨oc, od, .func (PySem.W.fnOf "less" "less" (defArgs s_less) (defBody s_less) (defScope s_less) .none kV dc pm an cd ct), osl⟩) (c : PySem.W.codeIn K cd "less" = true) (k : PySem.W.keepIn K (.ref f) = true) : Dn K mg "less" s_less p_less :=
  dn_mk (fun _ _ _ _ _ _ us hl => match us, hl with | [_, _], _ => rfl) X G a l c k
theorem dn_more {f : Addr} {oc : Value} {od an : Option Addr} {osl : Array (Option Value)} {kV dc pm cd ct : Value} (X : K.In h) (G : h.Ns mainGlobals mg) (a : PySem.W.nsIn K mainGlobals "more" = some (some (.ref f))) (l : K.lookup f = some ⟨oc, od, .func (PySem.W.fnOf "more" "more" (defArgs s_more) (defBody s_more) (defScope s_more) .none kV dc pm an cd ct), osl⟩) (c : PySem.W.codeIn K cd "more" = true) (k : PySem.W.keepIn K (.ref f) = true) : Dn K mg "more" s_more p_more :=
  dn_mk (fun _ _ _ _ _ _ us hl => match us, hl with | [_, _], _ => rfl) X G a l c k
theorem dn_nobody {f : Addr} {oc : Value} {od an : Option Addr} {osl : Array (Option Value)} {kV dc pm cd ct : Value} (X : K.In h) (G : h.Ns mainGlobals mg) (a : PySem.W.nsIn K mainGlobals "nobody" = some (some (.ref f))) (l : K.lookup f = some ⟨oc, od, .func (PySem.W.fnOf "nobody" "nobody" (defArgs s_nobody) (defBody s_nobody) (defScope s_nobody) .none kV dc pm an cd ct), osl⟩) (c : PySem.W.codeIn K cd "nobody" = true) (k : PySem.W.keepIn K (.ref f) = true) : Dn K mg "nobody" s_nobody p_nobody :=
  dn_mk (fun _ _ _ _ _ _ us hl => match us, hl with | [_], _ => rfl) X G a l c k
theorem dn_is_batch {f : Addr} {oc : Value} {od an : Option Addr} {osl : Array (Option Value)} {kV dc pm cd ct : Value} (X : K.In h) (G : h.Ns mainGlobals mg) (a : PySem.W.nsIn K mainGlobals "is_batch" = some (some (.ref f))) (l : K.lookup f = some ⟨oc, od, .func (PySem.W.fnOf "is_batch" "is_batch" (defArgs s_is_batch) (defBody s_is_batch) (defScope s_is_batch) .none kV dc pm an cd ct), osl⟩) (c : PySem.W.codeIn K cd "is_batch" = true) (k : PySem.W.keepIn K (.ref f) = true) : Dn K mg "is_batch" s_is_batch p_is_batch :=
  dn_mk (fun _ _ _ _ _ _ us hl => match us, hl with | [_, _], _ => rfl) X G a l c k
theorem dn_is_pair {f : Addr} {oc : Value} {od an : Option Addr} {osl : Array (Option Value)} {kV dc pm cd ct : Value} (X : K.In h) (G : h.Ns mainGlobals mg) (a : PySem.W.nsIn K mainGlobals "is_pair" = some (some (.ref f))) (l : K.lookup f = some ⟨oc, od, .func (PySem.W.fnOf "is_pair" "is_pair" (defArgs s_is_pair) (defBody s_is_pair) (defScope s_is_pair) .none kV dc pm an cd ct), osl⟩) (c : PySem.W.codeIn K cd "is_pair" = true) (k : PySem.W.keepIn K (.ref f) = true) : Dn K mg "is_pair" s_is_pair p_is_pair :=
  dn_mk (fun _ _ _ _ _ _ us hl => match us, hl with | [_, _], _ => rfl) X G a l c k
theorem dn_told_hours {f : Addr} {oc : Value} {od an : Option Addr} {osl : Array (Option Value)} {kV dc pm cd ct : Value} (X : K.In h) (G : h.Ns mainGlobals mg) (a : PySem.W.nsIn K mainGlobals "told_hours" = some (some (.ref f))) (l : K.lookup f = some ⟨oc, od, .func (PySem.W.fnOf "told_hours" "told_hours" (defArgs s_told_hours) (defBody s_told_hours) (defScope s_told_hours) .none kV dc pm an cd ct), osl⟩) (c : PySem.W.codeIn K cd "told_hours" = true) (k : PySem.W.keepIn K (.ref f) = true) : Dn K mg "told_hours" s_told_hours p_told_hours :=
  dn_mk (fun _ _ _ _ _ _ us hl => match us, hl with | [_, _], _ => rfl) X G a l c k
theorem dn_unit_rows {f : Addr} {oc : Value} {od an : Option Addr} {osl : Array (Option Value)} {kV dc pm cd ct : Value} (X : K.In h) (G : h.Ns mainGlobals mg) (a : PySem.W.nsIn K mainGlobals "unit_rows" = some (some (.ref f))) (l : K.lookup f = some ⟨oc, od, .func (PySem.W.fnOf "unit_rows" "unit_rows" (defArgs s_unit_rows) (defBody s_unit_rows) (defScope s_unit_rows) .none kV dc pm an cd ct), osl⟩) (c : PySem.W.codeIn K cd "unit_rows" = true) (k : PySem.W.keepIn K (.ref f) = true) : Dn K mg "unit_rows" s_unit_rows p_unit_rows :=
  dn_mk (fun _ _ _ _ _ _ us hl => match us, hl with | [_], _ => rfl) X G a l c k
theorem dn_least_sums_by {f : Addr} {oc : Value} {od an : Option Addr} {osl : Array (Option Value)} {kV dc pm cd ct : Value} (X : K.In h) (G : h.Ns mainGlobals mg) (a : PySem.W.nsIn K mainGlobals "least_sums_by" = some (some (.ref f))) (l : K.lookup f = some ⟨oc, od, .func (PySem.W.fnOf "least_sums_by" "least_sums_by" (defArgs s_least_sums_by) (defBody s_least_sums_by) (defScope s_least_sums_by) .none kV dc pm an cd ct), osl⟩) (c : PySem.W.codeIn K cd "least_sums_by" = true) (k : PySem.W.keepIn K (.ref f) = true) : Dn K mg "least_sums_by" s_least_sums_by p_least_sums_by :=
  dn_mk (fun _ _ _ _ _ _ us hl => match us, hl with | [_, _, _], _ => rfl) X G a l c k
theorem dn_checked_naming {f : Addr} {oc : Value} {od an : Option Addr} {osl : Array (Option Value)} {kV dc pm cd ct : Value} (X : K.In h) (G : h.Ns mainGlobals mg) (a : PySem.W.nsIn K mainGlobals "checked_naming" = some (some (.ref f))) (l : K.lookup f = some ⟨oc, od, .func (PySem.W.fnOf "checked_naming" "checked_naming" (defArgs s_checked_naming) (defBody s_checked_naming) (defScope s_checked_naming) .none kV dc pm an cd ct), osl⟩) (c : PySem.W.codeIn K cd "checked_naming" = true) (k : PySem.W.keepIn K (.ref f) = true) : Dn K mg "checked_naming" s_checked_naming p_checked_naming :=
  dn_mk (fun _ _ _ _ _ _ us hl => match us, hl with | [_, _], _ => rfl) X G a l c k
theorem dn_told_book {f : Addr} {oc : Value} {od an : Option Addr} {osl : Array (Option Value)} {kV dc pm cd ct : Value} (X : K.In h) (G : h.Ns mainGlobals mg) (a : PySem.W.nsIn K mainGlobals "told_book" = some (some (.ref f))) (l : K.lookup f = some ⟨oc, od, .func (PySem.W.fnOf "told_book" "told_book" (defArgs s_told_book) (defBody s_told_book) (defScope s_told_book) .none kV dc pm an cd ct), osl⟩) (c : PySem.W.codeIn K cd "told_book" = true) (k : PySem.W.keepIn K (.ref f) = true) : Dn K mg "told_book" s_told_book p_told_book :=
  dn_mk (fun _ _ _ _ _ _ us hl => match us, hl with | [_, _], _ => rfl) X G a l c k
theorem dn_sum_of {f : Addr} {oc : Value} {od an : Option Addr} {osl : Array (Option Value)} {kV dc pm cd ct : Value} (X : K.In h) (G : h.Ns mainGlobals mg) (a : PySem.W.nsIn K mainGlobals "sum_of" = some (some (.ref f))) (l : K.lookup f = some ⟨oc, od, .func (PySem.W.fnOf "sum_of" "sum_of" (defArgs s_sum_of) (defBody s_sum_of) (defScope s_sum_of) .none kV dc pm an cd ct), osl⟩) (c : PySem.W.codeIn K cd "sum_of" = true) (k : PySem.W.keepIn K (.ref f) = true) : Dn K mg "sum_of" s_sum_of p_sum_of :=
  dn_mk (fun _ _ _ _ _ _ us hl => match us, hl with | [_, _], _ => rfl) X G a l c k
theorem dn_is_needless {f : Addr} {oc : Value} {od an : Option Addr} {osl : Array (Option Value)} {kV dc pm cd ct : Value} (X : K.In h) (G : h.Ns mainGlobals mg) (a : PySem.W.nsIn K mainGlobals "is_needless" = some (some (.ref f))) (l : K.lookup f = some ⟨oc, od, .func (PySem.W.fnOf "is_needless" "is_needless" (defArgs s_is_needless) (defBody s_is_needless) (defScope s_is_needless) .none kV dc pm an cd ct), osl⟩) (c : PySem.W.codeIn K cd "is_needless" = true) (k : PySem.W.keepIn K (.ref f) = true) : Dn K mg "is_needless" s_is_needless p_is_needless :=
  dn_mk (fun _ _ _ _ _ _ us hl => match us, hl with | [_, _, _, _], _ => rfl) X G a l c k
theorem dn_batches_with_first {f : Addr} {oc : Value} {od an : Option Addr} {osl : Array (Option Value)} {kV dc pm cd ct : Value} (X : K.In h) (G : h.Ns mainGlobals mg) (a : PySem.W.nsIn K mainGlobals "batches_with_first" = some (some (.ref f))) (l : K.lookup f = some ⟨oc, od, .func (PySem.W.fnOf "batches_with_first" "batches_with_first" (defArgs s_batches_with_first) (defBody s_batches_with_first) (defScope s_batches_with_first) .none kV dc pm an cd ct), osl⟩) (c : PySem.W.codeIn K cd "batches_with_first" = true) (k : PySem.W.keepIn K (.ref f) = true) : Dn K mg "batches_with_first" s_batches_with_first p_batches_with_first :=
  dn_mk (fun _ _ _ _ _ _ us hl => match us, hl with | [_, _], _ => rfl) X G a l c k
theorem dn_clearing {f : Addr} {oc : Value} {od an : Option Addr} {osl : Array (Option Value)} {kV dc pm cd ct : Value} (X : K.In h) (G : h.Ns mainGlobals mg) (a : PySem.W.nsIn K mainGlobals "clearing" = some (some (.ref f))) (l : K.lookup f = some ⟨oc, od, .func (PySem.W.fnOf "clearing" "clearing" (defArgs s_clearing) (defBody s_clearing) (defScope s_clearing) .none kV dc pm an cd ct), osl⟩) (c : PySem.W.codeIn K cd "clearing" = true) (k : PySem.W.keepIn K (.ref f) = true) : Dn K mg "clearing" s_clearing p_clearing :=
  dn_mk (fun _ _ _ _ _ _ us hl => match us, hl with | [_, _, _, _], _ => rfl) X G a l c k
theorem dn_covers_of {f : Addr} {oc : Value} {od an : Option Addr} {osl : Array (Option Value)} {kV dc pm cd ct : Value} (X : K.In h) (G : h.Ns mainGlobals mg) (a : PySem.W.nsIn K mainGlobals "covers_of" = some (some (.ref f))) (l : K.lookup f = some ⟨oc, od, .func (PySem.W.fnOf "covers_of" "covers_of" (defArgs s_covers_of) (defBody s_covers_of) (defScope s_covers_of) .none kV dc pm an cd ct), osl⟩) (c : PySem.W.codeIn K cd "covers_of" = true) (k : PySem.W.keepIn K (.ref f) = true) : Dn K mg "covers_of" s_covers_of p_covers_of :=
  dn_mk (fun _ _ _ _ _ _ us hl => match us, hl with | [_, _], _ => rfl) X G a l c k
theorem dn_leaves {f : Addr} {oc : Value} {od an : Option Addr} {osl : Array (Option Value)} {kV dc pm cd ct : Value} (X : K.In h) (G : h.Ns mainGlobals mg) (a : PySem.W.nsIn K mainGlobals "leaves" = some (some (.ref f))) (l : K.lookup f = some ⟨oc, od, .func (PySem.W.fnOf "leaves" "leaves" (defArgs s_leaves) (defBody s_leaves) (defScope s_leaves) .none kV dc pm an cd ct), osl⟩) (c : PySem.W.codeIn K cd "leaves" = true) (k : PySem.W.keepIn K (.ref f) = true) : Dn K mg "leaves" s_leaves p_leaves :=
  dn_mk (fun _ _ _ _ _ _ us hl => match us, hl with | [_], _ => rfl) X G a l c k
theorem dn_all_leaves {f : Addr} {oc : Value} {od an : Option Addr} {osl : Array (Option Value)} {kV dc pm cd ct : Value} (X : K.In h) (G : h.Ns mainGlobals mg) (a : PySem.W.nsIn K mainGlobals "all_leaves" = some (some (.ref f))) (l : K.lookup f = some ⟨oc, od, .func (PySem.W.fnOf "all_leaves" "all_leaves" (defArgs s_all_leaves) (defBody s_all_leaves) (defScope s_all_leaves) .none kV dc pm an cd ct), osl⟩) (c : PySem.W.codeIn K cd "all_leaves" = true) (k : PySem.W.keepIn K (.ref f) = true) : Dn K mg "all_leaves" s_all_leaves p_all_leaves :=
  dn_mk (fun _ _ _ _ _ _ us hl => match us, hl with | [_], _ => rfl) X G a l c k
theorem dn_is_safe {f : Addr} {oc : Value} {od an : Option Addr} {osl : Array (Option Value)} {kV dc pm cd ct : Value} (X : K.In h) (G : h.Ns mainGlobals mg) (a : PySem.W.nsIn K mainGlobals "is_safe" = some (some (.ref f))) (l : K.lookup f = some ⟨oc, od, .func (PySem.W.fnOf "is_safe" "is_safe" (defArgs s_is_safe) (defBody s_is_safe) (defScope s_is_safe) .none kV dc pm an cd ct), osl⟩) (c : PySem.W.codeIn K cd "is_safe" = true) (k : PySem.W.keepIn K (.ref f) = true) : Dn K mg "is_safe" s_is_safe p_is_safe :=
  dn_mk (fun _ _ _ _ _ _ us hl => match us, hl with | [_], _ => rfl) X G a l c k
theorem dn__law_draw {f : Addr} {oc : Value} {od an : Option Addr} {osl : Array (Option Value)} {kV dc pm cd ct : Value} (X : K.In h) (G : h.Ns mainGlobals mg) (a : PySem.W.nsIn K mainGlobals "_law_draw" = some (some (.ref f))) (l : K.lookup f = some ⟨oc, od, .func (PySem.W.fnOf "_law_draw" "_law_draw" (defArgs s__law_draw) (defBody s__law_draw) (defScope s__law_draw) .none kV dc pm an cd ct), osl⟩) (c : PySem.W.codeIn K cd "_law_draw" = true) (k : PySem.W.keepIn K (.ref f) = true) : Dn K mg "_law_draw" s__law_draw p__law_draw :=
  dn_mk (fun _ _ _ _ _ _ us hl => match us, hl with | [_, _], _ => rfl) X G a l c k
theorem dn__law_any {f : Addr} {oc : Value} {od an : Option Addr} {osl : Array (Option Value)} {kV dc pm cd ct : Value} (X : K.In h) (G : h.Ns mainGlobals mg) (a : PySem.W.nsIn K mainGlobals "_law_any" = some (some (.ref f))) (l : K.lookup f = some ⟨oc, od, .func (PySem.W.fnOf "_law_any" "_law_any" (defArgs s__law_any) (defBody s__law_any) (defScope s__law_any) .none kV dc pm an cd ct), osl⟩) (c : PySem.W.codeIn K cd "_law_any" = true) (k : PySem.W.keepIn K (.ref f) = true) : Dn K mg "_law_any" s__law_any p__law_any :=
  dn_mk (fun _ _ _ _ _ _ us hl => match us, hl with | [_, _], _ => rfl) X G a l c k
theorem dn__law_of {f : Addr} {oc : Value} {od an : Option Addr} {osl : Array (Option Value)} {kV dc pm cd ct : Value} (X : K.In h) (G : h.Ns mainGlobals mg) (a : PySem.W.nsIn K mainGlobals "_law_of" = some (some (.ref f))) (l : K.lookup f = some ⟨oc, od, .func (PySem.W.fnOf "_law_of" "_law_of" (defArgs s__law_of) (defBody s__law_of) (defScope s__law_of) .none kV dc pm an cd ct), osl⟩) (c : PySem.W.codeIn K cd "_law_of" = true) (k : PySem.W.keepIn K (.ref f) = true) : Dn K mg "_law_of" s__law_of p__law_of :=
  dn_mk (fun _ _ _ _ _ _ us hl => match us, hl with | [_, _], _ => rfl) X G a l c k
theorem dn__law_within {f : Addr} {oc : Value} {od an : Option Addr} {osl : Array (Option Value)} {kV dc pm cd ct : Value} (X : K.In h) (G : h.Ns mainGlobals mg) (a : PySem.W.nsIn K mainGlobals "_law_within" = some (some (.ref f))) (l : K.lookup f = some ⟨oc, od, .func (PySem.W.fnOf "_law_within" "_law_within" (defArgs s__law_within) (defBody s__law_within) (defScope s__law_within) .none kV dc pm an cd ct), osl⟩) (c : PySem.W.codeIn K cd "_law_within" = true) (k : PySem.W.keepIn K (.ref f) = true) : Dn K mg "_law_within" s__law_within p__law_within :=
  dn_mk (fun _ _ _ _ _ _ us hl => match us, hl with | [_, _], _ => rfl) X G a l c k
theorem dn__law_less {f : Addr} {oc : Value} {od an : Option Addr} {osl : Array (Option Value)} {kV dc pm cd ct : Value} (X : K.In h) (G : h.Ns mainGlobals mg) (a : PySem.W.nsIn K mainGlobals "_law_less" = some (some (.ref f))) (l : K.lookup f = some ⟨oc, od, .func (PySem.W.fnOf "_law_less" "_law_less" (defArgs s__law_less) (defBody s__law_less) (defScope s__law_less) .none kV dc pm an cd ct), osl⟩) (c : PySem.W.codeIn K cd "_law_less" = true) (k : PySem.W.keepIn K (.ref f) = true) : Dn K mg "_law_less" s__law_less p__law_less :=
  dn_mk (fun _ _ _ _ _ _ us hl => match us, hl with | [_, _], _ => rfl) X G a l c k
theorem dn__law_more {f : Addr} {oc : Value} {od an : Option Addr} {osl : Array (Option Value)} {kV dc pm cd ct : Value} (X : K.In h) (G : h.Ns mainGlobals mg) (a : PySem.W.nsIn K mainGlobals "_law_more" = some (some (.ref f))) (l : K.lookup f = some ⟨oc, od, .func (PySem.W.fnOf "_law_more" "_law_more" (defArgs s__law_more) (defBody s__law_more) (defScope s__law_more) .none kV dc pm an cd ct), osl⟩) (c : PySem.W.codeIn K cd "_law_more" = true) (k : PySem.W.keepIn K (.ref f) = true) : Dn K mg "_law_more" s__law_more p__law_more :=
  dn_mk (fun _ _ _ _ _ _ us hl => match us, hl with | [_, _], _ => rfl) X G a l c k
theorem dn__law_zero {f : Addr} {oc : Value} {od an : Option Addr} {osl : Array (Option Value)} {kV dc pm cd ct : Value} (X : K.In h) (G : h.Ns mainGlobals mg) (a : PySem.W.nsIn K mainGlobals "_law_zero" = some (some (.ref f))) (l : K.lookup f = some ⟨oc, od, .func (PySem.W.fnOf "_law_zero" "_law_zero" (defArgs s__law_zero) (defBody s__law_zero) (defScope s__law_zero) .none kV dc pm an cd ct), osl⟩) (c : PySem.W.codeIn K cd "_law_zero" = true) (k : PySem.W.keepIn K (.ref f) = true) : Dn K mg "_law_zero" s__law_zero p__law_zero :=
  dn_mk (fun _ _ _ _ _ _ us hl => match us, hl with | [_, _], _ => rfl) X G a l c k
theorem dn__law_least_by {f : Addr} {oc : Value} {od an : Option Addr} {osl : Array (Option Value)} {kV dc pm cd ct : Value} (X : K.In h) (G : h.Ns mainGlobals mg) (a : PySem.W.nsIn K mainGlobals "_law_least_by" = some (some (.ref f))) (l : K.lookup f = some ⟨oc, od, .func (PySem.W.fnOf "_law_least_by" "_law_least_by" (defArgs s__law_least_by) (defBody s__law_least_by) (defScope s__law_least_by) .none kV dc pm an cd ct), osl⟩) (c : PySem.W.codeIn K cd "_law_least_by" = true) (k : PySem.W.keepIn K (.ref f) = true) : Dn K mg "_law_least_by" s__law_least_by p__law_least_by :=
  dn_mk (fun _ _ _ _ _ _ us hl => match us, hl with | [_, _, _], _ => rfl) X G a l c k
theorem dn__law_due {f : Addr} {oc : Value} {od an : Option Addr} {osl : Array (Option Value)} {kV dc pm cd ct : Value} (X : K.In h) (G : h.Ns mainGlobals mg) (a : PySem.W.nsIn K mainGlobals "_law_due" = some (some (.ref f))) (l : K.lookup f = some ⟨oc, od, .func (PySem.W.fnOf "_law_due" "_law_due" (defArgs s__law_due) (defBody s__law_due) (defScope s__law_due) .none kV dc pm an cd ct), osl⟩) (c : PySem.W.codeIn K cd "_law_due" = true) (k : PySem.W.keepIn K (.ref f) = true) : Dn K mg "_law_due" s__law_due p__law_due :=
  dn_mk (fun _ _ _ _ _ _ us hl => match us, hl with | [_, _], _ => rfl) X G a l c k
theorem dn__law_naming {f : Addr} {oc : Value} {od an : Option Addr} {osl : Array (Option Value)} {kV dc pm cd ct : Value} (X : K.In h) (G : h.Ns mainGlobals mg) (a : PySem.W.nsIn K mainGlobals "_law_naming" = some (some (.ref f))) (l : K.lookup f = some ⟨oc, od, .func (PySem.W.fnOf "_law_naming" "_law_naming" (defArgs s__law_naming) (defBody s__law_naming) (defScope s__law_naming) .none kV dc pm an cd ct), osl⟩) (c : PySem.W.codeIn K cd "_law_naming" = true) (k : PySem.W.keepIn K (.ref f) = true) : Dn K mg "_law_naming" s__law_naming p__law_naming :=
  dn_mk (fun _ _ _ _ _ _ us hl => match us, hl with | [_, _], _ => rfl) X G a l c k
theorem dn__law_spoilt {f : Addr} {oc : Value} {od an : Option Addr} {osl : Array (Option Value)} {kV dc pm cd ct : Value} (X : K.In h) (G : h.Ns mainGlobals mg) (a : PySem.W.nsIn K mainGlobals "_law_spoilt" = some (some (.ref f))) (l : K.lookup f = some ⟨oc, od, .func (PySem.W.fnOf "_law_spoilt" "_law_spoilt" (defArgs s__law_spoilt) (defBody s__law_spoilt) (defScope s__law_spoilt) .none kV dc pm an cd ct), osl⟩) (c : PySem.W.codeIn K cd "_law_spoilt" = true) (k : PySem.W.keepIn K (.ref f) = true) : Dn K mg "_law_spoilt" s__law_spoilt p__law_spoilt :=
  dn_mk (fun _ _ _ _ _ _ us hl => match us, hl with | [_, _, _], _ => rfl) X G a l c k
theorem dn__law_walked {f : Addr} {oc : Value} {od an : Option Addr} {osl : Array (Option Value)} {kV dc pm cd ct : Value} (X : K.In h) (G : h.Ns mainGlobals mg) (a : PySem.W.nsIn K mainGlobals "_law_walked" = some (some (.ref f))) (l : K.lookup f = some ⟨oc, od, .func (PySem.W.fnOf "_law_walked" "_law_walked" (defArgs s__law_walked) (defBody s__law_walked) (defScope s__law_walked) .none kV dc pm an cd ct), osl⟩) (c : PySem.W.codeIn K cd "_law_walked" = true) (k : PySem.W.keepIn K (.ref f) = true) : Dn K mg "_law_walked" s__law_walked p__law_walked :=
  dn_mk (fun _ _ _ _ _ _ us hl => match us, hl with | [_, _, _], _ => rfl) X G a l c k
theorem dn__law_refused {f : Addr} {oc : Value} {od an : Option Addr} {osl : Array (Option Value)} {kV dc pm cd ct : Value} (X : K.In h) (G : h.Ns mainGlobals mg) (a : PySem.W.nsIn K mainGlobals "_law_refused" = some (some (.ref f))) (l : K.lookup f = some ⟨oc, od, .func (PySem.W.fnOf "_law_refused" "_law_refused" (defArgs s__law_refused) (defBody s__law_refused) (defScope s__law_refused) .none kV dc pm an cd ct), osl⟩) (c : PySem.W.codeIn K cd "_law_refused" = true) (k : PySem.W.keepIn K (.ref f) = true) : Dn K mg "_law_refused" s__law_refused p__law_refused :=
  dn_mk (fun _ _ _ _ _ _ us hl => match us, hl with | [_, _, _], _ => rfl) X G a l c k
theorem dn_law {f : Addr} {oc : Value} {od an : Option Addr} {osl : Array (Option Value)} {kV dc pm cd ct : Value} (X : K.In h) (G : h.Ns mainGlobals mg) (a : PySem.W.nsIn K mainGlobals "law" = some (some (.ref f))) (l : K.lookup f = some ⟨oc, od, .func (PySem.W.fnOf "law" "law" (defArgs s_law) (defBody s_law) (defScope s_law) .none kV dc pm an cd ct), osl⟩) (c : PySem.W.codeIn K cd "law" = true) (k : PySem.W.keepIn K (.ref f) = true) : Dn K mg "law" s_law p_law :=
  dn_mk (fun _ _ _ _ _ _ us hl => match us, hl with | [_], _ => rfl) X G a l c k
theorem md_Book___init__ {C : Addr} {f : Addr} {oc : Value} {od an : Option Addr} {osl : Array (Option Value)} {kV dc pm cd ct : Value} (a : PySem.W.findIn K (.ref C) "__init__" = some (some (.ref f))) (i : PySem.W.isFn K (.ref f) = true) (l : K.lookup f = some ⟨oc, od, .func (PySem.W.fnOf "__init__" "Book.__init__" (defArgs s_Book___init__) (defBody s_Book___init__) (defScope s_Book___init__) .none kV dc pm an cd ct), osl⟩) (c : PySem.W.codeIn K cd "Book.__init__" = true) (k : PySem.W.keepIn K (.ref f) = true) : MDn K C "__init__" "Book.__init__" s_Book___init__ p_Book___init__ :=
  md_mk (fun _ _ _ _ _ _ us hl => match us, hl with | [_, _, _], _ => rfl) a i l c k
theorem md_Book___eq__ {C : Addr} {f : Addr} {oc : Value} {od an : Option Addr} {osl : Array (Option Value)} {kV dc pm cd ct : Value} (a : PySem.W.findIn K (.ref C) "__eq__" = some (some (.ref f))) (i : PySem.W.isFn K (.ref f) = true) (l : K.lookup f = some ⟨oc, od, .func (PySem.W.fnOf "__eq__" "Book.__eq__" (defArgs s_Book___eq__) (defBody s_Book___eq__) (defScope s_Book___eq__) .none kV dc pm an cd ct), osl⟩) (c : PySem.W.codeIn K cd "Book.__eq__" = true) (k : PySem.W.keepIn K (.ref f) = true) : MDn K C "__eq__" "Book.__eq__" s_Book___eq__ p_Book___eq__ :=
  md_mk (fun _ _ _ _ _ _ us hl => match us, hl with | [_, _], _ => rfl) a i l c k
theorem md_Book_found {C : Addr} {f : Addr} {oc : Value} {od an : Option Addr} {osl : Array (Option Value)} {kV dc pm cd ct : Value} (a : PySem.W.findIn K (.ref C) "found" = some (some (.ref f))) (i : PySem.W.isFn K (.ref f) = true) (l : K.lookup f = some ⟨oc, od, .func (PySem.W.fnOf "found" "Book.found" (defArgs s_Book_found) (defBody s_Book_found) (defScope s_Book_found) .none kV dc pm an cd ct), osl⟩) (c : PySem.W.codeIn K cd "Book.found" = true) (k : PySem.W.keepIn K (.ref f) = true) : MDn K C "found" "Book.found" s_Book_found p_Book_found :=
  md_mk (fun _ _ _ _ _ _ us hl => match us, hl with | [_, _, _], _ => rfl) a i l c k
theorem txt_mk (X : K.In h) (G : h.Ns mainGlobals mg) (h_all : PySem.W.nsIn K mainGlobals "all" = some none) (h_any : PySem.W.nsIn K mainGlobals "any" = some none) (h_zip : PySem.W.nsIn K mainGlobals "zip" = some none) (h_tuple : PySem.W.nsIn K mainGlobals "tuple" = some none) (h_list : PySem.W.nsIn K mainGlobals "list" = some none) (h_int : PySem.W.nsIn K mainGlobals "int" = some none) (h_bool : PySem.W.nsIn K mainGlobals "bool" = some none) (h_len : PySem.W.nsIn K mainGlobals "len" = some none) (h_sum : PySem.W.nsIn K mainGlobals "sum" = some none) (h_max : PySem.W.nsIn K mainGlobals "max" = some none) (h_min : PySem.W.nsIn K mainGlobals "min" = some none) (h_abs : PySem.W.nsIn K mainGlobals "abs" = some none) (h_range : PySem.W.nsIn K mainGlobals "range" = some none) (h_sorted : PySem.W.nsIn K mainGlobals "sorted" = some none) (h_enumerate : PySem.W.nsIn K mainGlobals "enumerate" = some none) (h_isinstance : PySem.W.nsIn K mainGlobals "isinstance" = some none) : Txt mg :=
  ⟨PySem.W.mg_none_of X G h_all, PySem.W.mg_none_of X G h_any, PySem.W.mg_none_of X G h_zip, PySem.W.mg_none_of X G h_tuple, PySem.W.mg_none_of X G h_list, PySem.W.mg_none_of X G h_int, PySem.W.mg_none_of X G h_bool, PySem.W.mg_none_of X G h_len, PySem.W.mg_none_of X G h_sum, PySem.W.mg_none_of X G h_max, PySem.W.mg_none_of X G h_min, PySem.W.mg_none_of X G h_abs, PySem.W.mg_none_of X G h_range, PySem.W.mg_none_of X G h_sorted, PySem.W.mg_none_of X G h_enumerate, PySem.W.mg_none_of X G h_isinstance⟩
theorem book_mk {C : Addr} (X : K.In h) (G : h.Ns mainGlobals mg) (a : PySem.W.nsIn K mainGlobals "Book" = some (some (.ref C))) (pg : PySem.W.plainGet K C Str.empty = true) (hd : PySem.W.hasDictIn K C = true) (po : PySem.W.plainOver K C = true) (sa : PySem.W.findIn K (.ref C) "__setattr__" = some (some (.builtin "object.__setattr__")))
    (nK : PySem.W.findIn K (.ref C) "kinds" = some none) (nB : PySem.W.findIn K (.ref C) "batches" = some none) (nF : PySem.W.findIn K (.ref C) "_found" = some none) : BookT K mg C := ⟨⟨pg, hd, po, sa⟩, nK, nB, nF, PySem.W.mg_of X G a⟩
theorem ins_mk {C : Addr} (ha : PySem.W.findIn K (.ref C) "__class__" = some (some (.builtin "object.__class__"))) (hn : PySem.W.specialIn K (.builtin "object.__class__") "__get__" = some (some (.builtin "getset_descriptor.__get__"))) (ht : PySem.W.takesIn K (.builtin "object.__class__") = some true)
    (hm : PySem.W.mroIn K C (.type "object") = some true) (me : PySem.W.kitOne K (.ref C) (.ref C) = some true) (B : BookT K mg C) : C8.InsC K C := ⟨B.cl, ha, hn, ht, hm, me⟩
open PySem.W PySem.Calls PySem.HandSPX in
theorem ig_mk {C fI : Addr} {nm q : Str} {N : Addr} {bs : List Value} {sn : List Str} {sub : List Value} {ab : Bool} {col : Option Bool} {dd : Option Addr} {m0 m1 m2 m3 m5 : Option Value} {B : Addr}
    {oc : Value} {od : Option Addr} {doc pm : Value} {an : Option Addr} {ct : Value} {osl : Array (Option Value)} {m qn : Str} {p1 p2 q1 q2 q4 q6 r1 r2 r3 r4 : Pos} {cda cc : Addr} {ccl cl : Value} {cdd cld : Option Addr} {ccs csl : Array (Option Value)} {vs : Array Value} {file : Str} {tf : Tok}
    (X : K.In h) (G : h.Ns mainGlobals mg) (aC : PySem.W.nsIn K mainGlobals "InvalidGroup" = some (some (.ref C)))
    (xL : K.lookup C = some (excClassObj nm q C N bs [.ref B, .type "ValueError", .type "Exception", .type "BaseException", .type "object"] true sn sub ab col dd m0 m1 m2 m3 m5 "ValueError.__new__"))
    (sa : PySem.W.findIn K (.ref C) "__setattr__" = some (some (.builtin "object.__setattr__"))) (ga : PySem.W.findIn K (.ref C) "__getattribute__" = some (some (.builtin "BaseException.__getattribute__"))) (gg : PySem.W.findIn K (.ref C) "__getattr__" = some none) (nb : PySem.W.findIn K (.ref C) "at" = some none)
    (a1 : PySem.W.findIn K (.ref C) "__init__" = some (some (.ref fI))) (t1 : PySem.W.typeIn K (.ref fI) = some (.type "function"))
    (kC : PySem.W.keepIn K (.ref C) = true) (eC : PySem.W.subIn K (.ref C) (.type "BaseException") = some true) (tC : PySem.W.typeIn K (.ref C) = some (.type "type")) (hC : PySem.W.hasDictIn K C = true)
    (su : PySem.W.ks_superIn K C C "__init__" = some (some (.builtin "ValueError.__init__"))) (iV : PySem.W.subIn K (.ref C) (.type "ValueError") = some true) (iSs : PySem.W.mroIn K C (.ref C) = some true) (op : PySem.W.nsIn K cStatics "thirdparty.any" = some none) (gS : PySem.W.nsIn K mainGlobals "super" = some none)
    (htop : (P.main.scope.names.lookup ("super" : Str)).isSome = false)
    (l1 : K.lookup fI = some ⟨oc, od, .func (PySem.W.ksFn "__init__" qn (PySem.NLX.iA p1 p2) (PySem.NLX.iB m q1 q2 q4 q6 r1 r2 r3 r4) PySem.NLX.iS .none .none doc pm an (.ref cda) ct cc), osl⟩) (c1 : PySem.W.codeIn K (.ref cda) qn = true)
    (l2 : K.lookup cda = some ⟨ccl, cdd, .fields vs, ccs⟩) (v2 : vs[2]? = some (.str file tf)) (vf : ((P.main.file : Str) == file) = true) (l3 : K.lookup cc = some ⟨cl, cld, .cell (some (.ref C)), csl⟩) : PySem.NLX.IgTxt P K mg "InvalidGroup" C fI :=
  { gC := PySem.W.mg_of X G aC, cls := ⟨nm, q, N, bs, _, sn, sub, ab, col, dd, m0, m1, m2, m3, m5, xL, rfl⟩, sa := sa, ga := ga, gg := gg, noN := nb, iC := a1, tC := t1, kC := kC, exC := eC, tyC := tC, hdC := hC, su := su, isV := iV, isS := iSs, op := op, gS := PySem.W.mg_none_of X G gS, htop := htop,
    fn := ⟨_, _, _, _, _, _, _, _, _, _, _, _, _, _, _, _, _, _, _, _, _, _, _, _, _, _, _, _, _, _, l1, c1, l2, v2, vf, l3⟩ }
theorem er_mk {C CL CR CF : Addr} (X : K.In h) (G : h.Ns mainGlobals mg) (hg : PySem.W.findIn K (.ref C) "__getattribute__" = some (some (.builtin "BaseException.__getattribute__"))) (hk : PySem.W.findIn K (.ref C) "__getattr__" = some none) (hs : PySem.W.subIn K (.ref C) (.type "BaseException") = some true) (hd : PySem.W.hasDictIn K C = true)
    (ha : PySem.W.findIn K (.ref C) "__class__" = some (some (.builtin "object.__class__"))) (hn : PySem.W.specialIn K (.builtin "object.__class__") "__get__" = some (some (.builtin "getset_descriptor.__get__"))) (ht : PySem.W.takesIn K (.builtin "object.__class__") = some true) (hm : PySem.W.mroIn K C (.type "object") = some true)
    (self : PySem.W.exmOne K (.ref C) (.ref C) = some true) (gL : PySem.W.nsIn K mainGlobals "LeftError" = some (some (.ref CL))) (gR : PySem.W.nsIn K mainGlobals "InvalidRun" = some (some (.ref CR))) (gF : PySem.W.nsIn K mainGlobals "Refused" = some (some (.ref CF)))
    (isL : PySem.W.kitOne K (.ref C) (.ref CL) = some true) (no : PySem.W.kitAny K (.ref C) [.ref CR, .ref CF] = some false) : ErT K mg C CL CR CF :=
  ⟨⟨hg, hk, hs, hd, ha, hn, ht, hm⟩, self, PySem.W.mg_of X G gL, PySem.W.mg_of X G gR, PySem.W.mg_of X G gF, isL, no⟩
theorem law_binds {f : Addr} {fd : FuncData} (F : L2.Fun K "law" "law" s_law f fd) : ∀ (s : Shared) (u : Value), BindsTo s fd ⟨[u], []⟩ [("_law_script", u)] := by
  obtain ⟨oc, od, kV, doc, pm, an, cdv, ct, osl, rfl, lk, hcd⟩ := F.ex
  exact fun s v => .of_eq rfl
end
theorem all_mk {P : Program} {w : World} {K : PySem.W.Frag} {mg : Str → Option Value} {fa C CI fI CL CR CF : Addr} (hfa : mg "law" = some (.ref fa)) (T : Txt mg) (B : BookT K mg C) (I : BookT K mg C → C8.InsC K C) (mk : PySem.W.makesIn K C = true) (kc : PySem.W.keepIn K (.ref C) = true)
    (M_Book___init__ : MDn K C "__init__" "Book.__init__" s_Book___init__ p_Book___init__) (M_Book___eq__ : MDn K C "__eq__" "Book.__eq__" s_Book___eq__ p_Book___eq__) (M_Book_found : MDn K C "found" "Book.found" s_Book_found p_Book_found)
    (D_is_integer : Dn K mg "is_integer" s_is_integer p_is_integer) (D_is_number : Dn K mg "is_number" s_is_number p_is_number) (D_is_sequence : Dn K mg "is_sequence" s_is_sequence p_is_sequence) (D_within : Dn K mg "within" s_within p_within) (D_less : Dn K mg "less" s_less p_less) (D_more : Dn K mg "more" s_more p_more) (D_nobody : Dn K mg "nobody" s_nobody p_nobody) (D_is_batch : Dn K mg "is_batch" s_is_batch p_is_batch) (D_is_pair : Dn K mg "is_pair" s_is_pair p_is_pair) (D_told_hours : Dn K mg "told_hours" s_told_hours p_told_hours) (D_unit_rows : Dn K mg "unit_rows" s_unit_rows p_unit_rows) (D_least_sums_by : Dn K mg "least_sums_by" s_least_sums_by p_least_sums_by) (D_checked_naming : Dn K mg "checked_naming" s_checked_naming p_checked_naming) (D_told_book : Dn K mg "told_book" s_told_book p_told_book) (D_sum_of : Dn K mg "sum_of" s_sum_of p_sum_of) (D_is_needless : Dn K mg "is_needless" s_is_needless p_is_needless) (D_batches_with_first : Dn K mg "batches_with_first" s_batches_with_first p_batches_with_first) (D_clearing : Dn K mg "clearing" s_clearing p_clearing) (D_covers_of : Dn K mg "covers_of" s_covers_of p_covers_of) (D_leaves : Dn K mg "leaves" s_leaves p_leaves) (D_all_leaves : Dn K mg "all_leaves" s_all_leaves p_all_leaves) (D_is_safe : Dn K mg "is_safe" s_is_safe p_is_safe) (D__law_draw : Dn K mg "_law_draw" s__law_draw p__law_draw) (D__law_any : Dn K mg "_law_any" s__law_any p__law_any) (D__law_of : Dn K mg "_law_of" s__law_of p__law_of) (D__law_within : Dn K mg "_law_within" s__law_within p__law_within) (D__law_less : Dn K mg "_law_less" s__law_less p__law_less) (D__law_more : Dn K mg "_law_more" s__law_more p__law_more) (D__law_zero : Dn K mg "_law_zero" s__law_zero p__law_zero) (D__law_least_by : Dn K mg "_law_least_by" s__law_least_by p__law_least_by) (D__law_due : Dn K mg "_law_due" s__law_due p__law_due) (D__law_naming : Dn K mg "_law_naming" s__law_naming p__law_naming) (D__law_spoilt : Dn K mg "_law_spoilt" s__law_spoilt p__law_spoilt) (D__law_walked : Dn K mg "_law_walked" s__law_walked p__law_walked) (D__law_refused : Dn K mg "_law_refused" s__law_refused p__law_refused) (D_law : Dn K mg "law" s_law p_law)
    (Ig : PySem.NLX.IgTxt P K mg "InvalidGroup" CI fI) (Er : ErT K mg CI CL CR CF) :
    ∃ fd : FuncData, (∀ (s : Shared) (u : Value), BindsTo s fd ⟨[u], []⟩ [("_law_script", u)]) ∧ ∀ base : Heap, K.In base → base.Ns mainGlobals mg → FnOk P w K mg base CX0 18 fa fd ["_law_script"] (spLaw K) := by
  have I := I B
  obtain ⟨f, fd, F, hm, _⟩ := D_law.ex
  have e := hfa.symm.trans hm
  cases e
  refine ⟨fd, law_binds F, fun base _ _ => ?_⟩
  have c_is_integer := ok_is_integer (P := P) (w := w) (base := base) D_is_integer T
  have c_is_number := ok_is_number D_is_number T c_is_integer
  have c_is_sequence := ok_is_sequence (P := P) (w := w) (base := base) D_is_sequence T
  have c_within := ok_within (P := P) (w := w) (base := base) D_within T
  have c_less := ok_less (P := P) (w := w) (base := base) D_less T
  have c_more := ok_more (P := P) (w := w) (base := base) D_more T
  have c_nobody := ok_nobody (P := P) (w := w) (base := base) D_nobody
  have c_is_batch := ok_is_batch D_is_batch T c_is_number
  have c_is_pair := ok_is_pair D_is_pair T c_is_number c_is_integer
  have c_told_hours := ok_told_hours (P := P) (w := w) (base := base) D_told_hours T
  have c_unit_rows := ok_unit_rows (P := P) (w := w) (base := base) D_unit_rows T
  have c_least := ok_least D_least_sums_by T c_nobody c_within c_more c_told_hours
  have c_Book := ok_Binit M_Book___init__ B (fun f h1 h2 => ⟨mk, h1, h2, kc⟩) T c_is_number c_is_sequence c_is_batch
  have c_checked := ok_checked D_checked_naming T c_is_pair
  have x_checked := ok_checkedX Ig D_checked_naming T c_is_pair
  obtain ⟨f1, fd1, F1, m1, b1, Fn1⟩ := fn_told D_told_book T c_unit_rows c_checked c_least c_Book
  have c_told := ok_told D_told_book T c_unit_rows c_checked c_least c_Book
  have x_told := ok_toldX (fI := fI) D_told_book T c_unit_rows x_checked c_least c_Book
  have c_refused := ok_law_refused D__law_refused T Ig Er x_told
  have c_sum_of := ok_sum_of B D_sum_of T c_nobody c_more
  have c_needless := ok_needless B D_is_needless T c_within c_less
  have c_firsts := ok_firsts B D_batches_with_first T c_within
  have c_clearing := ok_clearing B D_clearing T c_firsts c_less 10
  have c_covers := ok_covers B D_covers_of T c_nobody c_more c_needless
  have c_leaves := ok_leaves B D_leaves T c_less c_sum_of c_covers c_clearing
  have c_found := ok_found B M_Book_found T c_leaves
  obtain ⟨fl, _, _, ml, _⟩ := D_leaves.ex
  have c_all := ok_all_leaves B D_all_leaves T ml c_found
  have c_safe := ok_is_safe B D_is_safe T c_all
  have l_within := ok_law_within (P := P) (w := w) (base := base) D__law_within T
  have l_less := ok_law_less (P := P) (w := w) (base := base) D__law_less T
  have l_more := ok_law_more (P := P) (w := w) (base := base) D__law_more T
  have l_zero := ok_law_zero (P := P) (w := w) (base := base) D__law_zero T
  have l_least := ok_law_least_by D__law_least_by T l_within l_zero
  have l_due := ok_law_due D__law_due T l_least
  have l_any := ok_law_any (P := P) (w := w) (base := base) D__law_any T
  have l_of := ok_law_of D__law_of T l_any
  have l_draw := ok_law_draw (P := P) (w := w) (base := base) D__law_draw T
  have l_walked := ok_law_walked D__law_walked T l_within l_less l_of
  have l_naming := ok_law_naming D__law_naming T l_any l_of
  have l_spoilt := ok_law_spoilt D__law_spoilt T l_any l_of
  have E := ok_Beq (P := P) (w := w) (base := base) M_Book___eq__ B I T
  exact fn_law F T B I E l_draw l_any l_of l_more l_zero l_due l_naming l_walked l_spoilt c_refused c_told c_safe F1 m1 Fn1
theorem walk {l : PySem.W.OpenLaw} {q : Program} {loose : List Str} {XP : (Str → Option Value) → Heap → Prop} {YP : World → Heap → Prop} {d : DefRec} {K : Params → PySem.W.Frag} (hn : l.most = some 63) (hdf : d.params.defaults = [])
    (hY : ∀ (w : World) (h : Heap), YP w h → (K w.params).In h)
    (F : ∀ (w : World) (mg : Str → Option Value) (fa : Addr) (h : Heap), (K w.params).In h → h.Ns mainGlobals mg → mg d.name = some (.ref fa) →
      ∃ fd : FuncData, (∀ (s : Shared) (u : Value), BindsTo s fd ⟨[u], []⟩ [("_law_script", u)]) ∧ ∀ base : Heap, (K w.params).In base → base.Ns mainGlobals mg → FnOk l.prog w (K w.params) mg base CX0 18 fa fd ["_law_script"] (spLaw (K w.params))) :
    PySem.W.WalkO q loose XP YP l.row.toRowW d [] (fun f vs => PySem.call f vs) :=
  L2.walk_of (n := 63) (k := 18) (x := "_law_script") (CX := fun _ => CX0) (sp := fun w => spLaw (K w.params)) hn (by decide) hdf ⟨rfl, by decide, by decide⟩ hY F (fun _ _ a ns hl _ hS => ⟨a, ns, rfl, hS, Nat.le_trans hl (by decide), fun _ => rfl⟩) fun _ _ _ _ _ z => z
end NL
end
section
set_option Elab.async false
open PySem PySem.W PyProof.Rows in
set_option maxRecDepth 100000 in
set_option maxHeartbeats 0 in
open_top head for PySem.Challenge.rw_noneleft_k46_whole_told_books
open PySem PySem.W PyProof.Rows in
set_option maxRecDepth 100000 in
set_option maxHeartbeats 0 in
theorem PySem.Challenge.cw_noneleft_k46_whole_told_books_holds : PySem.Challenge.rw_noneleft_k46_whole_told_books.Holds := by
  refine head (NL.walk (l := PySem.Challenge.rw_noneleft_k46_whole_told_books) rfl rfl (fun w h Y => PySem.W.kIn_of Y) ?F)
  case F =>
    intro w mg fa h KX G hmg
    refine' NL.all_mk hmg ?T ?B ?I ?mk ?kc ?M_Book___init__ ?M_Book___eq__ ?M_Book_found ?D_is_integer ?D_is_number ?D_is_sequence ?D_within ?D_less ?D_more ?D_nobody ?D_is_batch ?D_is_pair ?D_told_hours ?D_unit_rows ?D_least_sums_by ?D_checked_naming ?D_told_book ?D_sum_of ?D_is_needless ?D_batches_with_first ?D_clearing ?D_covers_of ?D_leaves ?D_all_leaves ?D_is_safe ?D__law_draw ?D__law_any ?D__law_of ?D__law_within ?D__law_less ?D__law_more ?D__law_zero ?D__law_least_by ?D__law_due ?D__law_naming ?D__law_spoilt ?D__law_walked ?D__law_refused ?D_law ?Ig ?Er
    (case T => refine' NL.txt_mk KX G ?h_all ?h_any ?h_zip ?h_tuple ?h_list ?h_int ?h_bool ?h_len ?h_sum ?h_max ?h_min ?h_abs ?h_range ?h_sorted ?h_enumerate ?h_isinstance; (case h_all => k_is); (case h_any => k_is); (case h_zip => k_is); (case h_tuple => k_is); (case h_list => k_is); (case h_int => k_is); (case h_bool => k_is); (case h_len => k_is); (case h_sum => k_is); (case h_max => k_is); (case h_min => k_is); (case h_abs => k_is); (case h_range => k_is); (case h_sorted => k_is); (case h_enumerate => k_is); (case h_isinstance => k_is))
    (case B => refine' NL.book_mk KX G ?a ?pg ?hd ?po ?sa ?nK ?nB ?nF; (case a => k_is); (case pg => k_is); (case hd => k_is); (case po => k_is); (case sa => k_is); (case nK => k_is); (case nB => k_is); (case nF => k_is))
    (case I => refine' NL.ins_mk ?ha ?hn ?ht ?hm ?me; (case ha => k_is); (case hn => k_is); (case ht => k_is); (case hm => k_is); (case me => first | kit_is | kernel_rfl))
    (case mk => k_is)
    (case kc => k_is)
    (case M_Book___init__ => refine' NL.md_Book___init__ ?a ?i ?l ?c ?k; (case a => k_is); (case i => k_is); (case l => k_is); (case c => k_is); (case k => k_is))
    (case M_Book___eq__ => refine' NL.md_Book___eq__ ?a ?i ?l ?c ?k; (case a => k_is); (case i => k_is); (case l => k_is); (case c => k_is); (case k => k_is))
    (case M_Book_found => refine' NL.md_Book_found ?a ?i ?l ?c ?k; (case a => k_is); (case i => k_is); (case l => k_is); (case c => k_is); (case k => k_is))
    (case D_is_integer => refine' NL.dn_is_integer KX G ?a ?l ?c ?k; (case a => k_is); (case l => k_is); (case c => k_is); (case k => k_is))
    (case D_is_number => refine' NL.dn_is_number KX G ?a ?l ?c ?k; (case a => k_is); (case l => k_is); (case c => k_is); (case k => k_is))
    (case D_is_sequence => refine' NL.dn_is_sequence KX G ?a ?l ?c ?k; (case a => k_is); (case l => k_is); (case c => k_is); (case k => k_is))
    (case D_within => refine' NL.dn_within KX G ?a ?l ?c ?k; (case a => k_is); (case l => k_is); (case c => k_is); (case k => k_is))
    (case D_less => refine' NL.dn_less KX G ?a ?l ?c ?k; (case a => k_is); (case l => k_is); (case c => k_is); (case k => k_is))
    (case D_more => refine' NL.dn_more KX G ?a ?l ?c ?k; (case a => k_is); (case l => k_is); (case c => k_is); (case k => k_is))
    (case D_nobody => refine' NL.dn_nobody KX G ?a ?l ?c ?k; (case a => k_is); (case l => k_is); (case c => k_is); (case k => k_is))
    (case D_is_batch => refine' NL.dn_is_batch KX G ?a ?l ?c ?k; (case a => k_is); (case l => k_is); (case c => k_is); (case k => k_is))
    (case D_is_pair => refine' NL.dn_is_pair KX G ?a ?l ?c ?k; (case a => k_is); (case l => k_is); (case c => k_is); (case k => k_is))
    (case D_told_hours => refine' NL.dn_told_hours KX G ?a ?l ?c ?k; (case a => k_is); (case l => k_is); (case c => k_is); (case k => k_is))
    (case D_unit_rows => refine' NL.dn_unit_rows KX G ?a ?l ?c ?k; (case a => k_is); (case l => k_is); (case c => k_is); (case k => k_is))
    (case D_least_sums_by => refine' NL.dn_least_sums_by KX G ?a ?l ?c ?k; (case a => k_is); (case l => k_is); (case c => k_is); (case k => k_is))
    (case D_checked_naming => refine' NL.dn_checked_naming KX G ?a ?l ?c ?k; (case a => k_is); (case l => k_is); (case c => k_is); (case k => k_is))
    (case D_told_book => refine' NL.dn_told_book KX G ?a ?l ?c ?k; (case a => k_is); (case l => k_is); (case c => k_is); (case k => k_is))
    (case D_sum_of => refine' NL.dn_sum_of KX G ?a ?l ?c ?k; (case a => k_is); (case l => k_is); (case c => k_is); (case k => k_is))
    (case D_is_needless => refine' NL.dn_is_needless KX G ?a ?l ?c ?k; (case a => k_is); (case l => k_is); (case c => k_is); (case k => k_is))
    (case D_batches_with_first => refine' NL.dn_batches_with_first KX G ?a ?l ?c ?k; (case a => k_is); (case l => k_is); (case c => k_is); (case k => k_is))
    (case D_clearing => refine' NL.dn_clearing KX G ?a ?l ?c ?k; (case a => k_is); (case l => k_is); (case c => k_is); (case k => k_is))
    (case D_covers_of => refine' NL.dn_covers_of KX G ?a ?l ?c ?k; (case a => k_is); (case l => k_is); (case c => k_is); (case k => k_is))
    (case D_leaves => refine' NL.dn_leaves KX G ?a ?l ?c ?k; (case a => k_is); (case l => k_is); (case c => k_is); (case k => k_is))
    (case D_all_leaves => refine' NL.dn_all_leaves KX G ?a ?l ?c ?k; (case a => k_is); (case l => k_is); (case c => k_is); (case k => k_is))
    (case D_is_safe => refine' NL.dn_is_safe KX G ?a ?l ?c ?k; (case a => k_is); (case l => k_is); (case c => k_is); (case k => k_is))
    (case D__law_draw => refine' NL.dn__law_draw KX G ?a ?l ?c ?k; (case a => k_is); (case l => k_is); (case c => k_is); (case k => k_is))
    (case D__law_any => refine' NL.dn__law_any KX G ?a ?l ?c ?k; (case a => k_is); (case l => k_is); (case c => k_is); (case k => k_is))
    (case D__law_of => refine' NL.dn__law_of KX G ?a ?l ?c ?k; (case a => k_is); (case l => k_is); (case c => k_is); (case k => k_is))
    (case D__law_within => refine' NL.dn__law_within KX G ?a ?l ?c ?k; (case a => k_is); (case l => k_is); (case c => k_is); (case k => k_is))
    (case D__law_less => refine' NL.dn__law_less KX G ?a ?l ?c ?k; (case a => k_is); (case l => k_is); (case c => k_is); (case k => k_is))
    (case D__law_more => refine' NL.dn__law_more KX G ?a ?l ?c ?k; (case a => k_is); (case l => k_is); (case c => k_is); (case k => k_is))
    (case D__law_zero => refine' NL.dn__law_zero KX G ?a ?l ?c ?k; (case a => k_is); (case l => k_is); (case c => k_is); (case k => k_is))
    (case D__law_least_by => refine' NL.dn__law_least_by KX G ?a ?l ?c ?k; (case a => k_is); (case l => k_is); (case c => k_is); (case k => k_is))
    (case D__law_due => refine' NL.dn__law_due KX G ?a ?l ?c ?k; (case a => k_is); (case l => k_is); (case c => k_is); (case k => k_is))
    (case D__law_naming => refine' NL.dn__law_naming KX G ?a ?l ?c ?k; (case a => k_is); (case l => k_is); (case c => k_is); (case k => k_is))
    (case D__law_spoilt => refine' NL.dn__law_spoilt KX G ?a ?l ?c ?k; (case a => k_is); (case l => k_is); (case c => k_is); (case k => k_is))
    (case D__law_walked => refine' NL.dn__law_walked KX G ?a ?l ?c ?k; (case a => k_is); (case l => k_is); (case c => k_is); (case k => k_is))
    (case D__law_refused => refine' NL.dn__law_refused KX G ?a ?l ?c ?k; (case a => k_is); (case l => k_is); (case c => k_is); (case k => k_is))
    (case D_law => refine' NL.dn_law KX G ?a ?l ?c ?k; (case a => k_is); (case l => k_is); (case c => k_is); (case k => k_is))
    (case Ig => refine' NL.ig_mk KX G ?aC ?xL ?sa ?ga ?gg ?nb ?a1 ?t1 ?kC ?eC ?tC ?hC ?su ?iV ?iSs ?op ?gS ?htop ?l1 ?c1 ?l2 ?v2 ?vf ?l3; (case aC => k_is); (case xL => k_is); (case sa => k_is); (case ga => k_is); (case gg => k_is); (case nb => k_is); (case a1 => k_is); (case t1 => k_is); (case kC => k_is); (case eC => k_is); (case tC => k_is); (case hC => k_is); (case su => first | ks_is | kernel_rfl); (case iV => k_is); (case iSs => k_is); (case op => k_is); (case gS => k_is); (case htop => decide +kernel); (case l1 => k_is); (case c1 => k_is); (case l2 => k_is); (case v2 => rfl); (case vf => decide +kernel); (case l3 => k_is))
    (case Er => refine' NL.er_mk KX G ?hg ?hk ?hs ?hd ?ha ?hn ?ht ?hm ?self ?gL ?gR ?gF ?isL ?no; (case hg => k_is); (case hk => k_is); (case hs => k_is); (case hd => k_is); (case ha => k_is); (case hn => k_is); (case ht => k_is); (case hm => k_is); (case self => first | kts_exm | kernel_rfl); (case gL => k_is); (case gR => k_is); (case gF => k_is); (case isL => first | kit_is | kernel_rfl); (case no => first | kit_is | kernel_rfl))
end
