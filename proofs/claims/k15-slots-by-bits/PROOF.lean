import PyProof.Rows.All
import Wide.All
import OpenK.AllK
import Wide.FinOn
import HandS.ForMost
import HandS.DictTup
import HandS.Sort
import HandS.SetKeys
import HandS.DictComp
import HandS.ClsMeth
import PyProof.DictMoreH
import HandS.WideBits
import HandS.Conv
import HandS.Walk
import PySem.Challenge.RW_wakefew_k15_slots_by_bits
import HandS.IsInst
import HandS.Defaults
set_option autoImplicit false
set_option Elab.async false
set_option maxRecDepth 100000
set_option maxHeartbeats 4000000
namespace Wk
theorem odd_split : ∀ m : Nat, 0 < m → ∃ l q, m = 2 ^ l * (2 * q + 1) := by
  intro m
  induction m using Nat.strongRecOn with
  | _ m ih =>
    intro h
    by_cases e : m % 2 = 1
    · exact ⟨0, m / 2, by omega⟩
    · obtain ⟨l, q, hq⟩ := ih (m / 2) (by omega) (by omega)
      refine ⟨l + 1, q, ?_⟩
      have : m = 2 * (m / 2) := by omega
      rw [this, hq, Nat.pow_succ, Nat.mul_comm (2 ^ l) 2, Nat.mul_assoc]
theorem tb_shift (l a j : Nat) : (2 ^ l * a).testBit j = (decide (l ≤ j) && a.testBit (j - l)) := by
  rw [Nat.testBit_two_pow_mul]
theorem tb_two (q j : Nat) : (2 * q).testBit j = (decide (1 ≤ j) && q.testBit (j - 1)) := by
  have := tb_shift 1 q j
  simpa using this
theorem tb_odd (q j : Nat) : (2 * q + 1).testBit j = (decide (j = 0) || (decide (1 ≤ j) && q.testBit (j - 1))) := by
  cases j with
  | zero => simp [Nat.testBit_zero]
  | succ j =>
    rw [Nat.testBit_succ]
    have : (2 * q + 1) / 2 = q := by omega
    rw [this]
    simp
structure Low (m l : Nat) : Prop where
  xor : m ^^^ (m &&& (m - 1)) = 2 ^ l
  at_ : m.testBit l = true
  and : ∀ j, (m &&& (m - 1)).testBit j = (m.testBit j && decide (j ≠ l))
  lt : m &&& (m - 1) < m
theorem low_ex {m : Nat} (h : 0 < m) : ∃ l, Low m l := by
  obtain ⟨l, q, e⟩ := odd_split m h
  have hp : 0 < 2 ^ l := Nat.two_pow_pos l
  have e1 : m - 1 = 2 ^ l * (2 * q) + (2 ^ l - 1) := by
    rw [e, Nat.mul_add, Nat.mul_one]
    omega
  have tm : ∀ j, m.testBit j = (decide (l ≤ j) && (decide (j = l) || q.testBit (j - l - 1))) := by
    intro j
    rw [e, tb_shift, tb_odd]
    by_cases h1 : l ≤ j
    · by_cases h2 : j = l
      · subst h2
        simp
      · have h3 : ¬ j - l = 0 := by omega
        have h4 : 1 ≤ j - l := by omega
        simp [h1, h2, h3, h4]
    · simp [h1]
  have t1 : ∀ j, (m - 1).testBit j = (decide (j < l) || (decide (l < j) && q.testBit (j - l - 1))) := by
    intro j
    rw [e1, Nat.testBit_two_pow_mul_add _ (by omega), Nat.testBit_two_pow_sub_one]
    by_cases h1 : j < l
    · simp [h1]
    · rw [tb_two]
      by_cases h2 : l < j
      · have h4 : 1 ≤ j - l := by omega
        simp [h1, h2, h4]
      · have h4 : ¬ 1 ≤ j - l := by omega
        simp [h1, h2, h4]
  have ta : ∀ j, (m &&& (m - 1)).testBit j = (m.testBit j && decide (j ≠ l)) := by
    intro j
    rw [Nat.testBit_and, tm, t1]
    by_cases h1 : j < l
    · have : ¬ l ≤ j := by omega
      simp [this]
    · by_cases h2 : j = l
      · subst h2
        simp
      · have h3 : l < j := by omega
        have h4 : l ≤ j := by omega
        simp [h1, h2, h3, h4]
  have hx : m ^^^ (m &&& (m - 1)) = 2 ^ l := by
    apply Nat.eq_of_testBit_eq
    intro j
    rw [Nat.testBit_xor, ta, Nat.testBit_two_pow, tm]
    by_cases h2 : j = l
    · subst h2
      simp
    · have h3 : ¬ l = j := fun z => h2 z.symm
      simp [h2, h3]
  refine ⟨l, hx, by rw [tm]; simp, ta, ?_⟩
  exact Nat.lt_of_le_of_lt Nat.and_le_right (by omega)
theorem low_pos {m j : Nat} (h : m.testBit j = true) : 0 < m := by
  rcases Nat.eq_zero_or_pos m with e | e
  · subst e
    simp at h
  · exact e
theorem low_uniq {m l l' : Nat} (a : Low m l) (b : Low m l') : l = l' := by
  have q := congrArg Nat.log2 (a.xor.symm.trans b.xor)
  rw [Nat.log2_two_pow, Nat.log2_two_pow] at q
  exact q
theorem log2_pow (l : Nat) : (2 ^ l).log2 = l := Nat.log2_two_pow
theorem or_bit (m d j : Nat) : (m ||| 2 ^ d).testBit j = (m.testBit j || decide (j = d)) := by
  rw [Nat.testBit_or, Nat.testBit_two_pow]
  congr 1
  exact decide_eq_decide.mpr ⟨fun h => h.symm, fun h => h.symm⟩
theorem xor_bit {m d : Nat} (h : m.testBit d = true) (j : Nat) : (m ^^^ 2 ^ d).testBit j = (m.testBit j && decide (j ≠ d)) := by
  rw [Nat.testBit_xor, Nat.testBit_two_pow]
  by_cases e : j = d
  · subst e
    simp [h]
  · have e' : ¬ d = j := fun z => e z.symm
    simp [e, e']
theorem and_mask (m s j : Nat) : (m &&& (2 ^ s - 1)).testBit j = (m.testBit j && decide (j < s)) := by
  rw [Nat.testBit_and, Nat.testBit_two_pow_sub_one]
theorem lt_pow_of_bits {m r : Nat} (h : ∀ d, m.testBit d = true → d < r) : m < 2 ^ r := by
  apply Nat.lt_pow_two_of_testBit
  intro i hi
  cases e : m.testBit i with
  | false => rfl
  | true => exact absurd (h i e) (by omega)
theorem shift_bit (m d : Nat) : m / 2 ^ d % 2 = if m.testBit d = true then 1 else 0 := by
  rw [Nat.testBit_eq_decide_div_mod_eq]
  by_cases e : m / 2 ^ d % 2 = 1
  · simp [e]
  · have : m / 2 ^ d % 2 = 0 := by omega
    simp [this]
theorem shift_next (m d : Nat) : m / 2 ^ d / 2 = m / 2 ^ (d + 1) := by
  rw [Nat.pow_succ, Nat.div_div_eq_div_mul]
theorem shift_end {m r : Nat} (h : m < 2 ^ r) : m / 2 ^ r = 0 := Nat.div_eq_of_lt h
theorem zero_of_bits {m : Nat} (h : ∀ j, m.testBit j = false) : m = 0 := by
  apply Nat.eq_of_testBit_eq
  intro j
  rw [h j, Nat.zero_testBit]

structure Units (n : Nat) (rr uu : Nat → Int) : Prop where
  u0 : uu 0 = 1
  us : ∀ k, k < n → uu (k + 1) = uu k * rr k
  r2 : ∀ k, k < n → 2 ≤ rr k
  r60 : ∀ k, k < n → rr k ≤ 60
  n1 : 1 ≤ n
  n6 : n ≤ 6
section
variable {n : Nat} {rr uu : Nat → Int}
theorem Units.pos (W : Units n rr uu) : ∀ k, k ≤ n → 0 < uu k
  | 0, _ => by rw [W.u0]; decide
  | k + 1, h => by
    rw [W.us k (by omega)]
    have := W.r2 k (by omega)
    exact Int.mul_pos (W.pos k (by omega)) (by omega)
theorem Units.le (W : Units n rr uu) : ∀ k, k ≤ n → uu k ≤ 60 ^ k
  | 0, _ => by rw [W.u0]; decide
  | k + 1, h => by
    rw [W.us k (by omega), Int.pow_succ]
    have h1 := W.le k (by omega)
    have h2 := W.r60 k (by omega)
    have h3 := W.pos k (by omega)
    have h4 := W.r2 k (by omega)
    have h5 : (0 : Int) ≤ 60 ^ k := by omega
    exact Int.mul_le_mul h1 h2 (by omega) h5
theorem Units.lt36 (W : Units n rr uu) {k : Nat} (h : k ≤ n) : uu k ≤ 46656000000 := by
  have h1 := W.le k h
  have h2 := W.n6
  have : k = 0 ∨ k = 1 ∨ k = 2 ∨ k = 3 ∨ k = 4 ∨ k = 5 ∨ k = 6 := by omega
  rcases this with e | e | e | e | e | e | e <;> subst e <;> revert h1 <;> simp <;> omega
theorem Units.div (W : Units n rr uu) {k : Nat} (h : k < n) (t : Int) : t / uu (k + 1) = t / uu k / rr k := by
  rw [W.us k h, Int.ediv_ediv_of_nonneg (Int.le_of_lt (W.pos k (by omega)))]
theorem Units.same1 (W : Units n rr uu) {k : Nat} {a b : Int} (h : k < n) (e : a / uu k = b / uu k) : a / uu (k + 1) = b / uu (k + 1) := by
  rw [W.div h, W.div h, e]
theorem Units.same_up (W : Units n rr uu) {i : Nat} {a b : Int} (e : a / uu i = b / uu i) : ∀ j, i ≤ j → j ≤ n → a / uu j = b / uu j := by
  intro j
  induction j with
  | zero =>
    intro h _
    have : i = 0 := by omega
    subst this
    exact e
  | succ j ih =>
    intro h hn
    by_cases q : i = j + 1
    · subst q
      exact e
    · exact W.same1 (by omega) (ih (by omega) (by omega))
theorem Units.mono (W : Units n rr uu) {k : Nat} {a b : Int} (h : k ≤ n) (l : a ≤ b) : a / uu k ≤ b / uu k := Int.ediv_le_ediv (W.pos k h) l
theorem Units.between (W : Units n rr uu) {k : Nat} {a b c : Int} (h : k ≤ n) (l : a ≤ b) (m : b ≤ c) (e : a / uu k = c / uu k) : b / uu k = c / uu k := by
  have h1 := W.mono h l
  have h2 := W.mono h m
  omega

structure IsWh (n : Nat) (uu : Nat → Int) (a b : Int) (k : Nat) : Prop where
  le : k ≤ n
  no : ∀ j, j < k → a / uu (j + 1) ≠ b / uu (j + 1)
  yes : k < n → a / uu (k + 1) = b / uu (k + 1)
def whGo (uu : Nat → Int) (a b : Int) : Nat → Nat → Nat
  | 0, i => i
  | m + 1, i => if a / uu (i + 1) = b / uu (i + 1) then i else whGo uu a b m (i + 1)
def wh (n : Nat) (uu : Nat → Int) (a b : Int) : Nat := whGo uu a b n 0
theorem whGo_is {uu : Nat → Int} {a b : Int} : ∀ m i, (∀ j, j < i → a / uu (j + 1) ≠ b / uu (j + 1)) → IsWh (i + m) uu a b (whGo uu a b m i)
  | 0, i, h => ⟨Nat.le_refl _, h, fun z => absurd z (Nat.lt_irrefl i)⟩
  | m + 1, i, h => by
    unfold whGo
    split
    · rename_i e
      exact ⟨by omega, h, fun _ => e⟩
    · rename_i e
      have q := whGo_is (uu := uu) (a := a) (b := b) m (i + 1) fun j hj => by
        by_cases z : j = i
        · subst z
          exact e
        · exact h j (by omega)
      have : i + 1 + m = i + (m + 1) := by omega
      rw [this] at q
      exact q
theorem wh_is (n : Nat) (uu : Nat → Int) (a b : Int) : IsWh n uu a b (wh n uu a b) := by
  have q := whGo_is (uu := uu) (a := a) (b := b) n 0 fun j hj => absurd hj (Nat.not_lt_zero j)
  rw [Nat.zero_add] at q
  exact q
theorem IsWh.uniq {a b : Int} {k j : Nat} (x : IsWh n uu a b k) (y : IsWh n uu a b j) : k = j := by
  rcases Nat.lt_trichotomy k j with h | h | h
  · exact absurd (x.yes (Nat.lt_of_lt_of_le h y.le)) (y.no k h)
  · exact h
  · exact absurd (y.yes (Nat.lt_of_lt_of_le h x.le)) (x.no j h)
theorem IsWh.eq {a b : Int} {k : Nat} (x : IsWh n uu a b k) : wh n uu a b = k := (wh_is n uu a b).uniq x
theorem wh_le (n : Nat) (uu : Nat → Int) (a b : Int) : wh n uu a b ≤ n := (wh_is n uu a b).le
theorem wh_min {a b : Int} {k : Nat} (h : a / uu (k + 1) = b / uu (k + 1)) : wh n uu a b ≤ k := by
  rcases Nat.lt_or_ge k (wh n uu a b) with q | q
  · exact absurd h ((wh_is n uu a b).no k q)
  · exact q
def slot (rr uu : Nat → Int) (k : Nat) (t : Int) : Nat := (t / uu k % rr k).toNat
theorem slot_int (W : Units n rr uu) {k : Nat} (h : k < n) (t : Int) : ((slot rr uu k t : Nat) : Int) = t / uu k % rr k := by
  have h2 := W.r2 k h
  unfold slot
  exact Int.toNat_of_nonneg (Int.emod_nonneg _ (by omega))
theorem slot_lt (W : Units n rr uu) {k : Nat} (h : k < n) (t : Int) : ((slot rr uu k t : Nat) : Int) < rr k := by
  have h2 := W.r2 k h
  rw [slot_int W h]
  exact Int.emod_lt_of_pos _ (by omega)
theorem slot_lt60 (W : Units n rr uu) {k : Nat} (h : k < n) (t : Int) : slot rr uu k t < 60 := by
  have h1 := slot_lt W h t
  have h2 := W.r60 k h
  omega
theorem slot_le (W : Units n rr uu) {k : Nat} {a b : Int} (h : k < n) (e : a / uu (k + 1) = b / uu (k + 1)) (l : a ≤ b) : slot rr uu k a ≤ slot rr uu k b := by
  have m := W.mono (k := k) (by omega) l
  have h1 := slot_int W h a
  have h2 := slot_int W h b
  rw [W.div h, W.div h] at e
  have d1 := Int.emod_add_mul_ediv (a / uu k) (rr k)
  have d2 := Int.emod_add_mul_ediv (b / uu k) (rr k)
  rw [e] at d1
  omega
theorem slot_eq {k : Nat} {a b : Int} (e : a / uu k = b / uu k) : slot rr uu k a = slot rr uu k b := by
  unfold slot
  rw [e]

def Met (n : Nat) (rr uu : Nat → Int) (now to : Int) (k : Nat) (t : Int) : Prop :=
  k < wh n uu to now ∨ (k = wh n uu to now ∧ (k = n ∨ slot rr uu k t < slot rr uu k to + 1))
section
variable {now to t : Int}
theorem met_due (W : Units n rr uu) (h1 : now < t) (h2 : t ≤ to) : Met n rr uu now to (wh n uu t now) t := by
  have hh := wh_is n uu to now
  generalize wh n uu to now = high at hh
  have ht := wh_is n uu t now
  have hle : wh n uu t now ≤ high := by
    by_cases e : high < n
    · have q := hh.yes e
      refine wh_min ?_
      have := W.between (k := high + 1) (by omega) (Int.le_of_lt h1) h2 q.symm
      rw [this, q]
    · have := hh.le
      have := ht.le
      omega
  generalize hk : wh n uu t now = k at ht hle
  unfold Met
  rw [hh.eq]
  rcases Nat.lt_or_ge k high with q | q
  · exact .inl q
  · have e : k = high := by omega
    subst e
    refine .inr ⟨rfl, ?_⟩
    by_cases e : k < n
    · refine .inr ?_
      have := slot_le W e ((ht.yes e).trans (hh.yes e).symm) h2
      omega
    · exact .inl (by have := ht.le; omega)
theorem met_down (W : Units n rr uu) (h0 : now ≤ to) (h2 : to < t) : wh n uu t to ≤ wh n uu t now := by
  have ht := wh_is n uu t now
  by_cases e : wh n uu t now < n
  · refine wh_min ?_
    have q := ht.yes e
    have := W.between (k := wh n uu t now + 1) (by omega) h0 (Int.le_of_lt h2) q.symm
    rw [this]
  · have := wh_le n uu t to
    omega
theorem unmet_stays (W : Units n rr uu) (h0 : now ≤ to) (h1 : now < t) (hm : ¬ Met n rr uu now to (wh n uu t now) t) : to < t ∧ wh n uu t to = wh n uu t now := by
  have hlt : to < t := by
    rcases Int.lt_or_le to t with q | q
    · exact q
    · exact absurd (met_due W h1 q) hm
  refine ⟨hlt, ?_⟩
  have hh := wh_is n uu to now
  have ht := wh_is n uu t now
  unfold Met at hm
  generalize hhe : wh n uu to now = high at hh hm
  generalize hke : wh n uu t now = k at ht hm
  have hkh : high ≤ k := by
    rcases Nat.lt_or_ge k high with q | q
    · exact absurd (.inl q) hm
    · exact q
  refine IsWh.eq ⟨ht.le, ?_, ?_⟩
  · intro j hj q
    by_cases e : k = high
    · -- the same wheel, a later slot
      subst e
      have hk : k ≤ n := ht.le
      have hs : ¬ (k = n ∨ slot rr uu k t < slot rr uu k to + 1) := fun z => hm (.inr ⟨rfl, z⟩)
      have s := W.same_up q k (by omega) hk
      have := slot_eq (rr := rr) s
      exact hs (.inr (by omega))
    · have hlt2 : high < k := by omega
      have hn := ht.le
      by_cases e2 : j < high
      · have s := W.same_up q (high + 1) (by omega) (by omega)
        rw [hh.yes (by omega)] at s
        exact ht.no high hlt2 s
      · have s := W.same_up (hh.yes (by omega)) (j + 1) (by omega) (by omega)
        rw [s] at q
        exact ht.no j hj q
  · intro hk
    have q := ht.yes hk
    have := W.between (k := k + 1) (by omega) h0 (Int.le_of_lt hlt) q.symm
    rw [this]
end
end
end Wk

namespace Wk
open PySem L2
theorem few_of {α : Type} [DecidableEq α] : ∀ (l m : List α), l.Nodup → (∀ x ∈ l, x ∈ m) → l.length ≤ m.length
  | [], m, _, _ => Nat.zero_le _
  | x :: l, m, hn, h => by
    obtain ⟨h1, h2⟩ := List.nodup_cons.mp hn
    have hx : x ∈ m := h x List.mem_cons_self
    have q := few_of l (m.erase x) h2 fun y hy => by
      have hy' := h y (List.mem_cons_of_mem _ hy)
      have ne : y ≠ x := fun e => h1 (by rw [← e]; exact hy)
      exact (List.mem_erase_of_ne ne).mpr hy'
    have e := List.length_erase_of_mem hx
    have p : 0 < m.length := List.length_pos_of_mem hx
    rw [List.length_cons]
    omega

def rl (n : Nat) (f : Nat → V) : List V := (List.range n).map f
theorem rl_len {n : Nat} {f : Nat → V} : (rl n f).length = n := by
  unfold rl
  rw [List.length_map, List.length_range]
theorem rl_get {n k : Nat} {f : Nat → V} (h : k < n) : (rl n f)[k]? = some (f k) := by
  unfold rl
  rw [List.getElem?_map, List.getElem?_range h]
  all_goals rfl
theorem rl_none {n k : Nat} {f : Nat → V} (h : n ≤ k) : (rl n f)[k]? = none := List.getElem?_eq_none (by rw [rl_len]; exact h)
theorem rl_ext {n : Nat} {f g : Nat → V} (h : ∀ k, k < n → f k = g k) : rl n f = rl n g := by
  apply List.ext_getElem?
  intro k
  by_cases hk : k < n
  · rw [rl_get hk, rl_get hk, h k hk]
  · rw [rl_none (by omega), rl_none (by omega)]
theorem rl_set {n k : Nat} {f : Nat → V} {v : V} : (rl n f).set k v = rl n (fun j => if j = k then v else f j) := by
  apply List.ext_getElem?
  intro j
  by_cases hj : j < n
  · rw [rl_get hj]
    by_cases e : j = k
    · subst e
      rw [if_pos rfl]
      exact List.getElem?_set_self (by rw [rl_len]; exact hj)
    · rw [if_neg e, List.getElem?_set_ne (fun z => e z.symm), rl_get hj]
  · rw [rl_none (by omega)]
    refine List.getElem?_eq_none ?_
    rw [List.length_set, rl_len]
    omega
theorem rl_succ {n : Nat} {f : Nat → V} : rl (n + 1) f = rl n f ++ [f n] := by
  unfold rl
  rw [List.range_succ, List.map_append]
  all_goals rfl

section
variable {κ : Type} [DecidableEq κ]
theorem valV_drop (kvs : List (κ × V)) (k j : κ) : valV (dropK kvs k) j = if j = k then none else valV kvs j := by
  induction kvs with
  | nil =>
    have : dropK ([] : List (κ × V)) k = [] := rfl
    rw [this]
    split <;> rfl
  | cons p r ih =>
    by_cases e : p.1 = k
    · rw [dropK_pos e, ih]
      by_cases q : j = k
      · rw [if_pos q, if_pos q]
      · rw [if_neg q, if_neg q, valV_neg (fun z => q (z.symm.trans e))]
    · rw [dropK_neg e]
      by_cases q : p.1 = j
      · rw [valV_pos q, valV_pos q, if_neg (fun z => e (q.trans z))]
      · rw [valV_neg q, valV_neg q, ih]
theorem nd_put {kvs : List (κ × V)} {k : κ} (v : V) (hn : (kvs.map (·.1)).Nodup) : ((putK kvs k v).map (·.1)).Nodup := by
  cases e : valV kvs k with
  | none => exact nd_putK v hn e
  | some u =>
    have h : putK kvs k v = kvs.map fun kv => if kv.1 = k then (kv.1, v) else kv := by
      unfold putK
      rw [valV_any, e]
      exact if_pos rfl
    have h2 : (kvs.map fun kv => if kv.1 = k then (kv.1, v) else kv).map (·.1) = kvs.map (·.1) := by
      rw [List.map_map]
      refine List.map_congr_left fun p _ => ?_
      show (if p.1 = k then (p.1, v) else p).1 = p.1
      split <;> rfl
    rw [h, h2]
    exact hn
theorem mem_keys {kvs : List (κ × V)} {k : κ} : k ∈ kvs.map (·.1) ↔ (valV kvs k).isSome = true := by
  constructor
  · intro h
    cases e : valV kvs k with
    | none => exact absurd h (valV_not e)
    | some _ => rfl
  · intro h
    obtain ⟨v, e⟩ := Option.isSome_iff_exists.mp h
    exact valV_in e
end
structure DictIs (kvs : List (Key × V)) (f : Str → Option V) : Prop where
  nd : (kvs.map (·.1)).Nodup
  at_ : ∀ s, valV kvs (Sum.inr s) = f s
  no : ∀ i, valV kvs (Sum.inl i) = none
def fput {α : Type} (f : Str → Option α) (s : Str) (v : α) : Str → Option α := fun x => if x = s then some v else f x
def fdel {α : Type} (f : Str → Option α) (s : Str) : Str → Option α := fun x => if x = s then none else f x
theorem DictIs.nil : DictIs [] (fun _ => none) := ⟨List.nodup_nil, fun _ => rfl, fun _ => rfl⟩
theorem DictIs.congr {kvs : List (Key × V)} {f g : Str → Option V} (h : DictIs kvs f) (e : ∀ s, f s = g s) : DictIs kvs g := ⟨h.nd, fun s => (h.at_ s).trans (e s), h.no⟩
theorem DictIs.put {kvs : List (Key × V)} {f : Str → Option V} (h : DictIs kvs f) (s : Str) (v : V) : DictIs (putK kvs (Sum.inr s) v) (fput f s v) := by
  refine ⟨nd_put v h.nd, fun x => ?_, fun i => ?_⟩
  · rw [valV_put]
    unfold fput
    by_cases e : x = s
    · rw [if_pos e, if_pos (by rw [e])]
    · rw [if_neg e, if_neg (fun z => e (Sum.inr.inj z)), h.at_]
  · rw [valV_put, if_neg (fun z => nomatch z), h.no]
theorem DictIs.drop {kvs : List (Key × V)} {f : Str → Option V} (h : DictIs kvs f) (s : Str) : DictIs (dropK kvs (Sum.inr s)) (fdel f s) := by
  refine ⟨nd_dropK h.nd, fun x => ?_, fun i => ?_⟩
  · rw [valV_drop]
    unfold fdel
    by_cases e : x = s
    · rw [if_pos e, if_pos (by rw [e])]
    · rw [if_neg e, if_neg (fun z => e (Sum.inr.inj z)), h.at_]
  · rw [valV_drop, if_neg (fun z => nomatch z), h.no]
def namesOf (kvs : List (Key × V)) : List Str := kvs.filterMap fun p => match p.1 with
  | .inr s => some s
  | .inl _ => none
theorem DictIs.inr {kvs : List (Key × V)} {f : Str → Option V} (h : DictIs kvs f) {p : Key × V} (hp : p ∈ kvs) : ∃ s, p.1 = Sum.inr s := by
  cases e : p.1 with
  | inr s => exact ⟨s, rfl⟩
  | inl i =>
    have : (Sum.inl i : Key) ∈ kvs.map (·.1) := List.mem_map.mpr ⟨p, hp, e⟩
    have q := mem_keys.mp this
    rw [h.no] at q
    cases q
theorem names_keys : ∀ {kvs : List (Key × V)}, (∀ p ∈ kvs, ∃ s, p.1 = Sum.inr s) → kvs.map (·.1) = (namesOf kvs).map Sum.inr
  | [], _ => rfl
  | p :: r, h => by
    obtain ⟨s, e⟩ := h p List.mem_cons_self
    have ih := names_keys (kvs := r) fun q hq => h q (List.mem_cons_of_mem _ hq)
    have : namesOf (p :: r) = s :: namesOf r := by
      unfold namesOf
      rw [List.filterMap_cons]
      simp only [e]
    rw [this, List.map_cons, List.map_cons, ih, e]
theorem DictIs.keys {kvs : List (Key × V)} {f : Str → Option V} (h : DictIs kvs f) : kvs.map (·.1) = (namesOf kvs).map Sum.inr := names_keys fun _ hp => h.inr hp
theorem DictIs.names_nd {kvs : List (Key × V)} {f : Str → Option V} (h : DictIs kvs f) : (namesOf kvs).Nodup := by
  have q := h.nd
  rw [h.keys] at q
  exact List.Pairwise.of_map Sum.inr (fun a b h e => h (by rw [e])) q
theorem DictIs.mem_names {kvs : List (Key × V)} {f : Str → Option V} (h : DictIs kvs f) (s : Str) : s ∈ namesOf kvs ↔ (f s).isSome = true := by
  rw [← h.at_, ← mem_keys, h.keys]
  constructor
  · intro m
    exact List.mem_map.mpr ⟨s, m, rfl⟩
  · intro m
    obtain ⟨x, hx, e⟩ := List.mem_map.mp m
    cases e
    exact hx
theorem DictIs.names_len {kvs : List (Key × V)} {f : Str → Option V} (h : DictIs kvs f) : (namesOf kvs).length = kvs.length := by
  have q := congrArg List.length h.keys
  rw [List.length_map, List.length_map] at q
  exact q.symm
theorem DictIs.kVs {kvs : List (Key × V)} {f : Str → Option V} (h : DictIs kvs f) : (kvs.map fun kv => kV kv.1) = (namesOf kvs).map V.str := by
  have e : (kvs.map fun kv => kV kv.1) = (kvs.map (·.1)).map kV := by
    rw [List.map_map]
    all_goals rfl
  rw [e, h.keys, List.map_map]
  all_goals rfl
def Few {α : Type} (N : Nat) (f : Str → Option α) : Prop := ∀ ns : List Str, ns.Nodup → (∀ s ∈ ns, (f s).isSome = true) → ns.length ≤ N
theorem DictIs.few {kvs : List (Key × V)} {f : Str → Option V} {N : Nat} (h : DictIs kvs f) (hl : kvs.length ≤ N) : Few N f := fun ns hn hs => by
  refine Nat.le_trans (few_of ns (namesOf kvs) hn fun s m => (h.mem_names s).mpr (hs s m)) ?_
  rw [h.names_len]
  exact hl
theorem Few.len {α : Type} {N : Nat} {g : Str → Option α} (w : Few N g) {kvs : List (Key × V)} {f : Str → Option V} (h : DictIs kvs f) (sub : ∀ s, (f s).isSome = true → (g s).isSome = true) : kvs.length ≤ N := by
  rw [← h.names_len]
  exact w _ h.names_nd fun s m => sub s ((h.mem_names s).mp m)
theorem Few.sub {α β : Type} {N : Nat} {f : Str → Option α} {g : Str → Option β} (w : Few N g) (sub : ∀ s, (f s).isSome = true → (g s).isSome = true) : Few N f := fun ns hn hs => w ns hn fun s m => sub s (hs s m)
theorem Few.put {α : Type} {N : Nat} {f : Str → Option α} (w : Few N f) (s : Str) (v : α) : Few (N + 1) (fput f s v) := fun ns hn hs => by
  have q := w (ns.erase s) (hn.erase s) fun x m => by
    have m' := List.mem_of_mem_erase m
    have h := hs x m'
    unfold fput at h
    by_cases e : x = s
    · subst e
      exact absurd m (List.Nodup.not_mem_erase hn)
    · rw [if_neg e] at h
      exact h
  by_cases m : s ∈ ns
  · have := List.length_erase_of_mem m
    omega
  · rw [List.erase_of_not_mem m] at q
    omega
theorem Few.del {α : Type} {N : Nat} {f : Str → Option α} (w : Few N f) (s : Str) : Few N (fdel f s) := w.sub fun x h => by
  unfold fdel at h
  split at h
  · cases h
  · exact h

def ky (k d : Nat) : List Key := [Sum.inl (k : Int), Sum.inl (d : Int)]
theorem ky_inj {k d k' d' : Nat} (e : ky k d = ky k' d') : k = k' ∧ d = d' := by
  unfold ky at e
  injection e with e1 e2
  injection e2 with e2 _
  have a := Sum.inl.inj e1
  have b := Sum.inl.inj e2
  omega
structure SlotsIs (skv : List (List Key × V)) (D : Nat → Nat → Option Addr) : Prop where
  nd : (skv.map (·.1)).Nodup
  at_ : ∀ k d, valV skv (ky k d) = (D k d).map V.ref
  few : ∀ p ∈ skv, ∃ k d, k < 6 ∧ d < 60 ∧ p.1 = ky k d
theorem SlotsIs.nil : SlotsIs [] (fun _ _ => none) := ⟨List.nodup_nil, fun _ _ => rfl, fun p hp => nomatch hp⟩
theorem SlotsIs.congr {skv : List (List Key × V)} {D D' : Nat → Nat → Option Addr} (h : SlotsIs skv D) (e : ∀ k d, D k d = D' k d) : SlotsIs skv D' := ⟨h.nd, fun k d => by rw [h.at_, e], h.few⟩
theorem SlotsIs.put {skv : List (List Key × V)} {D : Nat → Nat → Option Addr} (h : SlotsIs skv D) {k d : Nat} (a : Addr) (hk : k < 6) (hd : d < 60) :
    SlotsIs (putK skv (ky k d) (V.ref a)) (fun i j => if i = k ∧ j = d then some a else D i j) := by
  refine ⟨nd_put _ h.nd, fun i j => ?_, fun p hp => ?_⟩
  · rw [valV_put]
    by_cases e : i = k ∧ j = d
    · rw [if_pos e, if_pos (by rw [e.1, e.2])]
      all_goals rfl
    · rw [if_neg e, if_neg (fun z => e (ky_inj z)), h.at_]
  · have m : p.1 ∈ (putK skv (ky k d) (V.ref a)).map (·.1) := List.mem_map.mpr ⟨p, hp, rfl⟩
    have q := mem_keys.mp m
    rw [valV_put] at q
    by_cases e : p.1 = ky k d
    · exact ⟨k, d, hk, hd, e⟩
    · rw [if_neg e] at q
      obtain ⟨p', hp', e'⟩ := List.mem_map.mp (mem_keys.mpr q)
      obtain ⟨i, j, hi, hj, e2⟩ := h.few p' hp'
      exact ⟨i, j, hi, hj, e'.symm.trans e2⟩
theorem SlotsIs.drop {skv : List (List Key × V)} {D : Nat → Nat → Option Addr} (h : SlotsIs skv D) (k d : Nat) : SlotsIs (dropK skv (ky k d)) (fun i j => if i = k ∧ j = d then none else D i j) := by
  refine ⟨nd_dropK h.nd, fun i j => ?_, fun p hp => h.few p (dropK_mem hp)⟩
  rw [valV_drop]
  by_cases e : i = k ∧ j = d
  · rw [if_pos e, if_pos (by rw [e.1, e.2])]
    all_goals rfl
  · rw [if_neg e, if_neg (fun z => e (ky_inj z)), h.at_]
theorem SlotsIs.len {skv : List (List Key × V)} {D : Nat → Nat → Option Addr} (h : SlotsIs skv D) : skv.length ≤ 360 := by
  have q := few_of (skv.map (·.1)) ((List.range 6).flatMap fun k => (List.range 60).map fun d => ky k d) h.nd fun x hx => by
    obtain ⟨p, hp, e⟩ := List.mem_map.mp hx
    obtain ⟨k, d, hk, hd, e2⟩ := h.few p hp
    rw [← e, e2]
    exact List.mem_flatMap.mpr ⟨k, List.mem_range.mpr hk, List.mem_map.mpr ⟨d, List.mem_range.mpr hd, rfl⟩⟩
  have l : ((List.range 6).flatMap fun k => (List.range 60).map fun d => ky k d).length = 360 := by decide +kernel
  rw [l, List.length_map] at q
  exact q
end Wk

namespace Wr
open PySem PySem.Spec PyProof.Rows L2
section
variable {X : Cx}
def rSetdT : V → List V → Hp → VK → Prop := fun x xs H Q => ∃ (a : Addr) (kvs : List (List L2.Key × V)) (k : List L2.Key) (b : Addr) (d : V), x = .ref a ∧ xs = [.ref b, d] ∧ H a = some (.dT kvs) ∧ H b = some (.tup (k.map kV)) ∧ kvs.length < sizeLine ∧
  (∀ v, valV kvs k = some v → Q v H) ∧ (valV kvs k = none → Q d (upd H a (.dT (putK kvs k d))))
theorem mt_setdT (hu : X.A.units + 1 < cLine) : MtR X "dict.setdefault" rSetdT := by
  intro pins s σ H x xs v us Q I rx rxs h
  obtain ⟨a, kvs, k, b, d, rfl, rfl, ha, hb, hl, q1, q2⟩ := h
  cases rx
  obtain ⟨u1, u2, rfl, r1, r2⟩ := vals2 rxs
  cases r1
  obtain ⟨z, hd, xs', rel, dd⟩ := dt_of I.hok ha
  have hz : xs'.length ≤ sizeLine := by rw [← Paired.length rel]; exact z
  refine call_meetsIn PySem.F.slot_dict_setdefault dd.typeIs PySem.F.entry_dict_setdefault (PySem.F.args_dict_setdefault_3 _ _ _) (meetsH_dict_setdefault (tupleKind (mixKind X.prog X.w)) a b hd u2)
    ⟨tupleKind_room_in1 hu, k, xs', key_of I.hok hb, dd, hz, fun p hp => ?_, fun hn h' dd' hs => ?_⟩
  · have r := rel.val k
    rw [hp] at r
    obtain ⟨v0, ev, rv⟩ : ∃ v0, valV kvs k = some v0 ∧ RelV v0 p.2 := by
      cases ev : valV kvs k with
      | none =>
        rw [ev] at r
        exact (show False from r).elim
      | some v0 =>
        rw [ev] at r
        exact ⟨v0, rfl, r⟩
    exact ⟨v0, H, I.tok _, rv, q1 v0 ev⟩
  · have r := rel.val k
    rw [hn] at r
    have e : valV kvs k = none := by
      cases ev : valV kvs k with
      | none => rfl
      | some v0 =>
        rw [ev] at r
        exact (show False from r).elim
    have hl2 : (putK kvs k d).length ≤ sizeLine := by have := length_putK kvs k d; omega
    obtain ⟨o, es, ep, hq, h2, h3, h4, _, h5⟩ := dd'
    refine ⟨d, upd H a (.dT (putK kvs k d)), d_write I (by rw [ha]; exact True.intro) hs ⟨o, hq⟩ ⟨hl2, hd, _, (rel.put k hb r2).keeps fun c ys ec => ?_, o, es, ep, hq, h2, h3, h4, h5⟩, r2, q2 e⟩
    rw [upd_ne (ne_of ec ha (fun z => nomatch z))]
    exact ec
def rPopT1 : V → List V → Hp → VK → Prop := fun x xs H Q => ∃ (a : Addr) (kvs : List (List L2.Key × V)) (k : List L2.Key) (b : Addr) (v : V), x = .ref a ∧ xs = [.ref b] ∧ H a = some (.dT kvs) ∧ H b = some (.tup (k.map kV)) ∧
  valV kvs k = some v ∧ Q v (upd H a (.dT (dropK kvs k)))
theorem mt_popT1 (hu : X.A.units + 1 < cLine) : MtR X "dict.pop" rPopT1 := by
  intro pins s σ H x xs v us Q I rx rxs h
  obtain ⟨a, kvs, k, b, w0, rfl, rfl, ha, hb, hv, q⟩ := h
  cases rx
  obtain ⟨u1, rfl, r1⟩ := vals1 rxs
  cases r1
  obtain ⟨z, hd, xs', rel, dd⟩ := dt_of I.hok ha
  have hz : xs'.length ≤ sizeLine := by rw [← Paired.length rel]; exact z
  refine call_meetsIn PySem.F.slot_dict_pop dd.typeIs PySem.F.entry_dict_pop (PySem.F.args_dict_pop_2 _ _) (meetsH_dict_pop (tupleKind (mixKind X.prog X.w)) a b hd [] (.inl rfl))
    ⟨tupleKind_room_in1 hu, k, xs', key_of I.hok hb, dd, hz, fun p hp h' dd' hs => ?_, fun hn tk => ?_⟩
  · have r := rel.val k
    rw [hp, hv] at r
    obtain ⟨o, es, ep, hq, h2, h3, h4, _, h5⟩ := dd'
    have I2 : Inv X pins σ (upd H a (.dT (dropK kvs k))) { s with heap := h', toks := s.toks + (tupleKind (mixKind X.prog X.w)).draws k } :=
      d_write I (by rw [ha]; exact True.intro) hs ⟨o, hq⟩ ⟨Nat.le_trans (dropK_le kvs k) z, hd, _, (DX.KT_drop k rel).keeps (fun c ys ec => (by rw [upd_ne (ne_of ec ha (fun z => nomatch z))]; exact ec)), o, es, ep, hq, h2, h3, h4, h5⟩
    exact ⟨w0, _, I2, r, q⟩
  · have r := rel.val k
    rw [hn, hv] at r
    exact (show False from r).elim
def rPopK1 : V → List V → Hp → VK → Prop := fun x xs H Q => ∃ (a : Addr) (kvs : List (L2.Key × V)) (k : L2.Key) (v : V), x = .ref a ∧ xs = [kV k] ∧ H a = some (.dK kvs) ∧ valV kvs k = some v ∧ Q v (upd H a (.dK (dropK kvs k)))
theorem mt_popK1 : MtR X "dict.pop" rPopK1 := by
  intro pins s σ H x xs v us Q I rx rxs h
  obtain ⟨a, kvs, k, w0, rfl, rfl, ha, hv, q⟩ := h
  cases rx
  obtain ⟨u1, rfl, r1⟩ := vals1 rxs
  exact d_pop I ha r1 hv (.inl rfl) fun w' s' I' rw' => ⟨w0, _, I', rw', q⟩
def rUpdK : V → List V → Hp → VK → Prop := fun x xs H Q => ∃ (a b : Addr) (kvs more : List (L2.Key × V)), x = .ref a ∧ xs = [.ref b] ∧ a ≠ b ∧ H a = some (.dK kvs) ∧ H b = some (.dK more) ∧ kvs.length + more.length ≤ sizeLine ∧
  Q .non (upd H a (.dK (mergeK kvs more)))
theorem mt_updK : MtR X "dict.update" rUpdK := by
  intro pins s σ H x xs v us Q I rx rxs h
  obtain ⟨a, b, kvs, more, rfl, rfl, hab, ha, hb, hl, q⟩ := h
  cases rx
  obtain ⟨u1, rfl, r1⟩ := vals1 rxs
  cases r1
  obtain ⟨z, hd, vs, rel, dd⟩ := dk_of I.hok ha
  obtain ⟨z2, hd2, vs2, rel2, dd2⟩ := dk_of I.hok hb
  have e1 : kvs.length = vs.length := rel.length
  have e2 : more.length = vs2.length := rel2.length
  refine call_meetsIn PySem.F.slot_dict_update dd.typeIs PySem.F.entry_dict_update (PySem.F.args_dict_update_2 _ _) (meets_dict_update (mixKind X.prog X.w) a b hab hd2)
    ⟨vs, vs2, dd, dd2, by rw [← e1, ← e2]; exact hl, fun h' dd' _ hs => ?_⟩
  have hz : (mergeK kvs more).length ≤ sizeLine := Nat.le_trans (length_mergeK more kvs) hl
  have he : ∃ q, h'.get? a = some q := let ⟨q, _, _, hq, _⟩ := dd'; ⟨q, hq⟩
  exact ⟨.non, _, d_write (t' := s.toks) I (by rw [ha]; exact True.intro) hs he (dk_new hz hd (rel2.merge rel) dd'), rfl, q⟩
def rEqE : R2 := fun x y H Q => ∃ (a b : Addr) (ks : List (L2.Key × V)), x = .ref a ∧ y = .ref b ∧ H a = some (.dK ks) ∧ H b = some (.dK []) ∧ Q (.bl ks.isEmpty) H
theorem op_eqE (hu : X.A.units < cLine) : OpR X (compareOp .Eq) rEqE := by
  intro pins s σ H x y v u Q I rx ry h
  obtain ⟨a, b, ks, rfl, rfl, ea, eb, q⟩ := h
  obtain rfl : v = Value.ref a := rx
  obtain rfl : u = Value.ref b := ry
  obtain ⟨_, ya, va, ra, da⟩ := (show ObjOk X.prog X.w H s.heap a (.dK ks) from I.hok a _ ea)
  obtain ⟨_, yb, vb, rb, db⟩ := (show ObjOk X.prog X.w H s.heap b (.dK []) from I.hok b _ eb)
  cases rb
  refine PySem.W.keq_eq (knd := mixKind X.prog X.w) (r := true) ya yb da db hu (fun hl => ?_) (fin_bl I q ?_)
  · cases va with
    | nil => exact .nil
    | cons _ _ => simp at hl
  · have hl : ks.length = va.length := ra.length
    cases ks with
    | nil =>
      cases va with
      | nil => rfl
      | cons _ _ => simp at hl
    | cons _ _ =>
      cases va with
      | nil => simp at hl
      | cons _ _ => rfl
end

section
variable {prog : Program} {w : World} {A : Around} {E : Value → Shared → Prop} {s : Shared}
def IsIS (h : Heap) (v : Value) (x : Int) (y : Str) : Prop := ∃ a o t u n, v = .ref a ∧ h.get? a = some o ∧ o.cls = .type "tuple" ∧ o.data = .seq #[.int x t, .str y u] n
theorem IsIS.keeps {h h' : Heap} {v : Value} {x : Int} {y : Str} (p : IsIS h v x y) (k : ∀ b o, h.get? b = some o → o.cls = .type "tuple" → h'.get? b = some o) : IsIS h' v x y := by
  obtain ⟨a, o, t, u, n, e, ho, hc, hd⟩ := p
  exact ⟨a, o, t, u, n, e, k _ _ ho hc, hc, hd⟩
theorem is_tot {vs : List Value} (hp : ∀ v ∈ vs, ∃ x y, IsIS s.heap v x y) : Srt.Tot prog w A s (tuples' true) (fun p => p.1 ∈ vs) := by
  intro p q hm hm'
  obtain ⟨x, y, a, o, t, u, n, e, ho, hc, hd⟩ := hp _ hm
  obtain ⟨x', y', a', o', t', u', n', e', ho', hc', hd'⟩ := hp _ hm'
  rw [e, e']
  refine ⟨if x = x' then (if y = y' then false else decide (y.cps.toList < y'.cps.toList)) else decide (x < x'), ?_⟩
  refine PySem.W.kat_lt ho hd ho' hd' ?_
  show PySem.W.KatLex prog w A true (decide (2 < 2)) _ [(.int x t, .int x' t'), (.str y u, .str y' u')] 0 s
  refine PySem.W.kat_cons (SeqAt.EqAt.int_int x t x' t' prog w _ _ ?_)
  refine PySem.W.kat_go (fun e1 => ?_) (fun e1 => ?_)
  · have ex : x = x' := by simpa using e1
    refine PySem.W.kat_yes (PySem.W.kat_cons (SeqAt.EqAt.str_str y u y' u' prog w _ _ ?_))
    refine PySem.W.kat_go (fun e2 => ?_) (fun e2 => ?_)
    · have ey : y = y' := by simpa using e2
      have e3 : (if x = x' then (if y = y' then false else decide (y.cps.toList < y'.cps.toList)) else decide (x < x')) = false := by rw [if_pos ex, if_pos ey]
      exact PySem.W.kat_yes (PySem.W.kat_nil ⟨rfl, e3.symm⟩)
    · have ey : ¬ y = y' := by simpa using e2
      have e3 : (if x = x' then (if y = y' then false else decide (y.cps.toList < y'.cps.toList)) else decide (x < x')) = decide (y.cps.toList < y'.cps.toList) := by rw [if_pos ex, if_neg ey]
      refine PySem.W.kat_no (PySem.W.kat_one _ _ (PyProof.Rows.lt_str ?_))
      exact (show s = s ∧ decide (y.cps.toList < y'.cps.toList) = (if x = x' then (if y = y' then false else decide (y.cps.toList < y'.cps.toList)) else decide (x < x')) from ⟨rfl, e3.symm⟩)
  · have ex : ¬ x = x' := by simpa using e1
    have e3 : (if x = x' then (if y = y' then false else decide (y.cps.toList < y'.cps.toList)) else decide (x < x')) = decide (x < x') := by rw [if_neg ex]
    exact PySem.W.kat_no (oneLt_int ⟨rfl, e3.symm⟩)
theorem is_firsts {h : Heap} : ∀ {vs : List Value}, (∀ v ∈ vs, ∃ x y, IsIS h v x y) → ∃ fs : List Value, PySem.W.KatTups h vs fs ∧ fs.length = vs.length ∧ ∀ f ∈ fs, ∃ x t, f = Value.int x t
  | [], _ => ⟨[], PySem.W.KatTups.nil, rfl, fun _ hm => by simp at hm⟩
  | v :: vs, hp => by
    obtain ⟨fs, h1, h2, h3⟩ := is_firsts (vs := vs) fun v' hm => hp v' (List.mem_cons_of_mem _ hm)
    obtain ⟨x, y, a, o, t, u, n, e, ho, hc, hd⟩ := hp v (List.mem_cons_self ..)
    subst e
    refine ⟨.int x t :: fs, PySem.W.KatTups.cons ho hc hd rfl h1, by rw [List.length_cons, List.length_cons, h2], fun f hm => ?_⟩
    rcases List.mem_cons.mp hm with rfl | hm
    · exact ⟨x, t, rfl⟩
    · exact h3 f hm
theorem is_sortable {a : Addr} {vs : List Value} (h0 : 0 < vs.length) (hp : ∀ v ∈ vs, ∃ x y, IsIS s.heap v x y) (ha : ∀ o, s.heap.get? a = some o → o.cls ≠ .type "tuple") : Srt.Sortable prog w A s a vs := by
  intro h' keep
  have hp' : ∀ v ∈ vs, ∃ x y, IsIS h' v x y := fun v hm => by
    obtain ⟨x, y, p⟩ := hp v hm
    exact ⟨x, y, p.keeps fun b o e c => keep b o (fun z => by subst z; exact ha o e c) e⟩
  obtain ⟨fs, h1, h2, h3⟩ := is_firsts hp'
  refine ⟨tuples' true, fun Q E hq => ?_, is_tot hp'⟩
  refine PySem.W.kat_kind (T := .type "int") h1 (by omega) (fun f hm => ?_) (by rfl) ?_
  · obtain ⟨x, t, rfl⟩ := h3 f hm
    exact PySem.W.Looks.now
  · have e : (Value.type "int" != Value.type "tuple") = true := by first | decide +kernel | rfl | decide
    rw [e]
    exact hq
theorem sorted_is {l : Addr} {vs : List Value} {Q : Value → Shared → Prop} (hl : s.heap.IsList l vs.toArray) (hz : vs.length ≤ sizeLine) (hp : ∀ v ∈ vs, ∃ x y, IsIS s.heap v x y)
    (h : ∀ (h' : Heap) (d : Addr) (out : List Value), out.Perm vs → (∀ b o, s.heap.get? b = some o → h'.get? b = some o) → s.heap.objs.size ≤ d → (∃ n, h'.get? d = some (seqObj "list" out.toArray n)) → Q (.ref d) { s with heap := h' }) :
    wpAny (model prog w) A (call (.builtin "sorted") [.ref l]) Q E s := by
  refine Srt.sorted_any hl hz (fun h2 h₁ a ha k => ?_) fun out ho => ?_
  · refine is_sortable (s := { s with heap := h₁ }) (by omega) (fun v hm => ?_) fun o e => ?_
    · obtain ⟨x, y, p⟩ := hp v hm
      exact ⟨x, y, p.keeps fun b o e _ => (k b o e).2⟩
    · have e' : some o = some (seqObj "list" vs.toArray 0) := e.symm.trans ha
      cases e'
      intro c
      exact absurd (Value.type.inj c) (by decide)
  · exact h _ _ out ho (fun b o e => sortedAll_old e) (Nat.le_succ _) (sortedAll_at s.heap vs out.toArray)
end
section
variable {X : Cx}
def rSortIS (K : PySem.W.Frag) : List V → Hp → VK → Prop := fun vs H Q => ∃ a xs, vs = [V.ref a] ∧ SqL K H a xs ∧ (∀ x ∈ xs, ∃ t i j, x = V.ref t ∧ H t = some (.tup [.int i, .str j])) ∧
  ∀ ys p, ys.Perm xs → H p = none → Q (.ref p) (upd H p (.lst ys))
theorem cr_sortIS : CallR X (.builtin "sorted") (rSortIS X.K) := by
  intro pins s σ H vs us Q I r h
  obtain ⟨a, xs, rfl, hs, hx, q⟩ := h
  obtain ⟨its, rv, hl, hz⟩ := I.list hs
  obtain ⟨u, rfl, ru⟩ := vals1 r
  obtain rfl : u = Value.ref a := ru
  obtain ⟨e1, e2⟩ := refs_back rv fun x m => by
    obtain ⟨t, _, _, e, _⟩ := hx x m
    exact ⟨t, e⟩
  refine sorted_is hl.isList (by rw [← rv.length]; exact hz) (fun v hv => ?_) fun h' d out hp k hd hn => ?_
  · obtain ⟨t, rfl⟩ := e2 v hv
    have hm : V.ref t ∈ xs := by rw [e1]; exact List.mem_map.mpr ⟨_, hv, rfl⟩
    obtain ⟨t', i, j, e, ht⟩ := hx _ hm
    cases e
    obtain ⟨_, its2, r2, o, ho, hc, n, hd⟩ := I.hok _ _ ht
    obtain ⟨u1, u2, rfl, ri, rj⟩ := vals2 r2
    obtain ⟨t1, rfl⟩ := ri
    obtain ⟨t2, rfl⟩ := rj
    exact ⟨i, j, t, o, t1, t2, n, rfl, ho, hc, hd⟩
  · have h3 : ∀ u ∈ out, ∃ a, u = Value.ref a := fun u hu => e2 u (hp.mem_iff.mp hu)
    obtain ⟨n, hn⟩ := hn
    refine ⟨.ref d, upd H d (.lst (out.map backV)), I.laid (t' := s.toks) k hd ⟨?_, out, n, vals_back h3, hn⟩, rfl, q _ d ?_ (I.hok.fresh hd)⟩
    · rw [List.length_map, hp.length_eq, ← rv.length]; exact hz
    · rw [e1]; exact hp.map backV
end

section
variable {X : Cx} {CX : CXT} {k : Nat} {C f : Addr} {mc : Value} {fd : FuncData} {ps : List Str} {sp : Sp} {dvs : List V} {ds : List Value} {E : XK} {m : Str} {pos apos : Pos} {e o : Expr} {es : List Expr} {ta : TE} {t : TA} {pl : Sem Bool}
structure ClsFn (K : PySem.W.Frag) (C : Addr) (mc : Value) (m : Str) (f : Addr) : Prop where
  rd : ClX.CRead K C mc
  at_ : PySem.W.findCls K (.ref C) mc m = some (.val (.ref f))
  kp : PySem.W.keepIn K (.ref f) = true
def tCFn (C : Addr) (sp : Sp) (dvs : List V) (E : XK) (ta : TE) (t : TA) : TE := fun σ H Q => ta σ H fun x H1 => x = .ref C ∧ t σ H1 fun vs H2 => sp (vs ++ dvs) H2 Q E
theorem pe_cfn (he : PE X o ta) (c : ClsFn X.K C mc m f) (F : FnOk X.prog X.w X.K X.mg X.base CX k f fd ps sp) (hr : Room k X.A) (hb : Binds X.K fd ps ds) (hd : Vals dvs ds) (hx : Passes CX X E) (ha : PA X (e :: es) t)
    (hst : starEach (e :: es) X.env = (false, eval e X.env) :: starEach es X.env := by rfl) (hpl : (backTo pos (starEach es X.env)).any (·.1) = false := by rfl)
    (ht : eval (.Call (.Attribute o m apos) (e :: es) [] pos) X.env = (do
      let ov ← eval o X.env
      standAt apos.atName
      let (f, first) ← holding [ov] (getMethod ov m pl)
      callWith pos f first (backTo pos (starEach (e :: es) X.env)) (backToKw pos (keywordEach [] X.env))) := by rfl) :
    PE X (.Call (.Attribute o m apos) (e :: es) [] pos) (tCFn C sp dvs E ta t) := by
  refine ⟨fun pins s σ H Q I h => ?_⟩
  refine PySem.W.methodCall_KW (pl := pl) (thn (he.run pins s σ H _ I h) fun u s1 ⟨x, H1, I1, rx, ex, q⟩ => ?_) ht
  subst ex
  obtain rfl : u = Value.ref C := rx
  refine PySem.W.method_cls I1.kIn c.rd.ga (PySem.W.cls_value I1.kIn c.rd.rd c.at_ rfl ?_)
  have I1' := I1.tok (s1.toks + 1)
  refine PySem.W.callWith_K (first := []) (h₀ := X.base) I1.ok.mod.kin c.kp (thn (ha.run pos pins _ σ H1 _ I1' q) fun us s2 ⟨vs, H2, I2, r, q2⟩ => ⟨I2.kIn, ?_⟩) hst hpl
  exact run_fn (us := us) (vs := vs) F hr hb hd hx I2 r q2
end
end Wr

namespace Wk
open PySem L2 Wr
structure Cfg where
  p : Addr
  tm : Addr
  rd : Addr
  un : Addr
  mks : Addr
  sl : Addr
  fr : Addr
  ly : Addr
  fl : Addr
  n : Nat
  rr : Nat → Int
  uu : Nat → Int
def flds (c : Cfg) (now : Int) : List (Str × V) :=
  [("now", .int now), ("times", .ref c.tm), ("rounds", .ref c.rd), ("units", .ref c.un), ("masks", .ref c.mks), ("slots", .ref c.sl), ("far", .ref c.fr), ("lying", .ref c.ly), ("falls", .ref c.fl)]
theorem look_hit {f : Str} {v : V} {r : List (Str × V)} : ((f, v) :: r).lookup f = some v := by
  rw [List.lookup_cons]
  simp
theorem look_miss {f g : Str} {v : V} {r : List (Str × V)} (h : ¬ f = g) : ((g, v) :: r).lookup f = r.lookup f := by
  rw [List.lookup_cons]
  have e : (f == g) = false := by simpa using h
  rw [e]
theorem flds_now (c : Cfg) (w : Int) : (flds c w).lookup ("now" : Str) = some (.int w) := look_hit
theorem flds_times (c : Cfg) (w : Int) : (flds c w).lookup ("times" : Str) = some (.ref c.tm) :=
  (look_miss (by decide +kernel)).trans look_hit
theorem flds_rounds (c : Cfg) (w : Int) : (flds c w).lookup ("rounds" : Str) = some (.ref c.rd) :=
  (look_miss (by decide +kernel)).trans ((look_miss (by decide +kernel)).trans look_hit)
theorem flds_units (c : Cfg) (w : Int) : (flds c w).lookup ("units" : Str) = some (.ref c.un) :=
  (look_miss (by decide +kernel)).trans ((look_miss (by decide +kernel)).trans ((look_miss (by decide +kernel)).trans look_hit))
theorem flds_masks (c : Cfg) (w : Int) : (flds c w).lookup ("masks" : Str) = some (.ref c.mks) :=
  (look_miss (by decide +kernel)).trans ((look_miss (by decide +kernel)).trans ((look_miss (by decide +kernel)).trans ((look_miss (by decide +kernel)).trans look_hit)))
theorem flds_slots (c : Cfg) (w : Int) : (flds c w).lookup ("slots" : Str) = some (.ref c.sl) :=
  (look_miss (by decide +kernel)).trans ((look_miss (by decide +kernel)).trans ((look_miss (by decide +kernel)).trans ((look_miss (by decide +kernel)).trans ((look_miss (by decide +kernel)).trans look_hit))))
theorem flds_far (c : Cfg) (w : Int) : (flds c w).lookup ("far" : Str) = some (.ref c.fr) :=
  (look_miss (by decide +kernel)).trans ((look_miss (by decide +kernel)).trans ((look_miss (by decide +kernel)).trans ((look_miss (by decide +kernel)).trans ((look_miss (by decide +kernel)).trans ((look_miss (by decide +kernel)).trans look_hit)))))
theorem flds_lying (c : Cfg) (w : Int) : (flds c w).lookup ("lying" : Str) = some (.ref c.ly) :=
  (look_miss (by decide +kernel)).trans ((look_miss (by decide +kernel)).trans ((look_miss (by decide +kernel)).trans ((look_miss (by decide +kernel)).trans ((look_miss (by decide +kernel)).trans ((look_miss (by decide +kernel)).trans ((look_miss (by decide +kernel)).trans look_hit))))))
theorem flds_falls (c : Cfg) (w : Int) : (flds c w).lookup ("falls" : Str) = some (.ref c.fl) :=
  (look_miss (by decide +kernel)).trans ((look_miss (by decide +kernel)).trans ((look_miss (by decide +kernel)).trans ((look_miss (by decide +kernel)).trans ((look_miss (by decide +kernel)).trans ((look_miss (by decide +kernel)).trans ((look_miss (by decide +kernel)).trans ((look_miss (by decide +kernel)).trans look_hit)))))))
def fnames : List Str := ["now", "times", "rounds", "units", "masks", "slots", "far", "lying", "falls"]
theorem look_none {f : Str} : ∀ {l : List (Str × V)}, f ∉ l.map (·.1) → l.lookup f = none
  | [], _ => rfl
  | (g, v) :: r, h => by
    rw [look_miss fun e => h (by rw [e]; exact List.mem_cons_self)]
    exact look_none fun m => h (List.mem_cons_of_mem _ m)
theorem flds_no (c : Cfg) (w : Int) {m : Str} (h : m ∉ fnames) : (flds c w).lookup m = none := look_none h
theorem flds_set (c : Cfg) (w w' : Int) : putF "now" (.int w') (flds c w) = flds c w' := by
  unfold flds
  show (if ("now" : Str) = "now" then _ else _) = _
  rw [if_pos rfl]

def Keeps (Z : Addr → Prop) (H : Hp) (Z' : Addr → Prop) (H' : Hp) : Prop := ∀ b o, H b = some o → ¬ Z b → H' b = some o ∧ ¬ Z' b
theorem Keeps.refl (Z : Addr → Prop) (H : Hp) : Keeps Z H Z H := fun _ _ h z => ⟨h, z⟩
theorem Keeps.trans {Z Z1 Z2 : Addr → Prop} {H H1 H2 : Hp} (a : Keeps Z H Z1 H1) (b : Keeps Z1 H1 Z2 H2) : Keeps Z H Z2 H2 := fun c o h z => let ⟨h1, z1⟩ := a c o h z; b c o h1 z1
theorem Keeps.same {Z : Addr → Prop} {H H' : Hp} (s : Same H H') : Keeps Z H Z H' := fun b o h z => ⟨s b o h, z⟩
theorem Keeps.put {Z : Addr → Prop} {H : Hp} {a : Addr} {o : HO} (z : Z a) : Keeps Z H Z (upd H a o) := fun b u h nz => ⟨by rw [upd_ne fun e => nz (by rw [e]; exact z)]; exact h, nz⟩
theorem Keeps.new {Z : Addr → Prop} {H : Hp} {a : Addr} {o : HO} (n : H a = none) : Keeps Z H Z (upd H a o) := fun b u h nz => ⟨by rw [upd_ne (ne_of_none h n)]; exact h, nz⟩
theorem same_new {H : Hp} {a : Addr} {o : HO} (n : H a = none) : Same H (upd H a o) := fun b u h => by rw [upd_ne (ne_of_none h n)]; exact h
theorem Keeps.grow {Z : Addr → Prop} {H H' : Hp} {Z1 : Addr → Prop} {Z2 : Addr → Prop} (k : Keeps Z H Z1 H') (h : ∀ b, Z2 b → Z1 b ∨ H b = none) : Keeps Z H Z2 H' := fun b o e nz => by
  obtain ⟨h1, h2⟩ := k b o e nz
  refine ⟨h1, fun z => ?_⟩
  rcases h b z with q | q
  · exact h2 q
  · rw [e] at q
    cases q
theorem Keeps.wide {Z Z1 : Addr → Prop} {H H' : Hp} (k : Keeps Z H Z1 H') (W : Addr → Prop) : Keeps (fun b => Z b ∨ W b) H (fun b => Z1 b ∨ W b) H' := fun b o e nz => by
  obtain ⟨h1, h2⟩ := k b o e fun z => nz (.inl z)
  exact ⟨h1, fun z => z.elim h2 fun z => nz (.inr z)⟩
theorem upd_at {H : Hp} {a b : Addr} {o u : HO} (h : H b = some u) (ne : b ≠ a) : upd H a o b = some u := by
  rw [upd_ne ne]
  exact h

structure Shape (C : Addr) (c : Cfg) (H : Hp) (now : Int) : Prop where
  U : Units c.n c.rr c.uu
  ob : ∃ dx, H c.p = some (.ins C dx (flds c now))
  rd : H c.rd = some (.lst (rl c.n fun k => .int (c.rr k)))
  un : H c.un = some (.lst (rl (c.n + 1) fun k => .int (c.uu k)))
theorem Shape.same {C : Addr} {c : Cfg} {H H' : Hp} {now : Int} (h : Shape C c H now) (s : Same H H') : Shape C c H' now :=
  ⟨h.U, let ⟨dx, e⟩ := h.ob; ⟨dx, s _ _ e⟩, s _ _ h.rd, s _ _ h.un⟩
structure Inst (C : Addr) (c : Cfg) (H : Hp) (Z : Addr → Prop) (now : Int) : Prop extends Shape C c H now where
  zp : ¬ Z c.p
  zr : ¬ Z c.rd
  zu : ¬ Z c.un
theorem Inst.keeps {C : Addr} {c : Cfg} {H H' : Hp} {Z Z' : Addr → Prop} {now : Int} (h : Inst C c H Z now) (k : Keeps Z H Z' H') : Inst C c H' Z' now := by
  obtain ⟨dx, e⟩ := h.ob
  have a := k _ _ e h.zp
  have b := k _ _ h.rd h.zr
  have d := k _ _ h.un h.zu
  exact ⟨⟨h.U, ⟨dx, a.1⟩, b.1, d.1⟩, a.2, b.2, d.2⟩

abbrev Gm := Str → Option (Nat × Int)
def lyF (G : Gm) : Str → Option V := fun s => (G s).map fun q => V.int ((q.1 : Nat) : Int)
def farF (n : Nat) (G : Gm) : Str → Option V := fun s => match G s with
  | some q => if q.1 = n then some (V.bl true) else none
  | none => none
def slF (c : Cfg) (G : Gm) (k d : Nat) : Str → Option V := fun s => match G s with
  | some q => if q.1 = k ∧ slot c.rr c.uu k q.2 = d then some (V.bl true) else none
  | none => none
def flF (F : Str → Option Int) : Str → Option V := fun s => (F s).map V.int
theorem farF_iff {n : Nat} {G : Gm} {s : Str} : (farF n G s).isSome = true ↔ ∃ t, G s = some (n, t) := by
  unfold farF
  cases e : G s with
  | none => simp
  | some q =>
    obtain ⟨k, t⟩ := q
    show (if k = n then some (V.bl true) else none).isSome = true ↔ _
    by_cases h : k = n
    · rw [if_pos h]
      exact ⟨fun _ => ⟨t, by rw [h]⟩, fun _ => rfl⟩
    · rw [if_neg h]
      refine ⟨fun z => absurd z (by simp), fun ⟨t', e'⟩ => ?_⟩
      have e2 := Option.some.inj e'
      exact absurd (congrArg Prod.fst e2) h
theorem slF_iff {c : Cfg} {G : Gm} {k d : Nat} {s : Str} : (slF c G k d s).isSome = true ↔ ∃ t, G s = some (k, t) ∧ slot c.rr c.uu k t = d := by
  unfold slF
  cases e : G s with
  | none => simp
  | some q =>
    obtain ⟨j, t⟩ := q
    show (if j = k ∧ slot c.rr c.uu k t = d then some (V.bl true) else none).isSome = true ↔ _
    by_cases h : j = k ∧ slot c.rr c.uu k t = d
    · rw [if_pos h]
      exact ⟨fun _ => ⟨t, by rw [h.1], h.2⟩, fun _ => rfl⟩
    · rw [if_neg h]
      refine ⟨fun z => absurd z (by simp), fun ⟨t', e', e3⟩ => ?_⟩
      have e2 := Option.some.inj e'
      injection e2 with a b
      subst b
      exact absurd ⟨a, e3⟩ h
structure CoreD (c : Cfg) (H : Hp) (Z : Addr → Prop) (G : Gm) (F : Str → Option Int) (M : Nat → Nat) (D : Nat → Nat → Option Addr) (lkv fkv gkv : List (Key × V)) (skv : List (List Key × V)) : Prop where
  mks : H c.mks = some (.lst (rl c.n fun k => V.int ((M k : Nat) : Int)))
  ly : H c.ly = some (.dK lkv)
  lyd : DictIs lkv (lyF G)
  fr : H c.fr = some (.dK fkv)
  frd : DictIs fkv (farF c.n G)
  fl : H c.fl = some (.dK gkv)
  fld : DictIs gkv (flF F)
  sl : H c.sl = some (.dT skv)
  sld : SlotsIs skv D
  dd : ∀ k d a, D k d = some a → ∃ kvs, H a = some (.dK kvs) ∧ DictIs kvs (slF c G k d)
  dne : ∀ k d a, D k d = some a → ∃ s t, G s = some (k, t) ∧ slot c.rr c.uu k t = d
  dno : ∀ k d s t, k < c.n → D k d = none → G s = some (k, t) → slot c.rr c.uu k t ≠ d
  dlt : ∀ k d a, D k d = some a → k < c.n
  dinj : ∀ k d k' d' a, D k d = some a → D k' d' = some a → k = k' ∧ d = d'
  dsep : ∀ k d a, D k d = some a → a ≠ c.ly ∧ a ≠ c.fr ∧ a ≠ c.fl
  lf : c.ly ≠ c.fr
  ll : c.ly ≠ c.fl
  ff : c.fr ≠ c.fl
  bit : ∀ k d, k < c.n → (M k).testBit d = (D k d).isSome
  gk : ∀ s k t, G s = some (k, t) → k ≤ c.n
  zm : Z c.mks
  zl : Z c.ly
  zf : Z c.fr
  zg : Z c.fl
  zs : Z c.sl
  zd : ∀ k d a, D k d = some a → Z a
  za : ∀ b, Z b → ∃ o, H b = some o
def Core (c : Cfg) (H : Hp) (Z : Addr → Prop) (G : Gm) (F : Str → Option Int) : Prop := ∃ M D lkv fkv gkv skv, CoreD c H Z G F M D lkv fkv gkv skv
section
variable {c : Cfg} {H : Hp} {Z : Addr → Prop} {G : Gm} {F : Str → Option Int} {M : Nat → Nat} {D : Nat → Nat → Option Addr} {lkv fkv gkv : List (Key × V)} {skv : List (List Key × V)}
theorem CoreD.same {H' : Hp} (x : CoreD c H Z G F M D lkv fkv gkv skv) (s : Same H H') : CoreD c H' Z G F M D lkv fkv gkv skv :=
  { x with
    mks := s _ _ x.mks
    ly := s _ _ x.ly
    fr := s _ _ x.fr
    fl := s _ _ x.fl
    sl := s _ _ x.sl
    dd := fun k d a e => let ⟨kvs, h1, h2⟩ := x.dd k d a e; ⟨kvs, s _ _ h1, h2⟩
    za := fun b z => let ⟨o, h⟩ := x.za b z; ⟨o, s _ _ h⟩ }
theorem Core.same {H' : Hp} (x : Core c H Z G F) (s : Same H H') : Core c H' Z G F := by
  obtain ⟨M, D, l, f, g, k, x⟩ := x
  exact ⟨M, D, l, f, g, k, x.same s⟩
theorem Core.gk (x : Core c H Z G F) {s : Str} {k : Nat} {t : Int} (h : G s = some (k, t)) : k ≤ c.n := by
  obtain ⟨M, D, l, f, g, q, x⟩ := x
  exact x.gk s k t h
theorem Core.za (x : Core c H Z G F) {b : Addr} (h : Z b) : ∃ o, H b = some o := by
  obtain ⟨M, D, l, f, g, q, x⟩ := x
  exact x.za b h
theorem Core.nz (x : Core c H Z G F) {b : Addr} (h : H b = none) : ¬ Z b := fun z => by
  obtain ⟨o, e⟩ := x.za z
  rw [h] at e
  cases e
theorem Core.congr {G' : Gm} (x : Core c H Z G F) (h : ∀ s, G s = G' s) : Core c H Z G' F := by
  have : G = G' := funext h
  rw [← this]
  exact x
theorem za_by {H H' : Hp} {b : Addr} {l : List Addr} (h : ∃ o, H b = some o) (hl : ∀ a ∈ l, ∃ o, H' a = some o) (kp : ∀ o, H b = some o → (∀ a ∈ l, b ≠ a) → H' b = some o) : ∃ o, H' b = some o := by
  obtain ⟨o, h⟩ := h
  by_cases m : b ∈ l
  · exact hl b m
  · exact ⟨o, kp o h fun a ha e => m (by rw [e]; exact ha)⟩
theorem all2 {H' : Hp} {a b : Addr} {o u : HO} (h1 : H' a = some o) (h2 : H' b = some u) : ∀ x ∈ [a, b], ∃ o, H' x = some o := fun x m => by
  rcases List.mem_cons.mp m with e | m
  · exact ⟨o, by rw [e]; exact h1⟩
  · exact ⟨u, by rw [List.mem_singleton.mp m]; exact h2⟩
theorem CoreD.far_in {H' : Hp} {name : Str} {t : Int} (x : CoreD c H Z G F M D lkv fkv gkv skv) (hg : G name = none)
    (kp : ∀ b o, H b = some o → b ≠ c.ly → b ≠ c.fr → H' b = some o) (hl : H' c.ly = some (.dK (putK lkv (Sum.inr name) (.int (c.n : Nat))))) (hf : H' c.fr = some (.dK (putK fkv (Sum.inr name) (.bl true)))) :
    CoreD c H' Z (fput G name (c.n, t)) F M D (putK lkv (Sum.inr name) (.int (c.n : Nat))) (putK fkv (Sum.inr name) (.bl true)) gkv skv := by
  have ml : c.mks ≠ c.ly := ne_of x.mks x.ly fun z => nomatch z
  have mf : c.mks ≠ c.fr := ne_of x.mks x.fr fun z => nomatch z
  have sl : c.sl ≠ c.ly := ne_of x.sl x.ly fun z => nomatch z
  have sf : c.sl ≠ c.fr := ne_of x.sl x.fr fun z => nomatch z
  have out : ∀ s, s ≠ name → fput G name (c.n, t) s = G s := fun s h => if_neg h
  have at_ : fput G name (c.n, t) name = some (c.n, t) := if_pos rfl
  refine { x with
    mks := kp _ _ x.mks ml mf
    ly := hl
    lyd := (x.lyd.put name _).congr fun s => ?_
    fr := hf
    frd := (x.frd.put name _).congr fun s => ?_
    fl := kp _ _ x.fl x.ll.symm x.ff.symm
    sl := kp _ _ x.sl sl sf
    dd := fun k d a e => ?_
    dne := fun k d a e => ?_
    dno := fun k d s u hk hd hs => ?_
    gk := fun s k u hs => ?_
    za := fun b z => za_by (x.za b z) (all2 hl hf) fun o h n => kp b o h (n _ (by simp)) (n _ (by simp)) }
  · show (if s = name then _ else lyF G s) = lyF (fput G name (c.n, t)) s
    unfold lyF
    by_cases e : s = name
    · rw [if_pos e, e, at_]
      all_goals rfl
    · rw [if_neg e, out s e]
  · show (if s = name then _ else farF c.n G s) = farF c.n (fput G name (c.n, t)) s
    unfold farF
    by_cases e : s = name
    · rw [if_pos e, e, at_]
      show some (V.bl true) = if c.n = c.n then some (V.bl true) else none
      rw [if_pos rfl]
    · rw [if_neg e, out s e]
  · obtain ⟨kvs, h1, h2⟩ := x.dd k d a e
    have ne := x.dsep k d a e
    refine ⟨kvs, kp _ _ h1 ne.1 ne.2.1, h2.congr fun s => ?_⟩
    unfold slF
    by_cases q : s = name
    · rw [q, hg, at_]
      have hk := x.dlt k d a e
      show none = if c.n = k ∧ _ then _ else none
      rw [if_neg fun z => by omega]
    · rw [out s q]
  · obtain ⟨s, u, h1, h2⟩ := x.dne k d a e
    have q : s ≠ name := fun q => by rw [q, hg] at h1; cases h1
    exact ⟨s, u, by rw [out s q]; exact h1, h2⟩
  · by_cases q : s = name
    · rw [q, at_] at hs
      injection hs with hs
      injection hs with h1 h2
      omega
    · rw [out s q] at hs
      exact x.dno k d s u hk hd hs
  · by_cases q : s = name
    · rw [q, at_] at hs
      injection hs with hs
      injection hs with h1 h2
      omega
    · rw [out s q] at hs
      exact x.gk s k u hs
theorem CoreD.slot_in {H' : Hp} {Z' : Addr → Prop} {M' : Nat → Nat} {D' : Nat → Nat → Option Addr} {skv' : List (List Key × V)} {name : Str} {t : Int} {k : Nat} {a : Addr} {akv : List (Key × V)} (x : CoreD c H Z G F M D lkv fkv gkv skv) (hg : G name = none) (hk : k < c.n)
    (kp : ∀ b o, H b = some o → b ≠ c.ly → b ≠ c.sl → b ≠ c.mks → b ≠ a → H' b = some o) (hl : H' c.ly = some (.dK (putK lkv (Sum.inr name) (.int (k : Nat)))))
    (hs : H' c.sl = some (.dT skv')) (sd : SlotsIs skv' D') (hD : ∀ i j, D' i j = if i = k ∧ j = slot c.rr c.uu k t then some a else D i j)
    (hm : H' c.mks = some (.lst (rl c.n fun j => V.int ((M' j : Nat) : Int)))) (hM : ∀ i j, i < c.n → (M' i).testBit j = ((M i).testBit j || decide (i = k ∧ j = slot c.rr c.uu k t)))
    (ha : H' a = some (.dK (putK akv (Sum.inr name) (.bl true)))) (had : DictIs akv (slF c G k (slot c.rr c.uu k t))) (hold : (D k (slot c.rr c.uu k t) = some a) ∨ (D k (slot c.rr c.uu k t) = none ∧ H a = none)) (hZ : ∀ b, Z b → Z' b) (hza : Z' a) (hzn : ∀ b, Z' b → Z b ∨ b = a) :
    CoreD c H' Z' (fput G name (k, t)) F M' D' (putK lkv (Sum.inr name) (.int (k : Nat))) fkv gkv skv' := by
  have ml : c.mks ≠ c.ly := ne_of x.mks x.ly fun z => nomatch z
  have mf : c.mks ≠ c.fr := ne_of x.mks x.fr fun z => nomatch z
  have mg : c.mks ≠ c.fl := ne_of x.mks x.fl fun z => nomatch z
  have sl : c.sl ≠ c.ly := ne_of x.sl x.ly fun z => nomatch z
  have sf : c.sl ≠ c.fr := ne_of x.sl x.fr fun z => nomatch z
  have sg : c.sl ≠ c.fl := ne_of x.sl x.fl fun z => nomatch z
  have out : ∀ s, s ≠ name → fput G name (k, t) s = G s := fun s h => if_neg h
  have at_ : fput G name (k, t) name = some (k, t) := if_pos rfl
  have hane : a ≠ c.ly ∧ a ≠ c.fr ∧ a ≠ c.fl := by
    rcases hold with h | h
    · exact x.dsep _ _ _ h
    · exact ⟨fun e => (ne_of_none x.ly h.2) e.symm, fun e => (ne_of_none x.fr h.2) e.symm, fun e => (ne_of_none x.fl h.2) e.symm⟩
  have hainj : ∀ i j b, D i j = some b → ¬ (i = k ∧ j = slot c.rr c.uu k t) → b ≠ a := fun i j b e hn q => by
    rcases hold with h | h
    · rw [q] at e
      exact hn (x.dinj _ _ _ _ _ e h)
    · obtain ⟨kvs, h1, _⟩ := x.dd i j b e
      exact ne_of_none h1 h.2 q
  have d1 : ∀ i j b, D' i j = some b → (i = k ∧ j = slot c.rr c.uu k t ∧ b = a) ∨ (¬ (i = k ∧ j = slot c.rr c.uu k t) ∧ D i j = some b) := fun i j b e => by
    rw [hD] at e
    by_cases q : i = k ∧ j = slot c.rr c.uu k t
    · rw [if_pos q] at e
      exact .inl ⟨q.1, q.2, (Option.some.inj e).symm⟩
    · rw [if_neg q] at e
      exact .inr ⟨q, e⟩
  refine {
    mks := hm
    ly := hl
    lyd := (x.lyd.put name _).congr fun s => ?_
    fr := kp _ _ x.fr x.lf.symm sf.symm mf.symm hane.2.1.symm
    frd := x.frd.congr fun s => ?_
    fl := kp _ _ x.fl x.ll.symm sg.symm mg.symm hane.2.2.symm
    fld := x.fld
    sl := hs
    sld := sd
    dd := fun i j b e => ?_
    dne := fun i j b e => ?_
    dno := fun i j s u hi hd hs => ?_
    dlt := fun i j b e => ?_
    dinj := fun i j i' j' b e e' => ?_
    dsep := fun i j b e => ?_
    lf := x.lf
    ll := x.ll
    ff := x.ff
    bit := fun i j hi => ?_
    gk := fun s i u hs => ?_
    zm := hZ _ x.zm
    zl := hZ _ x.zl
    zf := hZ _ x.zf
    zg := hZ _ x.zg
    zs := hZ _ x.zs
    zd := fun i j b e => ?_
    za := fun b z => ?_ }
  · show (if s = name then _ else lyF G s) = lyF (fput G name (k, t)) s
    unfold lyF
    by_cases e : s = name
    · rw [if_pos e, e, at_]
      all_goals rfl
    · rw [if_neg e, out s e]
  · unfold farF
    by_cases e : s = name
    · rw [e, hg, at_]
      show none = if k = c.n then _ else none
      rw [if_neg (by omega)]
    · rw [out s e]
  · rcases d1 i j b e with ⟨rfl, rfl, rfl⟩ | ⟨q, e⟩
    · refine ⟨_, ha, (had.put name _).congr fun s => ?_⟩
      show (if s = name then _ else slF c G i _ s) = slF c (fput G name (i, t)) i _ s
      unfold slF
      by_cases e : s = name
      · rw [if_pos e, e, at_]
        show some (V.bl true) = if i = i ∧ slot c.rr c.uu i t = slot c.rr c.uu i t then some (V.bl true) else none
        rw [if_pos ⟨rfl, rfl⟩]
      · rw [if_neg e, out s e]
    · obtain ⟨kvs, h1, h2⟩ := x.dd i j b e
      have ne := x.dsep i j b e
      have nba := hainj i j b e q
      refine ⟨kvs, kp _ _ h1 ne.1 (ne_of h1 x.sl fun z => nomatch z) (ne_of h1 x.mks fun z => nomatch z) nba, h2.congr fun s => ?_⟩
      unfold slF
      by_cases e : s = name
      · rw [e, hg, at_]
        show none = if k = i ∧ slot c.rr c.uu i t = j then _ else none
        rw [if_neg fun z => q ⟨z.1.symm, by rw [z.1]; exact z.2.symm⟩]
      · rw [out s e]
  · rcases d1 i j b e with ⟨rfl, rfl, rfl⟩ | ⟨q, e⟩
    · exact ⟨name, t, at_, rfl⟩
    · obtain ⟨s, u, h1, h2⟩ := x.dne i j b e
      have q : s ≠ name := fun q => by rw [q, hg] at h1; cases h1
      exact ⟨s, u, by rw [out s q]; exact h1, h2⟩
  · rw [hD] at hd
    by_cases q : i = k ∧ j = slot c.rr c.uu k t
    · rw [if_pos q] at hd
      cases hd
    · rw [if_neg q] at hd
      by_cases e : s = name
      · rw [e, at_] at hs
        injection hs with hs
        injection hs with h1 h2
        subst h1 h2
        exact fun z => q ⟨rfl, z.symm⟩
      · rw [out s e] at hs
        exact x.dno i j s u hi hd hs
  · rcases d1 i j b e with ⟨rfl, _, _⟩ | ⟨_, e⟩
    · exact hk
    · exact x.dlt i j b e
  · rcases d1 i j b e with ⟨rfl, rfl, rfl⟩ | ⟨q, e⟩
    · rcases d1 i' j' b e' with ⟨rfl, rfl, _⟩ | ⟨q', e'⟩
      · exact ⟨rfl, rfl⟩
      · exact absurd rfl (hainj i' j' b e' q')
    · rcases d1 i' j' b e' with ⟨rfl, rfl, rfl⟩ | ⟨q', e'⟩
      · exact absurd rfl (hainj i j b e q)
      · exact x.dinj _ _ _ _ _ e e'
  · rcases d1 i j b e with ⟨_, _, rfl⟩ | ⟨_, e⟩
    · exact hane
    · exact x.dsep i j b e
  · rw [hM i j hi, hD]
    by_cases q : i = k ∧ j = slot c.rr c.uu k t
    · rw [if_pos q, decide_eq_true q, Bool.or_true]
      all_goals rfl
    · rw [if_neg q, decide_eq_false q, Bool.or_false]
      exact x.bit i j hi
  · by_cases q : s = name
    · rw [q, at_] at hs
      injection hs with hs
      injection hs with h1 h2
      omega
    · rw [out s q] at hs
      exact x.gk s i u hs
  · rcases d1 i j b e with ⟨_, _, rfl⟩ | ⟨_, e⟩
    · exact hza
    · exact hZ _ (x.zd i j b e)
  · rcases hzn b z with z | z
    · refine za_by (l := [c.ly, c.sl, c.mks, a]) (x.za b z) (fun y hy => ?_) fun o h n => kp b o h (n _ (by simp)) (n _ (by simp)) (n _ (by simp)) (n _ (by simp))
      simp only [List.mem_cons, List.not_mem_nil, or_false] at hy
      rcases hy with e | e | e | e
      · exact ⟨_, by rw [e]; exact hl⟩
      · exact ⟨_, by rw [e]; exact hs⟩
      · exact ⟨_, by rw [e]; exact hm⟩
      · exact ⟨_, by rw [e]; exact ha⟩
    · exact ⟨_, by rw [z]; exact ha⟩
theorem CoreD.far_out {H' : Hp} {name : Str} {t : Int} (x : CoreD c H Z G F M D lkv fkv gkv skv) (hg : G name = some (c.n, t))
    (kp : ∀ b o, H b = some o → b ≠ c.ly → b ≠ c.fr → H' b = some o) (hl : H' c.ly = some (.dK (dropK lkv (Sum.inr name)))) (hf : H' c.fr = some (.dK (dropK fkv (Sum.inr name)))) :
    CoreD c H' Z (fdel G name) F M D (dropK lkv (Sum.inr name)) (dropK fkv (Sum.inr name)) gkv skv := by
  have ml : c.mks ≠ c.ly := ne_of x.mks x.ly fun z => nomatch z
  have mf : c.mks ≠ c.fr := ne_of x.mks x.fr fun z => nomatch z
  have sl : c.sl ≠ c.ly := ne_of x.sl x.ly fun z => nomatch z
  have sf : c.sl ≠ c.fr := ne_of x.sl x.fr fun z => nomatch z
  have out : ∀ s, s ≠ name → fdel G name s = G s := fun s h => if_neg h
  have at_ : fdel G name name = none := if_pos rfl
  refine { x with
    mks := kp _ _ x.mks ml mf
    ly := hl
    lyd := (x.lyd.drop name).congr fun s => ?_
    fr := hf
    frd := (x.frd.drop name).congr fun s => ?_
    fl := kp _ _ x.fl x.ll.symm x.ff.symm
    sl := kp _ _ x.sl sl sf
    dd := fun k d a e => ?_
    dne := fun k d a e => ?_
    dno := fun k d s u hk hd hs => ?_
    gk := fun s k u hs => ?_
    za := fun b z => za_by (x.za b z) (all2 hl hf) fun o h n => kp b o h (n _ (by simp)) (n _ (by simp)) }
  · show (if s = name then none else lyF G s) = lyF (fdel G name) s
    unfold lyF
    by_cases e : s = name
    · rw [if_pos e, e, at_]
      all_goals rfl
    · rw [if_neg e, out s e]
  · show (if s = name then none else farF c.n G s) = farF c.n (fdel G name) s
    unfold farF
    by_cases e : s = name
    · rw [if_pos e, e, at_]
    · rw [if_neg e, out s e]
  · obtain ⟨kvs, h1, h2⟩ := x.dd k d a e
    have ne := x.dsep k d a e
    refine ⟨kvs, kp _ _ h1 ne.1 ne.2.1, h2.congr fun s => ?_⟩
    unfold slF
    by_cases q : s = name
    · rw [q, hg, at_]
      have hk := x.dlt k d a e
      show (if c.n = k ∧ _ then _ else none) = none
      rw [if_neg fun z => by omega]
    · rw [out s q]
  · obtain ⟨s, u, h1, h2⟩ := x.dne k d a e
    have hk := x.dlt k d a e
    have q : s ≠ name := fun q => by
      rw [q, hg] at h1
      injection h1 with h1
      injection h1 with h1 _
      omega
    exact ⟨s, u, by rw [out s q]; exact h1, h2⟩
  · by_cases q : s = name
    · rw [q, at_] at hs
      cases hs
    · rw [out s q] at hs
      exact x.dno k d s u hk hd hs
  · by_cases q : s = name
    · rw [q, at_] at hs
      cases hs
    · rw [out s q] at hs
      exact x.gk s k u hs
theorem CoreD.slot_out {H' : Hp} {name : Str} {t : Int} {k : Nat} {a : Addr} {akv : List (Key × V)} (x : CoreD c H Z G F M D lkv fkv gkv skv) (hg : G name = some (k, t)) (hk : k < c.n) (hD : D k (slot c.rr c.uu k t) = some a)
    (kp : ∀ b o, H b = some o → b ≠ c.ly → b ≠ a → H' b = some o) (hl : H' c.ly = some (.dK (dropK lkv (Sum.inr name)))) (ha0 : H a = some (.dK akv)) (ha : H' a = some (.dK (dropK akv (Sum.inr name)))) (had : DictIs akv (slF c G k (slot c.rr c.uu k t))) (hne : dropK akv (Sum.inr name) ≠ []) :
    CoreD c H' Z (fdel G name) F M D (dropK lkv (Sum.inr name)) fkv gkv skv := by
  have ml : c.mks ≠ c.ly := ne_of x.mks x.ly fun z => nomatch z
  have sl : c.sl ≠ c.ly := ne_of x.sl x.ly fun z => nomatch z
  have out : ∀ s, s ≠ name → fdel G name s = G s := fun s h => if_neg h
  have at_ : fdel G name name = none := if_pos rfl
  have hane := x.dsep _ _ _ hD
  have ma : c.mks ≠ a := ne_of x.mks ha0 fun z => nomatch z
  have sa : c.sl ≠ a := ne_of x.sl ha0 fun z => nomatch z
  have hdrop : ∀ s, fdel (slF c G k (slot c.rr c.uu k t)) name s = slF c (fdel G name) k (slot c.rr c.uu k t) s := fun s => by
    show (if s = name then none else slF c G k _ s) = slF c (fdel G name) k _ s
    unfold slF
    by_cases e : s = name
    · rw [if_pos e, e, at_]
    · rw [if_neg e, out s e]
  refine { x with
    mks := kp _ _ x.mks ml ma
    ly := hl
    lyd := (x.lyd.drop name).congr fun s => ?_
    fr := kp _ _ x.fr x.lf.symm hane.2.1.symm
    frd := x.frd.congr fun s => ?_
    fl := kp _ _ x.fl x.ll.symm hane.2.2.symm
    sl := kp _ _ x.sl sl sa
    dd := fun i j b e => ?_
    dne := fun i j b e => ?_
    dno := fun i j s u hi hd hs => ?_
    gk := fun s i u hs => ?_
    za := fun b z => za_by (x.za b z) (all2 hl ha) fun o h n => kp b o h (n _ (by simp)) (n _ (by simp)) }
  · show (if s = name then none else lyF G s) = lyF (fdel G name) s
    unfold lyF
    by_cases e : s = name
    · rw [if_pos e, e, at_]
      all_goals rfl
    · rw [if_neg e, out s e]
  · unfold farF
    by_cases e : s = name
    · rw [e, hg, at_]
      show (if k = c.n then _ else none) = none
      rw [if_neg (by omega)]
    · rw [out s e]
  · by_cases q : b = a
    · obtain ⟨e1, e2⟩ := x.dinj _ _ _ _ _ e (by rw [q]; exact hD)
      subst e1 e2 q
      exact ⟨_, ha, (had.drop name).congr hdrop⟩
    · obtain ⟨kvs, h1, h2⟩ := x.dd i j b e
      have ne := x.dsep i j b e
      refine ⟨kvs, kp _ _ h1 ne.1 q, h2.congr fun s => ?_⟩
      unfold slF
      by_cases e2 : s = name
      · rw [e2, hg, at_]
        show (if k = i ∧ slot c.rr c.uu i t = j then _ else none) = none
        rw [if_neg fun z => ?_]
        obtain ⟨rfl, rfl⟩ := z
        exact q (Option.some.inj (e.symm.trans hD))
      · rw [out s e2]
  · by_cases q : b = a
    · obtain ⟨e1, e2⟩ := x.dinj _ _ _ _ _ e (by rw [q]; exact hD)
      subst e1 e2
      have hd2 := (had.drop name).congr hdrop
      obtain ⟨p, hp⟩ : ∃ p, p ∈ dropK akv (Sum.inr name) := by
        cases h : dropK akv (Sum.inr name) with
        | nil => exact absurd h hne
        | cons p r => exact ⟨p, List.mem_cons_self⟩
      obtain ⟨s, es⟩ := hd2.inr hp
      have hm : s ∈ namesOf (dropK akv (Sum.inr name)) := by
        have : (Sum.inr s : Key) ∈ (dropK akv (Sum.inr name)).map (·.1) := List.mem_map.mpr ⟨p, hp, es⟩
        rw [hd2.keys] at this
        obtain ⟨y, hy, ey⟩ := List.mem_map.mp this
        cases ey
        exact hy
      obtain ⟨u, h1, h2⟩ := slF_iff.mp ((hd2.mem_names s).mp hm)
      exact ⟨s, u, h1, h2⟩
    · obtain ⟨s, u, h1, h2⟩ := x.dne i j b e
      have q2 : s ≠ name := fun q2 => by
        rw [q2, hg] at h1
        injection h1 with h1
        injection h1 with h3 h4
        subst h3 h4 h2
        exact q (Option.some.inj (e.symm.trans hD))
      exact ⟨s, u, by rw [out s q2]; exact h1, h2⟩
  · by_cases q : s = name
    · rw [q, at_] at hs
      cases hs
    · rw [out s q] at hs
      exact x.dno i j s u hi hd hs
  · by_cases q : s = name
    · rw [q, at_] at hs
      cases hs
    · rw [out s q] at hs
      exact x.gk s i u hs
theorem CoreD.slot_end {H' : Hp} {M' : Nat → Nat} {skv' : List (List Key × V)} {D' : Nat → Nat → Option Addr} {name : Str} {t : Int} {k : Nat} {a : Addr} {akv : List (Key × V)} (x : CoreD c H Z G F M D lkv fkv gkv skv) (hg : G name = some (k, t)) (hk : k < c.n) (hD : D k (slot c.rr c.uu k t) = some a)
    (kp : ∀ b o, H b = some o → b ≠ c.ly → b ≠ a → b ≠ c.sl → b ≠ c.mks → H' b = some o) (hl : H' c.ly = some (.dK (dropK lkv (Sum.inr name)))) (hae : H' a = some (.dK [])) (had : DictIs akv (slF c G k (slot c.rr c.uu k t))) (hne : dropK akv (Sum.inr name) = [])
    (hs : H' c.sl = some (.dT skv')) (sd : SlotsIs skv' D') (hD' : ∀ i j, D' i j = if i = k ∧ j = slot c.rr c.uu k t then none else D i j)
    (hm : H' c.mks = some (.lst (rl c.n fun j => V.int ((M' j : Nat) : Int)))) (hM : ∀ i j, i < c.n → (M' i).testBit j = ((M i).testBit j && !decide (i = k ∧ j = slot c.rr c.uu k t))) :
    CoreD c H' Z (fdel G name) F M' D' (dropK lkv (Sum.inr name)) fkv gkv skv' := by
  have sf : c.sl ≠ c.fr := ne_of x.sl x.fr fun z => nomatch z
  have sg : c.sl ≠ c.fl := ne_of x.sl x.fl fun z => nomatch z
  have mf : c.mks ≠ c.fr := ne_of x.mks x.fr fun z => nomatch z
  have mg : c.mks ≠ c.fl := ne_of x.mks x.fl fun z => nomatch z
  have out : ∀ s, s ≠ name → fdel G name s = G s := fun s h => if_neg h
  have at_ : fdel G name name = none := if_pos rfl
  have hane := x.dsep _ _ _ hD
  have d1 : ∀ i j b, D' i j = some b → ¬ (i = k ∧ j = slot c.rr c.uu k t) ∧ D i j = some b := fun i j b e => by
    rw [hD'] at e
    by_cases q : i = k ∧ j = slot c.rr c.uu k t
    · rw [if_pos q] at e
      cases e
    · rw [if_neg q] at e
      exact ⟨q, e⟩
  have hba : ∀ i j b, D' i j = some b → b ≠ a := fun i j b e q => by
    obtain ⟨h1, h2⟩ := d1 i j b e
    rw [q] at h2
    exact h1 (x.dinj _ _ _ _ _ h2 hD)
  have only : ∀ s u, G s = some (k, u) → slot c.rr c.uu k u = slot c.rr c.uu k t → s = name := fun s u h1 h2 => by
    by_cases e : s = name
    · exact e
    · have h3 : (fdel (slF c G k (slot c.rr c.uu k t)) name s).isSome = true := by
        show (if s = name then none else slF c G k _ s).isSome = true
        rw [if_neg e]
        exact slF_iff.mpr ⟨u, h1, h2⟩
      have h4 := ((had.drop name).mem_names s).mpr h3
      rw [hne] at h4
      cases h4
  refine { x with
    mks := hm
    ly := hl
    lyd := (x.lyd.drop name).congr fun s => ?_
    fr := kp _ _ x.fr x.lf.symm hane.2.1.symm sf.symm mf.symm
    frd := x.frd.congr fun s => ?_
    fl := kp _ _ x.fl x.ll.symm hane.2.2.symm sg.symm mg.symm
    sl := hs
    sld := sd
    dd := fun i j b e => ?_
    dne := fun i j b e => ?_
    dno := fun i j s u hi hd hs => ?_
    dlt := fun i j b e => x.dlt i j b (d1 i j b e).2
    dinj := fun i j i' j' b e e' => x.dinj _ _ _ _ _ (d1 i j b e).2 (d1 i' j' b e').2
    dsep := fun i j b e => x.dsep i j b (d1 i j b e).2
    bit := fun i j hi => ?_
    gk := fun s i u hs => ?_
    zd := fun i j b e => x.zd i j b (d1 i j b e).2
    za := fun b z => ?_ }
  · show (if s = name then none else lyF G s) = lyF (fdel G name) s
    unfold lyF
    by_cases e : s = name
    · rw [if_pos e, e, at_]
      all_goals rfl
    · rw [if_neg e, out s e]
  · unfold farF
    by_cases e : s = name
    · rw [e, hg, at_]
      show (if k = c.n then _ else none) = none
      rw [if_neg (by omega)]
    · rw [out s e]
  · obtain ⟨q, e0⟩ := d1 i j b e
    obtain ⟨kvs, h1, h2⟩ := x.dd i j b e0
    have ne := x.dsep i j b e0
    refine ⟨kvs, kp _ _ h1 ne.1 (hba i j b e) (ne_of h1 x.sl fun z => nomatch z) (ne_of h1 x.mks fun z => nomatch z), h2.congr fun s => ?_⟩
    unfold slF
    by_cases e2 : s = name
    · rw [e2, hg, at_]
      show (if k = i ∧ slot c.rr c.uu i t = j then _ else none) = none
      rw [if_neg fun z => q ⟨z.1.symm, by rw [z.1]; exact z.2.symm⟩]
    · rw [out s e2]
  · obtain ⟨q, e0⟩ := d1 i j b e
    obtain ⟨s, u, h1, h2⟩ := x.dne i j b e0
    have q2 : s ≠ name := fun q2 => by
      rw [q2, hg] at h1
      injection h1 with h1
      injection h1 with h3 h4
      subst h3 h4
      exact q ⟨rfl, h2.symm⟩
    exact ⟨s, u, by rw [out s q2]; exact h1, h2⟩
  · by_cases q : s = name
    · rw [q, at_] at hs
      cases hs
    · rw [out s q] at hs
      rw [hD'] at hd
      by_cases z : i = k ∧ j = slot c.rr c.uu k t
      · obtain ⟨rfl, rfl⟩ := z
        exact fun e => q (only s u hs e)
      · rw [if_neg z] at hd
        exact x.dno i j s u hi hd hs
  · rw [hM i j hi, hD']
    by_cases q : i = k ∧ j = slot c.rr c.uu k t
    · rw [if_pos q, decide_eq_true q, Bool.not_true, Bool.and_false]
      all_goals rfl
    · rw [if_neg q, decide_eq_false q, Bool.not_false, Bool.and_true]
      exact x.bit i j hi
  · by_cases q : s = name
    · rw [q, at_] at hs
      cases hs
    · rw [out s q] at hs
      exact x.gk s i u hs
  · refine za_by (l := [c.ly, a, c.sl, c.mks]) (x.za b z) (fun y hy => ?_) fun o h n => kp b o h (n _ (by simp)) (n _ (by simp)) (n _ (by simp)) (n _ (by simp))
    simp only [List.mem_cons, List.not_mem_nil, or_false] at hy
    rcases hy with e | e | e | e
    · exact ⟨_, by rw [e]; exact hl⟩
    · exact ⟨_, by rw [e]; exact hae⟩
    · exact ⟨_, by rw [e]; exact hs⟩
    · exact ⟨_, by rw [e]; exact hm⟩
theorem Core.falls {H' : Hp} {F' : Str → Option Int} (x : Core c H Z G F) (h : ∀ gkv, H c.fl = some (.dK gkv) → DictIs gkv (flF F) → ∃ gkv', H' c.fl = some (.dK gkv') ∧ DictIs gkv' (flF F')) (kp : ∀ b o, H b = some o → b ≠ c.fl → H' b = some o) : Core c H' Z G F' := by
  obtain ⟨M, D, l, f, g, k, x⟩ := x
  obtain ⟨g', h1, h2⟩ := h g x.fl x.fld
  have mg : c.mks ≠ c.fl := ne_of x.mks x.fl fun z => nomatch z
  have sg : c.sl ≠ c.fl := ne_of x.sl x.fl fun z => nomatch z
  exact ⟨M, D, l, f, g', k, { x with
    mks := kp _ _ x.mks mg
    ly := kp _ _ x.ly x.ll
    fr := kp _ _ x.fr x.ff
    fl := h1
    fld := h2
    sl := kp _ _ x.sl sg
    dd := fun i j a e => let ⟨kvs, h3, h4⟩ := x.dd i j a e; ⟨kvs, kp _ _ h3 (x.dsep i j a e).2.2, h4⟩
    za := fun b z => za_by (l := [c.fl]) (x.za b z) (fun y hy => ⟨.dK g', by rw [List.mem_singleton.mp hy]; exact h1⟩) fun o h n => kp b o h (n _ (by simp)) }⟩
end
end Wk

namespace Wk
open PySem L2 Wr
def top (i : Nat) : Stmt := PySem.Challenge.pw_wakefew_k15_slots_by_bits.main.body.getD i (.Pass ⟨0, 0, 0, 0⟩)
abbrev sWInit : Stmt := inClass (top 8) 0
abbrev sPut : Stmt := inClass (top 8) 1
abbrev sTake : Stmt := inClass (top 8) 2
abbrev sDue : Stmt := inClass (top 8) 3
abbrev sTimeOf : Stmt := inClass (top 8) 4
abbrev sAllOf : Stmt := inClass (top 8) 5
abbrev sIsWhole : Stmt := top 10
abbrev sAreRounds : Stmt := top 15
abbrev sLowBit : Stmt := top 16
abbrev sInit : Stmt := inClass (top 17) 0
abbrev sWheelAt : Stmt := inClass (top 17) 1
abbrev sSlotAt : Stmt := inClass (top 17) 2
abbrev sLayIn : Stmt := inClass (top 17) 3
abbrev sLayOut : Stmt := inClass (top 17) 4
abbrev sLaidBy : Stmt := inClass (top 17) 5
abbrev sLifted : Stmt := inClass (top 17) 6
abbrev sLetDown : Stmt := inClass (top 17) 7
abbrev sNamesBelow : Stmt := inClass (top 17) 8
abbrev sTouched : Stmt := inClass (top 17) 9
abbrev sReached : Stmt := inClass (top 17) 10
abbrev sWheelOf : Stmt := inClass (top 17) 12
abbrev sBits : Stmt := inClass (top 17) 13
abbrev sWhole : Stmt := top 19
abbrev sCellAt : Stmt := top 20
abbrev sMixed : Stmt := top 21
abbrev sRounds : Stmt := top 22
abbrev sUnits : Stmt := top 23
abbrev sName : Stmt := top 24
abbrev sLater : Stmt := top 25
abbrev sBitsAre : Stmt := top 26
abbrev sLaw : Stmt := top 27

structure Txt (K : PySem.W.Frag) (mg : Str → Option Value) (C : Addr) : Prop where
  cl : Cls K C
  nNow : NoAttr K C "now"
  nTimes : NoAttr K C "times"
  nRounds : NoAttr K C "rounds"
  nUnits : NoAttr K C "units"
  nMasks : NoAttr K C "masks"
  nSlots : NoAttr K C "slots"
  nFar : NoAttr K C "far"
  nLying : NoAttr K C "lying"
  nFalls : NoAttr K C "falls"
  len : mg "len" = none
  range : mg "range" = none
  divmod : mg "divmod" = none
  list : mg "list" = none
  sorted : mg "sorted" = none
section
variable {P : Program} {w : World} {K : PySem.W.Frag} {mg : Str → Option Value} {base : Heap}
structure MOk (P : Program) (w : World) (K : PySem.W.Frag) (mg : Str → Option Value) (base : Heap) (C : Addr) (m : Str) (k : Nat) (ps : List Str) (sp : Sp) : Prop where
  ex : ∃ f fd, FnOk P w K mg base CX0 k f fd ps sp ∧ Binds K fd ps [] ∧ Meth K C m f
structure GOk (P : Program) (w : World) (K : PySem.W.Frag) (mg : Str → Option Value) (base : Heap) (x : Str) (k : Nat) (ps : List Str) (sp : Sp) : Prop where
  ex : ∃ f fd, FnOk P w K mg base CX0 k f fd ps sp ∧ Binds K fd ps [] ∧ mg x = some (.ref f) ∧ PySem.W.keepIn K (.ref f) = true
end
section
variable {X : Cx} {C : Addr} {m x : Str} {k : Nat} {ps : List Str} {sp : Sp} {o e : Expr} {es : List Expr} {ta : TE} {t : TA} {apos pos p : Pos} {pl : Sem Bool}
theorem pe_mo (he : PE X o ta) (c : Cls X.K C) (M : MOk X.prog X.w X.K X.mg X.base C m k ps sp) (hr : Room k X.A) (ha : PA X (e :: es) t)
    (hst : starEach (e :: es) X.env = (false, eval e X.env) :: starEach es X.env := by rfl) (hpl : (backTo pos (starEach es X.env)).any (·.1) = false := by rfl)
    (ht : eval (.Call (.Attribute o m apos) (e :: es) [] pos) X.env = (do
      let ov ← eval o X.env
      standAt apos.atName
      let (f, first) ← holding [ov] (getMethod ov m pl)
      callWith pos f first (backTo pos (starEach (e :: es) X.env)) (backToKw pos (keywordEach [] X.env))) := by rfl) :
    PE X (.Call (.Attribute o m apos) (e :: es) [] pos) (tMeth C m sp [] E0 ta t) := by
  obtain ⟨f, fd, F, b, hm⟩ := M.ex
  exact pe_meth he c hm F hr b .nil pass0 ha hst hpl ht
theorem pe_mo0 (he : PE X o ta) (c : Cls X.K C) (M : MOk X.prog X.w X.K X.mg X.base C m k ps sp) (hr : Room k X.A)
    (ht : eval (.Call (.Attribute o m apos) [] [] pos) X.env = (do
      let ov ← eval o X.env
      standAt apos.atName
      let (f, first) ← holding [ov] (getMethod ov m pl)
      callWith pos f first (backTo pos (starEach [] X.env)) (backToKw pos (keywordEach [] X.env))) := by rfl) :
    PE X (.Call (.Attribute o m apos) [] [] pos) (tMeth C m sp [] E0 ta tNil) := by
  obtain ⟨f, fd, F, b, hm⟩ := M.ex
  exact pe_meth0 he c hm F hr b .nil pass0 ht
theorem pe_go (M : GOk X.prog X.w X.K X.mg X.base x k ps sp) (hr : Room k X.A) (hg : Gl X x) (ha : PA X (e :: es) t) (hdb : (x == ("__debug__" : Str)) = false := by decide)
    (he : starEach (e :: es) X.env = (false, eval e X.env) :: starEach es X.env := by rfl) (hpl : (backTo pos (starEach es X.env)).any (·.1) = false := by rfl) :
    PE X (.Call (.Name x p) (e :: es) [] pos) (tCall sp [] E0 t) := by
  obtain ⟨f, fd, F, b, hm, hk⟩ := M.ex
  exact pe_call F hr hg hm hk b .nil pass0 ha hdb he hpl
end
section
variable {P : Program} {w : World} {K : PySem.W.Frag} {mg : Str → Option Value} {base : Heap} {C f : Addr} {fd : FuncData}
def spWheelAt (C : Addr) : Sp := fun vs H Q _ => ∃ (c : Cfg) (now t b : Int), vs = [.ref c.p, .int t, .int b] ∧ Shape C c H now ∧ Q (.int ((wh c.n c.uu t b : Nat) : Int)) H
def spSlotAt (C : Addr) : Sp := fun vs H Q _ => ∃ (c : Cfg) (now t : Int) (k : Nat), vs = [.ref c.p, .int (k : Int), .int t] ∧ Shape C c H now ∧ k < c.n ∧ ∀ H', Same H H' → Q (.int ((slot c.rr c.uu k t : Nat) : Int)) H'
theorem scWheelAt : FnScope ["self", "time", "now", "k"] ["self", "time", "now"] (defScope sWheelAt) := ⟨rfl, rfl, rfl, by decide +kernel, rfl, by decide +kernel, by decide +kernel⟩
theorem decI {a b : Int} : decide (V.int a = V.int b) = decide (a = b) := by
  by_cases h : a = b
  · rw [decide_eq_true h, decide_eq_true (by rw [h])]
  · rw [decide_eq_false h, decide_eq_false fun z => h (V.int.inj z)]
theorem divW {j : Int} (h0 : 0 < j) (h : j ≤ 46656000000) : CDivW 0 j := wide_div (i := 0) (b := 40) h0 (by omega) (by decide) (by decide)
theorem ok_wheel_at (F : Fun K "wheel_at" "Wheels.wheel_at" sWheelAt f fd) (T : Txt K mg C) : FnOk P w K mg base CX0 1 f fd ["self", "time", "now"] (spWheelAt C) := by
  refine F.ok scWheelAt (fun vs H Q E h => ?_) (fun cdv A outer s H vs Q E hr h => ?_)
  · obtain ⟨c, now, t, b, rfl, _⟩ := h
    rfl
  · obtain ⟨c, now, t, b, rfl, S, k⟩ := h
    obtain ⟨dx, h1⟩ := S.ob
    have nd := scWheelAt.nd
    refine ⟨_, pss_cons (ps_for PassesOwn.never rfl (pi_range1 (by rfl) T.range (pa_cons (pe_callB call_len_seq (by rfl) T.len PySem.boot_len (pa_cons (pe_fld (pv 0) rfl) pa_nil)) pa_nil)) (pg_name (i := 3) nd rfl (Or.inl rfl))
        (pss_one (ps_if (pt_cmpR op_eq (pe_op op_fdivW (pv 1) (pe_ix ix_list (pe_fld (pv 0) rfl) (pe_op op_add (pv 3) pe_int) (fun _ _ => rfl))) (pe_op op_fdivW (pv 2) (pe_ix ix_list (pe_fld (pv 0) rfl) (pe_op op_add (pv 3) pe_int) (fun _ _ => rfl))) (nomark _))
          (pss_one (ps_ret (pv 3))) pss_nil)))
      (pss_one (ps_ret (pe_callB call_len_seq (by rfl) T.len PySem.boot_len (pa_cons (pe_fld (pv 0) rfl) pa_nil)))), ?_⟩
    have n6 := S.U.n6
    refine ⟨_, rfl, c.p, C, dx, _, _, rfl, h1, T.cl, T.nRounds, flds_rounds _ _, c.rd, _, rfl, .inl (SqL.of S.rd), ?_⟩
    rw [rl_len]
    refine ⟨(c.n : Int), rfl, by omega, by omega, ?_⟩
    refine for_range (lo := 0) (n := (c.n : Int).toNat) (fun i σ H' => H' = H ∧ ∃ v, σ = [some (.ref c.p), some (.int t), some (.int b), v] ∧ ∀ j, j < i → t / c.uu (j + 1) ≠ b / c.uu (j + 1)) ⟨rfl, none, rfl, fun j hj => absurd hj (Nat.not_lt_zero j)⟩ ?_ ?_
    · rintro i σ H' hi ⟨rfl, v, rfl, hno⟩
      have hin : i < c.n := by omega
      have hu : (rl (c.n + 1) fun k => .int (c.uu k))[i + 1]? = some (.int (c.uu (i + 1))) := rl_get (by omega)
      have cw : ∀ z : Int, CDivW z (c.uu (i + 1)) := fun _ => divW (S.U.pos (i + 1) (by omega)) (S.U.lt36 (by omega))
      have ei : (0 : Int) + (i : Int) + 1 = ((i + 1 : Nat) : Int) := by omega
      have at1 : atI (rl (c.n + 1) fun k => V.int (c.uu k)) ((0 : Int) + (i : Int) + 1) = some (.int (c.uu (i + 1))) := by
        rw [ei]
        exact atI_nat hu
      refine ⟨_, rfl, _, rfl, c.p, C, dx, _, _, rfl, h1, T.cl, T.nUnits, flds_units _ _, _, rfl, _, _, rfl, rfl, c.un, _, _, _, rfl, rfl, SqL.of S.un, at1, _, _, rfl, rfl, cw _, _, rfl, _, rfl, c.p, C, dx, _, _, rfl, h1, T.cl, T.nUnits, flds_units _ _, _, rfl, _, _, rfl, rfl, c.un, _, _, _, rfl, rfl, SqL.of S.un, at1, _, _, rfl, rfl, cw _, rfl, _, rfl, ?_⟩
      refine ite2 (fun e => ?_) (fun e => ?_)
      · have e' : t / c.uu (i + 1) = b / c.uu (i + 1) := by
          rw [decI] at e
          exact of_decide_eq_true e
        have q : wh c.n c.uu t b = i := IsWh.eq ⟨by omega, hno, fun _ => e'⟩
        rw [q] at k
        refine ⟨_, rfl, ?_⟩
        show Q (.int (0 + (i : Int))) H'
        rw [Int.zero_add]
        exact k
      · have e' : ¬ t / c.uu (i + 1) = b / c.uu (i + 1) := fun z => e (by rw [decI]; exact decide_eq_true z)
        refine ⟨rfl, _, rfl, fun j hj => ?_⟩
        by_cases q : j = i
        · subst q
          exact e'
        · exact hno j (by omega)
    · rintro σ H' ⟨rfl, v, rfl, hno⟩
      have q : wh c.n c.uu t b = c.n := IsWh.eq ⟨Nat.le_refl _, fun j hj => hno j (by omega), fun z => absurd z (Nat.lt_irrefl _)⟩
      rw [q] at k
      refine ⟨_, rfl, c.p, C, dx, _, _, rfl, h1, T.cl, T.nRounds, flds_rounds _ _, c.rd, _, rfl, .inl (SqL.of S.rd), ?_⟩
      rw [rl_len]
      exact k
end
end Wk

namespace Wk
open PySem L2 Wr
section
variable {P : Program} {w : World} {K : PySem.W.Frag} {mg : Str → Option Value} {base : Heap} {C f : Addr} {fd : FuncData}
theorem scSlotAt : FnScope ["self", "k", "time"] ["self", "k", "time"] (defScope sSlotAt) := ⟨rfl, rfl, rfl, by decide +kernel, rfl, by decide +kernel, by decide +kernel⟩
theorem ok_slot_at (F : Fun K "slot_at" "Wheels.slot_at" sSlotAt f fd) (T : Txt K mg C) : FnOk P w K mg base CX0 1 f fd ["self", "k", "time"] (spSlotAt C) := by
  refine F.ok scSlotAt (fun vs H Q E h => ?_) (fun cdv A outer s H vs Q E hr h => ?_)
  · obtain ⟨c, now, t, k, rfl, _⟩ := h
    rfl
  · obtain ⟨c, now, t, k, rfl, S, hk, q⟩ := h
    obtain ⟨dx, h1⟩ := S.ob
    refine ⟨_, pss_one (ps_ret (pe_ix ix_tup (pe_callB call_divmod (by rfl) T.divmod (by decide +kernel) (pa_cons (pe_op op_fdivW (pv 2) (pe_ix ix_list (pe_fld (pv 0) rfl) (pv 1) (fun _ _ => rfl)))
      (pa_cons (pe_ix ix_list (pe_fld (pv 0) rfl) (pv 1) (fun _ _ => rfl)) pa_nil))) pe_int (fun _ _ => rfl))), ?_⟩
    have hu : (rl (c.n + 1) fun k => .int (c.uu k))[k]? = some (.int (c.uu k)) := rl_get (by omega)
    have hrr : (rl c.n fun k => .int (c.rr k))[k]? = some (.int (c.rr k)) := rl_get hk
    have r2 := S.U.r2 k hk
    have r60 := S.U.r60 k hk
    have cw : CDivW t (c.uu k) := divW (S.U.pos k (by omega)) (S.U.lt36 (by omega))
    refine ⟨_, rfl, _, rfl, c.p, C, dx, _, _, rfl, h1, T.cl, T.nUnits, flds_units _ _, _, rfl, c.un, _, _, _, rfl, rfl, SqL.of S.un, atI_nat hu, _, _, rfl, rfl, cw,
      _, rfl, c.p, C, dx, _, _, rfl, h1, T.cl, T.nRounds, flds_rounds _ _, _, rfl, c.rd, _, _, _, rfl, rfl, SqL.of S.rd, atI_nat hrr, _, _, rfl, ⟨by omega, by omega⟩, fun g hg => ?_⟩
    refine ⟨g, _, _, _, rfl, rfl, SqT.of upd_same, atI_nat (j := 1) rfl, ?_⟩
    have e := slot_int S.U hk t
    have q2 := q _ (same_new (o := .tup [.int (t / c.uu k / c.rr k), .int (t / c.uu k % c.rr k)]) hg)
    rw [e] at q2
    exact q2

def spLayIn (C : Addr) : Sp := fun vs H Q _ => ∃ (c : Cfg) (Z : Addr → Prop) (G : Gm) (F : Str → Option Int) (now t : Int) (name : Str) (k : Nat), vs = [.ref c.p, .str name, .int t, .int (k : Int)] ∧ Inst C c H Z now ∧ Core c H Z G F ∧ G name = none ∧ k ≤ c.n ∧ Few 1000 G ∧
  ∀ H' Z', Core c H' Z' (fput G name (k, t)) F → Keeps Z H Z' H' → Q .non H'
theorem scLayIn : FnScope ["self", "name", "time", "k", "slot"] ["self", "name", "time", "k"] (defScope sLayIn) := ⟨rfl, rfl, rfl, by decide +kernel, rfl, by decide +kernel, by decide +kernel⟩
theorem line_add {n m : Nat} (h : n ≤ 1000) (h2 : m ≤ 1000) : n + m ≤ sizeLine := Nat.le_trans (Nat.add_le_add h h2) (by decide)
theorem line1000 {n : Nat} (h : n ≤ 2000) : n < sizeLine := Nat.lt_of_le_of_lt h (by decide)
def setM (M : Nat → Nat) (k d : Nat) : Nat → Nat := fun i => if i = k then M i ||| 2 ^ d else M i
theorem setM_bit (M : Nat → Nat) (k d i j : Nat) : (setM M k d i).testBit j = ((M i).testBit j || decide (i = k ∧ j = d)) := by
  unfold setM
  by_cases e : i = k
  · rw [if_pos e, or_bit]
    congr 1
    exact decide_eq_decide.mpr ⟨fun h => ⟨e, h⟩, fun h => h.2⟩
  · rw [if_neg e, decide_eq_false fun z => e z.1, Bool.or_false]
def delM (M : Nat → Nat) (k d : Nat) : Nat → Nat := fun i => if i = k then M i ^^^ 2 ^ d else M i
theorem delM_bit {M : Nat → Nat} {k d : Nat} (h : (M k).testBit d = true) (i j : Nat) : (delM M k d i).testBit j = ((M i).testBit j && !decide (i = k ∧ j = d)) := by
  unfold delM
  by_cases e : i = k
  · subst e
    rw [if_pos rfl, xor_bit h]
    congr 1
    rw [← decide_not]
    exact decide_eq_decide.mpr ⟨fun h z => h z.2, fun h z => h ⟨rfl, z⟩⟩
  · rw [if_neg e, decide_eq_false fun z => e z.1, Bool.not_false, Bool.and_true]
theorem or_int_nat (m d : Nat) : Builtin.bitOr ((m : Nat) : Int) ((1 : Int) * 2 ^ ((d : Nat) : Int).toNat) = ((m ||| 2 ^ d : Nat) : Int) := by
  have e : (1 : Int) * 2 ^ ((d : Nat) : Int).toNat = ((2 ^ d : Nat) : Int) := by
    rw [Int.one_mul, Int.toNat_natCast, Int.natCast_pow]
    all_goals rfl
  rw [e, bitOr_nn (Int.natCast_nonneg _) (Int.natCast_nonneg _), Int.toNat_natCast, Int.toNat_natCast]
theorem few_ly {G : Gm} {kvs : List (Key × V)} (w : Few 1000 G) (h : DictIs kvs (lyF G)) : kvs.length < sizeLine :=
  line1000 (Nat.le_trans (w.len h fun s q => by unfold lyF at q; rw [Option.isSome_map] at q; exact q) (by decide))
theorem few_fr {G : Gm} {n : Nat} {kvs : List (Key × V)} (w : Few 1000 G) (h : DictIs kvs (farF n G)) : kvs.length < sizeLine :=
  line1000 (Nat.le_trans (w.len h fun s q => by obtain ⟨t, e⟩ := farF_iff.mp q; rw [e]; rfl) (by decide))
theorem few_sl {G : Gm} {c : Cfg} {k d : Nat} {kvs : List (Key × V)} (w : Few 1000 G) (h : DictIs kvs (slF c G k d)) : kvs.length ≤ 1000 :=
  w.len h fun s q => by obtain ⟨t, e, _⟩ := slF_iff.mp q; rw [e]; rfl
theorem setd_slot {c : Cfg} {H H3 : Hp} {Z : Addr → Prop} {G : Gm} {F : Str → Option Int} {M : Nat → Nat} {D : Nat → Nat → Option Addr} {lkv fkv gkv : List (Key × V)} {skv : List (List Key × V)} {k d : Nat} {b e : Addr} {R : VK}
    (x : CoreD c H Z G F M D lkv fkv gkv skv) (hk : k < c.n) (h6 : c.n ≤ 6) (hd : d < 60) (sl3 : H3 c.sl = some (.dT skv)) (hb : H3 b = some (.tup [.int (k : Int), .int (d : Int)])) (he : H3 e = some (.dK [])) (hn : H e = none)
    (kp : ∀ b o, H b = some o → b ≠ c.ly → H3 b = some o)
    (h : ∀ (a : Addr) (akv : List (Key × V)) (skv' : List (List Key × V)) (D' : Nat → Nat → Option Addr) (Z' : Addr → Prop) (H4 : Hp), H4 a = some (.dK akv) → DictIs akv (slF c G k d) → (D k d = some a ∨ (D k d = none ∧ H a = none)) → H4 c.sl = some (.dT skv') → SlotsIs skv' D' →
      (∀ i j, D' i j = if i = k ∧ j = d then some a else D i j) → (∀ b, Z b → Z' b) → Z' a → (∀ b, Z' b → Z b ∨ H b = none) → (∀ b, Z' b → Z b ∨ b = a) → (∀ b o, H b = some o → b ≠ c.ly → b ≠ c.sl → H4 b = some o) → (∀ b o, H3 b = some o → b ≠ c.sl → H4 b = some o) → R (.ref a) H4) :
    rSetdT (.ref c.sl) [.ref b, .ref e] H3 R := by
  refine ⟨c.sl, skv, ky k d, b, .ref e, rfl, rfl, sl3, hb, line1000 (Nat.le_trans x.sld.len (by decide)), fun v hv => ?_, fun hv => ?_⟩
  · rw [x.sld.at_] at hv
    cases ed : D k d with
    | none =>
      rw [ed] at hv
      cases hv
    | some a =>
      rw [ed] at hv
      cases hv
      obtain ⟨akv, h1, h2⟩ := x.dd k d a ed
      refine h a akv skv D Z H3 (kp _ _ h1 (x.dsep k d a ed).1) h2 (.inl ed) sl3 x.sld (fun i j => ?_) (fun _ z => z) (x.zd k d a ed) (fun _ z => .inl z) (fun _ z => .inl z) (fun b o q n _ => kp b o q n) (fun b o q _ => q)
      by_cases q : i = k ∧ j = d
      · rw [if_pos q, q.1, q.2, ed]
      · rw [if_neg q]
  · rw [x.sld.at_] at hv
    have ed : D k d = none := by
      cases ed : D k d with
      | none => rfl
      | some a =>
        rw [ed] at hv
        cases hv
    have ne : e ≠ c.sl := ne_of he sl3 fun z => nomatch z
    refine h e [] (putK skv (ky k d) (.ref e)) _ (fun b => Z b ∨ b = e) (upd H3 c.sl (.dT (putK skv (ky k d) (.ref e)))) (upd_at he ne) (DictIs.nil.congr fun s => ?_) (.inr ⟨ed, hn⟩) upd_same (x.sld.put e (by omega) hd) (fun _ _ => rfl) (fun _ z => .inl z) (.inr rfl)
      (fun b z => z.elim .inl fun q => .inr (by rw [q]; exact hn)) (fun b z => z) (fun b o q n1 n2 => upd_at (kp b o q n1) n2) (fun b o q n => upd_at q n)
    cases q : slF c G k d s with
    | none => rfl
    | some v =>
      obtain ⟨t, h1, h2⟩ := slF_iff.mp (show (slF c G k d s).isSome = true by rw [q]; rfl)
      exact absurd h2 (x.dno k d s t hk ed h1)
theorem ok_lay_in (F : Fun K "lay_in" "Wheels.lay_in" sLayIn f fd) (T : Txt K mg C) (MS : MOk P w K mg base C "slot_at" 1 ["self", "k", "time"] (spSlotAt C)) : FnOk P w K mg base CX0 2 f fd ["self", "name", "time", "k"] (spLayIn C) := by
  refine F.ok scLayIn (fun vs H Q E h => ?_) (fun cdv A outer s H vs Q E hr h => ?_)
  · obtain ⟨c, Z, G, Fl, now, t, name, k, rfl, _⟩ := h
    rfl
  · obtain ⟨c, Z, G, Fl, now, t, name, k, rfl, I, O, hgn, hk, hfew, q⟩ := h
    obtain ⟨dx, h1⟩ := I.ob
    obtain ⟨M, D, lkv, fkv, gkv, skv, x⟩ := id O
    have hu := hu_of hr
    have nd := scLayIn.nd
    have plp : c.p ≠ c.ly := ne_of h1 x.ly fun z => nomatch z
    have lly := few_ly hfew x.lyd
    refine ⟨_, pss_cons (ps_dput hu (pe_fld (pv 0) rfl) (pv 1) (pv 3) rfl)
      (pss_one (ps_if (pt_cmpR op_eq (pv 3) (pe_callB call_len_seq (by rfl) T.len PySem.boot_len (pa_cons (pe_fld (pv 0) rfl) pa_nil)) (nomark _))
        (pss_one (ps_dput hu (pe_fld (pv 0) rfl) (pv 1) pe_bl rfl))
        (pss_cons (ps_set (i := 4) nd rfl (Or.inl rfl) (pe_mo (pv 0) T.cl MS hr (pa_cons (pv 3) (pa_cons (pv 2) pa_nil))))
        (pss_cons (ps_expr (pe_bm PySem.F.plainAttrs_dict PySem.F.slot_dict_update PySem.F.type_dict_update mt_updK
            (pe_bm PySem.F.plainAttrs_dict PySem.F.slot_dict_setdefault PySem.F.type_dict_setdefault (mt_setdT hu) (pe_fld (pv 0) rfl) (pa_cons (pe_tup (pa_cons (pv 3) (pa_cons (pv 4) pa_nil))) (pa_cons pe_dnewK pa_nil)))
            (pa_cons (pe_disp (pps_cons (pv 1) pe_bl pps_nil) (by rfl) (by rfl) (fun z => by cases z) (by decide)) pa_nil)))
        (pss_one (ps_asg (pe_op op_or (pe_ix ix_list (pe_fld (pv 0) rfl) (pv 3) (fun _ _ => rfl)) (pe_op op_shl pe_int (pv 4))) (pg_sub (pe_fld (pv 0) rfl) (pv 3) set_list))))))), ?_⟩
    refine ⟨_, rfl, _, rfl, c.p, C, dx, _, _, rfl, h1, T.cl, T.nLying, flds_lying _ _, _, rfl, c.ly, _, rfl, DPut.k (k := Sum.inr name) x.ly lly, ?_⟩
    have S1 : ∀ b o, H b = some o → b ≠ c.ly → upd H c.ly (.dK (putK lkv (Sum.inr name) (.int (k : Int)))) b = some o := fun b o h ne => upd_at h ne
    generalize hH1 : upd H c.ly (.dK (putK lkv (Sum.inr name) (.int (k : Int)))) = H1 at S1
    have hl1 : H1 c.ly = some (.dK (putK lkv (Sum.inr name) (.int (k : Int)))) := by rw [← hH1]; exact upd_same
    have h1' : H1 c.p = some (.ins C dx (flds c now)) := S1 _ _ h1 plp
    have rd1 := S1 _ _ I.rd (ne_of I.rd x.ly fun z => nomatch z)
    have un1 := S1 _ _ I.un (ne_of I.un x.ly fun z => nomatch z)
    have K1 : Keeps Z H Z H1 := by rw [← hH1]; exact Keeps.put x.zl
    refine ⟨_, rfl, _, rfl, c.p, C, dx, _, _, rfl, h1', T.cl, T.nRounds, flds_rounds _ _, c.rd, _, rfl, .inl (SqL.of rd1), rfl, _, rfl, ?_⟩
    rw [rl_len, decI]
    refine ite2 (fun e => ?_) (fun e => ?_)
    · have e' := of_decide_eq_true e
      have ekn : k = c.n := by omega
      subst ekn
      have fr1 := S1 _ _ x.fr x.lf.symm
      refine ⟨_, rfl, c.p, C, dx, _, _, rfl, h1', T.cl, T.nFar, flds_far _ _, _, rfl, c.fr, _, rfl, DPut.k (k := Sum.inr name) fr1 (few_fr hfew x.frd), ?_⟩
      refine q _ Z ⟨M, D, _, _, gkv, skv, x.far_in hgn (fun b o h n1 n2 => upd_at (S1 b o h n1) n2) (upd_at hl1 x.lf) upd_same⟩ (K1.trans (Keeps.put x.zf))
    · have e' : ¬ (k : Int) = (c.n : Int) := fun z => e (decide_eq_true z)
      have hkn : k < c.n := by omega
      have hd60 := slot_lt60 I.U hkn t
      have hn6 := I.U.n6
      refine ⟨_, rfl, c.p, dx, _, rfl, h1', flds_no _ _ (by decide +kernel), _, rfl, _, rfl, c, now, t, k, rfl, ⟨I.U, ⟨dx, h1'⟩, rd1, un1⟩, hkn, fun H2 s2 => ?_⟩
      generalize hd : slot c.rr c.uu k t = d at hd60
      have S2 : ∀ b o, H b = some o → b ≠ c.ly → H2 b = some o := fun b o h n => s2 _ _ (S1 b o h n)
      have h12 := s2 _ _ h1'
      have sl2 := S2 _ _ x.sl (ne_of x.sl x.ly fun z => nomatch z)
      refine ⟨_, rfl, c.p, C, dx, _, _, rfl, h12, T.cl, T.nSlots, flds_slots _ _, .inr (.inr (.inl ⟨rfl, .inr ⟨_, sl2⟩⟩)), _, rfl, _, rfl, (by show 2 ≤ sizeLine; decide), fun b hb => ?_⟩
      intro e he
      have hb2 : H2 b = none := hb
      have he2 : H2 e = none := by
        by_cases q : e = b
        · rw [q]
          exact hb2
        · rw [upd_ne q] at he
          exact he
      have nbe : b ≠ e := ne_of_none upd_same he
      have sm : Same H2 (upd (upd H2 b (.tup [.int (k : Int), .int (d : Int)])) e (.dK [])) := (same_new hb2).trans (same_new he)
      unfold tNil
      refine setd_slot x hkn hn6 hd60 (sm _ _ sl2) (upd_at upd_same nbe) upd_same ?_ (fun b o h n => sm _ _ (S2 b o h n)) fun a akv skv' D' Z' H4 ha had hold hsl sd hD hZ hza hgrow hzn kp4 kp34 => ?_
      · cases q : H e with
        | none => rfl
        | some o =>
          have n : e ≠ c.ly := fun z => by
            have := s2 _ _ hl1
            rw [← z, he2] at this
            cases this
          have := S2 e o q n
          rw [he2] at this
          cases this
      refine ⟨.inr (.inr (.inl ⟨rfl, .inl ⟨_, ha⟩⟩)), fun g hg => ⟨_, rfl, upd_same, [(Sum.inr name, .bl true)], rfl, (by show 1 ≤ 15; decide), ?_⟩⟩
      have nag : a ≠ g := ne_of_none ha hg
      have lak : akv.length ≤ 1000 := few_sl hfew had
      rw [upd_upd]
      refine ⟨a, g, akv, _, rfl, rfl, nag, upd_at ha nag, upd_same, line_add lak (by show 1 ≤ 1000; decide), ?_⟩
      have nma : c.mks ≠ a := by
        rcases hold with h | h
        · obtain ⟨kvs, h3, _⟩ := x.dd _ _ _ h
          exact ne_of x.mks h3 fun z => nomatch z
        · exact ne_of_none x.mks h.2
      have npa : c.p ≠ a := by
        rcases hold with h | h
        · obtain ⟨kvs, h3, _⟩ := x.dd _ _ _ h
          exact ne_of h1 h3 fun z => nomatch z
        · exact ne_of_none h1 h.2
      have nsa : c.sl ≠ a := by
        rcases hold with h | h
        · obtain ⟨kvs, h3, _⟩ := x.dd _ _ _ h
          exact ne_of x.sl h3 fun z => nomatch z
        · exact ne_of_none x.sl h.2
      have nla : c.ly ≠ a := by
        rcases hold with h | h
        · exact (x.dsep _ _ _ h).1.symm
        · exact ne_of_none x.ly h.2
      have p4 := kp4 _ _ h1 plp (ne_of h1 x.sl fun z => nomatch z)
      have m4 := kp4 _ _ x.mks (ne_of x.mks x.ly fun z => nomatch z) (ne_of x.mks x.sl fun z => nomatch z)
      have l4 := kp34 _ _ (sm _ _ (s2 _ _ hl1)) (ne_of x.ly x.sl fun z => nomatch z)
      have p5 : ∀ o o', (upd (upd H4 g o) a o') c.p = some (.ins C dx (flds c now)) := fun o o' => upd_at (upd_at p4 (ne_of_none p4 hg)) npa
      have m5 : ∀ o o', (upd (upd H4 g o) a o') c.mks = some (.lst (rl c.n fun k => V.int ((M k : Nat) : Int))) := fun o o' => upd_at (upd_at m4 (ne_of_none m4 hg)) nma
      refine ⟨_, rfl, c.p, C, dx, _, _, rfl, p5 _ _, T.cl, T.nMasks, flds_masks _ _, _, rfl, c.mks, _, _, _, rfl, rfl, SqL.of (m5 _ _), atI_nat (rl_get hkn), _, rfl, _, _, rfl, rfl, ⟨by omega, by omega, by decide⟩, _, _, rfl, rfl,
        _, rfl, c.p, C, dx, _, _, rfl, p5 _ _, T.cl, T.nMasks, flds_masks _ _, _, rfl, c.mks, _, (k : Int), k, rfl, rfl, m5 _ _, ?_, ?_⟩
      · rw [rl_len]
        unfold ixN
        rw [if_pos (by omega), if_pos (by omega), Int.toNat_natCast]
      show Q V.non (upd (upd (upd H4 g (.dK [(Sum.inr name, V.bl true)])) a (.dK (putK akv (Sum.inr name) (V.bl true)))) c.mks (.lst ((rl c.n fun k => V.int ((M k : Nat) : Int)).set k (V.int (Builtin.bitOr ((M k : Nat) : Int) (1 * 2 ^ ((d : Nat) : Int).toNat))))))
      rw [or_int_nat, rl_set]
      have eM : (rl c.n fun j => if j = k then V.int ((M k ||| 2 ^ d : Nat) : Int) else V.int ((M j : Nat) : Int)) = rl c.n fun j => V.int ((setM M k d j : Nat) : Int) := rl_ext fun j _ => by
        unfold setM
        by_cases q : j = k
        · rw [if_pos q, if_pos q, q]
        · rw [if_neg q, if_neg q]
      rw [eM]
      have sl4 := upd_at (o := .dK (putK akv (Sum.inr name) (V.bl true))) (upd_at (o := .dK [(Sum.inr name, V.bl true)]) hsl (ne_of_none hsl hg)) nsa
      have l5 := upd_at (o := .dK (putK akv (Sum.inr name) (V.bl true))) (upd_at (o := .dK [(Sum.inr name, V.bl true)]) l4 (ne_of_none l4 hg)) nla
      refine q _ Z' ⟨setM M k d, D', putK lkv (Sum.inr name) (.int (k : Int)), fkv, gkv, skv', x.slot_in (a := a) (akv := akv) hgn hkn (fun b o h n1 n2 n3 n4 => ?_) (upd_at l5 (ne_of x.ly x.mks fun z => nomatch z)) (upd_at sl4 (ne_of x.sl x.mks fun z => nomatch z)) sd (by rw [hd]; exact hD) upd_same
        (fun i j _ => by rw [hd]; exact setM_bit M k d i j) (upd_at upd_same nma.symm) (by rw [hd]; exact had) (by rw [hd]; exact hold) hZ hza hzn⟩ ?_
      · have h4 := kp4 b o h n1 n2
        exact upd_at (upd_at (upd_at h4 (ne_of_none h4 hg)) n4) n3
      · refine Keeps.grow (Z1 := Z') (fun b o h nz => ?_) (fun b z => .inl z)
        have n1 : b ≠ c.ly := fun z => nz (by rw [z]; exact x.zl)
        have n2 : b ≠ c.sl := fun z => nz (by rw [z]; exact x.zs)
        have n3 : b ≠ c.mks := fun z => nz (by rw [z]; exact x.zm)
        have nz' : ¬ Z' b := fun z => by
          rcases hgrow b z with r | r
          · exact nz r
          · rw [h] at r
            cases r
        have n4 : b ≠ a := fun z => nz' (by rw [z]; exact hza)
        have h4 := kp4 b o h n1 n2
        exact ⟨upd_at (upd_at (upd_at h4 (ne_of_none h4 hg)) n4) n3, nz'⟩
end
end Wk

namespace Wk
open PySem L2 Wr
section
variable {P : Program} {w : World} {K : PySem.W.Frag} {mg : Str → Option Value} {base : Heap} {C f : Addr} {fd : FuncData}
theorem xor_int_nat (m d : Nat) : Builtin.bitXor ((m : Nat) : Int) ((1 : Int) * 2 ^ ((d : Nat) : Int).toNat) = ((m ^^^ 2 ^ d : Nat) : Int) := by
  have e : (1 : Int) * 2 ^ ((d : Nat) : Int).toNat = ((2 ^ d : Nat) : Int) := by
    rw [Int.one_mul, Int.toNat_natCast, Int.natCast_pow]
    all_goals rfl
  rw [e, Bits.bitXor_pp (Int.natCast_nonneg _) (Int.natCast_nonneg _), Int.toNat_natCast, Int.toNat_natCast]
def spLayOut (C : Addr) : Sp := fun vs H Q _ => ∃ (c : Cfg) (Z : Addr → Prop) (G : Gm) (F : Str → Option Int) (now t : Int) (name : Str) (k : Nat), vs = [.ref c.p, .str name, .int t] ∧ Inst C c H Z now ∧ Core c H Z G F ∧ G name = some (k, t) ∧
  ∀ H' Z', Core c H' Z' (fdel G name) F → Keeps Z H Z' H' → Q .non H'
theorem scLayOut : FnScope ["self", "name", "time", "k", "slot"] ["self", "name", "time"] (defScope sLayOut) := ⟨rfl, rfl, rfl, by decide +kernel, rfl, by decide +kernel, by decide +kernel⟩
theorem ok_lay_out (F : Fun K "lay_out" "Wheels.lay_out" sLayOut f fd) (T : Txt K mg C) (MS : MOk P w K mg base C "slot_at" 1 ["self", "k", "time"] (spSlotAt C)) : FnOk P w K mg base CX0 2 f fd ["self", "name", "time"] (spLayOut C) := by
  refine F.ok scLayOut (fun vs H Q E h => ?_) (fun cdv A outer s H vs Q E hr h => ?_)
  · obtain ⟨c, Z, G, Fl, now, t, name, k, rfl, _⟩ := h
    rfl
  · obtain ⟨c, Z, G, Fl, now, t, name, k, rfl, I, O, hgn, q⟩ := h
    obtain ⟨dx, h1⟩ := I.ob
    obtain ⟨M, D, lkv, fkv, gkv, skv, x⟩ := id O
    have hu := hu_of hr
    have hu0 := hr.units0
    have nd := scLayOut.nd
    have plp : c.p ≠ c.ly := ne_of h1 x.ly fun z => nomatch z
    have hk := x.gk _ _ _ hgn
    have ev : valV lkv (Sum.inr name) = some (.int (k : Int)) := (x.lyd.at_ name).trans (by unfold lyF; rw [hgn]; rfl)
    refine ⟨_, pss_cons (ps_set (i := 3) nd rfl (Or.inl rfl) (pe_bm PySem.F.plainAttrs_dict PySem.F.slot_dict_pop PySem.F.type_dict_pop mt_popK1 (pe_fld (pv 0) rfl) (pa_cons (pv 1) pa_nil)))
      (pss_cons (ps_if (pt_cmpR op_eq (pv 3) (pe_callB call_len_seq (by rfl) T.len PySem.boot_len (pa_cons (pe_fld (pv 0) rfl) pa_nil)) (nomark _))
        (pss_cons (ps_expr (pe_bm PySem.F.plainAttrs_dict PySem.F.slot_dict_pop PySem.F.type_dict_pop mt_popK1 (pe_fld (pv 0) rfl) (pa_cons (pv 1) pa_nil))) (pss_one ps_retN)) pss_nil)
      (pss_cons (ps_set (i := 4) nd rfl (Or.inl rfl) (pe_mo (pv 0) T.cl MS hr (pa_cons (pv 3) (pa_cons (pv 2) pa_nil))))
      (pss_cons (ps_expr (pe_bm PySem.F.plainAttrs_dict PySem.F.slot_dict_pop PySem.F.type_dict_pop mt_popK1 (pe_dget hu (pe_fld (pv 0) rfl) (pe_tup (pa_cons (pv 3) (pa_cons (pv 4) pa_nil))) (fun _ _ => rfl)) (pa_cons (pv 1) pa_nil)))
      (pss_one (ps_if (pt_cmpR (op_eqE hu0) (pe_dget hu (pe_fld (pv 0) rfl) (pe_tup (pa_cons (pv 3) (pa_cons (pv 4) pa_nil))) (fun _ _ => rfl)) pe_dnewK (nomark _))
        (pss_cons (ps_expr (pe_bm PySem.F.plainAttrs_dict PySem.F.slot_dict_pop PySem.F.type_dict_pop (mt_popT1 hu) (pe_fld (pv 0) rfl) (pa_cons (pe_tup (pa_cons (pv 3) (pa_cons (pv 4) pa_nil))) pa_nil)))
        (pss_one (ps_asg (pe_op op_xor (pe_ix ix_list (pe_fld (pv 0) rfl) (pv 3) (fun _ _ => rfl)) (pe_op op_shl pe_int (pv 4))) (pg_sub (pe_fld (pv 0) rfl) (pv 3) set_list)))) pss_nil))))), ?_⟩
    refine ⟨_, rfl, c.p, C, dx, _, _, rfl, h1, T.cl, T.nLying, flds_lying _ _, .inr (.inr (.inl ⟨rfl, .inl ⟨_, x.ly⟩⟩)), _, rfl, c.ly, lkv, Sum.inr name, _, rfl, rfl, x.ly, ev, ?_⟩
    have S1 : ∀ b o, H b = some o → b ≠ c.ly → upd H c.ly (.dK (dropK lkv (Sum.inr name))) b = some o := fun b o h ne => upd_at h ne
    generalize hH1 : upd H c.ly (.dK (dropK lkv (Sum.inr name))) = H1 at S1
    have hl1 : H1 c.ly = some (.dK (dropK lkv (Sum.inr name))) := by rw [← hH1]; exact upd_same
    have h1' : H1 c.p = some (.ins C dx (flds c now)) := S1 _ _ h1 plp
    have rd1 := S1 _ _ I.rd (ne_of I.rd x.ly fun z => nomatch z)
    have un1 := S1 _ _ I.un (ne_of I.un x.ly fun z => nomatch z)
    have K1 : Keeps Z H Z H1 := by rw [← hH1]; exact Keeps.put x.zl
    refine ⟨_, rfl, _, rfl, c.p, C, dx, _, _, rfl, h1', T.cl, T.nRounds, flds_rounds _ _, c.rd, _, rfl, .inl (SqL.of rd1), rfl, _, rfl, ?_⟩
    rw [rl_len, decI]
    refine ite2 (fun e => ?_) (fun e => ?_)
    · have e' := of_decide_eq_true e
      have ekn : k = c.n := by omega
      subst ekn
      have fr1 := S1 _ _ x.fr x.lf.symm
      have ef : valV fkv (Sum.inr name) = some (.bl true) := (x.frd.at_ name).trans (by
        unfold farF
        rw [hgn]
        show (if c.n = c.n then some (V.bl true) else none) = _
        rw [if_pos rfl])
      refine ⟨_, rfl, c.p, C, dx, _, _, rfl, h1', T.cl, T.nFar, flds_far _ _, .inr (.inr (.inl ⟨rfl, .inl ⟨_, fr1⟩⟩)), _, rfl, c.fr, fkv, Sum.inr name, _, rfl, rfl, fr1, ef, ?_⟩
      exact q _ Z ⟨M, D, _, _, gkv, skv, x.far_out hgn (fun b o h n1 n2 => upd_at (S1 b o h n1) n2) (upd_at hl1 x.lf) upd_same⟩ (K1.trans (Keeps.put x.zf))
    · have e' : ¬ (k : Int) = (c.n : Int) := fun z => e (decide_eq_true z)
      have hkn : k < c.n := by omega
      have hd60 := slot_lt60 I.U hkn t
      have hn6 := I.U.n6
      refine ⟨_, rfl, c.p, dx, _, rfl, h1', flds_no _ _ (by decide +kernel), _, rfl, _, rfl, c, now, t, k, rfl, ⟨I.U, ⟨dx, h1'⟩, rd1, un1⟩, hkn, fun H2 s2 => ?_⟩
      have S2 : ∀ b o, H b = some o → b ≠ c.ly → H2 b = some o := fun b o h n => s2 _ _ (S1 b o h n)
      have h12 := s2 _ _ h1'
      have sl2 := S2 _ _ x.sl (ne_of x.sl x.ly fun z => nomatch z)
      obtain ⟨a, ha⟩ : ∃ a, D k (slot c.rr c.uu k t) = some a := by
        cases ed : D k (slot c.rr c.uu k t) with
        | some a => exact ⟨a, rfl⟩
        | none => exact absurd rfl (x.dno k _ name t hkn ed hgn)
      obtain ⟨akv, h3, h4⟩ := x.dd _ _ _ ha
      have sep := x.dsep _ _ _ ha
      generalize hd : slot c.rr c.uu k t = d at hd60 ha h4
      have a2 := S2 _ _ h3 sep.1
      have es : valV skv (ky k d) = some (.ref a) := by rw [x.sld.at_, ha]; rfl
      have ea : valV akv (Sum.inr name) = some (.bl true) := (h4.at_ name).trans (by
        unfold slF
        rw [hgn]
        show (if k = k ∧ slot c.rr c.uu k t = d then some (V.bl true) else none) = _
        rw [if_pos ⟨rfl, hd⟩])
      have npa : c.p ≠ a := ne_of h1 h3 fun z => nomatch z
      have nsa : c.sl ≠ a := ne_of x.sl h3 fun z => nomatch z
      have nma : c.mks ≠ a := ne_of x.mks h3 fun z => nomatch z
      have nra : c.rd ≠ a := ne_of I.rd h3 fun z => nomatch z
      refine ⟨_, rfl, c.p, C, dx, _, _, rfl, h12, T.cl, T.nSlots, flds_slots _ _, _, rfl, _, rfl, (by show 2 ≤ sizeLine; decide), fun b hb => ?_⟩
      have sb := same_new (o := .tup [.int (k : Int), .int (d : Int)]) hb
      refine ⟨c.sl, .ref a, rfl, by rw [← es]; exact DGet.t (sb _ _ sl2) upd_same, .inr (.inr (.inl ⟨rfl, .inl ⟨_, sb _ _ a2⟩⟩)), _, rfl, a, akv, Sum.inr name, _, rfl, rfl, sb _ _ a2, ea, ?_⟩
      have S3 : ∀ b' o, H b' = some o → b' ≠ c.ly → b' ≠ a → upd (upd H2 b (.tup [.int (k : Int), .int (d : Int)])) a (.dK (dropK akv (Sum.inr name))) b' = some o := fun b' o h n1 n2 => upd_at (sb _ _ (S2 b' o h n1)) n2
      have l3 : upd (upd H2 b (.tup [.int (k : Int), .int (d : Int)])) a (.dK (dropK akv (Sum.inr name))) c.ly = some (.dK (dropK lkv (Sum.inr name))) := upd_at (sb _ _ (s2 _ _ hl1)) sep.1.symm
      have a3 : upd (upd H2 b (.tup [.int (k : Int), .int (d : Int)])) a (.dK (dropK akv (Sum.inr name))) a = some (.dK (dropK akv (Sum.inr name))) := upd_same
      generalize upd (upd H2 b (.tup [.int (k : Int), .int (d : Int)])) a (.dK (dropK akv (Sum.inr name))) = H3 at S3 l3 a3
      have p3 := S3 _ _ h1 plp npa
      have sl3 := S3 _ _ x.sl (ne_of x.sl x.ly fun z => nomatch z) nsa
      have m3 := S3 _ _ x.mks (ne_of x.mks x.ly fun z => nomatch z) nma
      refine ⟨_, rfl, c.p, C, dx, _, _, rfl, p3, T.cl, T.nSlots, flds_slots _ _, _, rfl, _, rfl, (by show 2 ≤ sizeLine; decide), fun b4 hb4 => ?_⟩
      have sb4 := same_new (o := .tup [.int (k : Int), .int (d : Int)]) hb4
      refine ⟨c.sl, .ref a, rfl, by rw [← es]; exact DGet.t (sb4 _ _ sl3) upd_same, fun e5 he5 => ?_⟩
      have sb5 := same_new (o := .dK []) he5
      refine ⟨a, e5, _, rfl, rfl, sb5 _ _ (sb4 _ _ a3), upd_same, _, rfl, ?_⟩
      have s5 := sb4.trans sb5
      have S5 : ∀ b' o, H b' = some o → b' ≠ c.ly → b' ≠ a → _ := fun b' o h n1 n2 => s5 b' o (S3 b' o h n1 n2)
      have l5 := s5 _ _ l3
      have a5 := s5 _ _ a3
      have p5 := s5 _ _ p3
      have sl5 := s5 _ _ sl3
      have m5 := s5 _ _ m3
      generalize upd (upd H3 b4 (.tup [.int (k : Int), .int (d : Int)])) e5 (.dK []) = H5 at S5 l5 a5 p5 sl5 m5
      have K5 : Keeps Z H Z H5 := fun b' o h nz => ⟨S5 b' o h (fun z => nz (by rw [z]; exact x.zl)) (fun z => nz (by rw [z]; exact x.zd _ _ _ ha)), nz⟩
      cases hdr : dropK akv (Sum.inr name) with
      | cons p0 r0 =>
        refine iteF ?_
        exact q _ Z ⟨M, D, _, fkv, gkv, skv, x.slot_out (a := a) (akv := akv) hgn hkn (by rw [hd]; exact ha) S5 l5 h3 a5 (by rw [hd]; exact h4) (by rw [hdr]; exact fun z => nomatch z)⟩ K5
      | nil =>
        refine iteT ?_
        refine ⟨_, rfl, c.p, C, dx, _, _, rfl, p5, T.cl, T.nSlots, flds_slots _ _, .inr (.inr (.inl ⟨rfl, .inr ⟨_, sl5⟩⟩)), _, rfl, _, rfl, (by show 2 ≤ sizeLine; decide), fun b6 hb6 => ?_⟩
        have sb6 := same_new (o := .tup [.int (k : Int), .int (d : Int)]) hb6
        refine ⟨c.sl, skv, ky k d, b6, .ref a, rfl, rfl, sb6 _ _ sl5, upd_same, es, ?_⟩
        have nps : c.p ≠ c.sl := ne_of h1 x.sl fun z => nomatch z
        have nms : c.mks ≠ c.sl := ne_of x.mks x.sl fun z => nomatch z
        have nls : c.ly ≠ c.sl := ne_of x.ly x.sl fun z => nomatch z
        have S6 : ∀ b' o, H b' = some o → b' ≠ c.ly → b' ≠ a → b' ≠ c.sl → upd (upd H5 b6 (.tup [.int (k : Int), .int (d : Int)])) c.sl (.dT (dropK skv (ky k d))) b' = some o := fun b' o h n1 n2 n3 => upd_at (sb6 _ _ (S5 b' o h n1 n2)) n3
        have p6 : upd (upd H5 b6 (.tup [.int (k : Int), .int (d : Int)])) c.sl (.dT (dropK skv (ky k d))) c.p = _ := upd_at (sb6 _ _ p5) nps
        have m6 : upd (upd H5 b6 (.tup [.int (k : Int), .int (d : Int)])) c.sl (.dT (dropK skv (ky k d))) c.mks = _ := upd_at (sb6 _ _ m5) nms
        have l6 : upd (upd H5 b6 (.tup [.int (k : Int), .int (d : Int)])) c.sl (.dT (dropK skv (ky k d))) c.ly = _ := upd_at (sb6 _ _ l5) nls
        have a6 : upd (upd H5 b6 (.tup [.int (k : Int), .int (d : Int)])) c.sl (.dT (dropK skv (ky k d))) a = some (.dK []) := upd_at (sb6 _ _ (by rw [← hdr]; exact a5)) (ne_of h3 x.sl fun z => nomatch z)
        have s6 : upd (upd H5 b6 (.tup [.int (k : Int), .int (d : Int)])) c.sl (.dT (dropK skv (ky k d))) c.sl = _ := upd_same
        generalize upd (upd H5 b6 (.tup [.int (k : Int), .int (d : Int)])) c.sl (.dT (dropK skv (ky k d))) = H6 at S6 p6 m6 l6 s6 a6
        refine ⟨_, rfl, c.p, C, dx, _, _, rfl, p6, T.cl, T.nMasks, flds_masks _ _, _, rfl, c.mks, _, _, _, rfl, rfl, SqL.of m6, atI_nat (rl_get hkn), _, rfl, _, _, rfl, rfl, ⟨by omega, by omega, by decide⟩, _, _, rfl, rfl,
          _, rfl, c.p, C, dx, _, _, rfl, p6, T.cl, T.nMasks, flds_masks _ _, _, rfl, c.mks, _, (k : Int), k, rfl, rfl, m6, ?_, ?_⟩
        · rw [rl_len]
          unfold ixN
          rw [if_pos (by omega), if_pos (by omega), Int.toNat_natCast]
        show Q V.non (upd H6 c.mks (.lst ((rl c.n fun k => V.int ((M k : Nat) : Int)).set k (V.int (Builtin.bitXor ((M k : Nat) : Int) (1 * 2 ^ ((d : Nat) : Int).toNat))))))
        rw [xor_int_nat, rl_set]
        have eM : (rl c.n fun j => if j = k then V.int ((M k ^^^ 2 ^ d : Nat) : Int) else V.int ((M j : Nat) : Int)) = rl c.n fun j => V.int ((delM M k d j : Nat) : Int) := rl_ext fun j _ => by
          unfold delM
          by_cases q : j = k
          · rw [if_pos q, if_pos q, q]
          · rw [if_neg q, if_neg q]
        rw [eM]
        have hbit : (M k).testBit d = true := by rw [x.bit k d hkn, ha]; rfl
        refine q _ Z ⟨delM M k d, fun i j => if i = k ∧ j = d then none else D i j, _, fkv, gkv, dropK skv (ky k d), x.slot_end (a := a) (akv := akv) hgn hkn (by rw [hd]; exact ha) (fun b' o h n1 n2 n3 n4 => upd_at (S6 b' o h n1 n2 n3) n4) (upd_at l6 (ne_of x.ly x.mks fun z => nomatch z)) (upd_at a6 (ne_of h3 x.mks fun z => nomatch z)) (by rw [hd]; exact h4) hdr
          (upd_at s6 (ne_of x.sl x.mks fun z => nomatch z)) (x.sld.drop k d) (fun i j => by rw [hd]) upd_same (fun i j _ => by rw [hd]; exact delM_bit hbit i j)⟩ ?_
        exact fun b' o h nz => ⟨upd_at (S6 b' o h (fun z => nz (by rw [z]; exact x.zl)) (fun z => nz (by rw [z]; exact x.zd _ _ _ ha)) (fun z => nz (by rw [z]; exact x.zs))) (fun z => nz (by rw [z]; exact x.zm)), nz⟩
end
end Wk

namespace Wk
open PySem L2 Wr
section
variable {P : Program} {w : World} {K : PySem.W.Frag} {mg : Str → Option Value} {base : Heap} {C f : Addr} {fd : FuncData}
theorem Core.fl_put {c : Cfg} {H : Hp} {Z : Addr → Prop} {G : Gm} {F : Str → Option Int} (x : Core c H Z G F) {name : Str} {v : Int} {gkv : List (Key × V)} (h : H c.fl = some (.dK gkv)) : Core c (upd H c.fl (.dK (putK gkv (Sum.inr name) (.int v)))) Z G (fput F name v) := by
  refine x.falls (fun g hg hd => ⟨_, upd_same, ?_⟩) fun b o h n => upd_at h n
  rw [h] at hg
  cases hg
  refine (hd.put name (.int v)).congr fun s => ?_
  show (if s = name then _ else flF F s) = flF (fput F name v) s
  unfold flF fput
  by_cases e : s = name
  · rw [if_pos e, if_pos e]
    all_goals rfl
  · rw [if_neg e, if_neg e]
theorem Core.fl_del {c : Cfg} {H : Hp} {Z : Addr → Prop} {G : Gm} {F : Str → Option Int} (x : Core c H Z G F) {name : Str} {gkv : List (Key × V)} (h : H c.fl = some (.dK gkv)) : Core c (upd H c.fl (.dK (dropK gkv (Sum.inr name)))) Z G (fdel F name) := by
  refine x.falls (fun g hg hd => ⟨_, upd_same, ?_⟩) fun b o h n => upd_at h n
  rw [h] at hg
  cases hg
  refine (hd.drop name).congr fun s => ?_
  show (if s = name then none else flF F s) = flF (fdel F name) s
  unfold flF fdel
  by_cases e : s = name
  · rw [if_pos e, if_pos e]
    all_goals rfl
  · rw [if_neg e, if_neg e]
theorem Core.fl_at {c : Cfg} {H : Hp} {Z : Addr → Prop} {G : Gm} {F : Str → Option Int} (x : Core c H Z G F) : ∃ gkv, H c.fl = some (.dK gkv) ∧ DictIs gkv (flF F) ∧ Z c.fl := by
  obtain ⟨M, D, l, f, g, k, x⟩ := x
  exact ⟨g, x.fl, x.fld, x.zg⟩
theorem Core.ly_at {c : Cfg} {H : Hp} {Z : Addr → Prop} {G : Gm} {F : Str → Option Int} (x : Core c H Z G F) : ∃ lkv, H c.ly = some (.dK lkv) ∧ DictIs lkv (lyF G) := by
  obtain ⟨M, D, l, f, g, k, x⟩ := x
  exact ⟨l, x.ly, x.lyd⟩
theorem few_fl {F : Str → Option Int} {kvs : List (Key × V)} (w : Few 1000 F) (h : DictIs kvs (flF F)) : kvs.length < sizeLine :=
  line1000 (Nat.le_trans (w.len h fun s q => by unfold flF at q; rw [Option.isSome_map] at q; exact q) (by decide))
def spLaidBy (C : Addr) : Sp := fun vs H Q _ => ∃ (c : Cfg) (Z : Addr → Prop) (G : Gm) (F : Str → Option Int) (now t : Int) (name : Str), vs = [.ref c.p, .str name, .int t] ∧ Inst C c H Z now ∧ Core c H Z G F ∧ G name = none ∧ Few 1000 G ∧ Few 1000 F ∧
  ∀ H' Z', Core c H' Z' (fput G name (wh c.n c.uu t now, t)) (fput F name 0) → Keeps Z H Z' H' → Q .non H'
theorem scLaidBy : FnScope ["self", "name", "time"] ["self", "name", "time"] (defScope sLaidBy) := ⟨rfl, rfl, rfl, by decide +kernel, rfl, by decide +kernel, by decide +kernel⟩
theorem ok_laid_by (F : Fun K "laid_by" "Wheels.laid_by" sLaidBy f fd) (T : Txt K mg C) (MW : MOk P w K mg base C "wheel_at" 1 ["self", "time", "now"] (spWheelAt C)) (ML : MOk P w K mg base C "lay_in" 2 ["self", "name", "time", "k"] (spLayIn C)) :
    FnOk P w K mg base CX0 3 f fd ["self", "name", "time"] (spLaidBy C) := by
  refine F.ok scLaidBy (fun vs H Q E h => ?_) (fun cdv A outer s H vs Q E hr h => ?_)
  · obtain ⟨c, Z, G, Fl, now, t, name, rfl, _⟩ := h
    rfl
  · obtain ⟨c, Z, G, Fl, now, t, name, rfl, I, O, hgn, hfew, hfewF, q⟩ := h
    obtain ⟨dx, h1⟩ := I.ob
    have hu := hu_of hr
    refine ⟨_, pss_cons (ps_expr (pe_mo (pv 0) T.cl ML hr (pa_cons (pv 1) (pa_cons (pv 2) (pa_cons (pe_mo (pv 0) T.cl MW (hr.mono (by decide)) (pa_cons (pv 2) (pa_cons (pe_fld (pv 0) rfl) pa_nil))) pa_nil)))))
      (pss_one (ps_dput hu (pe_fld (pv 0) rfl) (pv 1) pe_int rfl)), ?_⟩
    refine ⟨_, rfl, c.p, dx, _, rfl, h1, flds_no _ _ (by decide +kernel), _, rfl, _, rfl, _, rfl, c.p, dx, _, rfl, h1, flds_no _ _ (by decide +kernel), _, rfl, _, rfl, c.p, C, dx, _, _, rfl, h1, T.cl, T.nNow, flds_now _ _,
      c, now, t, now, rfl, I.toShape, ?_⟩
    refine ⟨c, Z, G, Fl, now, t, name, wh c.n c.uu t now, rfl, I, O, hgn, wh_le _ _ _ _, hfew, fun H' Z' O' k' => ?_⟩
    obtain ⟨dx', h1'⟩ := (I.keeps k').ob
    obtain ⟨gkv, g1, g2, gz⟩ := O'.fl_at
    refine ⟨_, rfl, c.p, C, dx', _, _, rfl, h1', T.cl, T.nFalls, flds_falls _ _, _, rfl, c.fl, _, rfl, DPut.k (k := Sum.inr name) g1 (few_fl hfewF g2), ?_⟩
    exact q _ Z' (O'.fl_put g1) (k'.trans (Keeps.put gz))
def spLifted (C : Addr) : Sp := fun vs H Q _ => ∃ (c : Cfg) (Z : Addr → Prop) (G : Gm) (F : Str → Option Int) (now t : Int) (name : Str) (k : Nat), vs = [.ref c.p, .str name, .int t] ∧ Inst C c H Z now ∧ Core c H Z G F ∧ G name = some (k, t) ∧ (F name).isSome = true ∧
  ∀ H' Z', Core c H' Z' (fdel G name) (fdel F name) → Keeps Z H Z' H' → Q .non H'
theorem scLifted : FnScope ["self", "name", "time"] ["self", "name", "time"] (defScope sLifted) := ⟨rfl, rfl, rfl, by decide +kernel, rfl, by decide +kernel, by decide +kernel⟩
theorem ok_lifted (F : Fun K "lifted" "Wheels.lifted" sLifted f fd) (T : Txt K mg C) (ML : MOk P w K mg base C "lay_out" 2 ["self", "name", "time"] (spLayOut C)) :
    FnOk P w K mg base CX0 3 f fd ["self", "name", "time"] (spLifted C) := by
  refine F.ok scLifted (fun vs H Q E h => ?_) (fun cdv A outer s H vs Q E hr h => ?_)
  · obtain ⟨c, Z, G, Fl, now, t, name, k, rfl, _⟩ := h
    rfl
  · obtain ⟨c, Z, G, Fl, now, t, name, k, rfl, I, O, hgn, hfn, q⟩ := h
    obtain ⟨dx, h1⟩ := I.ob
    obtain ⟨v0, hv0⟩ := Option.isSome_iff_exists.mp hfn
    refine ⟨_, pss_cons (ps_expr (pe_mo (pv 0) T.cl ML hr (pa_cons (pv 1) (pa_cons (pv 2) pa_nil))))
      (pss_one (ps_expr (pe_bm PySem.F.plainAttrs_dict PySem.F.slot_dict_pop PySem.F.type_dict_pop mt_popK1 (pe_fld (pv 0) rfl) (pa_cons (pv 1) pa_nil)))), ?_⟩
    refine ⟨_, rfl, c.p, dx, _, rfl, h1, flds_no _ _ (by decide +kernel), _, rfl, _, rfl, c, Z, G, Fl, now, t, name, k, rfl, I, O, hgn, fun H' Z' O' k' => ?_⟩
    obtain ⟨dx', h1'⟩ := (I.keeps k').ob
    obtain ⟨gkv, g1, g2, gz⟩ := O'.fl_at
    have ev : valV gkv (Sum.inr name) = some (.int v0) := (g2.at_ name).trans (by unfold flF; rw [hv0]; rfl)
    refine ⟨_, rfl, c.p, C, dx', _, _, rfl, h1', T.cl, T.nFalls, flds_falls _ _, .inr (.inr (.inl ⟨rfl, .inl ⟨_, g1⟩⟩)), _, rfl, c.fl, gkv, Sum.inr name, _, rfl, rfl, g1, ev, ?_⟩
    exact q _ Z' (O'.fl_del g1) (k'.trans (Keeps.put gz))
def spLetDown (C : Addr) : Sp := fun vs H Q _ => ∃ (c : Cfg) (Z : Addr → Prop) (G : Gm) (F : Str → Option Int) (now t to : Int) (name : Str) (k : Nat), vs = [.ref c.p, .str name, .int t, .int to] ∧ Inst C c H Z now ∧ Core c H Z G F ∧ G name = some (k, t) ∧ (F name).isSome = true ∧ Few 1000 G ∧ Few 1000 F ∧
  wh c.n c.uu t to ≤ k ∧ ∀ H' Z' F', Core c H' Z' (fput G name (wh c.n c.uu t to, t)) F' → (∀ s, (F' s).isSome = (F s).isSome) → Keeps Z H Z' H' → Q .non H'
theorem scLetDown : FnScope ["self", "name", "time", "to", "k"] ["self", "name", "time", "to"] (defScope sLetDown) := ⟨rfl, rfl, rfl, by decide +kernel, rfl, by decide +kernel, by decide +kernel⟩
theorem ok_let_down (F : Fun K "let_down" "Wheels.let_down" sLetDown f fd) (T : Txt K mg C) (MW : MOk P w K mg base C "wheel_at" 1 ["self", "time", "now"] (spWheelAt C)) (ML : MOk P w K mg base C "lay_in" 2 ["self", "name", "time", "k"] (spLayIn C))
    (MO : MOk P w K mg base C "lay_out" 2 ["self", "name", "time"] (spLayOut C)) : FnOk P w K mg base CX0 3 f fd ["self", "name", "time", "to"] (spLetDown C) := by
  refine F.ok scLetDown (fun vs H Q E h => ?_) (fun cdv A outer s H vs Q E hr h => ?_)
  · obtain ⟨c, Z, G, Fl, now, t, to, name, k, rfl, _⟩ := h
    rfl
  · obtain ⟨c, Z, G, Fl, now, t, to, name, k, rfl, I, O, hgn, hfn, hfew, hfewF, hle, q⟩ := h
    obtain ⟨dx, h1⟩ := I.ob
    obtain ⟨v0, hv0⟩ := Option.isSome_iff_exists.mp hfn
    obtain ⟨lkv, l1, l2⟩ := O.ly_at
    have hu := hu_of hr
    have nd := scLetDown.nd
    refine ⟨_, pss_cons (ps_set (i := 4) nd rfl (Or.inl rfl) (pe_mo (pv 0) T.cl MW (hr.mono (by decide)) (pa_cons (pv 2) (pa_cons (pv 3) pa_nil))))
      (pss_one (ps_if (pt_cmpR op_lt (pv 4) (pe_dget hu (pe_fld (pv 0) rfl) (pv 1) (fun _ _ => rfl)) (nomark _))
        (pss_cons (ps_expr (pe_mo (pv 0) T.cl MO hr (pa_cons (pv 1) (pa_cons (pv 2) pa_nil))))
        (pss_cons (ps_expr (pe_mo (pv 0) T.cl ML hr (pa_cons (pv 1) (pa_cons (pv 2) (pa_cons (pv 4) pa_nil)))))
        (pss_one (ps_dput hu (pe_fld (pv 0) rfl) (pv 1) (pe_op op_add (pe_dget hu (pe_fld (pv 0) rfl) (pv 1) (fun _ _ => rfl)) pe_int) rfl)))) pss_nil)), ?_⟩
    have ev : valV lkv (Sum.inr name) = some (.int (k : Int)) := (l2.at_ name).trans (by unfold lyF; rw [hgn]; rfl)
    refine ⟨_, rfl, c.p, dx, _, rfl, h1, flds_no _ _ (by decide +kernel), _, rfl, _, rfl, c, now, t, to, rfl, I.toShape, ?_⟩
    refine ⟨_, rfl, _, rfl, c.p, C, dx, _, _, rfl, h1, T.cl, T.nLying, flds_lying _ _, _, rfl, c.ly, .int (k : Int), rfl, by rw [← ev]; exact DGet.k (k := Sum.inr name) l1, _, _, rfl, rfl, _, rfl, ?_⟩
    refine ite2 (fun e => ?_) (fun e => ?_)
    · have e' : wh c.n c.uu t to < k := by
        have := of_decide_eq_true e
        omega
      refine ⟨_, rfl, c.p, dx, _, rfl, h1, flds_no _ _ (by decide +kernel), _, rfl, _, rfl, c, Z, G, Fl, now, t, name, k, rfl, I, O, hgn, fun H1 Z1 O1 k1 => ?_⟩
      have I1 := I.keeps k1
      obtain ⟨dx1, p1⟩ := I1.ob
      refine ⟨_, rfl, c.p, dx1, _, rfl, p1, flds_no _ _ (by decide +kernel), _, rfl, _, rfl, _, rfl, c, Z1, fdel G name, Fl, now, t, name, wh c.n c.uu t to, rfl, I1, O1, if_pos rfl, wh_le _ _ _ _, hfew.del name, fun H2 Z2 O2 k2 => ?_⟩
      have I2 := I1.keeps k2
      obtain ⟨dx2, p2⟩ := I2.ob
      obtain ⟨gkv, g1, g2, gz⟩ := O2.fl_at
      have eg : valV gkv (Sum.inr name) = some (.int v0) := (g2.at_ name).trans (by unfold flF; rw [hv0]; rfl)
      refine ⟨_, rfl, c.p, C, dx2, _, _, rfl, p2, T.cl, T.nFalls, flds_falls _ _, _, rfl, c.fl, .int v0, rfl, by rw [← eg]; exact DGet.k (k := Sum.inr name) g1, _, _, rfl, rfl,
        _, rfl, c.p, C, dx2, _, _, rfl, p2, T.cl, T.nFalls, flds_falls _ _, _, rfl, c.fl, _, rfl, DPut.k (k := Sum.inr name) g1 (few_fl hfewF g2), ?_⟩
      refine q _ Z2 (fput Fl name (v0 + 1)) ((O2.congr fun s => ?_).fl_put g1) (fun s => ?_) ((k1.trans k2).trans (Keeps.put gz))
      · unfold fput fdel
        by_cases z : s = name
        · rw [if_pos z, if_pos z]
        · rw [if_neg z, if_neg z, if_neg z]
      · unfold fput
        by_cases z : s = name
        · rw [if_pos z, z, hv0]
          all_goals rfl
        · rw [if_neg z]
    · have e' : wh c.n c.uu t to = k := by
        have : ¬ ((wh c.n c.uu t to : Nat) : Int) < (k : Int) := fun z => e (decide_eq_true z)
        omega
      refine q _ Z Fl (O.congr fun s => ?_) (fun _ => rfl) (Keeps.refl Z H)
      unfold fput
      by_cases z : s = name
      · rw [if_pos z, z, hgn, e']
      · rw [if_neg z]
end
end Wk

namespace Wk
open PySem L2 Wr
section
variable {P : Program} {w : World} {K : PySem.W.Frag} {mg : Str → Option Value} {base : Heap} {C f : Addr} {fd : FuncData}
theorem and_low_nat {m : Nat} (h : 0 < m) : Builtin.bitAnd ((m : Nat) : Int) (((m : Nat) : Int) - 1) = ((m &&& (m - 1) : Nat) : Int) := by
  have e : ((m : Nat) : Int) - 1 = ((m - 1 : Nat) : Int) := by omega
  rw [e, PyProof.Rows.bitAnd_pp (Int.natCast_nonneg _) (Int.natCast_nonneg _), Int.toNat_natCast, Int.toNat_natCast]
theorem and_mask_nat (m d : Nat) : Builtin.bitAnd ((m : Nat) : Int) ((1 : Int) * 2 ^ ((d : Nat) : Int).toNat - 1) = ((m &&& (2 ^ d - 1) : Nat) : Int) := by
  have hp := Nat.two_pow_pos d
  have e : (1 : Int) * 2 ^ ((d : Nat) : Int).toNat - 1 = ((2 ^ d - 1 : Nat) : Int) := by
    have e2 : (1 : Int) * 2 ^ ((d : Nat) : Int).toNat = ((2 ^ d : Nat) : Int) := by
      rw [Int.one_mul, Int.toNat_natCast, Int.natCast_pow]
      all_goals rfl
    rw [e2]
    omega
  rw [e, PyProof.Rows.bitAnd_pp (Int.natCast_nonneg _) (Int.natCast_nonneg _), Int.toNat_natCast, Int.toNat_natCast]
def spLowBit : Sp := fun vs H Q _ => ∃ (m l : Nat), vs = [.int ((m : Nat) : Int)] ∧ Low m l ∧ Q (.int ((l : Nat) : Int)) H
theorem scLowBit : FnScope ["bits"] ["bits"] (defScope sLowBit) := ⟨rfl, rfl, rfl, by decide +kernel, rfl, by decide +kernel, by decide +kernel⟩
theorem ok_low_bit (F : Fun K "low_bit" "low_bit" sLowBit f fd) : FnOk P w K mg base CX0 1 f fd ["bits"] spLowBit := by
  refine F.ok scLowBit (fun vs H Q E h => ?_) (fun cdv A outer s H vs Q E hr h => ?_)
  · obtain ⟨m, l, rfl, _⟩ := h
    rfl
  · obtain ⟨m, l, rfl, hl, q⟩ := h
    refine ⟨_, pss_one (ps_ret (pe_op op_sub (pe_bits (pe_op op_xor (pv 0) (pe_op op_and (pv 0) (pe_op op_sub (pv 0) pe_int)))) pe_int)), ?_⟩
    refine ⟨_, rfl, _, rfl, _, rfl, _, _, rfl, rfl, _, _, rfl, rfl, _, _, rfl, rfl, _, rfl, _, _, rfl, rfl, ?_⟩
    have e : ((Builtin.Int.intBits (Builtin.bitXor ((m : Nat) : Int) (Builtin.bitAnd ((m : Nat) : Int) (((m : Nat) : Int) - 1))) : Nat) : Int) - 1 = ((l : Nat) : Int) := by
      rw [and_low_nat (low_pos hl.at_), Bits.bitXor_pp (Int.natCast_nonneg _) (Int.natCast_nonneg _), Int.toNat_natCast, Int.toNat_natCast, hl.xor]
      unfold Builtin.Int.intBits
      have h0 : ¬ (((2 ^ l : Nat) : Int) == 0) = true := by
        have hp := Nat.two_pow_pos l
        intro z
        have z2 := beq_iff_eq.mp z
        omega
      rw [if_neg h0, Int.natAbs_natCast, Nat.log2_two_pow]
      omega
    show Q (.int (((Builtin.Int.intBits (Builtin.bitXor ((m : Nat) : Int) (Builtin.bitAnd ((m : Nat) : Int) (((m : Nat) : Int) - 1))) : Nat) : Int) - 1)) H
    rw [e]
    exact q
def Lists (H : Hp) (Q : VK) (R : Str → Prop) : Prop := ∀ (H' : Hp) (p : Addr) (ns : List Str), Same H H' → H p = none → H' p = some (.lst (ns.map V.str)) → ns.Nodup → (∀ s, s ∈ ns ↔ R s) → Q (.ref p) H'
def spNamesBelow (C : Addr) : Sp := fun vs H Q _ => ∃ (c : Cfg) (Z : Addr → Prop) (G : Gm) (F : Str → Option Int) (now : Int) (k sl : Nat), vs = [.ref c.p, .int (k : Int), .int (sl : Int)] ∧ Inst C c H Z now ∧ Core c H Z G F ∧ k < c.n ∧ sl ≤ 60 ∧ Few 1000 G ∧
  Lists H Q fun s => ∃ t, G s = some (k, t) ∧ slot c.rr c.uu k t < sl
theorem scNamesBelow : FnScope ["self", "k", "slot", "found", "bits"] ["self", "k", "slot"] (defScope sNamesBelow) := ⟨rfl, rfl, rfl, by decide +kernel, rfl, by decide +kernel, by decide +kernel⟩
def mu4 (σ : List (Option V)) : Nat := match σ[4]? with
  | some (some (V.int i)) => i.toNat
  | _ => 0
theorem ok_names_below (F : Fun K "names_below" "Wheels.names_below" sNamesBelow f fd) (T : Txt K mg C) (GL : GOk P w K mg base "low_bit" 1 ["bits"] spLowBit) : FnOk P w K mg base CX0 2 f fd ["self", "k", "slot"] (spNamesBelow C) := by
  refine F.ok scNamesBelow (fun vs H Q E h => ?_) (fun cdv A outer s H vs Q E hr h => ?_)
  · obtain ⟨c, Z, G, Fl, now, k, sl, rfl, _⟩ := h
    rfl
  · obtain ⟨c, Z, G, Fl, now, k, sl, rfl, I, O, hk, hsl, hfew, q⟩ := h
    obtain ⟨dx, h1⟩ := I.ob
    obtain ⟨M, D, lkv, fkv, gkv, skv, x⟩ := id O
    have hu := hu_of hr
    have nd := scNamesBelow.nd
    refine ⟨_, pss_cons (ps_set (i := 3) nd rfl (Or.inl rfl) (pe_lst pa_nil))
      (pss_cons (ps_set (i := 4) nd rfl (Or.inl rfl) (pe_op op_and (pe_ix ix_list (pe_fld (pv 0) rfl) (pv 1) (fun _ _ => rfl)) (pe_op op_sub (pe_op op_shl pe_int (pv 2)) pe_int)))
      (pss_cons (ps_while PassesOwn.never (pt_cmpR op_gt (pv 4) pe_int (nomark _))
        (pss_cons (ps_expr (pe_bm PySem.F.plainAttrs_list PySem.F.slot_list_extend PySem.F.type_list_extend mt_extend (pv 3)
          (pa_cons (pe_callTy (call_list_dK rfl) (by rfl) T.list (by decide +kernel) (pa_cons (pe_dget hu (pe_fld (pv 0) rfl) (pe_tup (pa_cons (pv 1) (pa_cons (pe_go GL hr (by rfl) (pa_cons (pv 4) pa_nil)) pa_nil))) (fun _ _ => rfl)) pa_nil)) pa_nil)))
        (pss_one (ps_set (i := 4) nd rfl (Or.inl rfl) (pe_op op_and (pv 4) (pe_op op_sub (pv 4) pe_int))))))
      (pss_one (ps_ret (pv 3))))), ?_⟩
    refine ⟨Nat.zero_le _, fun p hp => ?_⟩
    have s0 : Same H (upd H p (.lst [])) := same_new hp
    refine ⟨_, rfl, c.p, C, dx, _, _, rfl, s0 _ _ h1, T.cl, T.nMasks, flds_masks _ _, _, rfl, c.mks, _, _, _, rfl, rfl, SqL.of (s0 _ _ x.mks), atI_nat (rl_get hk), _, rfl, _, _, rfl, rfl, ⟨by omega, by omega, by decide⟩, _, _, rfl, rfl, _, _, rfl, rfl, ?_⟩
    refine while_by (fun σ H' => ∃ (m : Nat) (ns : List Str), σ = [some (.ref c.p), some (.int (k : Int)), some (.int (sl : Int)), some (.ref p), some (.int ((m : Nat) : Int))] ∧ Same H H' ∧ H' p = some (.lst (ns.map V.str)) ∧ ns.Nodup ∧
        (∀ j, m.testBit j = true → (M k).testBit j = true ∧ j < sl) ∧ ∀ s, s ∈ ns ↔ ∃ t, G s = some (k, t) ∧ slot c.rr c.uu k t < sl ∧ m.testBit (slot c.rr c.uu k t) = false)
      (fun σ _ => mu4 σ) ?_ ?_ ?_
    · refine ⟨M k &&& (2 ^ sl - 1), [], ?_, s0, upd_same, List.nodup_nil, fun j hj => ?_, fun s => ?_⟩
      · show [some (V.ref c.p), some (V.int (k : Int)), some (V.int (sl : Int)), some (V.ref p), some (V.int (Builtin.bitAnd ((M k : Nat) : Int) (1 * 2 ^ ((sl : Nat) : Int).toNat - 1)))] = _
        rw [and_mask_nat]
      · rw [and_mask] at hj
        simpa using hj
      · refine ⟨fun z => (by cases z), fun ⟨t, e1, e2, e3⟩ => ?_⟩
        rw [and_mask, decide_eq_true e2, Bool.and_true, x.bit k _ hk] at e3
        have ed : D k (slot c.rr c.uu k t) = none := by
          cases ed : D k (slot c.rr c.uu k t) with
          | none => rfl
          | some a =>
            rw [ed] at e3
            cases e3
        exact absurd rfl (x.dno k _ s t hk ed e1)
    · rintro σ H' ⟨m, ns, rfl, s1, hp1, hnd, hm, hns⟩
      refine ⟨_, rfl, _, _, rfl, rfl, _, rfl, ?_⟩
      refine ite2 (fun e => ?_) (fun e => ?_)
      · have hpos : 0 < m := by
          have := of_decide_eq_true e
          omega
        obtain ⟨l, hl⟩ := low_ex hpos
        obtain ⟨hbit, hlt⟩ := hm l hl.at_
        obtain ⟨a, ha⟩ : ∃ a, D k l = some a := by
          rw [x.bit k l hk] at hbit
          exact Option.isSome_iff_exists.mp hbit
        obtain ⟨akv, a1, a2⟩ := x.dd _ _ _ ha
        have es : valV skv (ky k l) = some (.ref a) := by rw [x.sld.at_, ha]; rfl
        refine ⟨_, rfl, .inl ⟨rfl, _, SqL.of hp1⟩, _, rfl, c.p, C, dx, _, _, rfl, s1 _ _ h1, T.cl, T.nSlots, flds_slots _ _, _, rfl, _, rfl, m, l, rfl, hl, (by show 2 ≤ sizeLine; decide), fun b hb => ?_⟩
        have sb := same_new (o := .tup [.int (k : Int), .int (l : Int)]) hb
        refine ⟨c.sl, .ref a, rfl, by rw [← es]; exact DGet.t (sb _ _ (s1 _ _ x.sl)) upd_same, a, akv, rfl, sb _ _ (s1 _ _ a1), fun g hg => ?_⟩
        have sg := same_new (o := .lst (akv.map fun kv => kV kv.1)) hg
        have npg : p ≠ g := ne_of_none (sb _ _ hp1) hg
        have lns : ns.length ≤ 1000 := hfew ns hnd fun s hs => by
          obtain ⟨t, e1, _⟩ := (hns s).mp hs
          rw [e1]
          all_goals rfl
        have lak : akv.length ≤ 1000 := few_sl hfew a2
        refine ⟨p, g, _, _, rfl, rfl, sg _ _ (sb _ _ hp1), upd_same, line_add (by rw [List.length_map]; exact lns) (by rw [List.length_map]; exact lak), ?_⟩
        have s2 : Same H (upd (upd (upd H' b (.tup [.int (k : Int), .int (l : Int)])) g (.lst (akv.map fun kv => kV kv.1))) p (.lst (ns.map V.str ++ akv.map fun kv => kV kv.1))) := fun c' o h => upd_at (sg _ _ (sb _ _ (s1 _ _ h))) (ne_of_none h hp)
        have p2 : upd (upd (upd H' b (.tup [.int (k : Int), .int (l : Int)])) g (.lst (akv.map fun kv => kV kv.1))) p (.lst (ns.map V.str ++ akv.map fun kv => kV kv.1)) p = some (.lst ((ns ++ namesOf akv).map V.str)) := by
          rw [upd_same, List.map_append, a2.kVs]
        generalize upd (upd (upd H' b (.tup [.int (k : Int), .int (l : Int)])) g (.lst (akv.map fun kv => kV kv.1))) p (.lst (ns.map V.str ++ akv.map fun kv => kV kv.1)) = H2 at s2 p2
        refine ⟨_, rfl, _, rfl, _, _, rfl, rfl, _, _, rfl, rfl, ?_⟩
        have em : ∀ s, s ∈ namesOf akv ↔ ∃ t, G s = some (k, t) ∧ slot c.rr c.uu k t = l := fun s => (a2.mem_names s).trans slF_iff
        refine ⟨⟨m &&& (m - 1), ns ++ namesOf akv, ?_, s2, p2, ?_, fun j hj => ?_, fun s => ?_⟩, ?_⟩
        · show [some (V.ref c.p), some (V.int (k : Int)), some (V.int (sl : Int)), some (V.ref p), some (V.int (Builtin.bitAnd ((m : Nat) : Int) (((m : Nat) : Int) - 1)))] = _
          rw [and_low_nat hpos]
        · rw [List.nodup_append]
          refine ⟨hnd, a2.names_nd, fun s h1 s' h2 e => ?_⟩
          subst e
          obtain ⟨t, e1, _, e3⟩ := (hns s).mp h1
          obtain ⟨t', e1', e2'⟩ := (em s).mp h2
          rw [e1] at e1'
          cases e1'
          rw [e2', hl.at_] at e3
          cases e3
        · rw [hl.and] at hj
          simp only [Bool.and_eq_true] at hj
          exact hm j hj.1
        · rw [List.mem_append, hns, em]
          constructor
          · rintro (⟨t, e1, e2, e3⟩ | ⟨t, e1, e2⟩)
            · exact ⟨t, e1, e2, by rw [hl.and, e3, Bool.false_and]⟩
            · exact ⟨t, e1, by rw [e2]; exact hlt, by rw [hl.and, e2]; simp⟩
          · rintro ⟨t, e1, e2, e3⟩
            rw [hl.and] at e3
            by_cases z : slot c.rr c.uu k t = l
            · exact .inr ⟨t, e1, z⟩
            · refine .inl ⟨t, e1, e2, ?_⟩
              rw [decide_eq_true z, Bool.and_true] at e3
              exact e3
        · show (Builtin.bitAnd ((m : Nat) : Int) (((m : Nat) : Int) - 1)).toNat < (((m : Nat) : Int)).toNat
          rw [and_low_nat hpos, Int.toNat_natCast, Int.toNat_natCast]
          exact hl.lt
      · have hz : m = 0 := by
          have : ¬ (0 : Int) < ((m : Nat) : Int) := fun z => e (decide_eq_true z)
          omega
        subst hz
        refine ⟨_, rfl, ?_⟩
        refine q H' p ns s1 hp hp1 hnd fun s => ?_
        rw [hns]
        exact ⟨fun ⟨t, e1, e2, _⟩ => ⟨t, e1, e2⟩, fun ⟨t, e1, e2⟩ => ⟨t, e1, e2, Nat.zero_testBit _⟩⟩
    · rintro σ H' Q1 Q2 hQ ⟨v, e1, i, j, e2, e3, b, e4, q1⟩
      exact ⟨v, e1, i, j, e2, e3, b, e4, hQ _ _ q1⟩
end
end Wk

namespace Wk
open PySem L2 Wr
section
variable {P : Program} {w : World} {K : PySem.W.Frag} {mg : Str → Option Value} {base : Heap} {C f : Addr} {fd : FuncData}
theorem Inst.same {C : Addr} {c : Cfg} {H H' : Hp} {Z : Addr → Prop} {now : Int} (h : Inst C c H Z now) (s : Same H H') : Inst C c H' Z now := h.keeps (Keeps.same s)
def spTouched (C : Addr) : Sp := fun vs H Q _ => ∃ (c : Cfg) (Z : Addr → Prop) (G : Gm) (F : Str → Option Int) (now to : Int), vs = [.ref c.p, .int to] ∧ Inst C c H Z now ∧ Core c H Z G F ∧ Few 1000 G ∧
  Lists H Q fun s => ∃ k t, G s = some (k, t) ∧ Met c.n c.rr c.uu now to k t
theorem scTouched : FnScope ["self", "to", "high", "found", "k"] ["self", "to"] (defScope sTouched) := ⟨rfl, rfl, rfl, by decide +kernel, rfl, by decide +kernel, by decide +kernel⟩
theorem ok_touched (F : Fun K "touched" "Wheels.touched" sTouched f fd) (T : Txt K mg C) (MW : MOk P w K mg base C "wheel_at" 1 ["self", "time", "now"] (spWheelAt C)) (MS : MOk P w K mg base C "slot_at" 1 ["self", "k", "time"] (spSlotAt C))
    (MN : MOk P w K mg base C "names_below" 2 ["self", "k", "slot"] (spNamesBelow C)) : FnOk P w K mg base CX0 3 f fd ["self", "to"] (spTouched C) := by
  refine F.ok scTouched (fun vs H Q E h => ?_) (fun cdv A outer s H vs Q E hr h => ?_)
  · obtain ⟨c, Z, G, Fl, now, to, rfl, _⟩ := h
    rfl
  · obtain ⟨c, Z, G, Fl, now, to, rfl, I, O, hfew, q⟩ := h
    obtain ⟨dx, h1⟩ := I.ob
    have hu := hu_of hr
    have nd := scTouched.nd
    have hr1 : Room 1 _ := hr.mono (by decide)
    refine ⟨_, pss_cons (ps_set (i := 2) nd rfl (Or.inl rfl) (pe_mo (pv 0) T.cl MW hr1 (pa_cons (pv 1) (pa_cons (pe_fld (pv 0) rfl) pa_nil))))
      (pss_cons (ps_set (i := 3) nd rfl (Or.inl rfl) (pe_lst pa_nil))
      (pss_cons (ps_for PassesOwn.never rfl (pi_range1 (by rfl) T.range (pa_cons (pv 2) pa_nil)) (pg_name (i := 4) nd rfl (Or.inl rfl))
        (pss_one (ps_expr (pe_bm PySem.F.plainAttrs_list PySem.F.slot_list_extend PySem.F.type_list_extend mt_extend (pv 3)
          (pa_cons (pe_mo (pv 0) T.cl MN hr (pa_cons (pv 4) (pa_cons (pe_ix ix_list (pe_fld (pv 0) rfl) (pv 4) (fun _ _ => rfl)) pa_nil))) pa_nil)))))
      (pss_cons (ps_if (pt_cmpR op_eq (pv 2) (pe_callB call_len_seq (by rfl) T.len PySem.boot_len (pa_cons (pe_fld (pv 0) rfl) pa_nil)) (nomark _))
        (pss_one (ps_expr (pe_bm PySem.F.plainAttrs_list PySem.F.slot_list_extend PySem.F.type_list_extend mt_extend (pv 3)
          (pa_cons (pe_callTy (call_list_dK rfl) (by rfl) T.list (by decide +kernel) (pa_cons (pe_fld (pv 0) rfl) pa_nil)) pa_nil))))
        (pss_one (ps_expr (pe_bm PySem.F.plainAttrs_list PySem.F.slot_list_extend PySem.F.type_list_extend mt_extend (pv 3)
          (pa_cons (pe_mo (pv 0) T.cl MN hr (pa_cons (pv 2) (pa_cons (pe_op op_add (pe_mo (pv 0) T.cl MS hr1 (pa_cons (pv 2) (pa_cons (pv 1) pa_nil))) pe_int) pa_nil))) pa_nil)))))
      (pss_one (ps_ret (pv 3)))))), ?_⟩
    have n6 := I.U.n6
    have hle := wh_le c.n c.uu to now
    refine ⟨_, rfl, c.p, dx, _, rfl, h1, flds_no _ _ (by decide +kernel), _, rfl, _, rfl, c.p, C, dx, _, _, rfl, h1, T.cl, T.nNow, flds_now _ _, c, now, to, now, rfl, I.toShape, ?_⟩
    refine ⟨Nat.zero_le _, fun p hp => ?_⟩
    have s0 : Same H (upd H p (.lst [])) := same_new hp
    refine ⟨_, rfl, ((wh c.n c.uu to now : Nat) : Int), rfl, by omega, by omega, ?_⟩
    generalize hhi : wh c.n c.uu to now = high at hle
    refine for_range (lo := 0) (n := (high : Int).toNat) (fun i σ H' => ∃ (ns : List Str) (v : Option V), σ = [some (.ref c.p), some (.int to), some (.int (high : Int)), some (.ref p), v] ∧ Same H H' ∧ H' p = some (.lst (ns.map V.str)) ∧ ns.Nodup ∧
        ∀ s, s ∈ ns ↔ ∃ k t, G s = some (k, t) ∧ k < i) ⟨[], none, rfl, s0, upd_same, List.nodup_nil, fun s => ⟨fun z => (by cases z), fun ⟨k, t, _, z⟩ => absurd z (Nat.not_lt_zero k)⟩⟩ ?_ ?_
    · rintro i σ H' hi ⟨ns, v, rfl, s1, hp1, hnd, hns⟩
      have hin : i < c.n := by omega
      have hi2 : (0 : Int) + (i : Int) = ((i : Nat) : Int) := by omega
      have r2 := I.U.r2 i hin
      have r60 := I.U.r60 i hin
      have er : c.rr i = (((c.rr i).toNat : Nat) : Int) := by omega
      have at1 : atI (rl c.n fun k => V.int (c.rr k)) ((0 : Int) + (i : Int)) = some (.int (((c.rr i).toNat : Nat) : Int)) := by
        rw [hi2, ← er]
        exact atI_nat (rl_get hin)
      refine ⟨_, rfl, .inl ⟨rfl, _, SqL.of hp1⟩, _, rfl, c.p, dx, _, rfl, s1 _ _ h1, flds_no _ _ (by decide +kernel), _, rfl, _, rfl, c.p, C, dx, _, _, rfl, s1 _ _ h1, T.cl, T.nRounds, flds_rounds _ _, _, rfl, c.rd, _, _, _, rfl, rfl, SqL.of (s1 _ _ I.rd), at1,
        c, Z, G, Fl, now, i, (c.rr i).toNat, (by rw [hi2]; rfl), I.same s1, O.same s1, hin, by omega, hfew, fun H2 g ms s2 hg hg2 hmd hms => ?_⟩
      have npg : p ≠ g := ne_of_none hp1 hg
      have lns : ns.length ≤ 1000 := hfew ns hnd fun s hs => by
        obtain ⟨k, t, e1, _⟩ := (hns s).mp hs
        rw [e1]
        all_goals rfl
      have lms : ms.length ≤ 1000 := hfew ms hmd fun s hs => by
        obtain ⟨t, e1, _⟩ := (hms s).mp hs
        rw [e1]
        all_goals rfl
      refine ⟨p, g, _, _, rfl, rfl, s2 _ _ hp1, hg2, line_add (by rw [List.length_map]; exact lns) (by rw [List.length_map]; exact lms), ?_⟩
      refine ⟨ns ++ ms, _, rfl, fun b o h => upd_at (s2 _ _ (s1 _ _ h)) (ne_of_none h hp), by rw [upd_same, List.map_append], ?_, fun s => ?_⟩
      · rw [List.nodup_append]
        refine ⟨hnd, hmd, fun a h1 a' h2 e => ?_⟩
        subst e
        obtain ⟨k, t, e1, e2⟩ := (hns a).mp h1
        obtain ⟨t', e1', _⟩ := (hms a).mp h2
        rw [e1] at e1'
        cases e1'
        exact Nat.lt_irrefl _ e2
      · rw [List.mem_append, hns, hms]
        constructor
        · rintro (⟨k, t, e1, e2⟩ | ⟨t, e1, e2⟩)
          · exact ⟨k, t, e1, by omega⟩
          · exact ⟨i, t, e1, Nat.lt_succ_self i⟩
        · rintro ⟨k, t, e1, e2⟩
          by_cases z : k < i
          · exact .inl ⟨k, t, e1, z⟩
          · have : k = i := by omega
            subst this
            refine .inr ⟨t, e1, ?_⟩
            have := slot_lt I.U hin t
            omega
    · rintro σ H' ⟨ns, v, rfl, s1, hp1, hnd, hns⟩
      have eh : (high : Int).toNat = high := Int.toNat_natCast _
      rw [eh] at hns
      have lns : ns.length ≤ 1000 := hfew ns hnd fun s hs => by
        obtain ⟨k, t, e1, _⟩ := (hns s).mp hs
        rw [e1]
        all_goals rfl
      refine ⟨_, rfl, _, rfl, c.p, C, dx, _, _, rfl, s1 _ _ h1, T.cl, T.nRounds, flds_rounds _ _, c.rd, _, rfl, .inl (SqL.of (s1 _ _ I.rd)), rfl, _, rfl, ?_⟩
      rw [rl_len, decI]
      refine ite2 (fun e => ?_) (fun e => ?_)
      · have ekn : high = c.n := by
          have := of_decide_eq_true e
          omega
        obtain ⟨M, D, lkv, fkv, gkv, skv, x⟩ := id O
        refine ⟨_, rfl, .inl ⟨rfl, _, SqL.of hp1⟩, _, rfl, c.p, C, dx, _, _, rfl, s1 _ _ h1, T.cl, T.nFar, flds_far _ _, c.fr, fkv, rfl, s1 _ _ x.fr, fun g hg => ?_⟩
        have npg : p ≠ g := ne_of_none hp1 hg
        have lfk : fkv.length ≤ 1000 := hfew.len x.frd fun s q => by obtain ⟨t, e⟩ := farF_iff.mp q; rw [e]; rfl
        refine ⟨p, g, _, _, rfl, rfl, upd_at hp1 npg, upd_same, line_add (by rw [List.length_map]; exact lns) (by rw [List.length_map]; exact lfk), ?_⟩
        refine ⟨_, rfl, ?_⟩
        have em : ∀ s, s ∈ namesOf fkv ↔ ∃ t, G s = some (c.n, t) := fun s => (x.frd.mem_names s).trans farF_iff
        refine q _ p (ns ++ namesOf fkv) (fun b o h => upd_at (upd_at (s1 _ _ h) (ne_of_none (s1 _ _ h) hg)) (ne_of_none h hp)) hp (by rw [upd_same, List.map_append, x.frd.kVs]) ?_ fun s => ?_
        · rw [List.nodup_append]
          refine ⟨hnd, x.frd.names_nd, fun a h1 a' h2 e => ?_⟩
          subst e
          obtain ⟨k, t, e1, e2⟩ := (hns a).mp h1
          obtain ⟨t', e1'⟩ := (em a).mp h2
          rw [e1] at e1'
          cases e1'
          omega
        · rw [List.mem_append, hns, em]
          unfold Met
          rw [hhi]
          constructor
          · rintro (⟨k, t, e1, e2⟩ | ⟨t, e1⟩)
            · exact ⟨k, t, e1, .inl e2⟩
            · exact ⟨c.n, t, e1, .inr ⟨ekn.symm, .inl rfl⟩⟩
          · rintro ⟨k, t, e1, e2 | ⟨e2, _⟩⟩
            · exact .inl ⟨k, t, e1, e2⟩
            · exact .inr ⟨t, by rw [e1, e2, ekn]⟩
      · have hkn : high < c.n := by
          have : ¬ (high : Int) = (c.n : Int) := fun z => e (decide_eq_true z)
          omega
        have I1 := I.same s1
        refine ⟨_, rfl, .inl ⟨rfl, _, SqL.of hp1⟩, _, rfl, c.p, dx, _, rfl, s1 _ _ h1, flds_no _ _ (by decide +kernel), _, rfl, _, rfl, c.p, dx, _, rfl, s1 _ _ h1, flds_no _ _ (by decide +kernel), _, rfl, _, rfl, c, now, to, high, rfl, I1.toShape, hkn, fun H2 s2 => ?_⟩
        have hs60 := slot_lt60 I.U hkn to
        refine ⟨_, _, rfl, rfl, c, Z, G, Fl, now, high, slot c.rr c.uu high to + 1, rfl, I1.same s2, (O.same s1).same s2, hkn, by omega, hfew, fun H3 g ms s3 hg hg2 hmd hms => ?_⟩
        have lms : ms.length ≤ 1000 := hfew ms hmd fun s hs => by
          obtain ⟨t, e1, _⟩ := (hms s).mp hs
          rw [e1]
          all_goals rfl
        refine ⟨p, g, _, _, rfl, rfl, s3 _ _ (s2 _ _ hp1), hg2, line_add (by rw [List.length_map]; exact lns) (by rw [List.length_map]; exact lms), ?_⟩
        refine ⟨_, rfl, ?_⟩
        refine q _ p (ns ++ ms) (fun b o h => upd_at (s3 _ _ (s2 _ _ (s1 _ _ h))) (ne_of_none h hp)) hp (by rw [upd_same, List.map_append]) ?_ fun s => ?_
        · rw [List.nodup_append]
          refine ⟨hnd, hmd, fun a h1 a' h2 e => ?_⟩
          subst e
          obtain ⟨k, t, e1, e2⟩ := (hns a).mp h1
          obtain ⟨t', e1', _⟩ := (hms a).mp h2
          rw [e1] at e1'
          cases e1'
          omega
        · rw [List.mem_append, hns, hms]
          unfold Met
          rw [hhi]
          constructor
          · rintro (⟨k, t, e1, e2⟩ | ⟨t, e1, e2⟩)
            · exact ⟨k, t, e1, .inl e2⟩
            · exact ⟨high, t, e1, .inr ⟨rfl, .inr e2⟩⟩
          · rintro ⟨k, t, e1, e2 | ⟨e2, e3⟩⟩
            · exact .inl ⟨k, t, e1, e2⟩
            · subst e2
              rcases e3 with e3 | e3
              · omega
              · exact .inr ⟨t, e1, e3⟩
end
end Wk

namespace Wk
open PySem L2 Wr
def gOf (c : Cfg) (T : Str → Option Int) (now : Int) : Gm := fun s => (T s).map fun t => (wh c.n c.uu t now, t)
def dueT (T : Str → Option Int) (to : Int) : Str → Option Int := fun s => match T s with
  | some t => if t ≤ to then none else some t
  | none => none
theorem gOf_some {c : Cfg} {T : Str → Option Int} {now : Int} {s : Str} {k : Nat} {t : Int} : gOf c T now s = some (k, t) ↔ T s = some t ∧ k = wh c.n c.uu t now := by
  unfold gOf
  cases e : T s with
  | none => simp
  | some u =>
    constructor
    · intro h
      have h2 := Option.some.inj h
      injection h2 with h3 h4
      subst h4
      exact ⟨rfl, h3.symm⟩
    · rintro ⟨h, h2⟩
      cases h
      rw [h2]
      all_goals rfl
theorem gOf_isSome {c : Cfg} {T : Str → Option Int} {now : Int} (s : Str) : (gOf c T now s).isSome = (T s).isSome := by
  unfold gOf
  rw [Option.isSome_map]
theorem dueT_due {T : Str → Option Int} {to t : Int} {s : Str} (h : T s = some t) (l : t ≤ to) : dueT T to s = none := by
  unfold dueT
  rw [h]
  exact if_pos l
theorem dueT_on {T : Str → Option Int} {to t : Int} {s : Str} (h : T s = some t) (l : to < t) : dueT T to s = some t := by
  unfold dueT
  rw [h]
  exact if_neg (by omega)
theorem dueT_none {T : Str → Option Int} {to : Int} {s : Str} (h : T s = none) : dueT T to s = none := by
  unfold dueT
  rw [h]
theorem dueT_some {T : Str → Option Int} {to t : Int} {s : Str} (h : dueT T to s = some t) : T s = some t ∧ to < t := by
  cases e : T s with
  | none =>
    rw [dueT_none e] at h
    cases h
  | some u =>
    by_cases l : u ≤ to
    · rw [dueT_due e l] at h
      cases h
    · rw [dueT_on e (by omega)] at h
      cases h
      exact ⟨rfl, by omega⟩
theorem mem_take_succ {α : Type} {l : List α} {i : Nat} {x : α} (h : l[i]? = some x) (y : α) : y ∈ l.take (i + 1) ↔ y ∈ l.take i ∨ y = x := by
  rw [List.take_add_one, h, List.mem_append]
  simp
theorem nd_not_take {α : Type} {l : List α} (hn : l.Nodup) {i : Nat} {x : α} (h : l[i]? = some x) : x ∉ l.take i := fun m => by
  obtain ⟨j, hj, e⟩ := List.mem_take_iff_getElem.mp m
  have h2 : l[j]? = some x := by rw [List.getElem?_eq_getElem (by omega), e]
  have := nd_ix hn h h2
  omega
theorem paired_perm {α β : Type} {R : α → β → Prop} {xs ys : List α} (p : ys.Perm xs) : ∀ {ms : List β}, Paired R xs ms → ∃ ms', Paired R ys ms' ∧ ms'.Perm ms := by
  induction p with
  | nil =>
    intro ms h
    exact ⟨ms, h, List.Perm.refl _⟩
  | cons x _ ih =>
    intro ms h
    cases h with
    | cons r t =>
      obtain ⟨ms', h1, h2⟩ := ih t
      exact ⟨_ :: ms', .cons r h1, h2.cons _⟩
  | swap x y l =>
    intro ms h
    cases h with
    | cons r t =>
      cases t with
      | cons r2 t2 => exact ⟨_, .cons r2 (.cons r t2), List.Perm.swap _ _ _⟩
  | trans _ _ ih1 ih2 =>
    intro ms h
    obtain ⟨m1, h1, h2⟩ := ih2 h
    obtain ⟨m2, h3, h4⟩ := ih1 h1
    exact ⟨m2, h3, h4.trans h2⟩
theorem paired_mem {α β : Type} {R : α → β → Prop} : ∀ {xs : List α} {ms : List β}, Paired R xs ms → ∀ x ∈ xs, ∃ m ∈ ms, R x m
  | _, _, .nil, x, h => by cases h
  | _, _, .cons r t, x, h => by
    rcases List.mem_cons.mp h with e | h
    · exact ⟨_, List.mem_cons_self, by rw [e]; exact r⟩
    · obtain ⟨m, h1, h2⟩ := paired_mem t x h
      exact ⟨m, List.mem_cons_of_mem _ h1, h2⟩
theorem paired_get {α β : Type} {R : α → β → Prop} : ∀ {xs : List α} {ms : List β} {i : Nat} {x : α}, Paired R xs ms → xs[i]? = some x → ∃ m, ms[i]? = some m ∧ R x m
  | _, _, i, x, .nil, h => by simp at h
  | _, _, 0, x, .cons r _, h => by
    simp only [List.getElem?_cons_zero] at h
    cases h
    exact ⟨_, rfl, r⟩
  | _, _, i + 1, x, .cons _ t, h => by
    simp only [List.getElem?_cons_succ] at h
    obtain ⟨m, h1, h2⟩ := paired_get t h
    exact ⟨m, by rw [List.getElem?_cons_succ]; exact h1, h2⟩
theorem Core.agree {c : Cfg} {H H' : Hp} {Z : Addr → Prop} {G : Gm} {F : Str → Option Int} (O : Core c H Z G F) (h : ∀ b, Z b → H' b = H b) : Core c H' Z G F := by
  obtain ⟨M, D, l, f, g, k, x⟩ := O
  exact ⟨M, D, l, f, g, k, { x with
    mks := (h _ x.zm).trans x.mks
    ly := (h _ x.zl).trans x.ly
    fr := (h _ x.zf).trans x.fr
    fl := (h _ x.zg).trans x.fl
    sl := (h _ x.zs).trans x.sl
    dd := fun i j a e => let ⟨kvs, h1, h2⟩ := x.dd i j a e; ⟨kvs, (h _ (x.zd i j a e)).trans h1, h2⟩
    za := fun b z => let ⟨o, e⟩ := x.za b z; ⟨o, (h b z).trans e⟩ }⟩
theorem Core.off {c : Cfg} {H : Hp} {Z : Addr → Prop} {G : Gm} {F : Str → Option Int} {r : Addr} {u : HO} (O : Core c H Z G F) (nz : ¬ Z r) : Core c (upd H r u) Z G F :=
  O.agree fun b z => upd_ne fun e => nz (by rw [← e]; exact z)
theorem Keeps.off {Z Z' : Addr → Prop} {H H' : Hp} {r : Addr} {u : HO} (k : Keeps Z H Z' H') (n : H r = none) : Keeps Z H Z' (upd H' r u) := fun b o h nz => ⟨upd_at (k b o h nz).1 (ne_of_none h n), (k b o h nz).2⟩
def IsTN (H : Hp) (Z : Addr → Prop) (x : V) (m : Int × Str) : Prop := ∃ a, x = V.ref a ∧ H a = some (.tup [.int m.1, .str m.2]) ∧ ¬ Z a
theorem isTN_upd {H : Hp} {Z : Addr → Prop} {r : Addr} {u o : HO} (hr : H r = some o) (ho : ∀ xs, o ≠ .tup xs) {xs : List V} {ms : List (Int × Str)} (h : Paired (IsTN H Z) xs ms) : Paired (IsTN (upd H r u) Z) xs ms :=
  Paired.mapP h fun _ _ ⟨a, e, h1, h2⟩ => ⟨a, e, upd_at h1 (ne_of h1 hr fun z => ho _ z.symm), h2⟩
theorem isTN_keeps {H H' : Hp} {Z Z' : Addr → Prop} (k : Keeps Z H Z' H') {xs : List V} {ms : List (Int × Str)} (h : Paired (IsTN H Z) xs ms) : Paired (IsTN H' Z') xs ms :=
  Paired.mapP h fun _ _ ⟨a, e, h1, h2⟩ => ⟨a, e, (k _ _ h1 h2).1, (k _ _ h1 h2).2⟩
def midG (c : Cfg) (T : Str → Option Int) (now to : Int) (l : List Str) : Gm := fun s => if s ∈ l then gOf c (dueT T to) to s else gOf c T now s
theorem midG_end {c : Cfg} (U : Units c.n c.rr c.uu) {T : Str → Option Int} {now to : Int} {ns : List Str} (h0 : now ≤ to) (hT : ∀ s t, T s = some t → now < t) (hns : ∀ s, s ∈ ns ↔ ∃ k t, gOf c T now s = some (k, t) ∧ Met c.n c.rr c.uu now to k t) (s : Str) :
    midG c T now to ns s = gOf c (dueT T to) to s := by
  unfold midG
  by_cases m : s ∈ ns
  · rw [if_pos m]
  · rw [if_neg m]
    cases e : T s with
    | none =>
      unfold gOf
      rw [dueT_none e, e]
      all_goals rfl
    | some t =>
      have q := unmet_stays U h0 (hT s t e) fun z => m ((hns s).mpr ⟨_, t, gOf_some.mpr ⟨e, rfl⟩, z⟩)
      unfold gOf
      rw [dueT_on e q.1, e]
      show some (wh c.n c.uu t now, t) = some (wh c.n c.uu t to, t)
      rw [q.2]
section
variable {P : Program} {w : World} {K : PySem.W.Frag} {mg : Str → Option Value} {base : Heap} {C f : Addr} {fd : FuncData}
def spReached (C : Addr) : Sp := fun vs H Q _ => ∃ (c : Cfg) (Z : Addr → Prop) (F : Str → Option Int) (T : Str → Option Int) (tkv : List (Key × V)) (now to : Int), vs = [.ref c.p, .int to] ∧ Inst C c H Z now ∧ Core c H Z (gOf c T now) F ∧ (∀ s, (F s).isSome = (T s).isSome) ∧
  H c.tm = some (.dK tkv) ∧ DictIs tkv (flF T) ∧ ¬ Z c.tm ∧ Few 1000 T ∧ (∀ s t, T s = some t → now < t) ∧ now ≤ to ∧
  ∀ (H' : Hp) (Z' : Addr → Prop) (F' : Str → Option Int) (p : Addr) (ys : List V) (ms : List (Int × Str)), Core c H' Z' (gOf c (dueT T to) to) F' → (∀ s, (F' s).isSome = (dueT T to s).isSome) → Keeps Z H Z' H' → H' p = some (.lst ys) → ¬ Z' p → Paired (IsTN H' Z') ys ms →
    (ms.map (·.2)).Nodup → (∀ s, s ∈ ms.map (·.2) ↔ ∃ t, T s = some t ∧ t ≤ to) → Q (.ref p) H'
theorem scReached : FnScope ["self", "to", "found", "name", "time"] ["self", "to"] (defScope sReached) := ⟨rfl, rfl, rfl, by decide +kernel, rfl, by decide +kernel, by decide +kernel⟩
theorem ok_reached (F : Fun K "reached" "Wheels.reached" sReached f fd) (T : Txt K mg C) (MT : MOk P w K mg base C "touched" 3 ["self", "to"] (spTouched C)) (ML : MOk P w K mg base C "lifted" 3 ["self", "name", "time"] (spLifted C))
    (MD : MOk P w K mg base C "let_down" 3 ["self", "name", "time", "to"] (spLetDown C)) : FnOk P w K mg base CX0 4 f fd ["self", "to"] (spReached C) := by
  refine F.ok scReached (fun vs H Q E h => ?_) (fun cdv A outer s H vs Q E hr h => ?_)
  · obtain ⟨c, Z, Fl, Ti, tkv, now, to, rfl, _⟩ := h
    rfl
  · obtain ⟨c, Z, Fl, Ti, tkv, now, to, rfl, I, O, hF, ht1, ht2, htz, hfewT, hTn, h0, q⟩ := h
    obtain ⟨dx, h1⟩ := I.ob
    have hu := hu_of hr
    have nd := scReached.nd
    have hfewG : Few 1000 (gOf c Ti now) := hfewT.sub fun s z => by rw [gOf_isSome] at z; exact z
    refine ⟨_, pss_cons (ps_set (i := 2) nd rfl (Or.inl rfl) (pe_lst pa_nil))
      (pss_cons (ps_for PassesOwn.never rfl (pi_list (pe_mo (pv 0) T.cl MT hr (pa_cons (pv 1) pa_nil))) (pg_name (i := 3) nd rfl (Or.inl rfl))
        (pss_cons (ps_set (i := 4) nd rfl (Or.inl rfl) (pe_dget hu (pe_fld (pv 0) rfl) (pv 3) (fun _ _ => rfl)))
        (pss_one (ps_if (pt_cmpR op_le (pv 4) (pv 1) (nomark _))
          (pss_cons (ps_expr (pe_mo (pv 0) T.cl ML hr (pa_cons (pv 3) (pa_cons (pv 4) pa_nil))))
          (pss_one (ps_expr (pe_bm PySem.F.plainAttrs_list PySem.F.slot_list_append PySem.F.type_list_append mt_append (pv 2) (pa_cons (pe_tup (pa_cons (pv 4) (pa_cons (pv 3) pa_nil))) pa_nil)))))
          (pss_one (ps_expr (pe_mo (pv 0) T.cl MD hr (pa_cons (pv 3) (pa_cons (pv 4) (pa_cons (pv 1) pa_nil))))))))))
      (pss_one (ps_ret (pe_callB cr_sortIS (by rfl) T.sorted (by decide +kernel) (pa_cons (pv 2) pa_nil))))), ?_⟩
    refine ⟨Nat.zero_le _, fun r hr0 => ?_⟩
    have s0 : Same H (upd H r (.lst [])) := same_new hr0
    have nzr : ¬ Z r := O.nz hr0
    refine ⟨_, rfl, c.p, dx, _, rfl, s0 _ _ h1, flds_no _ _ (by decide +kernel), _, rfl, c, Z, gOf c Ti now, Fl, now, to, rfl, I.same s0, O.same s0, hfewG, fun H1 g ns s1 hg hg1 hnd hns => ?_⟩
    have hr1 : H1 r = some (.lst []) := s1 _ _ upd_same
    have s01 : Same H H1 := s0.trans s1
    have nzg : ¬ Z g := by
      refine O.nz ?_
      cases e : H g with
      | none => rfl
      | some o =>
        have := s0 _ _ e
        rw [hg] at this
        cases this
    have hin : ∀ s ∈ ns, (Ti s).isSome = true := fun s hs => by
      obtain ⟨k, t, e1, _⟩ := (hns s).mp hs
      rw [(gOf_some.mp e1).1]
      all_goals rfl
    refine ⟨g, rfl, ⟨_, SqL.of hg1⟩, for_list (K := K) (a := g) (xs := ns.map V.str) (fun i σ H2 => ∃ (Z2 : Addr → Prop) (F2 : Str → Option Int) (xs : List V) (ms : List (Int × Str)) (v3 v4 : Option V), σ = [some (.ref c.p), some (.int to), some (.ref r), v3, v4] ∧
        Core c H2 Z2 (midG c Ti now to (ns.take i)) F2 ∧ (∀ s, (F2 s).isSome = (midG c Ti now to (ns.take i) s).isSome) ∧ Keeps Z H Z2 H2 ∧ (H2 g = some (.lst (ns.map V.str)) ∧ ¬ Z2 g) ∧ (H2 r = some (.lst xs) ∧ ¬ Z2 r) ∧ Paired (IsTN H2 Z2) xs ms ∧
        (ms.map (·.2)).Nodup ∧ ∀ s, s ∈ ms.map (·.2) ↔ s ∈ ns.take i ∧ ∃ t, Ti s = some t ∧ t ≤ to) ?_ ?_ ?_ ?_⟩
    · refine ⟨Z, Fl, [], [], none, none, rfl, (O.same s01).congr fun s => ?_, fun s => ?_, Keeps.same s01, ⟨hg1, nzg⟩, ⟨hr1, nzr⟩, .nil, List.nodup_nil, fun s => ?_⟩
      · unfold midG
        rw [if_neg (by simp)]
      · unfold midG
        rw [if_neg (by simp), hF, gOf_isSome]
      · simp
    · rintro i σ H2 _ ⟨Z2, F2, xs, ms, v3, v4, rfl, _, _, _, hg2, _⟩
      exact SqL.of hg2.1
    · rintro i y σ H2 hi ⟨Z2, F2, xs, ms, v3, v4, rfl, O2, hF2, k2, hg2, hr2, hp2, hmd, hms⟩
      obtain ⟨name, hname, rfl⟩ : ∃ name, ns[i]? = some name ∧ y = V.str name := by
        rw [List.getElem?_map] at hi
        cases e : ns[i]? with
        | none =>
          rw [e] at hi
          cases hi
        | some name =>
          rw [e] at hi
          exact ⟨name, rfl, (Option.some.inj hi).symm⟩
      have hmem : name ∈ ns := List.mem_of_getElem? hname
      have hnot := nd_not_take hnd hname
      obtain ⟨k, t, e1, e2⟩ := (hns name).mp hmem
      obtain ⟨eT, ek⟩ := gOf_some.mp e1
      have I2 := I.keeps k2
      obtain ⟨dx2, p2⟩ := I2.ob
      have tm2 := k2 _ _ ht1 htz
      have ev : valV tkv (Sum.inr name) = some (.int t) := (ht2.at_ name).trans (by unfold flF; rw [eT]; rfl)
      have eG : midG c Ti now to (ns.take i) name = some (k, t) := by
        unfold midG
        rw [if_neg hnot]
        exact e1
      have eF : (F2 name).isSome = true := by
        rw [hF2, eG]
        all_goals rfl
      have hfew2 : Few 1000 (midG c Ti now to (ns.take i)) := hfewT.sub fun s z => by
        unfold midG at z
        by_cases m : s ∈ ns.take i
        · exact hin s (List.mem_of_mem_take m)
        · rw [if_neg m, gOf_isSome] at z
          exact z
      have hfewF2 : Few 1000 F2 := hfew2.sub fun s z => by rw [hF2] at z; exact z
      have lms : xs.length ≤ 1000 := by
        have e3 : xs.length = (ms.map (·.2)).length := by rw [List.length_map]; exact Paired.length hp2
        rw [e3]
        exact hfewT _ hmd fun s hs => by
          obtain ⟨_, t', e', _⟩ := (hms s).mp hs
          rw [e']
          all_goals rfl
      have outn : ∀ s, s ≠ name → midG c Ti now to (ns.take (i + 1)) s = midG c Ti now to (ns.take i) s := fun s hs => by
        unfold midG
        by_cases m : s ∈ ns.take i
        · rw [if_pos m, if_pos ((mem_take_succ hname s).mpr (.inl m))]
        · rw [if_neg m, if_neg fun z => ((mem_take_succ hname s).mp z).elim m hs]
      have inn : midG c Ti now to (ns.take (i + 1)) name = gOf c (dueT Ti to) to name := by
        unfold midG
        rw [if_pos ((mem_take_succ hname name).mpr (.inr rfl))]
      refine ⟨_, rfl, c.p, C, dx2, _, _, rfl, p2, T.cl, T.nTimes, flds_times _ _, _, rfl, c.tm, .int t, rfl, by rw [← ev]; exact DGet.k (k := Sum.inr name) tm2.1, ?_⟩
      refine ⟨_, rfl, _, rfl, _, _, rfl, rfl, _, rfl, ?_⟩
      refine ite2 (fun e => ?_) (fun e => ?_)
      · have hle : t ≤ to := of_decide_eq_true e
        refine ⟨_, rfl, c.p, dx2, _, rfl, p2, flds_no _ _ (by decide +kernel), _, rfl, _, rfl, c, Z2, _, F2, now, t, name, k, rfl, I2, O2, eG, eF, fun H3 Z3 O3 k3 => ?_⟩
        have r3 := k3 _ _ hr2.1 hr2.2
        refine ⟨_, rfl, .inl ⟨rfl, _, SqL.of r3.1⟩, _, rfl, _, rfl, (by show 2 ≤ sizeLine; decide), fun b hb => ?_⟩
        have nrb : r ≠ b := ne_of_none r3.1 hb
        have nzb : ¬ Z3 b := O3.nz hb
        refine ⟨r, xs, .ref b, rfl, rfl, upd_at r3.1 nrb, line1000 (Nat.le_trans lms (by decide)), ?_⟩
        have k4 : Keeps Z3 H3 Z3 (upd H3 b (.tup [.int t, .str name])) := Keeps.new hb
        have O4 := O3.same (same_new (o := .tup [.int t, .str name]) hb)
        have O5 : Core c (upd (upd H3 b (.tup [.int t, .str name])) r (.lst (xs ++ [.ref b]))) Z3 (fdel (midG c Ti now to (ns.take i)) name) (fdel F2 name) := O4.off r3.2
        have p4 : Paired (IsTN (upd H3 b (.tup [.int t, .str name])) Z3) xs ms := isTN_keeps k4 (isTN_keeps k3 hp2)
        refine ⟨Z3, fdel F2 name, xs ++ [.ref b], ms ++ [(t, name)], _, _, rfl, O5.congr fun s => ?_, fun s => ?_, ((k2.trans k3).trans k4).off hr0, ?_, ⟨upd_same, r3.2⟩, ?_, ?_, fun s => ?_⟩
        · unfold fdel
          by_cases z : s = name
          · rw [if_pos z, z, inn]
            unfold gOf
            rw [dueT_due eT hle]
            all_goals rfl
          · rw [if_neg z, outn s z]
        · unfold fdel
          by_cases z : s = name
          · rw [if_pos z, z, inn]
            unfold gOf
            rw [dueT_due eT hle]
            all_goals rfl
          · rw [if_neg z, outn s z, hF2]
        · have g3 := k3 _ _ hg2.1 hg2.2
          have ngr : g ≠ r := fun z => by
            rw [z, upd_same] at hg
            cases hg
          exact ⟨upd_at (upd_at g3.1 (ne_of_none g3.1 hb)) ngr, g3.2⟩
        · refine isTN_upd (o := .lst xs) (upd_at r3.1 nrb) (fun _ z => nomatch z) (Paired.snoc p4 ⟨b, rfl, upd_same, nzb⟩)
        · rw [List.map_append]
          refine nd_snoc hmd fun m => ?_
          exact hnot ((hms name).mp m).1
        · rw [List.map_append, List.mem_append, hms, mem_take_succ hname]
          constructor
          · rintro (⟨h1, h2⟩ | h1)
            · exact ⟨.inl h1, h2⟩
            · have : s = name := by simpa using h1
              rw [this]
              exact ⟨.inr rfl, t, eT, hle⟩
          · rintro ⟨h1 | h1, h2⟩
            · exact .inl ⟨h1, h2⟩
            · exact .inr (by rw [h1]; simp)
      · have hlt : to < t := by
          have : ¬ t ≤ to := fun z => e (decide_eq_true z)
          omega
        refine ⟨_, rfl, c.p, dx2, _, rfl, p2, flds_no _ _ (by decide +kernel), _, rfl, _, rfl, _, rfl, c, Z2, _, F2, now, t, to, name, k, rfl, I2, O2, eG, eF, hfew2, hfewF2, by rw [ek]; exact met_down I.U h0 hlt, fun H3 Z3 F3 O3 hF3 k3 => ?_⟩
        have g3 := k3 _ _ hg2.1 hg2.2
        have r3 := k3 _ _ hr2.1 hr2.2
        refine ⟨Z3, F3, xs, ms, _, _, rfl, O3.congr fun s => ?_, fun s => ?_, k2.trans k3, g3, r3, isTN_keeps k3 hp2, hmd, fun s => ?_⟩
        · unfold fput
          by_cases z : s = name
          · rw [if_pos z, z, inn]
            unfold gOf
            rw [dueT_on eT hlt]
            all_goals rfl
          · rw [if_neg z, outn s z]
        · rw [hF3]
          by_cases z : s = name
          · rw [z, eF, inn]
            unfold gOf
            rw [dueT_on eT hlt]
            all_goals rfl
          · rw [outn s z, hF2]
        · rw [hms, mem_take_succ hname]
          constructor
          · rintro ⟨h1, h2⟩
            exact ⟨.inl h1, h2⟩
          · rintro ⟨h1 | h1, t', h2, h3⟩
            · exact ⟨h1, t', h2, h3⟩
            · rw [h1, eT] at h2
              cases h2
              omega
    · -- return sorted(found)
      rintro σ H2 ⟨Z2, F2, xs, ms, v3, v4, rfl, O2, hF2, k2, hg2, hr2, hp2, hmd, hms⟩
      have et : ns.take (ns.map V.str).length = ns := by rw [List.length_map]; exact List.take_length
      rw [et] at O2 hF2 hms
      refine ⟨_, rfl, r, xs, rfl, SqL.of hr2.1, fun x hx => ?_, fun ys p hperm hp => ?_⟩
      · obtain ⟨m, _, a, e1, e2, _⟩ := paired_mem hp2 x hx
        exact ⟨a, m.1, m.2, e1, e2⟩
      · obtain ⟨ms', h3, h4⟩ := paired_perm hperm hp2
        have sp := same_new (o := .lst ys) hp
        refine q _ Z2 F2 p ys ms' ((O2.same sp).congr (midG_end I.U h0 hTn hns)) (fun s => ?_) (k2.trans (Keeps.new hp)) upd_same (O2.nz hp) (isTN_keeps (Keeps.same sp) h3) ((h4.map (·.2)).nodup_iff.mpr hmd) fun s => ?_
        · rw [hF2, midG_end I.U h0 hTn hns, gOf_isSome]
        · rw [(h4.map (·.2)).mem_iff, hms]
          constructor
          · exact fun z => z.2
          · rintro ⟨t, h5, h6⟩
            exact ⟨(hns s).mpr ⟨_, t, gOf_some.mpr ⟨h5, rfl⟩, met_due I.U (hTn s t h5) h6⟩, t, h5, h6⟩
end
end Wk

namespace Wk
open PySem L2 Wr
structure WheelD (C : Addr) (c : Cfg) (H : Hp) (Zp : Addr → Prop) (now : Int) (T : Str → Option Int) (Z : Addr → Prop) (F : Str → Option Int) (tkv : List (Key × V)) : Prop where
  I : Inst C c H Z now
  O : Core c H Z (gOf c T now) F
  F_ : ∀ s, (F s).isSome = (T s).isSome
  tm : H c.tm = some (.dK tkv)
  td : DictIs tkv (flF T)
  tz : ¬ Z c.tm
  on : ∀ s t, T s = some t → now < t
  zp : ∀ b, Zp b ↔ Z b ∨ b = c.p ∨ b = c.tm
def Wheel (C : Addr) (c : Cfg) (H : Hp) (Zp : Addr → Prop) (now : Int) (T : Str → Option Int) : Prop := ∃ Z F tkv, WheelD C c H Zp now T Z F tkv
theorem Inst.off {C : Addr} {c : Cfg} {H : Hp} {Z : Addr → Prop} {now : Int} {r : Addr} {o u : HO} (I : Inst C c H Z now) (hr : H r = some o) (n1 : ∀ D dx fs, o ≠ .ins D dx fs) (n2 : ∀ xs, o ≠ .lst xs) : Inst C c (upd H r u) Z now := by
  obtain ⟨dx, e⟩ := I.ob
  exact ⟨⟨I.U, ⟨dx, upd_at e (ne_of e hr fun z => n1 _ _ _ z.symm)⟩, upd_at I.rd (ne_of I.rd hr fun z => n2 _ z.symm), upd_at I.un (ne_of I.un hr fun z => n2 _ z.symm)⟩, I.zp, I.zr, I.zu⟩
theorem Wheel.same {C : Addr} {c : Cfg} {H H' : Hp} {Zp : Addr → Prop} {now : Int} {T : Str → Option Int} (x : Wheel C c H Zp now T) (s : Same H H') : Wheel C c H' Zp now T := by
  obtain ⟨Z, F, k, x⟩ := x
  exact ⟨Z, F, k, x.I.same s, x.O.same s, x.F_, s _ _ x.tm, x.td, x.tz, x.on, x.zp⟩
theorem Wheel.nz {C : Addr} {c : Cfg} {H : Hp} {Zp : Addr → Prop} {now : Int} {T : Str → Option Int} (x : Wheel C c H Zp now T) {b : Addr} (h : H b = none) : ¬ Zp b := by
  obtain ⟨Z, F, k, x⟩ := x
  intro z
  rcases (x.zp b).mp z with z | z | z
  · exact x.O.nz h z
  · obtain ⟨dx, e⟩ := x.I.ob
    rw [z, e] at h
    cases h
  · rw [z, x.tm] at h
    cases h
theorem keeps_pub {c : Cfg} {H H1 H' : Hp} {Z Z' Zp : Addr → Prop} (zp : ∀ b, Zp b ↔ Z b ∨ b = c.p ∨ b = c.tm) (h1 : ∀ b o, H b = some o → b ≠ c.p → b ≠ c.tm → H1 b = some o) (k : Keeps Z H1 Z' H') : Keeps Zp H (fun b => Z' b ∨ b = c.p ∨ b = c.tm) H' := fun b o h nz => by
  have n1 : ¬ Z b := fun z => nz ((zp b).mpr (.inl z))
  have n2 : b ≠ c.p := fun z => nz ((zp b).mpr (.inr (.inl z)))
  have n3 : b ≠ c.tm := fun z => nz ((zp b).mpr (.inr (.inr z)))
  obtain ⟨h2, h3⟩ := k b o (h1 b o h n2 n3) n1
  exact ⟨h2, fun z => z.elim h3 fun z => z.elim n2 n3⟩
theorem flF_put {T : Str → Option Int} {name : Str} {t : Int} (s : Str) : fput (flF T) name (V.int t) s = flF (fput T name t) s := by
  unfold flF fput
  by_cases e : s = name
  · rw [if_pos e, if_pos e]
    all_goals rfl
  · rw [if_neg e, if_neg e]
theorem flF_del {T : Str → Option Int} {name : Str} (s : Str) : fdel (flF T) name s = flF (fdel T name) s := by
  unfold flF fdel
  by_cases e : s = name
  · rw [if_pos e, if_pos e]
    all_goals rfl
  · rw [if_neg e, if_neg e]
theorem gOf_put {c : Cfg} {T : Str → Option Int} {now t : Int} {name : Str} (s : Str) : fput (gOf c T now) name (wh c.n c.uu t now, t) s = gOf c (fput T name t) now s := by
  unfold gOf fput
  by_cases e : s = name
  · rw [if_pos e, if_pos e]
    all_goals rfl
  · rw [if_neg e, if_neg e]
theorem gOf_del {c : Cfg} {T : Str → Option Int} {now : Int} {name : Str} (s : Str) : fdel (gOf c T now) name s = gOf c (fdel T name) now s := by
  unfold gOf fdel
  by_cases e : s = name
  · rw [if_pos e, if_pos e]
    all_goals rfl
  · rw [if_neg e, if_neg e]
section
variable {P : Program} {w : World} {K : PySem.W.Frag} {mg : Str → Option Value} {base : Heap} {C f : Addr} {fd : FuncData}
def spPut (C : Addr) : Sp := fun vs H Q _ => ∃ (c : Cfg) (Zp : Addr → Prop) (now t : Int) (T : Str → Option Int) (name : Str), vs = [.ref c.p, .str name, .int t] ∧ Wheel C c H Zp now T ∧ T name = none ∧ now < t ∧ Few 900 T ∧
  ∀ H' Zp', Wheel C c H' Zp' now (fput T name t) → Keeps Zp H Zp' H' → Q .non H'
theorem scPut : FnScope ["self", "name", "time"] ["self", "name", "time"] (defScope sPut) := ⟨rfl, rfl, rfl, by decide +kernel, rfl, by decide +kernel, by decide +kernel⟩
theorem ok_put (F : Fun K "put" "Waits.put" sPut f fd) (T : Txt K mg C) (ML : MOk P w K mg base C "laid_by" 3 ["self", "name", "time"] (spLaidBy C)) : FnOk P w K mg base CX0 4 f fd ["self", "name", "time"] (spPut C) := by
  refine F.ok scPut (fun vs H Q E h => ?_) (fun cdv A outer s H vs Q E hr h => ?_)
  · obtain ⟨c, Zp, now, t, Ti, name, rfl, _⟩ := h
    rfl
  · obtain ⟨c, Zp, now, t, Ti, name, rfl, ⟨Z, Fl, tkv, x⟩, hn, hlt, hfew, q⟩ := h
    obtain ⟨dx, h1⟩ := x.I.ob
    have hu := hu_of hr
    refine ⟨_, pss_cons (ps_if (pt_cmp (pc_din hu (pv 1) (pe_fld (pv 0) rfl))) (pss_one ps_never) pss_nil)
      (pss_cons (ps_if (pt_cmpR op_le (pv 2) (pe_fld (pv 0) rfl) (nomark _)) (pss_one ps_never) pss_nil)
      (pss_cons (ps_dput hu (pe_fld (pv 0) rfl) (pv 1) (pv 2) rfl)
      (pss_one (ps_expr (pe_mo (pv 0) T.cl ML hr (pa_cons (pv 1) (pa_cons (pv 2) pa_nil))))))), ?_⟩
    have ev : valV tkv (Sum.inr name) = none := (x.td.at_ name).trans (by unfold flF; rw [hn]; rfl)
    refine ⟨_, rfl, _, rfl, c.p, C, dx, _, _, rfl, h1, T.cl, T.nTimes, flds_times _ _, c.tm, none, rfl, by rw [← ev]; exact DGet.k (k := Sum.inr name) x.tm, _, rfl, ?_⟩
    refine iteF ?_
    refine ⟨_, rfl, _, rfl, c.p, C, dx, _, _, rfl, h1, T.cl, T.nNow, flds_now _ _, _, _, rfl, rfl, _, rfl, ?_⟩
    rw [decide_eq_false (by omega)]
    refine iteF ?_
    have l1 : tkv.length ≤ 900 := hfew.len x.td fun s z => by unfold flF at z; rw [Option.isSome_map] at z; exact z
    refine ⟨_, rfl, _, rfl, c.p, C, dx, _, _, rfl, h1, T.cl, T.nTimes, flds_times _ _, _, rfl, c.tm, _, rfl, DPut.k (k := Sum.inr name) x.tm (line1000 (by omega)), ?_⟩
    have npt : c.p ≠ c.tm := ne_of h1 x.tm fun z => nomatch z
    have I1 : Inst C c (upd H c.tm (.dK (putK tkv (Sum.inr name) (.int t)))) Z now := x.I.off x.tm (fun _ _ _ z => nomatch z) fun _ z => nomatch z
    have O1 : Core c (upd H c.tm (.dK (putK tkv (Sum.inr name) (.int t)))) Z (gOf c Ti now) Fl := x.O.off x.tz
    have hfewG : Few 1000 (gOf c Ti now) := fun ns h1 h2 => Nat.le_trans (hfew ns h1 fun s m => by have := h2 s m; rw [gOf_isSome] at this; exact this) (by decide)
    have hfewF : Few 1000 Fl := fun ns h1 h2 => Nat.le_trans (hfew ns h1 fun s m => by have := h2 s m; rw [x.F_] at this; exact this) (by decide)
    refine ⟨_, rfl, c.p, dx, _, rfl, upd_at h1 npt, flds_no _ _ (by decide +kernel), _, rfl, _, rfl, c, Z, _, Fl, now, t, name, rfl, I1, O1, ?_, hfewG, hfewF, fun H' Z' O' k' => ?_⟩
    · unfold gOf
      rw [hn]
      all_goals rfl
    have t' := k' _ _ upd_same x.tz
    refine q H' _ ⟨Z', fput Fl name 0, _, I1.keeps k', O'.congr gOf_put, fun s => ?_, t'.1, (x.td.put name _).congr flF_put, t'.2, fun s u hs => ?_, fun b => Iff.rfl⟩ (keeps_pub x.zp (fun b o h n1 n2 => upd_at h n2) k')
    · unfold fput
      by_cases e : s = name
      · rw [if_pos e, if_pos e]
        all_goals rfl
      · rw [if_neg e, if_neg e, x.F_]
    · unfold fput at hs
      by_cases e : s = name
      · rw [if_pos e] at hs
        cases hs
        exact hlt
      · rw [if_neg e] at hs
        exact x.on s u hs
def spTake (C : Addr) : Sp := fun vs H Q _ => ∃ (c : Cfg) (Zp : Addr → Prop) (now t : Int) (T : Str → Option Int) (name : Str), vs = [.ref c.p, .str name] ∧ Wheel C c H Zp now T ∧ T name = some t ∧
  ∀ H' Zp', Wheel C c H' Zp' now (fdel T name) → Keeps Zp H Zp' H' → Q (.int t) H'
theorem scTake : FnScope ["self", "name", "time"] ["self", "name"] (defScope sTake) := ⟨rfl, rfl, rfl, by decide +kernel, rfl, by decide +kernel, by decide +kernel⟩
theorem ok_take (F : Fun K "take" "Waits.take" sTake f fd) (T : Txt K mg C) (ML : MOk P w K mg base C "lifted" 3 ["self", "name", "time"] (spLifted C)) : FnOk P w K mg base CX0 4 f fd ["self", "name"] (spTake C) := by
  refine F.ok scTake (fun vs H Q E h => ?_) (fun cdv A outer s H vs Q E hr h => ?_)
  · obtain ⟨c, Zp, now, t, Ti, name, rfl, _⟩ := h
    rfl
  · obtain ⟨c, Zp, now, t, Ti, name, rfl, ⟨Z, Fl, tkv, x⟩, hn, q⟩ := h
    obtain ⟨dx, h1⟩ := x.I.ob
    have hu := hu_of hr
    have nd := scTake.nd
    refine ⟨_, pss_cons (ps_if (pt_cmp (pc_dnotin hu (pv 1) (pe_fld (pv 0) rfl))) (pss_one ps_never) pss_nil)
      (pss_cons (ps_set (i := 2) nd rfl (Or.inl rfl) (pe_bm PySem.F.plainAttrs_dict PySem.F.slot_dict_pop PySem.F.type_dict_pop mt_popK1 (pe_fld (pv 0) rfl) (pa_cons (pv 1) pa_nil)))
      (pss_cons (ps_expr (pe_mo (pv 0) T.cl ML hr (pa_cons (pv 1) (pa_cons (pv 2) pa_nil))))
      (pss_one (ps_ret (pv 2))))), ?_⟩
    have ev : valV tkv (Sum.inr name) = some (.int t) := (x.td.at_ name).trans (by unfold flF; rw [hn]; rfl)
    refine ⟨_, rfl, _, rfl, c.p, C, dx, _, _, rfl, h1, T.cl, T.nTimes, flds_times _ _, c.tm, some (.int t), rfl, by rw [← ev]; exact DGet.k (k := Sum.inr name) x.tm, _, rfl, ?_⟩
    refine iteF ?_
    refine ⟨_, rfl, c.p, C, dx, _, _, rfl, h1, T.cl, T.nTimes, flds_times _ _, .inr (.inr (.inl ⟨rfl, .inl ⟨_, x.tm⟩⟩)), _, rfl, c.tm, tkv, Sum.inr name, _, rfl, rfl, x.tm, ev, ?_⟩
    have npt : c.p ≠ c.tm := ne_of h1 x.tm fun z => nomatch z
    have I1 : Inst C c (upd H c.tm (.dK (dropK tkv (Sum.inr name)))) Z now := x.I.off x.tm (fun _ _ _ z => nomatch z) fun _ z => nomatch z
    have O1 : Core c (upd H c.tm (.dK (dropK tkv (Sum.inr name)))) Z (gOf c Ti now) Fl := x.O.off x.tz
    refine ⟨_, rfl, c.p, dx, _, rfl, upd_at h1 npt, flds_no _ _ (by decide +kernel), _, rfl, _, rfl, c, Z, _, Fl, now, t, name, wh c.n c.uu t now, rfl, I1, O1, gOf_some.mpr ⟨hn, rfl⟩, by rw [x.F_, hn]; rfl, fun H' Z' O' k' => ?_⟩
    have t' := k' _ _ upd_same x.tz
    refine ⟨_, rfl, ?_⟩
    refine q H' _ ⟨Z', fdel Fl name, _, I1.keeps k', O'.congr gOf_del, fun s => ?_, t'.1, (x.td.drop name).congr flF_del, t'.2, fun s u hs => ?_, fun b => Iff.rfl⟩ (keeps_pub x.zp (fun b o h n1 n2 => upd_at h n2) k')
    · unfold fdel
      by_cases e : s = name
      · rw [if_pos e, if_pos e]
        all_goals rfl
      · rw [if_neg e, if_neg e, x.F_]
    · unfold fdel at hs
      by_cases e : s = name
      · rw [if_pos e] at hs
        cases hs
      · rw [if_neg e] at hs
        exact x.on s u hs
theorem upd_self {H : Hp} {a : Addr} {o : HO} (h : H a = some o) : upd H a o = H := by
  funext b
  by_cases e : b = a
  · rw [e, upd_same, h]
  · rw [upd_ne e]
def spDue (C : Addr) : Sp := fun vs H Q _ => ∃ (c : Cfg) (Zp : Addr → Prop) (now to : Int) (T : Str → Option Int), vs = [.ref c.p, .int to] ∧ Wheel C c H Zp now T ∧ now ≤ to ∧ Few 1000 T ∧
  ∀ H' Zp' p, Wheel C c H' Zp' to (dueT T to) → Keeps Zp H Zp' H' → Q (.ref p) H'
theorem scDue : FnScope ["self", "to", "found", "time", "name"] ["self", "to"] (defScope sDue) := ⟨rfl, rfl, rfl, by decide +kernel, rfl, by decide +kernel, by decide +kernel⟩
def lessT (T : Str → Option Int) (l : List Str) : Str → Option Int := fun s => if s ∈ l then none else T s
theorem ok_due (F : Fun K "due" "Waits.due" sDue f fd) (T : Txt K mg C) (MR : MOk P w K mg base C "reached" 4 ["self", "to"] (spReached C)) : FnOk P w K mg base CX0 5 f fd ["self", "to"] (spDue C) := by
  refine F.ok scDue (fun vs H Q E h => ?_) (fun cdv A outer s H vs Q E hr h => ?_)
  · obtain ⟨c, Zp, now, to, Ti, rfl, _⟩ := h
    rfl
  · obtain ⟨c, Zp, now, to, Ti, rfl, ⟨Z, Fl, tkv, x⟩, hle, hfew, q⟩ := h
    obtain ⟨dx, h1⟩ := x.I.ob
    have hu := hu_of hr
    have nd := scDue.nd
    refine ⟨_, pss_cons (ps_if (pt_cmpR op_lt (pv 1) (pe_fld (pv 0) rfl) (nomark _)) (pss_one ps_never) pss_nil)
      (pss_cons (ps_set (i := 2) nd rfl (Or.inl rfl) (pe_mo (pv 0) T.cl MR hr (pa_cons (pv 1) pa_nil)))
      (pss_cons (ps_for PassesOwn.never rfl (pi_list (pv 2)) (pg_tup rfl (pgs_cons (pg_name (i := 3) nd rfl (Or.inl rfl)) (pgs_cons (pg_name (i := 4) nd rfl (Or.inl rfl)) pgs_nil)))
        (pss_one (ps_expr (pe_bm PySem.F.plainAttrs_dict PySem.F.slot_dict_pop PySem.F.type_dict_pop mt_popK1 (pe_fld (pv 0) rfl) (pa_cons (pv 4) pa_nil)))))
      (pss_cons (ps_fld (pv 0) (pv 1) rfl)
      (pss_one (ps_ret (pv 2)))))), ?_⟩
    refine ⟨_, rfl, _, rfl, c.p, C, dx, _, _, rfl, h1, T.cl, T.nNow, flds_now _ _, _, _, rfl, rfl, _, rfl, ?_⟩
    rw [decide_eq_false (by omega)]
    refine iteF ?_
    refine ⟨_, rfl, c.p, dx, _, rfl, h1, flds_no _ _ (by decide +kernel), _, rfl, c, Z, Fl, Ti, tkv, now, to, rfl, x.I, x.O, x.F_, x.tm, x.td, x.tz, hfew, x.on, hle, fun H' Z' F' p ys ms O' hF' k' hp' zp' hys hmd hms => ?_⟩
    have I' := x.I.keeps k'
    obtain ⟨dx', h1'⟩ := I'.ob
    have t' := k' _ _ x.tm x.tz
    have npt : c.p ≠ c.tm := ne_of h1' t'.1 fun z => nomatch z
    have nlt : p ≠ c.tm := ne_of hp' t'.1 fun z => nomatch z
    refine ⟨_, rfl, p, rfl, ⟨_, SqL.of hp'⟩, for_list (K := K) (a := p) (xs := ys) (fun i σ H3 => ∃ (tk3 : List (Key × V)) (v3 v4 : Option V), σ = [some (.ref c.p), some (.int to), some (.ref p), v3, v4] ∧ H3 = upd H' c.tm (.dK tk3) ∧ DictIs tk3 (flF (lessT Ti ((ms.take i).map (·.2))))) ?_ ?_ ?_ ?_⟩
    · refine ⟨tkv, none, none, rfl, (upd_self t'.1).symm, x.td.congr fun s => ?_⟩
      unfold flF lessT
      rw [if_neg (by simp)]
    · rintro i σ H3 _ ⟨tk3, v3, v4, rfl, rfl, _⟩
      exact SqL.of (upd_at hp' nlt)
    · rintro i y σ H3 hi ⟨tk3, v3, v4, rfl, rfl, hd3⟩
      obtain ⟨m, hm, a, rfl, ha, _⟩ := paired_get hys hi
      have hnm : (ms.map (·.2))[i]? = some m.2 := by
        rw [List.getElem?_map, hm]
        all_goals rfl
      have hnot : m.2 ∉ (ms.take i).map (·.2) := by
        rw [List.map_take]
        exact nd_not_take hmd hnm
      obtain ⟨t, eT, _⟩ := (hms m.2).mp (List.mem_of_getElem? hnm)
      have ev : valV tk3 (Sum.inr m.2) = some (.int t) := (hd3.at_ m.2).trans (by
        unfold flF lessT
        rw [if_neg hnot, eT]
        all_goals rfl)
      have nat : a ≠ c.tm := ne_of ha t'.1 fun z => nomatch z
      refine ⟨a, _, rfl, SqT.of (upd_at ha nat), rfl, _, _, rfl, _, _, rfl, rfl, ?_⟩
      refine ⟨_, rfl, c.p, C, dx', _, _, rfl, upd_at h1' npt, T.cl, T.nTimes, flds_times _ _, .inr (.inr (.inl ⟨rfl, .inl ⟨_, upd_same⟩⟩)), _, rfl, c.tm, tk3, Sum.inr m.2, _, rfl, rfl, upd_same, ev, ?_⟩
      refine ⟨_, _, _, rfl, upd_upd, (hd3.drop m.2).congr fun s => ?_⟩
      rw [flF_del]
      unfold flF lessT fdel
      have e1 : s ∈ (ms.take (i + 1)).map (·.2) ↔ s ∈ (ms.take i).map (·.2) ∨ s = m.2 := by
        rw [List.map_take, List.map_take]
        exact mem_take_succ hnm s
      dsimp only
      by_cases e : s = m.2
      · rw [if_pos e, if_pos (e1.mpr (.inr e))]
      · rw [if_neg e]
        by_cases g : s ∈ (ms.take i).map (·.2)
        · rw [if_pos g, if_pos (e1.mpr (.inl g))]
        · rw [if_neg g, if_neg fun z => (e1.mp z).elim g e]
    · rintro σ H3 ⟨tk3, v3, v4, rfl, rfl, hd3⟩
      have el : (ms.take ys.length).map (·.2) = ms.map (·.2) := by
        rw [Paired.length hys, List.take_length]
      rw [el] at hd3
      refine ⟨_, rfl, _, rfl, c.p, C, dx', _, rfl, upd_at h1' npt, T.cl, T.nNow, (by show 9 < 1000; decide), ?_⟩
      rw [flds_set]
      refine ⟨_, rfl, ?_⟩
      have nzt := t'.2
      have nzq := I'.zp
      have nrp : c.rd ≠ c.p := ne_of I'.rd h1' fun z => nomatch z
      have nup : c.un ≠ c.p := ne_of I'.un h1' fun z => nomatch z
      have nrt : c.rd ≠ c.tm := ne_of I'.rd t'.1 fun z => nomatch z
      have nut : c.un ≠ c.tm := ne_of I'.un t'.1 fun z => nomatch z
      refine q _ _ p ⟨Z', F', tk3, ⟨⟨I'.U, ⟨dx', upd_same⟩, upd_at (upd_at I'.rd nrt) nrp, upd_at (upd_at I'.un nut) nup⟩, nzq, I'.zr, I'.zu⟩, (O'.off nzt).off nzq, hF', upd_at upd_same npt.symm, hd3.congr fun s => ?_, nzt, fun s t hs => (dueT_some hs).2, fun b => Iff.rfl⟩ ?_
      · unfold flF lessT
        by_cases g : s ∈ ms.map (·.2)
        · obtain ⟨t, e1, e2⟩ := (hms s).mp g
          rw [if_pos g, dueT_due e1 e2]
        · rw [if_neg g]
          cases e : Ti s with
          | none => rw [dueT_none e]
          | some t =>
            have : to < t := by
              rcases Int.lt_or_le to t with z | z
              · exact z
              · exact absurd ((hms s).mpr ⟨t, e, z⟩) g
            rw [dueT_on e this]
      · refine fun b o h nz => ?_
        have h2 := keeps_pub (c := c) x.zp (fun b o h _ _ => h) k' b o h nz
        have n2 : b ≠ c.p := fun z => nz ((x.zp b).mpr (.inr (.inl z)))
        have n3 : b ≠ c.tm := fun z => nz ((x.zp b).mpr (.inr (.inr z)))
        exact ⟨upd_at (upd_at h2.1 n3) n2, h2.2⟩
end
end Wk

namespace Wk
open PySem L2 Wr
section
variable {P : Program} {w : World} {K : PySem.W.Frag} {mg : Str → Option Value} {base : Heap} {C f : Addr} {fd : FuncData}
def spTimeOf (C : Addr) : Sp := fun vs H Q _ => ∃ (c : Cfg) (Zp : Addr → Prop) (now : Int) (T : Str → Option Int) (name : Str), vs = [.ref c.p, .str name] ∧ Wheel C c H Zp now T ∧ Q ((flF T name).getD .non) H
theorem scTimeOf : FnScope ["self", "name"] ["self", "name"] (defScope sTimeOf) := ⟨rfl, rfl, rfl, by decide +kernel, rfl, by decide +kernel, by decide +kernel⟩
theorem ok_time_of (F : Fun K "time_of" "Waits.time_of" sTimeOf f fd) (T : Txt K mg C) : FnOk P w K mg base CX0 1 f fd ["self", "name"] (spTimeOf C) := by
  refine F.ok scTimeOf (fun vs H Q E h => ?_) (fun cdv A outer s H vs Q E hr h => ?_)
  · obtain ⟨c, Zp, now, Ti, name, rfl, _⟩ := h
    rfl
  · obtain ⟨c, Zp, now, Ti, name, rfl, ⟨Z, Fl, tkv, x⟩, q⟩ := h
    obtain ⟨dx, h1⟩ := x.I.ob
    have hu := hu_of hr
    refine ⟨_, pss_one (ps_ret (pe_dget1 hu (pe_fld (pv 0) rfl) (pv 1) ⟨rfl, rfl, rfl, rfl⟩)), ?_⟩
    refine ⟨_, rfl, c.p, C, dx, _, _, rfl, h1, T.cl, T.nTimes, flds_times _ _, c.tm, rfl, .inl ⟨_, .inl x.tm⟩, _, rfl, flF Ti name, by rw [← x.td.at_]; exact DGet.k (k := Sum.inr name) x.tm, q⟩
def spWheelOf (C : Addr) : Sp := fun vs H Q _ => ∃ (c : Cfg) (Zp : Addr → Prop) (now t : Int) (T : Str → Option Int) (name : Str), vs = [.ref c.p, .str name] ∧ Wheel C c H Zp now T ∧ T name = some t ∧ Q (.int ((wh c.n c.uu t now : Nat) : Int)) H
theorem scWheelOf : FnScope ["self", "name"] ["self", "name"] (defScope sWheelOf) := ⟨rfl, rfl, rfl, by decide +kernel, rfl, by decide +kernel, by decide +kernel⟩
theorem ok_wheel_of (F : Fun K "wheel_of" "Wheels.wheel_of" sWheelOf f fd) (T : Txt K mg C) : FnOk P w K mg base CX0 1 f fd ["self", "name"] (spWheelOf C) := by
  refine F.ok scWheelOf (fun vs H Q E h => ?_) (fun cdv A outer s H vs Q E hr h => ?_)
  · obtain ⟨c, Zp, now, t, Ti, name, rfl, _⟩ := h
    rfl
  · obtain ⟨c, Zp, now, t, Ti, name, rfl, ⟨Z, Fl, tkv, x⟩, hn, q⟩ := h
    obtain ⟨dx, h1⟩ := x.I.ob
    have hu := hu_of hr
    obtain ⟨lkv, l1, l2⟩ := x.O.ly_at
    have ev : valV lkv (Sum.inr name) = some (.int ((wh c.n c.uu t now : Nat) : Int)) := (l2.at_ name).trans (by unfold lyF; rw [gOf_some.mpr ⟨hn, rfl⟩]; rfl)
    refine ⟨_, pss_cons (ps_if (pt_cmp (pc_dnotin hu (pv 1) (pe_fld (pv 0) rfl))) (pss_one ps_never) pss_nil) (pss_one (ps_ret (pe_dget hu (pe_fld (pv 0) rfl) (pv 1) (fun _ _ => rfl)))), ?_⟩
    refine ⟨_, rfl, _, rfl, c.p, C, dx, _, _, rfl, h1, T.cl, T.nLying, flds_lying _ _, c.ly, some (.int ((wh c.n c.uu t now : Nat) : Int)), rfl, by rw [← ev]; exact DGet.k (k := Sum.inr name) l1, _, rfl, ?_⟩
    refine iteF ?_
    exact ⟨_, rfl, c.p, C, dx, _, _, rfl, h1, T.cl, T.nLying, flds_lying _ _, _, rfl, c.ly, .int ((wh c.n c.uu t now : Nat) : Int), rfl, by rw [← ev]; exact DGet.k (k := Sum.inr name) l1, q⟩
def spBits (C : Addr) : Sp := fun vs H Q _ => ∃ (c : Cfg) (Zp : Addr → Prop) (now : Int) (T : Str → Option Int) (k : Nat), vs = [.ref c.p, .int (k : Int)] ∧ Wheel C c H Zp now T ∧ k < c.n ∧
  ∀ m : Nat, (∀ d, m.testBit d = true ↔ ∃ s t, T s = some t ∧ wh c.n c.uu t now = k ∧ slot c.rr c.uu k t = d) → Q (.int ((m : Nat) : Int)) H
theorem scBits : FnScope ["self", "k"] ["self", "k"] (defScope sBits) := ⟨rfl, rfl, rfl, by decide +kernel, rfl, by decide +kernel, by decide +kernel⟩
theorem ok_bits (F : Fun K "bits" "Wheels.bits" sBits f fd) (T : Txt K mg C) : FnOk P w K mg base CX0 1 f fd ["self", "k"] (spBits C) := by
  refine F.ok scBits (fun vs H Q E h => ?_) (fun cdv A outer s H vs Q E hr h => ?_)
  · obtain ⟨c, Zp, now, Ti, k, rfl, _⟩ := h
    rfl
  · obtain ⟨c, Zp, now, Ti, k, rfl, ⟨Z, Fl, tkv, x⟩, hk, q⟩ := h
    obtain ⟨dx, h1⟩ := x.I.ob
    obtain ⟨M, D, lkv, fkv, gkv, skv, y⟩ := id x.O
    refine ⟨_, pss_one (ps_ret (pe_ix ix_list (pe_fld (pv 0) rfl) (pv 1) (fun _ _ => rfl))), ?_⟩
    refine ⟨_, rfl, c.p, C, dx, _, _, rfl, h1, T.cl, T.nMasks, flds_masks _ _, _, rfl, c.mks, _, _, _, rfl, rfl, SqL.of y.mks, atI_nat (rl_get hk), q (M k) fun d => ?_⟩
    rw [y.bit k d hk]
    constructor
    · intro h
      obtain ⟨a, ha⟩ := Option.isSome_iff_exists.mp h
      obtain ⟨s, t, e1, e2⟩ := y.dne _ _ _ ha
      obtain ⟨e3, e4⟩ := gOf_some.mp e1
      exact ⟨s, t, e3, e4.symm, e2⟩
    · rintro ⟨s, t, e1, e2, e3⟩
      cases ed : D k d with
      | some a => rfl
      | none => exact absurd e3 (y.dno k d s t hk ed (gOf_some.mpr ⟨e1, e2.symm⟩))
def spAllOf (C : Addr) : Sp := fun vs H Q _ => ∃ (c : Cfg) (Zp : Addr → Prop) (now : Int) (T : Str → Option Int), vs = [.ref c.p] ∧ Wheel C c H Zp now T ∧ Few 1000 T ∧
  ∀ (H' : Hp) (p : Addr) (ys : List V) (ms : List (Int × Str)), Same H H' → H p = none → H' p = some (.lst ys) → Paired (IsTN H' fun _ => False) ys ms → (∀ m, m ∈ ms ↔ T m.2 = some m.1) → ms.length ≤ 1000 → Q (.ref p) H'
theorem scAllOf : FnScope ["self", "name", "time"] ["self"] (defScope sAllOf) := ⟨rfl, rfl, rfl, by decide +kernel, rfl, by decide +kernel, by decide +kernel⟩
theorem names_get {kvs : List (Key × V)} {f : Str → Option V} (h : DictIs kvs f) {i : Nat} {p : Key × V} (hi : kvs[i]? = some p) : ∃ s, p.1 = Sum.inr s ∧ (namesOf kvs)[i]? = some s ∧ f s = some p.2 := by
  obtain ⟨s, e⟩ := h.inr (List.mem_of_getElem? hi)
  have h1 : (kvs.map (·.1))[i]? = some (Sum.inr s) := by
    rw [List.getElem?_map, hi, ← e]
    all_goals rfl
  rw [h.keys, List.getElem?_map] at h1
  refine ⟨s, e, ?_, ?_⟩
  · cases q : (namesOf kvs)[i]? with
    | none =>
      rw [q] at h1
      cases h1
    | some x =>
      rw [q] at h1
      have := Sum.inr.inj (Option.some.inj h1)
      rw [this]
  · rw [← h.at_, ← e]
    exact val_nodup h.nd p (List.mem_of_getElem? hi)
theorem ok_all_of (F : Fun K "all_of" "Waits.all_of" sAllOf f fd) (T : Txt K mg C) : FnOk P w K mg base CX0 1 f fd ["self"] (spAllOf C) := by
  refine F.ok scAllOf (fun vs H Q E h => ?_) (fun cdv A outer s H vs Q E hr h => ?_)
  · obtain ⟨c, Zp, now, Ti, rfl, _⟩ := h
    rfl
  · obtain ⟨c, Zp, now, Ti, rfl, ⟨Z, Fl, tkv, x⟩, hfew, q⟩ := h
    obtain ⟨dx, h1⟩ := x.I.ob
    have nd := scAllOf.nd
    refine ⟨_, pss_one (ps_ret (pe_callB cr_sortIS (by rfl) T.sorted (by decide +kernel) (pa_cons (pe_lock (pe_lc (own := [("name", 1), ("time", 2)]) (g := gTup K 2 (gCons (gName 1) (gCons (gName 2) gNil))) (by rfl) nd (pi_items (pe_fld (pv 0) rfl))
      (blkOk_by (own := [("name", 1), ("time", 2)]) (N := ["self", "name", "time"]) (sc := defScope sAllOf) (by decide +kernel))
      (fun _ _ _ _ _ => pg_tup rfl (pgs_cons (pg_name (i := 1) nd rfl (Or.inl rfl) (hf := Or.inr rfl)) (pgs_cons (pg_name (i := 2) nd rfl (Or.inl rfl) (hf := Or.inr rfl)) pgs_nil))) (fun _ _ _ _ _ => pts_nil) (fun _ _ _ _ _ => pe_tup (pa_cons (pv 2) (pa_cons (pv 1) pa_nil))))) pa_nil))), ?_⟩
    have ltk : tkv.length ≤ 1000 := hfew.len x.td fun s z => by unfold flF at z; rw [Option.isSome_map] at z; exact z
    have npt : c.p ≠ c.tm := ne_of h1 x.tm fun z => nomatch z
    refine ⟨c.tm, _, x.tm, trivial, fun od => ?_⟩
    refine ⟨_, rfl, c.p, C, dx, _, _, rfl, upd_at h1 npt, T.cl, T.nTimes, flds_times _ _, c.tm, od, tkv, rfl, upd_same, fun D hD => ?_⟩
    have nDt : D ≠ c.tm := fun z => by rw [z, upd_same] at hD; cases hD
    have hDH : H D = none := by rw [upd_ne nDt] at hD; exact hD
    refine lc_it walk_items (fun i H' => ∃ (acc : List V) (ms : List (Int × Str)), H' D = some (.lst acc) ∧ H' c.tm = some (.frz od (.dK tkv)) ∧ (∀ b o, H b = some o → b ≠ c.tm → H' b = some o) ∧ Paired (IsTN H' fun _ => False) acc ms ∧ acc.length = i ∧
      ms.map (·.2) = (namesOf tkv).take i ∧ ∀ m ∈ ms, Ti m.2 = some m.1) ?_ ?_ ?_ ?_
    · exact ⟨[], [], upd_same, upd_at upd_same nDt.symm, fun b o h n => upd_at (upd_at h n) (ne_of_none h hDH), .nil, rfl, by simp, fun m hm => by cases hm⟩
    · rintro i H' _ ⟨acc, ms, _, h, _⟩
      exact h
    · rintro i y H' H'' hi ⟨acc, ms, hacc, htm, hk, hp, hl, hms, hT⟩ ⟨g, u, v, rfl, hg, rfl, e1, e2⟩
      obtain ⟨p, hpi⟩ : ∃ p, tkv[i]? = some p := ⟨tkv[i], List.getElem?_eq_getElem hi⟩
      dsimp only at e1 e2
      rw [hpi] at e1 e2
      have e1' : u = kV p.1 := (Option.some.inj e1).symm
      have e2' : v = p.2 := (Option.some.inj e2).symm
      obtain ⟨name, e3, e4, e5⟩ := names_get x.td hpi
      obtain ⟨t, e6, e7⟩ : ∃ t, Ti name = some t ∧ p.2 = V.int t := by
        unfold flF at e5
        cases z : Ti name with
        | none =>
          rw [z] at e5
          cases e5
        | some t =>
          rw [z] at e5
          exact ⟨t, rfl, (Option.some.inj e5).symm⟩
      subst e1' e2'
      rw [e3, e7]
      have sg := same_new (o := .tup [kV (Sum.inr name), .int t]) hg
      refine ⟨g, _, rfl, SqT.of upd_same, rfl, _, _, rfl, _, _, rfl, rfl, rfl, ?_⟩
      unfold tYes
      refine iteT ?_
      refine ⟨_, rfl, _, rfl, (by show 2 ≤ sizeLine; decide), fun b hb => ?_⟩
      have sb := same_new (o := .tup [.int t, .str name]) hb
      have nDb : D ≠ b := ne_of_none (sg _ _ hacc) hb
      have nbD : b ≠ D := nDb.symm
      refine ⟨acc, upd_at (sg _ _ hacc) nDb, line1000 (by omega), ?_⟩
      have D2 := upd_at (o := .tup [.int t, .str name]) (sg _ _ hacc) nDb
      refine ⟨acc ++ [.ref b], ms ++ [(t, name)], upd_same, upd_at (sb _ _ (sg _ _ htm)) nDt.symm, fun b' o h n => upd_at (sb _ _ (sg _ _ (hk b' o h n))) (ne_of_none h hDH), ?_, by rw [List.length_append, hl]; rfl, ?_, fun m hm => ?_⟩
      · refine isTN_upd (o := .lst acc) D2 (fun _ z => nomatch z) (Paired.snoc ?_ ⟨b, rfl, upd_same, fun z => z⟩)
        exact isTN_keeps (Keeps.same sb) (isTN_keeps (Keeps.same sg) hp)
      · rw [List.map_append, hms, List.take_add_one, e4]
        all_goals rfl
      · rcases List.mem_append.mp hm with z | z
        · exact hT m z
        · rw [List.mem_singleton.mp z]
          exact e6
    · rintro H' ⟨acc, ms, hacc, htm, hk, hp, hl, hms, hT⟩
      refine ⟨htm, ?_⟩
      rw [← x.td.names_len, List.take_length] at hms
      have D2 : upd H' c.tm (.dK tkv) D = some (.lst acc) := upd_at hacc nDt
      have hp2 : Paired (IsTN (upd H' c.tm (.dK tkv)) fun _ => False) acc ms := isTN_upd htm (fun _ z => nomatch z) hp
      have sm : Same H (upd H' c.tm (.dK tkv)) := fun b o h => by
        by_cases e : b = c.tm
        · rw [e, x.tm] at h
          rw [e, upd_same, h]
        · exact upd_at (hk b o h e) e
      refine ⟨D, acc, rfl, SqL.of D2, fun y hy => ?_, fun ys p hperm hpn => ?_⟩
      · obtain ⟨m, _, a, e1, e2, _⟩ := paired_mem hp2 y hy
        exact ⟨a, m.1, m.2, e1, e2⟩
      · obtain ⟨ms', h3, h4⟩ := paired_perm hperm hp2
        have sp := same_new (o := .lst ys) hpn
        refine q _ p ys ms' (fun b o h => sp _ _ (sm b o h)) ?_ upd_same (isTN_keeps (Keeps.same sp) h3) (fun m => ?_) ?_
        · cases e : H p with
          | none => rfl
          | some o =>
            have := sm _ _ e
            rw [hpn] at this
            cases this
        · rw [h4.mem_iff]
          constructor
          · exact hT m
          · intro z
            have h5 : m.2 ∈ namesOf tkv := (x.td.mem_names m.2).mpr (by unfold flF; rw [z]; rfl)
            rw [← hms] at h5
            obtain ⟨m', h6, h7⟩ := List.mem_map.mp h5
            have h8 := hT m' h6
            rw [h7, z] at h8
            have : m' = m := Prod.ext (Option.some.inj h8).symm h7
            rw [← this]
            exact h6
        · rw [h4.length_eq]
          have h5 := congrArg List.length hms
          rw [List.length_map, x.td.names_len] at h5
          omega
end
end Wk

namespace Wk
open PySem L2 Wr
structure TxtG (mg : Str → Option Value) : Prop where
  isi : mg "isinstance" = none
  int_ : mg "int" = none
  bool_ : mg "bool" = none
  all_ : mg "all" = none
  most : ∃ t, mg "MOST" = some (.int 6 t)
  least : ∃ t, mg "LEAST_ROUND" = some (.int 2 t)
  great : ∃ t, mg "GREATEST_ROUND" = some (.int 60 t)
section
variable {P : Program} {w : World} {K : PySem.W.Frag} {mg : Str → Option Value} {base : Heap} {C f : Addr} {fd : FuncData}
def spIsWhole : Sp := fun vs H Q _ => ∃ i : Int, vs = [.int i] ∧ Q (.bl true) H
theorem scIsWhole : FnScope ["thing"] ["thing"] (defScope sIsWhole) := ⟨rfl, rfl, rfl, by decide +kernel, rfl, by decide +kernel, by decide +kernel⟩
theorem ok_is_whole (F : Fun K "is_whole" "is_whole" sIsWhole f fd) (G : TxtG mg) : FnOk P w K mg base CX0 1 f fd ["thing"] spIsWhole := by
  refine F.ok scIsWhole (fun vs H Q E h => ?_) (fun cdv A outer s H vs Q E hr h => ?_)
  · obtain ⟨i, rfl, _⟩ := h
    rfl
  · obtain ⟨i, rfl, q⟩ := h
    refine ⟨_, pss_one (ps_ret (pe_and (pe_callB call_isi (by rfl) G.isi (by decide +kernel) (pa_cons (pv 0) (pa_cons (pe_bltn (v := .ty "int") (by rfl) G.int_ (by decide +kernel) rfl) pa_nil)))
      (pe_one (pe_not (pe_callB call_isi (by rfl) G.isi (by decide +kernel) (pa_cons (pv 0) (pa_cons (pe_bltn (v := .ty "bool") (by rfl) G.bool_ (by decide +kernel) rfl) pa_nil))))))), ?_⟩
    refine ⟨_, rfl, _, _, _, _, true, rfl, .ty "int", .base (.int i), kit_ty (by decide +kernel), true, rfl, ?_⟩
    refine iteT ?_
    exact ⟨_, rfl, _, _, _, _, false, rfl, .ty "bool", .base (.int i), kit_ty (by decide +kernel), false, rfl, q⟩
def spAreRounds (K : PySem.W.Frag) : Sp := fun vs H Q _ => ∃ (l : Addr) (n : Nat) (rr : Nat → Int), vs = [.ref l] ∧ SqL K H l (rl n fun k => .int (rr k)) ∧ 1 ≤ n ∧ n ≤ 6 ∧ (∀ k, k < n → 2 ≤ rr k ∧ rr k ≤ 60) ∧ ∀ H', Same H H' → Q (.bl true) H'
theorem scAreRounds : FnScope ["rounds", "many"] ["rounds"] (defScope sAreRounds) := ⟨rfl, rfl, rfl, by decide +kernel, rfl, by decide +kernel, by decide +kernel⟩
theorem dp_ints {H : Hp} : ∀ ns : List Int, DpAll K H (ns.map V.int) (ns.map PyData.int)
  | [] => .nil
  | n :: r => .cons (.int n) (dp_ints r)
theorem rl_ints {n : Nat} {rr : Nat → Int} : (rl n fun k => V.int (rr k)) = ((List.range n).map rr).map V.int := by
  unfold rl
  rw [List.map_map]
  all_goals rfl
theorem ok_are_rounds (F : Fun K "are_rounds" "are_rounds" sAreRounds f fd) (T : Txt K mg C) (G : TxtG mg) (GW : GOk P w K mg base "is_whole" 1 ["thing"] spIsWhole) : FnOk P w K mg base CX0 2 f fd ["rounds"] (spAreRounds K) := by
  refine F.ok scAreRounds (fun vs H Q E h => ?_) (fun cdv A outer s H vs Q E hr h => ?_)
  · obtain ⟨l, n, rr, rfl, _⟩ := h
    rfl
  · obtain ⟨l, n, rr, rfl, hl, h1, h6, hb, q⟩ := h
    obtain ⟨t6, g6⟩ := G.most
    obtain ⟨t2, g2⟩ := G.least
    obtain ⟨t60, g60⟩ := G.great
    have nd := scAreRounds.nd
    refine ⟨_, pss_cons (ps_if (PW.pt (pw_or (pt_cmpR (op_eqD hr.units) (pv 0) (pe_lst pa_nil) (nomark _)) (pw_or1 (pt_cmpR op_gt (pe_callB call_len_seq (by rfl) T.len PySem.boot_len (pa_cons (pv 0) pa_nil)) (pe_glob (v := .int 6) (by rfl) g6 ⟨_, rfl⟩) (nomark _))))) (pss_one ps_never) pss_nil)
      (pss_one (ps_ret (pe_callB (cr_all rfl) (by rfl) G.all_ (by decide +kernel) (pa_cons (pe_lc (own := [("many", 1)]) (g := gName 1) (by rfl) nd (pi_list (pv 0))
        (blkOk_by (own := [("many", 1)]) (N := ["rounds", "many"]) (sc := defScope sAreRounds) (by decide +kernel))
        (fun _ _ _ _ _ => pg_name (i := 1) nd rfl (Or.inl rfl)) (fun _ _ _ _ _ => pts_nil)
        (fun _ _ _ _ _ => pe_and (pe_go GW hr (by rfl) (pa_cons (pv 1) pa_nil)) (pe_one (pe_chain op_le op_le (pe_glob (v := .int 2) (by rfl) g2 ⟨_, rfl⟩) (pv 1) (pe_glob (v := .int 60) (by rfl) g60 ⟨_, rfl⟩))))) pa_nil)))), ?_⟩
    refine ⟨_, rfl, Nat.zero_le _, fun e he => ?_⟩
    have se := same_new (o := .lst []) he
    have hl1 : SqL K (upd H e (.lst [])) l (rl n fun k => .int (rr k)) := Same.seq se hl
    refine ⟨.list (((List.range n).map rr).map PyData.int), .list [], .lst hl1 (by rw [rl_ints]; exact dp_ints _), .lst (SqL.of upd_same) .nil, PySem.W.ke_shaped_ints _, by decide, _, rfl, ?_⟩
    have ee : PyData.eqv (.list (((List.range n).map rr).map PyData.int)) (.list []) = false := by
      cases hn : (List.range n).map rr with
      | nil =>
        have := congrArg List.length hn
        rw [List.length_map, List.length_range] at this
        simp at this
        omega
      | cons a r =>
        show PyData.eqvAll (PyData.int a :: r.map PyData.int) [] = false
        rfl
    rw [ee]
    refine iteF ?_
    refine ⟨_, rfl, l, _, rfl, .inl hl1, ?_⟩
    rw [rl_len]
    refine ⟨_, _, rfl, rfl, _, rfl, ?_⟩
    rw [decide_eq_false (by omega)]
    refine iteF ?_
    refine ⟨_, rfl, l, rfl, ⟨_, hl1⟩, fun D hD => ?_⟩
    have hDH : H D = none := by
      cases z : H D with
      | none => rfl
      | some o =>
        have := se _ _ z
        rw [hD] at this
        cases this
    refine lc_list (K := K) (a := l) (xs := rl n fun k => .int (rr k)) (fun i H' => H' D = some (.lst ((List.replicate i true).map V.bl)) ∧ Same H H') ⟨upd_same, fun b o h => upd_at (se _ _ h) (ne_of_none h hDH)⟩ (fun i H' _ ⟨_, s1⟩ => Same.seq s1 hl) ?_ ?_
    · rintro i y H' hi ⟨hd, s1⟩
      have hin : i < n := by
        have := (List.getElem?_eq_some_iff.mp hi).1
        rw [rl_len] at this
        exact this
      rw [rl_get hin] at hi
      cases hi
      obtain ⟨b1, b2⟩ := hb i hin
      refine ⟨rfl, ?_⟩
      unfold tYes
      refine iteT ?_
      refine ⟨_, rfl, rr i, rfl, true, rfl, ?_⟩
      refine iteT ?_
      refine ⟨_, rfl, _, _, rfl, rfl, _, rfl, ?_⟩
      rw [decide_eq_true b1]
      refine iteT ?_
      refine ⟨_, _, rfl, rfl, _, hd, ?_, ?_, ?_⟩
      · rw [List.length_map, List.length_replicate]
        exact line1000 (by omega)
      · rw [upd_same]
        show some (HO.lst (List.map V.bl (List.replicate i true) ++ [V.bl (decide (rr i ≤ 60))])) = _
        rw [decide_eq_true b2, List.replicate_succ', List.map_append]
        all_goals rfl
      · exact fun b o h => upd_at (s1 _ _ h) (ne_of_none h hDH)
    · rintro H' ⟨hd, s1⟩
      rw [rl_len] at hd
      refine ⟨D, List.replicate n true, rfl, SqL.of hd, ?_⟩
      have : (List.replicate n true).all id = true := by
        rw [List.all_eq_true]
        intro x hx
        rw [(List.mem_replicate.mp hx).2]
        all_goals rfl
      rw [this]
      exact q H' s1
end
end Wk

namespace Wk
open PySem L2 Wr
theorem putF_snoc {f : Str} {v : V} : ∀ {l : List (Str × V)}, f ∉ l.map (·.1) → putF f v l = l ++ [(f, v)]
  | [], _ => rfl
  | (g, x) :: r, h => by
    have h1 : ¬ g = f := fun e => h (by rw [e]; exact List.mem_cons_self)
    show (if g = f then (g, v) :: r else (g, x) :: putF f v r) = _
    rw [if_neg h1, putF_snoc fun m => h (List.mem_cons_of_mem _ m)]
    all_goals rfl
theorem fstep {H : Hp} {p a : Addr} {o u v : HO} (hp : H p = some u) (ha : H a = none) : (upd (upd H a o) p v) p = some v ∧ (upd (upd H a o) p v) a = some o ∧ ∀ b w, H b = some w → b ≠ p → (upd (upd H a o) p v) b = some w :=
  ⟨upd_same, upd_at upd_same (ne_of_none hp ha).symm, fun _ _ h n => upd_at (upd_at h (ne_of_none h ha)) n⟩
theorem SqL.off {K : PySem.W.Frag} {H H' : Hp} {p l : Addr} {xs : List V} (k : ∀ b o, H b = some o → b ≠ p → H' b = some o) (n : l ≠ p) (h : SqL K H l xs) : SqL K H' l xs := by
  rcases h with (h | ⟨o, h⟩) | h
  · exact .inl (.inl (k _ _ h n))
  · exact .inl (.inr ⟨o, k _ _ h n⟩)
  · exact .inr h
def uuOf (rr : Nat → Int) : Nat → Int
  | 0 => 1
  | k + 1 => uuOf rr k * rr k
section
variable {P : Program} {w : World} {K : PySem.W.Frag} {mg : Str → Option Value} {base : Heap} {C f : Addr} {fd : FuncData}
theorem FunD.ok0 {x qual : Str} {st : Stmt} {dvs : List V} {kws : List (Str × V)} {N ps : List Str} {k : Nat} {sp : Sp} (F : FunD K x qual (defArgs st) (defBody st) (defScope st) dvs kws f fd) (S : FnScope N ps (defScope st)) (len : ∀ vs H Q E, sp vs H Q E → vs.length = ps.length)
    (hbody : ∀ (cdv : Value) (A : Around) (outer : List Env) (s : Shared) (H : Hp) (vs : List V) (Q : VK) (E : XK), Room k (A.deeper (PyProof.Rows.envOfC qual (defScope st) s.heap.objs.size f cdv)) → sp vs H Q E →
      ∃ t, PSs (cxOf CX0 P w K mg base N qual (defScope st) f cdv A outer s H E).nox (defBody st) t ∧ t { nx := fun _ H' => Q .non H', rt := Q } (L2.start N vs) H) : FnOk P w K mg base CX0 (k + 1) f fd ps sp := by
  refine F.ok S len fun cdv A outer s H vs Q E hr hsp => ?_
  obtain ⟨t, h, q⟩ := hbody cdv A outer s H vs Q E hr hsp
  exact ⟨t, h.nox, q⟩
def spWInit (C : Addr) : Sp := fun vs H Q _ => ∃ (p dx : Addr) (now : Int), vs = [.ref p, .int now] ∧ H p = some (.ins C dx []) ∧
  ∀ (tm : Addr) (H' : Hp), H tm = none → H' p = some (.ins C dx [("now", .int now), ("times", .ref tm)]) → H' tm = some (.dK []) → (∀ b o, H b = some o → b ≠ p → H' b = some o) → Q .non H'
theorem scWInit : FnScope ["self", "now"] ["self", "now"] (defScope sWInit) := ⟨rfl, rfl, rfl, by decide +kernel, rfl, by decide +kernel, by decide +kernel⟩
theorem ok_winit (F : FunD K "__init__" "Waits.__init__" (defArgs sWInit) (defBody sWInit) (defScope sWInit) [.int 0] [] f fd) (T : Txt K mg C) : FnOk P w K mg base CX0 1 f fd ["self", "now"] (spWInit C) := by
  refine FunD.ok0 F scWInit (fun vs H Q E h => ?_) (fun cdv A outer s H vs Q E hr h => ?_)
  · obtain ⟨p, dx, now, rfl, _⟩ := h
    rfl
  · obtain ⟨p, dx, now, rfl, hp, q⟩ := h
    refine ⟨_, pss_cons (ps_fld (pv 0) (pv 1) rfl) (pss_one (ps_fld (pv 0) pe_dnewK rfl)), ?_⟩
    refine ⟨_, rfl, _, rfl, p, C, dx, _, rfl, hp, T.cl, T.nNow, (by show 0 < 1000; decide), ?_⟩
    intro tm htm
    have npt : p ≠ tm := ne_of_none upd_same htm
    refine ⟨_, rfl, p, C, dx, _, rfl, upd_at upd_same npt, T.cl, T.nTimes, (by show 1 < 1000; decide), ?_⟩
    refine q tm _ (by rw [upd_ne npt.symm] at htm; exact htm) ?_ (upd_at upd_same npt.symm) fun b o h n => ?_
    · rw [upd_same]
      show some (HO.ins C dx (putF "times" (.ref tm) [("now", .int now)])) = _
      rw [putF_snoc (show ("times" : Str) ∉ (["now"] : List Str) by decide +kernel)]
      all_goals rfl
    · have h2 : upd H p (.ins C dx (putF "now" (.int now) [])) b = some o := upd_at h n
      exact upd_at (upd_at h2 (ne_of_none h2 htm)) n
theorem binds_winit (F : FunD K "__init__" "Waits.__init__" (defArgs sWInit) (defBody sWInit) (defScope sWInit) [.int 0] [] f fd) : Binds K fd ["self", "now"] [] := by
  obtain ⟨ds, r, b⟩ := F.binds1 (ps := ["self", "now"]) 2 1 (by simp) rfl fun T kV doc pm an cdv ct us its h1 h2 => match us, its, h1, h2 with
    | [_, _], [_], _, _ => ⟨_, rfl, rfl⟩
  cases r
  exact b
def spInit (K : PySem.W.Frag) (C : Addr) : Sp := fun vs H Q _ => ∃ (p dx l : Addr) (n : Nat) (rr : Nat → Int) (now : Int), vs = [.ref p, .ref l, .int now] ∧ H p = some (.ins C dx []) ∧ SqL K H l (rl n fun k => .int (rr k)) ∧ l ≠ p ∧ 1 ≤ n ∧ n ≤ 6 ∧ (∀ k, k < n → 2 ≤ rr k ∧ rr k ≤ 60) ∧
  ∀ (H' : Hp) (c : Cfg) (Zp : Addr → Prop), c.p = p → c.n = n → c.rr = rr → c.uu = uuOf rr → Wheel C c H' Zp now (fun _ => none) → (∀ b o, H b = some o → b ≠ p → H' b = some o) → (∀ b, Zp b → H b = none ∨ b = p) → Q .non H'
theorem scInit : FnScope ["self", "rounds", "now", "many"] ["self", "rounds", "now"] (defScope sInit) := ⟨rfl, rfl, rfl, by decide +kernel, rfl, by decide +kernel, by decide +kernel⟩
theorem binds_init (F : FunD K "__init__" "Wheels.__init__" (defArgs sInit) (defBody sInit) (defScope sInit) [.int 0] [] f fd) : Binds K fd ["self", "rounds", "now"] [] := by
  obtain ⟨ds, r, b⟩ := F.binds1 (ps := ["self", "rounds", "now"]) 3 1 (by simp) rfl fun T kV doc pm an cdv ct us its h1 h2 => match us, its, h1, h2 with
    | [_, _, _], [_], _, _ => ⟨_, rfl, rfl⟩
  cases r
  exact b
theorem ok_init {CW fW : Addr} {mc : Value} {fdW : FuncData} (F : FunD K "__init__" "Wheels.__init__" (defArgs sInit) (defBody sInit) (defScope sInit) [.int 0] [] f fd) (T : Txt K mg C) (GA : GOk P w K mg base "are_rounds" 2 ["rounds"] (spAreRounds K))
    (mgW : mg "Waits" = some (.ref CW)) (CF : ClsFn K CW mc "__init__" fW) (FW : FunD K "__init__" "Waits.__init__" (defArgs sWInit) (defBody sWInit) (defScope sWInit) [.int 0] [] fW fdW) : FnOk P w K mg base CX0 3 f fd ["self", "rounds", "now"] (spInit K C) := by
  have GW : FnOk P w K mg base CX0 1 fW fdW ["self", "now"] (spWInit C) := ok_winit FW T
  refine FunD.ok0 F scInit (fun vs H Q E h => ?_) (fun cdv A outer s H vs Q E hr h => ?_)
  · obtain ⟨p, dx, l, n, rr, now, rfl, _⟩ := h
    rfl
  · obtain ⟨p, dx, l, n, rr, now, rfl, hp, hl, hlp, n1, n6, hb, q⟩ := h
    have nd := scInit.nd
    refine ⟨_, pss_cons (ps_if (pt_not (pt_val (pe_go GA hr (by rfl) (pa_cons (pv 1) pa_nil)))) (pss_one ps_never) pss_nil)
      (pss_cons (ps_expr (pe_cfn (pe_glob (v := .ref CW) (by rfl) mgW rfl) CF GW (hr.mono (by decide)) (binds_winit FW) .nil pass0 (pa_cons (pv 0) (pa_cons (pv 2) pa_nil))))
      (pss_cons (ps_fld (pv 0) (pe_callTy call_list_of (by rfl) T.list (by decide +kernel) (pa_cons (pv 1) pa_nil)) rfl)
      (pss_cons (ps_fld (pv 0) (pe_lst (pa_cons pe_int pa_nil)) rfl)
      (pss_cons (ps_for PassesOwn.never rfl (pi_list (pv 1)) (pg_name (i := 3) nd rfl (Or.inl rfl))
        (pss_one (ps_expr (pe_bm PySem.F.plainAttrs_list PySem.F.slot_list_append PySem.F.type_list_append mt_append (pe_fld (pv 0) rfl) (pa_cons (pe_op op_mul (pe_ix ix_list (pe_fld (pv 0) rfl) (pe_un un_neg pe_int) (fun _ _ => rfl)) (pv 3)) pa_nil)))))
      (pss_cons (ps_fld (pv 0) (pe_lc (own := [("many", 3)]) (g := gName 3) (by rfl) nd (pi_list (pv 1)) (blkOk_by (own := [("many", 3)]) (N := ["self", "rounds", "now", "many"]) (sc := defScope sInit) (by decide +kernel))
        (fun _ _ _ _ _ => pg_name (i := 3) nd rfl (Or.inl rfl)) (fun _ _ _ _ _ => pts_nil) (fun _ _ _ _ _ => pe_int)) rfl)
      (pss_cons (ps_fld (pv 0) pe_dnewT rfl)
      (pss_cons (ps_fld (pv 0) pe_dnewK rfl)
      (pss_cons (ps_fld (pv 0) pe_dnewK rfl)
      (pss_one (ps_fld (pv 0) pe_dnewK rfl)))))))))), ?_⟩
    refine ⟨_, rfl, l, n, rr, rfl, hl, n1, n6, hb, fun H1 s1 => ⟨true, rfl, ?_⟩⟩
    refine iteF ?_
    refine ⟨rfl, _, rfl, _, rfl, p, dx, now, rfl, s1 _ _ hp, fun tm H2 tm1 p2 tm2 k2 => ?_⟩
    have kk2 : ∀ b o, H b = some o → b ≠ p → H2 b = some o := fun b o h n => k2 b o (s1 _ _ h) n
    have htm : H tm = none := by
      cases z : H tm with
      | none => rfl
      | some o =>
        have := s1 _ _ z
        rw [tm1] at this
        cases this
    have free : ∀ {Hx : Hp} {a : Addr}, (∀ b o, H b = some o → b ≠ p → Hx b = some o) → (∃ o, Hx p = some o) → Hx a = none → H a = none := fun {Hx a} k hpx ha => by
      cases z : H a with
      | none => rfl
      | some o =>
        have n : a ≠ p := fun e => by
          obtain ⟨o', h'⟩ := hpx
          rw [e, h'] at ha
          cases ha
        have := k _ _ z n
        rw [ha] at this
        cases this
    refine ⟨_, rfl, l, _, rfl, .inl (SqL.off kk2 hlp hl), fun rd rd2 => ?_⟩
    have hrd := free kk2 ⟨_, p2⟩ rd2
    refine ⟨_, rfl, p, C, dx, _, rfl, upd_at p2 (ne_of_none p2 rd2), T.cl, T.nRounds, (by show 2 < 1000; decide), ?_⟩
    rw [putF_snoc (show ("rounds" : Str) ∉ (["now", "times"] : List Str) by decide +kernel)]
    obtain ⟨p3, rd3, k3⟩ := fstep (o := .lst (rl n fun k => .int (rr k))) (v := .ins C dx ((([("now", V.int now), ("times", V.ref tm)] : List (Str × V)) ++ ([("rounds", V.ref rd)] : List (Str × V))))) p2 rd2
    have tm3 := k3 _ _ tm2 (ne_of tm2 p2 fun z => nomatch z)
    have kk3 : ∀ b o, H b = some o → b ≠ p → _ := fun b o h n => k3 b o (kk2 b o h n) n
    have nrt : rd ≠ tm := (ne_of_none tm2 rd2).symm
    generalize upd (upd H2 rd (.lst (rl n fun k => .int (rr k)))) p (.ins C dx ((([("now", V.int now), ("times", V.ref tm)] : List (Str × V)) ++ ([("rounds", V.ref rd)] : List (Str × V))))) = H3 at p3 rd3 k3 tm3 kk3
    refine ⟨(by show 1 ≤ sizeLine; decide), fun un un3 => ?_⟩
    have hun := free kk3 ⟨_, p3⟩ un3
    refine ⟨_, rfl, p, C, dx, _, rfl, upd_at p3 (ne_of_none p3 un3), T.cl, T.nUnits, (by show 3 < 1000; decide), ?_⟩
    rw [putF_snoc (show ("units" : Str) ∉ (["now", "times", "rounds"] : List Str) by decide +kernel)]
    obtain ⟨p4, un4, k4⟩ := fstep (o := .lst [V.int 1]) (v := .ins C dx ((([("now", V.int now), ("times", V.ref tm)] : List (Str × V)) ++ ([("rounds", V.ref rd)] : List (Str × V))) ++ ([("units", V.ref un)] : List (Str × V)))) p3 un3
    have tm4 := k4 _ _ tm3 (ne_of tm3 p3 fun z => nomatch z)
    have rd4 := k4 _ _ rd3 (ne_of rd3 p3 fun z => nomatch z)
    have kk4 : ∀ b o, H b = some o → b ≠ p → _ := fun b o h n => k4 b o (kk3 b o h n) n
    have nur : un ≠ rd := (ne_of_none rd3 un3).symm
    have nut : un ≠ tm := (ne_of_none tm3 un3).symm
    generalize upd (upd H3 un (.lst [V.int 1])) p (.ins C dx ((([("now", V.int now), ("times", V.ref tm)] : List (Str × V)) ++ ([("rounds", V.ref rd)] : List (Str × V))) ++ ([("units", V.ref un)] : List (Str × V)))) = H4 at p4 un4 k4 tm4 rd4 kk4
    have look4 : ((([("now", V.int now), ("times", V.ref tm)] : List (Str × V)) ++ ([("rounds", V.ref rd)] : List (Str × V))) ++ ([("units", V.ref un)] : List (Str × V)) : List (Str × V)).lookup ("units" : Str) = some (V.ref un) := (look_miss (by decide +kernel)).trans ((look_miss (by decide +kernel)).trans ((look_miss (by decide +kernel)).trans look_hit))
    refine ⟨_, rfl, l, rfl, ⟨_, SqL.off kk4 hlp hl⟩, for_list (K := K) (a := l) (xs := rl n fun k => .int (rr k)) (fun i σ H' => ∃ v, σ = [some (.ref p), some (.ref l), some (.int now), v] ∧ H' un = some (.lst (rl (i + 1) fun k => .int (uuOf rr k))) ∧ ∀ b o, H4 b = some o → b ≠ un → H' b = some o)
      ⟨none, rfl, un4, fun b o h _ => h⟩ (fun i σ H' _ ⟨_, _, _, k⟩ => SqL.off (p := p) (fun b o h n => k b o (kk4 b o h n) (ne_of_none h hun)) hlp hl) ?_ ?_⟩
    · rintro i y σ H' hi ⟨v, rfl, hu, k⟩
      have hin : i < n := by
        have := (List.getElem?_eq_some_iff.mp hi).1
        rw [rl_len] at this
        exact this
      rw [rl_get hin] at hi
      cases hi
      obtain ⟨b1, b2⟩ := hb i hin
      have hpp := k _ _ p4 (ne_of p4 un4 fun z => nomatch z)
      have at1 : atI (rl (i + 1) fun k => V.int (uuOf rr k)) (-1) = some (.int (uuOf rr i)) := by
        rw [rl_succ]
        exact atI_last _ _
      refine ⟨_, rfl, p, C, dx, _, _, rfl, hpp, T.cl, T.nUnits, look4, .inl ⟨rfl, _, SqL.of hu⟩, _, rfl, p, C, dx, _, _, rfl, hpp, T.cl, T.nUnits, look4, _, rfl, un, _, _, _, rfl, rfl, SqL.of hu, at1, _, rfl, _, _, rfl, rfl, .inr ⟨by omega, by omega⟩,
        un, _, _, rfl, rfl, hu, line1000 (by rw [rl_len]; omega), ?_⟩
      refine ⟨_, rfl, ?_, fun b o h n => upd_at (k b o h n) n⟩
      rw [upd_same, rl_succ (n := i + 1)]
      all_goals rfl
    · rintro σ H5 ⟨v, rfl, un5, k5⟩
      rw [rl_len] at un5
      have kk5 : ∀ b o, H b = some o → b ≠ p → H5 b = some o := fun b o h n => k5 b o (kk4 b o h n) (ne_of_none h hun)
      have p5 := k5 _ _ p4 (ne_of p4 un4 fun z => nomatch z)
      have tm5 := k5 _ _ tm4 nut.symm
      have rd5 := k5 _ _ rd4 nur.symm
      refine ⟨_, rfl, l, rfl, ⟨_, SqL.off kk5 hlp hl⟩, fun mk mk5 => ?_⟩
      have hmk := free kk5 ⟨_, p5⟩ mk5
      refine lc_list (K := K) (a := l) (xs := rl n fun k => .int (rr k)) (fun i H' => H' mk = some (.lst (rl i fun _ => .int 0)) ∧ Same H5 H') ⟨upd_same, same_new mk5⟩ (fun i H' _ ⟨_, s⟩ => SqL.off (p := p) (fun b o h n => s _ _ (kk5 b o h n)) hlp hl) ?_ ?_
      · rintro i y H' hi ⟨hm, s⟩
        have hin : i < n := by
          have := (List.getElem?_eq_some_iff.mp hi).1
          rw [rl_len] at this
          exact this
        rw [rl_get hin] at hi
        cases hi
        refine ⟨rfl, ?_⟩
        unfold tYes
        refine iteT ?_
        refine ⟨_, hm, line1000 (by rw [rl_len]; omega), by rw [upd_same, rl_succ], fun b o h => upd_at (s _ _ h) (ne_of_none h mk5)⟩
      · rintro H6 ⟨mk6, s6⟩
        rw [rl_len] at mk6
        have p6 := s6 _ _ p5
        refine ⟨_, rfl, p, C, dx, _, rfl, p6, T.cl, T.nMasks, (by show 4 < 1000; decide), ?_⟩
        rw [putF_snoc (show ("masks" : Str) ∉ (["now", "times", "rounds", "units"] : List Str) by decide +kernel)]
        have k7 : ∀ b o, H5 b = some o → b ≠ p → upd H6 p (.ins C dx ((([("now", V.int now), ("times", V.ref tm)] : List (Str × V)) ++ ([("rounds", V.ref rd)] : List (Str × V))) ++ ([("units", V.ref un)] : List (Str × V)) ++ ([("masks", V.ref mk)] : List (Str × V)))) b = some o := fun b o h n => upd_at (s6 _ _ h) n
        have p7 : upd H6 p (.ins C dx ((([("now", V.int now), ("times", V.ref tm)] : List (Str × V)) ++ ([("rounds", V.ref rd)] : List (Str × V))) ++ ([("units", V.ref un)] : List (Str × V)) ++ ([("masks", V.ref mk)] : List (Str × V)))) p = _ := upd_same
        have mk7 : upd H6 p (.ins C dx ((([("now", V.int now), ("times", V.ref tm)] : List (Str × V)) ++ ([("rounds", V.ref rd)] : List (Str × V))) ++ ([("units", V.ref un)] : List (Str × V)) ++ ([("masks", V.ref mk)] : List (Str × V)))) mk = _ := upd_at mk6 (ne_of mk6 p6 fun z => nomatch z)
        generalize upd H6 p (.ins C dx ((([("now", V.int now), ("times", V.ref tm)] : List (Str × V)) ++ ([("rounds", V.ref rd)] : List (Str × V))) ++ ([("units", V.ref un)] : List (Str × V)) ++ ([("masks", V.ref mk)] : List (Str × V)))) = H7 at k7 p7 mk7
        have kk7 : ∀ b o, H b = some o → b ≠ p → H7 b = some o := fun b o h n => k7 b o (kk5 b o h n) n
        have tm7 := k7 _ _ tm5 (ne_of tm5 p5 fun z => nomatch z)
        have rd7 := k7 _ _ rd5 (ne_of rd5 p5 fun z => nomatch z)
        have un7 := k7 _ _ un5 (ne_of un5 p5 fun z => nomatch z)
        have nmr : mk ≠ rd := (ne_of_none rd5 mk5).symm
        have nmu : mk ≠ un := (ne_of_none un5 mk5).symm
        intro sl sl7
        have hsl := free kk7 ⟨_, p7⟩ sl7
        refine ⟨_, rfl, p, C, dx, _, rfl, upd_at p7 (ne_of_none p7 sl7), T.cl, T.nSlots, (by show 5 < 1000; decide), ?_⟩
        rw [putF_snoc (show ("slots" : Str) ∉ (["now", "times", "rounds", "units", "masks"] : List Str) by decide +kernel)]
        obtain ⟨p8, sl8, k8⟩ := fstep (o := .dT []) (v := .ins C dx ((([("now", V.int now), ("times", V.ref tm)] : List (Str × V)) ++ ([("rounds", V.ref rd)] : List (Str × V))) ++ ([("units", V.ref un)] : List (Str × V)) ++ ([("masks", V.ref mk)] : List (Str × V)) ++ ([("slots", V.ref sl)] : List (Str × V)))) p7 sl7
        generalize upd (upd H7 sl (.dT [])) p (.ins C dx ((([("now", V.int now), ("times", V.ref tm)] : List (Str × V)) ++ ([("rounds", V.ref rd)] : List (Str × V))) ++ ([("units", V.ref un)] : List (Str × V)) ++ ([("masks", V.ref mk)] : List (Str × V)) ++ ([("slots", V.ref sl)] : List (Str × V)))) = H8 at p8 sl8 k8
        have kk8 : ∀ b o, H b = some o → b ≠ p → H8 b = some o := fun b o h n => k8 b o (kk7 b o h n) n
        have tm8 := k8 _ _ tm7 (ne_of tm7 p7 fun z => nomatch z)
        have rd8 := k8 _ _ rd7 (ne_of rd7 p7 fun z => nomatch z)
        have un8 := k8 _ _ un7 (ne_of un7 p7 fun z => nomatch z)
        have mk8 := k8 _ _ mk7 (ne_of mk7 p7 fun z => nomatch z)
        intro fr fr8
        have hfr := free kk8 ⟨_, p8⟩ fr8
        refine ⟨_, rfl, p, C, dx, _, rfl, upd_at p8 (ne_of_none p8 fr8), T.cl, T.nFar, (by show 6 < 1000; decide), ?_⟩
        rw [putF_snoc (show ("far" : Str) ∉ (["now", "times", "rounds", "units", "masks", "slots"] : List Str) by decide +kernel)]
        obtain ⟨p9, fr9, k9⟩ := fstep (o := .dK []) (v := .ins C dx ((([("now", V.int now), ("times", V.ref tm)] : List (Str × V)) ++ ([("rounds", V.ref rd)] : List (Str × V))) ++ ([("units", V.ref un)] : List (Str × V)) ++ ([("masks", V.ref mk)] : List (Str × V)) ++ ([("slots", V.ref sl)] : List (Str × V)) ++ ([("far", V.ref fr)] : List (Str × V)))) p8 fr8
        generalize upd (upd H8 fr (.dK [])) p (.ins C dx ((([("now", V.int now), ("times", V.ref tm)] : List (Str × V)) ++ ([("rounds", V.ref rd)] : List (Str × V))) ++ ([("units", V.ref un)] : List (Str × V)) ++ ([("masks", V.ref mk)] : List (Str × V)) ++ ([("slots", V.ref sl)] : List (Str × V)) ++ ([("far", V.ref fr)] : List (Str × V)))) = H9 at p9 fr9 k9
        have kk9 : ∀ b o, H b = some o → b ≠ p → H9 b = some o := fun b o h n => k9 b o (kk8 b o h n) n
        have tm9 := k9 _ _ tm8 (ne_of tm8 p8 fun z => nomatch z)
        have rd9 := k9 _ _ rd8 (ne_of rd8 p8 fun z => nomatch z)
        have un9 := k9 _ _ un8 (ne_of un8 p8 fun z => nomatch z)
        have mk9 := k9 _ _ mk8 (ne_of mk8 p8 fun z => nomatch z)
        have sl9 := k9 _ _ sl8 (ne_of sl8 p8 fun z => nomatch z)
        intro ly ly9
        have hly := free kk9 ⟨_, p9⟩ ly9
        refine ⟨_, rfl, p, C, dx, _, rfl, upd_at p9 (ne_of_none p9 ly9), T.cl, T.nLying, (by show 7 < 1000; decide), ?_⟩
        rw [putF_snoc (show ("lying" : Str) ∉ (["now", "times", "rounds", "units", "masks", "slots", "far"] : List Str) by decide +kernel)]
        obtain ⟨pa, lya, ka⟩ := fstep (o := .dK []) (v := .ins C dx ((([("now", V.int now), ("times", V.ref tm)] : List (Str × V)) ++ ([("rounds", V.ref rd)] : List (Str × V))) ++ ([("units", V.ref un)] : List (Str × V)) ++ ([("masks", V.ref mk)] : List (Str × V)) ++ ([("slots", V.ref sl)] : List (Str × V)) ++ ([("far", V.ref fr)] : List (Str × V)) ++ ([("lying", V.ref ly)] : List (Str × V)))) p9 ly9
        generalize upd (upd H9 ly (.dK [])) p (.ins C dx ((([("now", V.int now), ("times", V.ref tm)] : List (Str × V)) ++ ([("rounds", V.ref rd)] : List (Str × V))) ++ ([("units", V.ref un)] : List (Str × V)) ++ ([("masks", V.ref mk)] : List (Str × V)) ++ ([("slots", V.ref sl)] : List (Str × V)) ++ ([("far", V.ref fr)] : List (Str × V)) ++ ([("lying", V.ref ly)] : List (Str × V)))) = Ha at pa lya ka
        have kka : ∀ b o, H b = some o → b ≠ p → Ha b = some o := fun b o h n => ka b o (kk9 b o h n) n
        have tma := ka _ _ tm9 (ne_of tm9 p9 fun z => nomatch z)
        have rda := ka _ _ rd9 (ne_of rd9 p9 fun z => nomatch z)
        have una := ka _ _ un9 (ne_of un9 p9 fun z => nomatch z)
        have mka := ka _ _ mk9 (ne_of mk9 p9 fun z => nomatch z)
        have sla := ka _ _ sl9 (ne_of sl9 p9 fun z => nomatch z)
        have fra := ka _ _ fr9 (ne_of fr9 p9 fun z => nomatch z)
        intro fl fla
        have hfl := free kka ⟨_, pa⟩ fla
        refine ⟨_, rfl, p, C, dx, _, rfl, upd_at pa (ne_of_none pa fla), T.cl, T.nFalls, (by show 8 < 1000; decide), ?_⟩
        rw [putF_snoc (show ("falls" : Str) ∉ (["now", "times", "rounds", "units", "masks", "slots", "far", "lying"] : List Str) by decide +kernel)]
        obtain ⟨pb, flb, kb⟩ := fstep (o := .dK []) (v := .ins C dx ((([("now", V.int now), ("times", V.ref tm)] : List (Str × V)) ++ ([("rounds", V.ref rd)] : List (Str × V))) ++ ([("units", V.ref un)] : List (Str × V)) ++ ([("masks", V.ref mk)] : List (Str × V)) ++ ([("slots", V.ref sl)] : List (Str × V)) ++ ([("far", V.ref fr)] : List (Str × V)) ++ ([("lying", V.ref ly)] : List (Str × V)) ++ ([("falls", V.ref fl)] : List (Str × V)))) pa fla
        generalize upd (upd Ha fl (.dK [])) p (.ins C dx ((([("now", V.int now), ("times", V.ref tm)] : List (Str × V)) ++ ([("rounds", V.ref rd)] : List (Str × V))) ++ ([("units", V.ref un)] : List (Str × V)) ++ ([("masks", V.ref mk)] : List (Str × V)) ++ ([("slots", V.ref sl)] : List (Str × V)) ++ ([("far", V.ref fr)] : List (Str × V)) ++ ([("lying", V.ref ly)] : List (Str × V)) ++ ([("falls", V.ref fl)] : List (Str × V)))) = Hb at pb flb kb
        have kkb : ∀ b o, H b = some o → b ≠ p → Hb b = some o := fun b o h n => kb b o (kka b o h n) n
        have tmb := kb _ _ tma (ne_of tma pa fun z => nomatch z)
        have rdb := kb _ _ rda (ne_of rda pa fun z => nomatch z)
        have unb := kb _ _ una (ne_of una pa fun z => nomatch z)
        have mkb := kb _ _ mka (ne_of mka pa fun z => nomatch z)
        have slb := kb _ _ sla (ne_of sla pa fun z => nomatch z)
        have frb := kb _ _ fra (ne_of fra pa fun z => nomatch z)
        have lyb := kb _ _ lya (ne_of lya pa fun z => nomatch z)
        have a1 : ly ≠ fr := (ne_of_none fr9 ly9).symm
        have a2 : fl ≠ ly := (ne_of_none lya fla).symm
        have a3 : fl ≠ fr := (ne_of_none fra fla).symm
        have a4 : tm ≠ fr := ne_of_none tm8 fr8
        have a5 : tm ≠ ly := ne_of_none tm9 ly9
        have a6 : tm ≠ fl := ne_of_none tma fla
        have U : Units n rr (uuOf rr) := ⟨rfl, fun _ _ => rfl, fun k hk => (hb k hk).1, fun k hk => (hb k hk).2, n1, n6⟩
        have Sh : Shape C ⟨p, tm, rd, un, mk, sl, fr, ly, fl, n, rr, uuOf rr⟩ Hb now := ⟨U, ⟨dx, pb⟩, rdb, unb⟩
        refine q Hb ⟨p, tm, rd, un, mk, sl, fr, ly, fl, n, rr, uuOf rr⟩ _ rfl rfl rfl rfl ⟨fun b => b = mk ∨ b = ly ∨ b = fr ∨ b = fl ∨ b = sl, fun _ => none, [], ⟨Sh, ?_, ?_, ?_⟩, ⟨fun _ => 0, fun _ _ => none, [], [], [], [], ?_⟩, fun _ => rfl, tmb, DictIs.nil.congr fun _ => rfl, ?_, fun s t h => (by cases h), fun b => Iff.rfl⟩ kkb ?_
        · rintro (e | e | e | e | e)
          · exact (ne_of pb mkb fun z => nomatch z) e
          · exact (ne_of pb lyb fun z => nomatch z) e
          · exact (ne_of pb frb fun z => nomatch z) e
          · exact (ne_of pb flb fun z => nomatch z) e
          · exact (ne_of pb slb fun z => nomatch z) e
        · rintro (e | e | e | e | e)
          · exact nmr e.symm
          · exact (ne_of rdb lyb fun z => nomatch z) e
          · exact (ne_of rdb frb fun z => nomatch z) e
          · exact (ne_of rdb flb fun z => nomatch z) e
          · exact (ne_of rdb slb fun z => nomatch z) e
        · rintro (e | e | e | e | e)
          · exact nmu e.symm
          · exact (ne_of unb lyb fun z => nomatch z) e
          · exact (ne_of unb frb fun z => nomatch z) e
          · exact (ne_of unb flb fun z => nomatch z) e
          · exact (ne_of unb slb fun z => nomatch z) e
        · exact {
            mks := mkb
            ly := lyb
            lyd := DictIs.nil.congr fun _ => rfl
            fr := frb
            frd := DictIs.nil.congr fun _ => rfl
            fl := flb
            fld := DictIs.nil.congr fun _ => rfl
            sl := slb
            sld := SlotsIs.nil
            dd := fun k d a e => (by cases e)
            dne := fun k d a e => (by cases e)
            dno := fun k d s t _ _ e => (by cases e)
            dlt := fun k d a e => (by cases e)
            dinj := fun k d k' d' a e => (by cases e)
            dsep := fun k d a e => (by cases e)
            lf := a1
            ll := a2.symm
            ff := a3.symm
            bit := fun k d _ => Nat.zero_testBit d
            gk := fun s k t e => (by cases e)
            zm := .inl rfl
            zl := .inr (.inl rfl)
            zf := .inr (.inr (.inl rfl))
            zg := .inr (.inr (.inr (.inl rfl)))
            zs := .inr (.inr (.inr (.inr rfl)))
            zd := fun k d a e => (by cases e)
            za := fun b z => (by
              rcases z with e | e | e | e | e
              · exact ⟨_, by rw [e]; exact mkb⟩
              · exact ⟨_, by rw [e]; exact lyb⟩
              · exact ⟨_, by rw [e]; exact frb⟩
              · exact ⟨_, by rw [e]; exact flb⟩
              · exact ⟨_, by rw [e]; exact slb⟩) }
        · rintro (e | e | e | e | e)
          · exact (ne_of tmb mkb fun z => nomatch z) e
          · exact a5 e
          · exact a4 e
          · exact a6 e
          · exact (ne_of tmb slb fun z => nomatch z) e
        · rintro b ((e | e | e | e | e) | e | e)
          · exact .inl (by rw [e]; exact hmk)
          · exact .inl (by rw [e]; exact hly)
          · exact .inl (by rw [e]; exact hfr)
          · exact .inl (by rw [e]; exact hfl)
          · exact .inl (by rw [e]; exact hsl)
          · exact .inr e
          · exact .inl (by rw [e]; exact htm)
end
end Wk

namespace Wk
open PySem L2 Wr
theorem fold_size {b : Array Nat} : ∀ (n : Nat) (acc : Array Nat), ((List.replicate n b).foldl (· ++ ·) acc).size = acc.size + n * b.size
  | 0, acc => by simp
  | n + 1, acc => by
    rw [List.replicate_succ, List.foldl_cons, fold_size n]
    rw [Array.size_append, Nat.succ_mul]
    omega
def rRepS : R2 := fun x y H Q => ∃ (z : Str) (k : Int), x = .str z ∧ y = .int k ∧ z.length = 1 ∧ 0 ≤ k ∧ k ≤ 100 ∧ ∀ r : Str, r.length ≤ 100 → Q (.str r) H
theorem op_repS {X : Cx} : OpR X (binaryOp .Mult) rRepS := by
  intro pins s σ H x y v u Q I rx ry h
  obtain ⟨z, k, rfl, rfl, hz, h0, h1, q⟩ := h
  obtain ⟨t, rfl⟩ := rx
  obtain ⟨t', rfl⟩ := ry
  have e1 : decide (k < -(2 ^ 63 : Int)) = false := decide_eq_false (by omega)
  have e2 : decide (k ≥ 2 ^ 63) = false := decide_eq_false (by omega)
  refine PySem.P.mul_str (by rw [e1, e2]; rfl) (fun h2 _ => ?_) (fun h2 _ => ?_) ?_
  · rw [hz]
    have h3 : (1 : Int) ≤ k := by omega
    have h4 : (2 ^ 63 - 1 : Int) / 100 ≤ (2 ^ 63 - 1) / k := by
      rw [Int.le_ediv_iff_mul_le (by omega)]
      have h5 : (2 ^ 63 - 1 : Int) / 100 * k ≤ (2 ^ 63 - 1 : Int) / 100 * 100 := Int.mul_le_mul_of_nonneg_left h1 (by decide)
      exact Int.le_trans h5 (by decide)
    have h6 : (1 : Int) ≤ (2 ^ 63 - 1 : Int) / 100 := by decide
    omega
  · rw [hz]
    unfold Builtin.Str.tooLong
    refine decide_eq_false ?_
    have := sizeLine_eq
    omega
  · by_cases h2 : k < 1
    · rw [if_pos h2]
      exact ⟨by decide, .str Str.empty, H, I.tok _, ⟨_, rfl⟩, q _ (by decide)⟩
    · rw [if_neg h2]
      by_cases h3 : (k == 1 || z.length == 0) = true
      · rw [if_pos h3]
        exact ⟨.str z, H, I, ⟨t, rfl⟩, q _ (by omega)⟩
      · rw [if_neg h3]
        have hsz : (⟨(List.replicate k.toNat z.cps).foldl (· ++ ·) #[]⟩ : Str).length ≤ 100 := by
          show ((List.replicate k.toNat z.cps).foldl (· ++ ·) #[]).size ≤ 100
          rw [fold_size]
          have : z.cps.size = 1 := hz
          rw [this]
          simp
          omega
        exact ⟨Nat.le_trans hsz (by decide), .str _, H, I.tok _, ⟨_, rfl⟩, q _ hsz⟩
section
variable {P : Program} {w : World} {K : PySem.W.Frag} {mg : Str → Option Value} {base : Heap} {C f : Addr} {fd : FuncData}
theorem scWhole : FnScope ["_law_found"] ["_law_found"] (defScope sWhole) := ⟨rfl, rfl, rfl, by decide +kernel, rfl, by decide +kernel, by decide +kernel⟩
theorem ok_whole (F : Fun K "_law_whole" "_law_whole" sWhole f fd) (G : TxtG mg) : FnOk P w K mg base CX0 1 f fd ["_law_found"] spIsWhole := by
  refine F.ok scWhole (fun vs H Q E h => ?_) (fun cdv A outer s H vs Q E hr h => ?_)
  · obtain ⟨i, rfl, _⟩ := h
    rfl
  · obtain ⟨i, rfl, q⟩ := h
    refine ⟨_, pss_one (ps_ret (pe_and (pe_callB call_isi (by rfl) G.isi (by decide +kernel) (pa_cons (pv 0) (pa_cons (pe_bltn (v := .ty "int") (by rfl) G.int_ (by decide +kernel) rfl) pa_nil)))
      (pe_one (pe_not (pe_callB call_isi (by rfl) G.isi (by decide +kernel) (pa_cons (pv 0) (pa_cons (pe_bltn (v := .ty "bool") (by rfl) G.bool_ (by decide +kernel) rfl) pa_nil))))))), ?_⟩
    refine ⟨_, rfl, _, _, _, _, true, rfl, .ty "int", .base (.int i), kit_ty (by decide +kernel), true, rfl, ?_⟩
    refine iteT ?_
    exact ⟨_, rfl, _, _, _, _, false, rfl, .ty "bool", .base (.int i), kit_ty (by decide +kernel), false, rfl, q⟩
def spCell (K : PySem.W.Frag) : Sp := fun vs H Q _ => ∃ (a : Addr) (ns : List Int) (k : Nat), vs = [.ref a, .int (k : Int)] ∧ SqL K H a (ns.map V.int) ∧ ∀ i : Int, Q (.int i) H
theorem scCellAt : FnScope ["_law_script", "_law_k"] ["_law_script", "_law_k"] (defScope sCellAt) := ⟨rfl, rfl, rfl, by decide +kernel, rfl, by decide +kernel, by decide +kernel⟩
theorem ok_cell_at (F : Fun K "_law_cell_at" "_law_cell_at" sCellAt f fd) (T : Txt K mg C) : FnOk P w K mg base CX0 1 f fd ["_law_script", "_law_k"] (spCell K) := by
  refine F.ok scCellAt (fun vs H Q E h => ?_) (fun cdv A outer s H vs Q E hr h => ?_)
  · obtain ⟨a, ns, k, rfl, _⟩ := h
    rfl
  · obtain ⟨a, ns, k, rfl, hS, q⟩ := h
    refine ⟨_, pss_cons (ps_if (pt_cmpR op_lt (pv 1) (pe_callB call_len_seq (by rfl) T.len PySem.boot_len (pa_cons (pv 0) pa_nil)) (nomark _)) (pss_one (ps_ret (pe_ix ix_list (pv 0) (pv 1) (fun _ _ => rfl)))) pss_nil) (pss_one (ps_ret pe_int)), ?_⟩
    refine ⟨_, rfl, _, rfl, a, _, rfl, .inl hS, _, _, rfl, rfl, _, rfl, ?_⟩
    refine ite2 (fun e => ?_) (fun _ => q 0)
    have e' : k < ns.length := by
      have := of_decide_eq_true e
      rw [List.length_map] at this
      omega
    have hk : (ns.map V.int)[k]? = some (.int ns[k]) := by
      rw [List.getElem?_map, List.getElem?_eq_getElem e']
      all_goals rfl
    exact ⟨_, rfl, _, rfl, a, _, _, _, rfl, rfl, hS, atI_nat hk, q _⟩
def spMixed : Sp := fun vs H Q _ => ∃ a b : Int, vs = [.int a, .int b] ∧ ∀ i : Int, Q (.int i) H
theorem scMixed : FnScope ["_law_cell", "_law_k", "_law_number"] ["_law_cell", "_law_k"] (defScope sMixed) := ⟨rfl, rfl, rfl, by decide +kernel, rfl, by decide +kernel, by decide +kernel⟩
theorem ok_mixed (F : Fun K "_law_mixed" "_law_mixed" sMixed f fd) : FnOk P w K mg base CX0 1 f fd ["_law_cell", "_law_k"] spMixed := by
  refine F.ok scMixed (fun vs H Q E h => ?_) (fun cdv A outer s H vs Q E hr h => ?_)
  · obtain ⟨a, b, rfl, _⟩ := h
    rfl
  · obtain ⟨a, b, rfl, q⟩ := h
    have nd := scMixed.nd
    refine ⟨_, pss_cons (ps_set (i := 2) nd rfl (Or.inl rfl) (pe_op op_mod (pe_op op_mul (pe_op op_add (pe_op op_add (pv 0) (pe_op op_mul pe_int (pv 1))) pe_int) pe_int) pe_int))
      (pss_one (ps_ret (pe_op op_mod (pe_op op_mul (pv 2) (pe_op op_add (pe_op op_fdiv (pv 2) pe_int) pe_int)) pe_int))), ?_⟩
    refine ⟨_, rfl, _, rfl, _, _, rfl, rfl, .inl ⟨by decide, by decide⟩, _, _, rfl, rfl, _, _, rfl, rfl, _, _, rfl, rfl, .inr ⟨by decide, by decide⟩, _, _, rfl, rfl, (by show (0 : Int) < 2147483647; decide), ?_⟩
    have h1 := Int.emod_nonneg ((a + 7907 * b + 1) * 48271) (show (2147483647 : Int) ≠ 0 by decide)
    have h2 := Int.emod_lt_of_pos ((a + 7907 * b + 1) * 48271) (show (0 : Int) < 2147483647 by decide)
    generalize (a + 7907 * b + 1) * 48271 % 2147483647 = m at h1 h2
    exact ⟨_, rfl, _, rfl, _, _, rfl, rfl, ⟨by decide, by decide⟩, _, _, rfl, rfl, _, _, rfl, rfl, .inl ⟨by omega, by omega⟩, _, _, rfl, rfl, (by show (0 : Int) < 2147483647; decide), q _⟩
def spName : Sp := fun vs H Q _ => ∃ a : Int, vs = [.int a] ∧ ∀ s : Str, Q (.str s) H
theorem scName : FnScope ["_law_number", "_law_some"] ["_law_number"] (defScope sName) := ⟨rfl, rfl, rfl, by decide +kernel, rfl, by decide +kernel, by decide +kernel⟩
theorem sign_at {z : Str} {i : Int} (h0 : 0 ≤ i) (h : i < 26) (hz : z.length = 26) : ∃ c, 0 ≤ i ∧ i < 2 ^ 63 ∧ i < z.length ∧ z.cps[i.toNat]? = some c := by
  have h1 : i.toNat < z.cps.size := by
    have : z.cps.size = 26 := hz
    omega
  exact ⟨z.cps[i.toNat], h0, by omega, by omega, Array.getElem?_eq_getElem h1⟩
theorem ok_name (F : Fun K "_law_name" "_law_name" sName f fd) : FnOk P w K mg base CX0 1 f fd ["_law_number"] spName := by
  refine F.ok scName (fun vs H Q E h => ?_) (fun cdv A outer s H vs Q E hr h => ?_)
  · obtain ⟨a, rfl, _⟩ := h
    rfl
  · obtain ⟨a, rfl, q⟩ := h
    have nd := scName.nd
    refine ⟨_, pss_cons (ps_set (i := 1) nd rfl (Or.inl rfl) pe_str)
      (pss_one (ps_ret (pe_op op_add_str (pe_op op_add_str (pe_item_str (pv 1) (pe_op op_mod (pv 0) pe_int) (fun _ _ => rfl)) (pe_item_str (pv 1) (pe_op op_mod (pe_op op_fdiv (pv 0) pe_int) pe_int) (fun _ _ => rfl)))
        (pe_op op_repS pe_str (pe_op op_mod (pe_op op_fdiv (pv 0) pe_int) pe_int))))), ?_⟩
    obtain ⟨c1, a1, a2, a3, a4⟩ := sign_at (z := "abcdefghijklmnopqrstuvwxyz") (i := a % 26) (Int.emod_nonneg _ (by decide)) (Int.emod_lt_of_pos _ (by decide)) (by decide)
    obtain ⟨c2, b1, b2, b3, b4⟩ := sign_at (z := "abcdefghijklmnopqrstuvwxyz") (i := a / 26 % 26) (Int.emod_nonneg _ (by decide)) (Int.emod_lt_of_pos _ (by decide)) (by decide)
    have m0 := Int.emod_nonneg (a / 676) (show (7 : Int) ≠ 0 by decide)
    have m1 := Int.emod_lt_of_pos (a / 676) (show (0 : Int) < 7 by decide)
    refine ⟨_, rfl, _, rfl, _, _, rfl, rfl, (by show (0 : Int) < 26; decide), _, _, c1, rfl, rfl, a1, a2, a3, a4, ?_⟩
    refine ⟨_, rfl, _, rfl, _, _, rfl, rfl, ⟨by decide, by decide⟩, _, _, rfl, rfl, (by show (0 : Int) < 26; decide), _, _, c2, rfl, rfl, b1, b2, b3, b4, _, _, rfl, rfl, (by show 1 + 1 ≤ sizeLine; decide), ?_⟩
    refine ⟨_, rfl, _, _, rfl, rfl, ⟨by decide, by decide⟩, _, _, rfl, rfl, (by show (0 : Int) < 7; decide), _, _, rfl, rfl, (by decide), m0, by omega, fun r hr2 => ?_⟩
    refine ⟨_, _, rfl, rfl, ?_, q _⟩
    have e : ((⟨#[c1]⟩ : Str) ++ (⟨#[c2]⟩ : Str)).length = 2 := rfl
    rw [e]
    have := sizeLine_eq
    omega
end
end Wk

namespace Wk
open PySem L2 Wr
section
variable {P : Program} {w : World} {K : PySem.W.Frag} {mg : Str → Option Value} {base : Heap} {C f : Addr} {fd : FuncData}
def spRounds (K : PySem.W.Frag) : Sp := fun vs H Q _ => ∃ (a : Addr) (ns : List Int), vs = [.ref a] ∧ SqL K H a (ns.map V.int) ∧
  ∀ (H' : Hp) (p : Addr) (n : Nat) (rr : Nat → Int), Same H H' → H p = none → H' p = some (.lst (rl n fun k => .int (rr k))) → 1 ≤ n → n ≤ 6 → (∀ k, k < n → 2 ≤ rr k ∧ rr k ≤ 60) → Q (.ref p) H'
theorem scRounds : FnScope ["_law_script", "_law_many", "_law_k"] ["_law_script"] (defScope sRounds) := ⟨rfl, rfl, rfl, by decide +kernel, rfl, by decide +kernel, by decide +kernel⟩
theorem ok_rounds (F : Fun K "_law_rounds" "_law_rounds" sRounds f fd) (T : Txt K mg C) (GC : GOk P w K mg base "_law_cell_at" 1 ["_law_script", "_law_k"] (spCell K)) : FnOk P w K mg base CX0 2 f fd ["_law_script"] (spRounds K) := by
  refine F.ok scRounds (fun vs H Q E h => ?_) (fun cdv A outer s H vs Q E hr h => ?_)
  · obtain ⟨a, ns, rfl, _⟩ := h
    rfl
  · obtain ⟨a, ns, rfl, hS, q⟩ := h
    have nd := scRounds.nd
    refine ⟨_, pss_cons (ps_set (i := 1) nd rfl (Or.inl rfl) (pe_op op_add pe_int (pe_op op_mod (pe_go GC hr (by rfl) (pa_cons (pv 0) (pa_cons pe_int pa_nil))) pe_int)))
      (pss_one (ps_ret (pe_lc (own := [("_law_k", 2)]) (g := gName 2) (by rfl) nd (pi_range1 (by rfl) T.range (pa_cons (pv 1) pa_nil)) (blkOk_by (own := [("_law_k", 2)]) (N := ["_law_script", "_law_many", "_law_k"]) (sc := defScope sRounds) (by decide +kernel))
        (fun _ _ _ _ _ => pg_name (i := 2) nd rfl (Or.inl rfl)) (fun _ _ _ _ _ => pts_nil)
        (fun _ _ _ _ _ => pe_op op_add pe_int (pe_op op_mod (pe_go GC hr (by rfl) (pa_cons (pv 0) (pa_cons (pe_op op_add pe_int (pv 2)) pa_nil))) pe_int))))), ?_⟩
    refine ⟨_, rfl, a, ns, 0, rfl, hS, fun x => ?_⟩
    refine ⟨_, _, rfl, rfl, (by show (0 : Int) < 6; decide), _, _, rfl, rfl, ?_⟩
    have m0 := Int.emod_nonneg x (show (6 : Int) ≠ 0 by decide)
    have m1 := Int.emod_lt_of_pos x (show (0 : Int) < 6 by decide)
    refine ⟨_, rfl, 1 + x % 6, rfl, by omega, by omega, fun D hD => ?_⟩
    refine lc_range (lo := 0) (n := (1 + x % 6).toNat) (fun i H' => ∃ rr : Nat → Int, H' D = some (.lst (rl i fun k => .int (rr k))) ∧ (∀ k, k < i → 2 ≤ rr k ∧ rr k ≤ 60) ∧ Same H H') ⟨fun _ => 0, upd_same, fun k hk => absurd hk (Nat.not_lt_zero k), same_new hD⟩ ?_ ?_
    · rintro i H' hi ⟨rr, hd, hb, s1⟩
      refine ⟨rfl, ?_⟩
      unfold tYes
      refine iteT ?_
      refine ⟨_, rfl, _, rfl, _, _, rfl, rfl, a, ns, 2 + i, ?_, Same.seq s1 hS, fun y => ?_⟩
      · show [V.ref a, V.int (2 + (0 + (i : Int)))] = [V.ref a, V.int ((2 + i : Nat) : Int)]
        rw [show (2 + (0 + (i : Int))) = ((2 + i : Nat) : Int) by omega]
      have y0 := Int.emod_nonneg y (show (59 : Int) ≠ 0 by decide)
      have y1 := Int.emod_lt_of_pos y (show (0 : Int) < 59 by decide)
      refine ⟨_, _, rfl, rfl, (by show (0 : Int) < 59; decide), _, _, rfl, rfl, _, hd, line1000 (by rw [rl_len]; omega), ?_⟩
      refine ⟨fun k => if k = i then 2 + y % 59 else rr k, ?_, fun k hk => ?_, fun b o h => upd_at (s1 _ _ h) (ne_of_none h hD)⟩
      · rw [upd_same, rl_succ]
        show some (HO.lst ((rl i fun k => V.int (rr k)) ++ [V.int (2 + y % 59)])) = some (HO.lst ((rl i fun k => V.int (if k = i then 2 + y % 59 else rr k)) ++ [V.int (if i = i then 2 + y % 59 else rr i)]))
        rw [if_pos rfl, rl_ext (f := fun k => V.int (if k = i then 2 + y % 59 else rr k)) (g := fun k => V.int (rr k)) fun k hk => by rw [if_neg (by omega)]]
      · by_cases e : k = i
        · dsimp only
          rw [if_pos e]
          omega
        · dsimp only
          rw [if_neg e]
          exact hb k (by omega)
    · rintro H' ⟨rr, hd, hb, s1⟩
      exact q H' D (1 + x % 6).toNat rr s1 hD hd (by omega) (by omega) hb
def spUnits (K : PySem.W.Frag) : Sp := fun vs H Q _ => ∃ (l : Addr) (n : Nat) (rr : Nat → Int), vs = [.ref l] ∧ SqL K H l (rl n fun k => .int (rr k)) ∧ n ≤ 6 ∧ (∀ k, k < n → 2 ≤ rr k ∧ rr k ≤ 60) ∧
  ∀ (H' : Hp) (p : Addr), Same H H' → H p = none → H' p = some (.lst (rl (n + 1) fun k => .int (uuOf rr k))) → Q (.ref p) H'
theorem scUnits : FnScope ["_law_rounds_here", "_law_units_here", "_law_many"] ["_law_rounds_here"] (defScope sUnits) := ⟨rfl, rfl, rfl, by decide +kernel, rfl, by decide +kernel, by decide +kernel⟩
theorem ok_units (F : Fun K "_law_units" "_law_units" sUnits f fd) : FnOk P w K mg base CX0 1 f fd ["_law_rounds_here"] (spUnits K) := by
  refine F.ok scUnits (fun vs H Q E h => ?_) (fun cdv A outer s H vs Q E hr h => ?_)
  · obtain ⟨l, n, rr, rfl, _⟩ := h
    rfl
  · obtain ⟨l, n, rr, rfl, hl, n6, hb, q⟩ := h
    have nd := scUnits.nd
    refine ⟨_, pss_cons (ps_set (i := 1) nd rfl (Or.inl rfl) (pe_lst (pa_cons pe_int pa_nil)))
      (pss_cons (ps_for PassesOwn.never rfl (pi_list (pv 0)) (pg_name (i := 2) nd rfl (Or.inl rfl))
        (pss_one (ps_expr (pe_bm PySem.F.plainAttrs_list PySem.F.slot_list_append PySem.F.type_list_append mt_append (pv 1) (pa_cons (pe_op op_mul (pe_ix ix_list (pv 1) (pe_un un_neg pe_int) (fun _ _ => rfl)) (pv 2)) pa_nil)))))
      (pss_one (ps_ret (pv 1)))), ?_⟩
    refine ⟨(by show 1 ≤ sizeLine; decide), fun un hun => ?_⟩
    refine ⟨_, rfl, l, rfl, ⟨_, Same.seq (same_new hun) hl⟩, for_list (K := K) (a := l) (xs := rl n fun k => .int (rr k)) (fun i σ H' => ∃ v, σ = [some (.ref l), some (.ref un), v] ∧ H' un = some (.lst (rl (i + 1) fun k => .int (uuOf rr k))) ∧ Same H H')
      ⟨none, rfl, upd_same, same_new hun⟩ (fun i σ H' _ ⟨_, _, _, k⟩ => Same.seq k hl) ?_ ?_⟩
    · rintro i y σ H' hi ⟨v, rfl, hu, k⟩
      have hin : i < n := by
        have := (List.getElem?_eq_some_iff.mp hi).1
        rw [rl_len] at this
        exact this
      rw [rl_get hin] at hi
      cases hi
      obtain ⟨b1, b2⟩ := hb i hin
      have at1 : atI (rl (i + 1) fun k => V.int (uuOf rr k)) (-1) = some (.int (uuOf rr i)) := by
        rw [rl_succ]
        exact atI_last _ _
      refine ⟨_, rfl, .inl ⟨rfl, _, SqL.of hu⟩, _, rfl, _, rfl, un, _, _, _, rfl, rfl, SqL.of hu, at1, _, rfl, _, _, rfl, rfl, .inr ⟨by omega, by omega⟩,
        un, _, _, rfl, rfl, hu, line1000 (by rw [rl_len]; omega), ?_⟩
      refine ⟨_, rfl, ?_, fun b o h => upd_at (k b o h) (ne_of_none h hun)⟩
      rw [upd_same, rl_succ (n := i + 1)]
      all_goals rfl
    · rintro σ H' ⟨v, rfl, hu, k⟩
      rw [rl_len] at hu
      exact ⟨_, rfl, q H' un k hun hu⟩
def spLater (K : PySem.W.Frag) : Sp := fun vs H Q _ => ∃ (a b : Int) (u : Addr) (n : Nat) (uu : Nat → Int), vs = [.int a, .int b, .ref u] ∧ SqL K H u (rl (n + 1) fun k => .int (uu k)) ∧ (∀ k, k ≤ n → 0 < uu k) ∧
  ∀ (H' : Hp) (i : Int), Same H H' → 0 ≤ i → Q (.int i) H'
theorem scLater : FnScope ["_law_cell", "_law_number", "_law_units_here", "_law_way", "_law_unit"] ["_law_cell", "_law_number", "_law_units_here"] (defScope sLater) := ⟨rfl, rfl, rfl, by decide +kernel, rfl, by decide +kernel, by decide +kernel⟩
theorem ok_later (F : Fun K "_law_later" "_law_later" sLater f fd) (T : Txt K mg C) : FnOk P w K mg base CX0 1 f fd ["_law_cell", "_law_number", "_law_units_here"] (spLater K) := by
  refine F.ok scLater (fun vs H Q E h => ?_) (fun cdv A outer s H vs Q E hr h => ?_)
  · obtain ⟨a, b, u, n, uu, rfl, _⟩ := h
    rfl
  · obtain ⟨a, b, u, n, uu, rfl, hu, hpos, q⟩ := h
    have nd := scLater.nd
    refine ⟨_, pss_cons (ps_set (i := 3) nd rfl (Or.inl rfl) (pe_op op_mod (pv 1) pe_int))
      (pss_cons (ps_set (i := 4) nd rfl (Or.inl rfl) (pe_ix ix_list (pv 2) (pe_op op_mod (pe_op op_fdiv (pv 1) pe_int) (pe_callB call_len_seq (by rfl) T.len PySem.boot_len (pa_cons (pv 2) pa_nil))) (fun _ _ => rfl)))
      (pss_cons (ps_if (pt_cmpR op_eq (pv 3) pe_int (nomark _)) (pss_one (ps_ret (pv 4))) pss_nil)
      (pss_cons (ps_if (pt_cmpR op_eq (pv 3) pe_int (nomark _)) (pss_one (ps_ret (pe_op op_add (pe_op op_mul (pv 4) (pe_op op_mod (pe_op op_fdiv (pv 1) pe_int) pe_int)) (pe_op op_mod (pe_op op_fdiv (pv 1) pe_int) pe_int)))) pss_nil)
      (pss_one (ps_ret (pe_op op_mod (pe_op op_fdiv (pv 0) pe_int) (pe_ix ix_list (pe_lst (pa_cons pe_int (pa_cons pe_int (pa_cons (pe_op op_pow pe_int pe_int) pa_nil)))) (pv 3) (fun _ _ => rfl)))))))), ?_⟩
    have w0 := Int.emod_nonneg b (show (5 : Int) ≠ 0 by decide)
    have w1 := Int.emod_lt_of_pos b (show (0 : Int) < 5 by decide)
    refine ⟨_, rfl, _, _, rfl, rfl, (by show (0 : Int) < 5; decide), ?_⟩
    have i0 := Int.emod_nonneg (b / 5) (show ((n + 1 : Nat) : Int) ≠ 0 by omega)
    have i1 := Int.emod_lt_of_pos (b / 5) (show (0 : Int) < ((n + 1 : Nat) : Int) by omega)
    have ei : b / 5 % ((n + 1 : Nat) : Int) = (((b / 5 % ((n + 1 : Nat) : Int)).toNat : Nat) : Int) := by omega
    generalize (b / 5 % ((n + 1 : Nat) : Int)).toNat = j at ei
    have hj : j ≤ n := by omega
    refine ⟨_, rfl, _, rfl, _, _, rfl, rfl, ⟨by decide, by decide⟩, _, rfl, u, _, rfl, .inl hu, _, _, rfl, rfl, ?_, u, _, _, .int (uu j), rfl, rfl, hu, ?_, ?_⟩
    · show (0 : Int) < ((rl (n + 1) fun k => V.int (uu k)).length : Int)
      rw [rl_len]
      omega
    · rw [rl_len, ei]
      exact atI_nat (rl_get (by omega))
    have hp := hpos j hj
    refine ⟨_, rfl, rfl, _, rfl, ?_⟩
    rw [decI]
    refine ite2 (fun _ => ⟨_, rfl, q H _ (Same.refl H) (by omega)⟩) (fun e3 => ?_)
    refine ⟨_, rfl, rfl, _, rfl, ?_⟩
    rw [decI]
    refine ite2 (fun _ => ?_) (fun e4 => ?_)
    · have x0 := Int.emod_nonneg (b / 60) (show (5 : Int) ≠ 0 by decide)
      have x1 := Int.emod_lt_of_pos (b / 60) (show (0 : Int) < 5 by decide)
      have y0 := Int.emod_nonneg (b / 300) (show (3 : Int) ≠ 0 by decide)
      refine ⟨_, rfl, _, rfl, _, _, rfl, rfl, ⟨by decide, by decide⟩, _, _, rfl, rfl, (by show (0 : Int) < 5; decide), _, _, rfl, rfl, .inr ⟨by omega, by omega⟩, _, rfl, _, _, rfl, rfl, ⟨by decide, by decide⟩, _, _, rfl, rfl, (by show (0 : Int) < 3; decide), _, _, rfl, rfl, ?_⟩
      refine q H _ (Same.refl H) ?_
      have := Int.mul_nonneg (Int.le_of_lt hp) x0
      omega
    · have n3 : ¬ b % 5 = 3 := fun z => e3 (decide_eq_true z)
      have n4 : ¬ b % 5 = 4 := fun z => e4 (decide_eq_true z)
      refine ⟨_, rfl, _, _, rfl, rfl, ⟨by decide, by decide⟩, _, _, rfl, rfl, ⟨by decide, by decide, by decide⟩, (by show 3 ≤ sizeLine; decide), fun d hd => ?_⟩
      have sd := same_new (o := .lst [.int 4, .int 60, .int (10 ^ (12 : Int).toNat)]) hd
      obtain ⟨m, hm, hm0⟩ : ∃ m : Int, atI ([.int 4, .int 60, .int (10 ^ (12 : Int).toNat)] : List V) (b % 5) = some (.int m) ∧ 0 < m := by
        have : b % 5 = 0 ∨ b % 5 = 1 ∨ b % 5 = 2 := by omega
        rcases this with e | e | e <;> rw [e]
        · exact ⟨4, atI_nat (j := 0) rfl, by decide⟩
        · exact ⟨60, atI_nat (j := 1) rfl, by decide⟩
        · exact ⟨10 ^ (12 : Int).toNat, atI_nat (j := 2) rfl, by decide⟩
      refine ⟨_, rfl, d, _, _, _, rfl, rfl, SqL.of upd_same, hm, _, _, rfl, rfl, hm0, ?_⟩
      exact q _ _ sd (Int.emod_nonneg _ (by omega))
end
end Wk

namespace Wk
open PySem L2 Wr
section
variable {P : Program} {w : World} {K : PySem.W.Frag} {mg : Str → Option Value} {base : Heap} {C f : Addr} {fd : FuncData}
abbrev nBA : List Str := ["_law_told", "_law_k", "_law_rounds_here", "_law_units_here", "_law_found", "_law_here", "_law_slots", "_law_slot", "_law_bit", "_law_time", "_law_name_here"]
def spBitsAre (K : PySem.W.Frag) (C : Addr) : Sp := fun vs H Q _ => ∃ (c : Cfg) (Zp : Addr → Prop) (now : Int) (T : Str → Option Int) (k : Nat) (l u : Addr), vs = [.ref c.p, .int (k : Int), .ref l, .ref u] ∧ Wheel C c H Zp now T ∧ k < c.n ∧
  SqL K H l (rl c.n fun k => .int (c.rr k)) ∧ SqL K H u (rl (c.n + 1) fun k => .int (c.uu k)) ∧ Few 1000 T ∧ ∀ H', Same H H' → Q (.bl true) H'
theorem scBitsAre : FnScope nBA ["_law_told", "_law_k", "_law_rounds_here", "_law_units_here"] (defScope sBitsAre) := ⟨rfl, rfl, rfl, by decide +kernel, rfl, by decide +kernel, by decide +kernel⟩
def inWheel (c : Cfg) (now : Int) (k : Nat) (ms : List (Int × Str)) : List Int := (ms.filter fun m => decide (wh c.n c.uu m.1 now = k)).map (·.1)
theorem inWheel_snoc {c : Cfg} {now : Int} {k : Nat} {ms : List (Int × Str)} {m : Int × Str} : inWheel c now k (ms ++ [m]) = if wh c.n c.uu m.1 now = k then inWheel c now k ms ++ [m.1] else inWheel c now k ms := by
  unfold inWheel
  rw [List.filter_append, List.map_append, List.filter_cons, List.filter_nil]
  by_cases e : wh c.n c.uu m.1 now = k
  · rw [if_pos e, decide_eq_true e]
    all_goals rfl
  · rw [if_neg e, decide_eq_false e]
    simp
theorem inWheel_mem {c : Cfg} {now : Int} {k : Nat} {ms : List (Int × Str)} {t : Int} : t ∈ inWheel c now k ms ↔ ∃ s, (t, s) ∈ ms ∧ wh c.n c.uu t now = k := by
  unfold inWheel
  rw [List.mem_map]
  constructor
  · rintro ⟨m, h, rfl⟩
    obtain ⟨h1, h2⟩ := List.mem_filter.mp h
    exact ⟨m.2, h1, of_decide_eq_true h2⟩
  · rintro ⟨s, h1, h2⟩
    exact ⟨(t, s), List.mem_filter.mpr ⟨h1, decide_eq_true h2⟩, rfl⟩
theorem inWheel_len {c : Cfg} {now : Int} {k : Nat} {ms : List (Int × Str)} : (inWheel c now k ms).length ≤ ms.length := by
  unfold inWheel
  rw [List.length_map]
  exact List.length_filter_le _ _
theorem ok_bits_are (F : Fun K "_law_bits_are" "_law_bits_are" sBitsAre f fd) (T : Txt K mg C) (G : TxtG mg) (GW : GOk P w K mg base "_law_whole" 1 ["_law_found"] spIsWhole) (MB : MOk P w K mg base C "bits" 1 ["self", "k"] (spBits C)) (MA : MOk P w K mg base C "all_of" 1 ["self"] (spAllOf C))
    (MW : MOk P w K mg base C "wheel_of" 1 ["self", "name"] (spWheelOf C)) : FnOk P w K mg base CX0 2 f fd ["_law_told", "_law_k", "_law_rounds_here", "_law_units_here"] (spBitsAre K C) := by
  refine F.ok scBitsAre (fun vs H Q E h => ?_) (fun cdv A outer s H vs Q E hr h => ?_)
  · obtain ⟨c, Zp, now, Ti, k, l, u, rfl, _⟩ := h
    rfl
  · obtain ⟨c, Zp, now, Ti, k, l, u, rfl, W, hk, hl, hu, hfew, q⟩ := h
    have nd := scBitsAre.nd
    refine ⟨_, pss_cons (ps_set (i := 4) nd rfl (Or.inl rfl) (pe_mo (pv 0) T.cl MB hr (pa_cons (pv 1) pa_nil)))
      (pss_cons (ps_if (PW.pt (pw_or (pt_not (pt_val (pe_go GW hr (by rfl) (pa_cons (pv 4) pa_nil)))) (pw_or1 (pt_cmpR op_lt (pv 4) pe_int (nomark _))))) (pss_one (ps_ret pe_bl)) pss_nil)
      (pss_cons (ps_setLc (i := 5) (own := [("_law_time", 9), ("_law_name_here", 10)]) (g := gTup K 2 (gCons (gName 9) (gCons (gName 10) gNil))) (by rfl) nd rfl rfl (sw_true rfl rfl rfl (by decide +kernel)) (pi_list (pe_mo0 (pv 0) T.cl MA hr))
        (blkOk_by (own := [("_law_time", 9), ("_law_name_here", 10)]) (N := nBA) (sc := defScope sBitsAre) (by decide +kernel))
        (fun _ _ _ _ _ => pg_tup rfl (pgs_cons (pg_name (i := 9) nd rfl (Or.inl rfl) (hf := Or.inr rfl)) (pgs_cons (pg_name (i := 10) nd rfl (Or.inl rfl) (hf := Or.inr rfl)) pgs_nil)))
        (fun _ _ _ _ _ => pts_one (pt_cmpR op_eq (pe_mo (pv 0) T.cl MW hr (pa_cons (pv 10) pa_nil)) (pv 1) (nomark _))) (fun _ _ _ _ _ => pv 9))
      (pss_cons (ps_setLc (i := 6) (own := [("_law_time", 9)]) (g := gName 9) (by rfl) nd rfl rfl (sw_true rfl rfl rfl (by decide +kernel)) (pi_list (pv 5))
        (blkOk_by (own := [("_law_time", 9)]) (N := nBA) (sc := defScope sBitsAre) (by decide +kernel))
        (fun _ _ _ _ _ => pg_name (i := 9) nd rfl (Or.inl rfl)) (fun _ _ _ _ _ => pts_nil)
        (fun _ _ _ _ _ => pe_op op_mod (pe_op op_fdivW (pv 9) (pe_ix (r := rIxL K) ix_list (pv 3) (pv 1) (fun _ _ => rfl))) (pe_ix (r := rIxL K) ix_list (pv 2) (pv 1) (fun _ _ => rfl))))
      (pss_cons (ps_for PassesOwn.never rfl (pi_range1 (by rfl) T.range (pa_cons (pe_ix ix_list (pv 2) (pv 1) (fun _ _ => rfl)) pa_nil)) (pg_name (i := 7) nd rfl (Or.inl rfl))
        (pss_cons (ps_asg (pe_callB call_divmod (by rfl) T.divmod (by decide +kernel) (pa_cons (pv 4) (pa_cons pe_int pa_nil))) (pg_tup rfl (pgs_cons (pg_name (i := 4) nd rfl (Or.inl rfl)) (pgs_cons (pg_name (i := 8) nd rfl (Or.inl rfl)) pgs_nil))))
        (pss_one (ps_if (pt_cmpR op_ne (pv 8) (pe_callTy call_int1 (by rfl) G.int_ (by decide +kernel) (pa_cons (pe_cmpR op_in_seq (pv 7) (pv 6) (by rfl)) pa_nil)) (nomark _)) (pss_one (ps_ret pe_bl)) pss_nil))))
      (pss_one (ps_ret (pe_cmpR op_eq (pv 4) pe_int (nomark _)))))))), ?_⟩
    have ob : ∀ {H' : Hp}, Same H H' → ∃ dx, H' c.p = some (.ins C dx (flds c now)) := fun {H'} s => by
      obtain ⟨Z, Fl, tkv, x⟩ := W
      obtain ⟨dx, e⟩ := x.I.ob
      exact ⟨dx, s _ _ e⟩
    have U : Units c.n c.rr c.uu := by
      obtain ⟨Z, Fl, tkv, x⟩ := W
      exact x.I.U
    obtain ⟨dx, h1⟩ := ob (Same.refl H)
    have r2 := U.r2 k hk
    have r60 := U.r60 k hk
    refine ⟨_, rfl, c.p, dx, _, rfl, h1, flds_no _ _ (by decide +kernel), _, rfl, c, Zp, now, Ti, k, rfl, W, hk, fun m hm => ?_⟩
    have hmlt : m < 2 ^ (c.rr k).toNat := lt_pow_of_bits fun d hd => by
      obtain ⟨s, t, _, _, e3⟩ := (hm d).mp hd
      have := slot_lt U hk t
      omega
    refine ⟨_, rfl, ((m : Nat) : Int), rfl, true, rfl, ?_⟩
    refine iteF ?_
    refine ⟨_, rfl, _, _, rfl, rfl, _, rfl, ?_⟩
    rw [decide_eq_false (by omega)]
    refine iteF ?_
    refine ⟨_, rfl, c.p, dx, _, rfl, h1, flds_no _ _ (by decide +kernel), c, Zp, now, Ti, rfl, W, hfew, fun H1 pA ys ms s1 _ hA hys hms lms => ?_⟩
    refine ⟨pA, rfl, ⟨_, SqL.of hA⟩, fun D hD => ?_⟩
    refine lc_list (K := K) (a := pA) (xs := ys) (fun i H' => H' D = some (.lst ((inWheel c now k (ms.take i)).map V.int)) ∧ Same H1 H') ⟨upd_same, same_new hD⟩ (fun i H' _ ⟨_, s⟩ => SqL.of (s _ _ hA)) ?_ ?_
    · rintro i y H' hi ⟨hd, s2⟩
      obtain ⟨tn, htn, a, rfl, ha, _⟩ := paired_get hys hi
      have hmem : tn ∈ ms := List.mem_of_getElem? htn
      have eT := (hms tn).mp hmem
      have s02 : Same H H' := fun b o h => s2 _ _ (s1 _ _ h)
      obtain ⟨dx2, p2⟩ := ob s02
      have htake : ms.take (i + 1) = ms.take i ++ [tn] := by
        rw [List.take_add_one, htn]
        all_goals rfl
      refine ⟨a, _, rfl, SqT.of (s2 _ _ ha), rfl, _, _, rfl, _, _, rfl, rfl, rfl, ?_⟩
      refine ⟨_, rfl, c.p, dx2, _, rfl, p2, flds_no _ _ (by decide +kernel), _, rfl, c, Zp, now, tn.1, Ti, tn.2, rfl, W.same s02, eT, _, rfl, rfl, _, rfl, ?_⟩
      rw [decI]
      refine ite2 (fun e => ?_) (fun e => ?_)
      · have e' : wh c.n c.uu tn.1 now = k := by
          have := of_decide_eq_true e
          omega
        refine ⟨_, rfl, _, hd, ?_, ?_, fun b o h => upd_at (s2 _ _ h) (ne_of_none h hD)⟩
        · rw [List.length_map]
          refine line1000 (Nat.le_trans inWheel_len ?_)
          rw [List.length_take]
          omega
        · rw [upd_same, htake, inWheel_snoc, if_pos e', List.map_append]
          all_goals rfl
      · have e' : ¬ wh c.n c.uu tn.1 now = k := fun z => e (decide_eq_true (by rw [z]))
        refine ⟨?_, s2⟩
        rw [htake, inWheel_snoc, if_neg e']
        exact hd
    · rintro H2 ⟨hd2, s2⟩
      rw [Paired.length hys, List.take_length] at hd2
      have s02 : Same H H2 := fun b o h => s2 _ _ (s1 _ _ h)
      generalize hhs : inWheel c now k ms = hs at hd2
      have lhs : hs.length ≤ 1000 := by
        rw [← hhs]
        exact Nat.le_trans inWheel_len lms
      have mhs : ∀ t, t ∈ hs ↔ ∃ s, Ti s = some t ∧ wh c.n c.uu t now = k := fun t => by
        rw [← hhs, inWheel_mem]
        constructor
        · rintro ⟨s, h1, h2⟩
          exact ⟨s, (hms _).mp h1, h2⟩
        · rintro ⟨s, h1, h2⟩
          exact ⟨s, (hms (t, s)).mpr h1, h2⟩
      refine ⟨_, rfl, D, rfl, ⟨_, SqL.of hd2⟩, fun D2 hD2 => ?_⟩
      refine lc_list (K := K) (a := D) (xs := hs.map V.int) (fun i H' => H' D2 = some (.lst (((hs.take i).map fun t => t / c.uu k % c.rr k).map V.int)) ∧ Same H2 H') ⟨upd_same, same_new hD2⟩ (fun i H' _ ⟨_, s⟩ => SqL.of (s _ _ hd2)) ?_ ?_
      · rintro i y H' hi ⟨hd, s3⟩
        obtain ⟨t, ht, rfl⟩ : ∃ t, hs[i]? = some t ∧ y = V.int t := by
          rw [List.getElem?_map] at hi
          cases e : hs[i]? with
          | none =>
            rw [e] at hi
            cases hi
          | some t =>
            rw [e] at hi
            exact ⟨t, rfl, (Option.some.inj hi).symm⟩
        have s03 : Same H H' := fun b o h => s3 _ _ (s02 _ _ h)
        have cw : CDivW t (c.uu k) := divW (U.pos k (by omega)) (U.lt36 (by omega))
        refine ⟨rfl, ?_⟩
        unfold tYes
        refine iteT ?_
        refine ⟨_, rfl, _, rfl, _, rfl, u, _, _, _, rfl, rfl, Same.seq s03 hu, atI_nat (rl_get (by omega)), _, _, rfl, rfl, cw, _, rfl, _, rfl, l, _, _, _, rfl, rfl, Same.seq s03 hl, atI_nat (rl_get hk), _, _, rfl, rfl, (by show (0 : Int) < c.rr k; omega), _, hd, ?_, ?_,
          fun b o h => upd_at (s3 _ _ h) (ne_of_none h hD2)⟩
        · rw [List.length_map, List.length_map, List.length_take]
          exact line1000 (by omega)
        · rw [upd_same, List.take_add_one, ht, List.map_append, List.map_append]
          all_goals rfl
      · rintro H3 ⟨hd3, s3⟩
        have s03 : Same H H3 := fun b o h => s3 _ _ (s02 _ _ h)
        rw [List.length_map, List.take_length] at hd3
        have hin : ∀ i : Nat, i < (c.rr k).toNat → inV (.int (i : Int)) ((hs.map fun t => t / c.uu k % c.rr k).map V.int) = m.testBit i := fun i hi => by
          rw [Bool.eq_iff_iff, hm]
          unfold inV
          rw [List.any_eq_true]
          constructor
          · rintro ⟨y, hy, e⟩
            obtain ⟨j, hj, rfl⟩ := List.mem_map.mp hy
            obtain ⟨t, ht, rfl⟩ := List.mem_map.mp hj
            obtain ⟨s, h1, h2⟩ := (mhs t).mp ht
            refine ⟨s, t, h1, h2, ?_⟩
            have e2 : t / c.uu k % c.rr k = (i : Int) := eq_of_beq e
            have := slot_int U hk t
            omega
          · rintro ⟨s, t, h1, h2, h3⟩
            refine ⟨.int (t / c.uu k % c.rr k), List.mem_map.mpr ⟨_, List.mem_map.mpr ⟨t, (mhs t).mpr ⟨s, h1, h2⟩, rfl⟩, rfl⟩, ?_⟩
            have := slot_int U hk t
            show ((t / c.uu k % c.rr k) == (i : Int)) = true
            rw [← this, h3]
            exact beq_self_eq_true _
        have hflat : ((hs.map fun t => t / c.uu k % c.rr k).map V.int).all flatV = true := by
          rw [List.all_eq_true]
          intro y hy
          obtain ⟨j, _, rfl⟩ := List.mem_map.mp hy
          rfl
        refine ⟨_, rfl, _, rfl, l, _, _, _, rfl, rfl, Same.seq s03 hl, atI_nat (rl_get hk), c.rr k, rfl, by omega, by omega, ?_⟩
        refine for_range (lo := 0) (n := (c.rr k).toNat) (fun i σ H' => ∃ v7 v8 v9 v10, σ = [some (.ref c.p), some (.int (k : Int)), some (.ref l), some (.ref u), some (.int ((m / 2 ^ i : Nat) : Int)), some (.ref D), some (.ref D2), v7, v8, v9, v10] ∧ Same H3 H') ⟨none, none, none, none, ?_, Same.refl H3⟩ ?_ ?_
        · rw [Nat.pow_zero, Nat.div_one]
          all_goals rfl
        · rintro i σ H' hi ⟨v7, v8, v9, v10, rfl, s4⟩
          refine ⟨_, rfl, _, _, rfl, ⟨by decide, by decide⟩, fun g hg => ?_⟩
          have sg := same_new (o := .tup [.int (((m / 2 ^ i : Nat) : Int) / 2), .int (((m / 2 ^ i : Nat) : Int) % 2)]) hg
          refine ⟨g, _, rfl, SqT.of upd_same, rfl, _, _, rfl, _, _, rfl, rfl, ?_⟩
          refine ⟨_, rfl, _, rfl, _, rfl, D2, _, rfl, .inl (SqL.of (sg _ _ (s4 _ _ hd3))), rfl, hflat, .inr ⟨_, rfl, ?_⟩⟩
          have ei : (0 : Int) + (i : Int) = (i : Int) := by omega
          refine ⟨rfl, _, rfl, ?_⟩
          have eb : (!decide (V.int (((m / 2 ^ i : Nat) : Int) % 2) = V.int (if (if false = true then !inV (.int (0 + (i : Int))) ((hs.map fun t => t / c.uu k % c.rr k).map V.int) else inV (.int (0 + (i : Int))) ((hs.map fun t => t / c.uu k % c.rr k).map V.int)) = true then 1 else 0))) = false := by
            rw [ei, if_neg Bool.false_ne_true, hin i hi]
            have e1 : ((m / 2 ^ i : Nat) : Int) % 2 = (((m / 2 ^ i) % 2 : Nat) : Int) := by omega
            rw [e1, shift_bit]
            cases m.testBit i <;> rfl
          rw [eb]
          refine iteF ?_
          refine ⟨some (.int (0 + (i : Int))), some (.int (((m / 2 ^ i : Nat) : Int) % 2)), v9, v10, ?_, fun b o h => sg _ _ (s4 _ _ h)⟩
          have e2 : ((m / 2 ^ i : Nat) : Int) / 2 = ((m / 2 ^ (i + 1) : Nat) : Int) := by
            rw [← shift_next]
            omega
          show [some (V.ref c.p), some (V.int (k : Int)), some (V.ref l), some (V.ref u), some (V.int (((m / 2 ^ i : Nat) : Int) / 2)), some (V.ref D), some (V.ref D2), some (V.int (0 + (i : Int))), some (V.int (((m / 2 ^ i : Nat) : Int) % 2)), v9, v10] = _
          rw [e2]
        · rintro σ H' ⟨v7, v8, v9, v10, rfl, s4⟩
          refine ⟨_, rfl, rfl, ?_⟩
          have e0 : decide (V.int ((m / 2 ^ (c.rr k).toNat : Nat) : Int) = V.int 0) = true := by
            rw [shift_end hmlt]
            all_goals rfl
          show Q (V.bl (decide (V.int ((m / 2 ^ (c.rr k).toNat : Nat) : Int) = V.int 0))) H'
          rw [e0]
          exact q H' fun b o h => s4 _ _ (s03 _ _ h)
end
end Wk

namespace Wk
open PySem L2 Wr
def rNeE (K : PySem.W.Frag) : R2 := fun x y H Q => ∃ (a b : Addr) (xs : List V), x = .ref a ∧ y = .ref b ∧ SqL K H a xs ∧ SqL K H b [] ∧ Q (.bl (!xs.isEmpty)) H
theorem op_neE {X : Cx} (hu : X.A.units < cLine) : OpR X (compareOp .NotEq) (rNeE X.K) := by
  intro pins s σ H x y v u Q I rx ry h
  obtain ⟨a, b, xs, rfl, rfl, ea, eb, q⟩ := h
  cases rx
  cases ry
  obtain ⟨ia, ra, pa, _⟩ := I.list ea
  obtain ⟨ib, rb, pb, _⟩ := I.list eb
  cases rb
  have hl : xs.length = ia.length := ra.length
  cases xs with
  | nil =>
    cases ra
    exact PySem.SeqAt.RcNeAt.lists (e := fun _ => true) pa.isList pb.isList rfl hu (fun j h1 _ => absurd h1 (Nat.not_lt_zero j)) _ _ _ _ ⟨.bl _, H, I, rfl, q⟩
  | cons z r =>
    refine PySem.SeqAt.RcNeAt.lists_lengths pa.isList pb.isList ?_ hu _ _ _ _ ⟨.bl _, H, I, rfl, q⟩
    cases ra
    rfl
theorem ps_by {X : Cx} {st : Stmt} {t : TS} (u : TS) (h : PS X st t) (hw : ∀ D σ H, u D σ H → t D σ H) : PS X st u := ⟨fun pins s σ H D I q => h.run pins s σ H D I (hw D σ H q)⟩
theorem if_both {c : Prop} [Decidable c] {A B : Prop} (hB : B) (hA : B → c → A) : if c then A else B := by
  by_cases h : c
  · rw [if_pos h]
    exact hA hB h
  · rw [if_neg h]
    exact hB
def Step1 (T T' : Str → Option Int) : Prop := ∀ N, Few N T → Few (N + 1) T'
theorem Few.more {α : Type} {N M : Nat} {T : Str → Option α} (h : Few N T) (l : N ≤ M) : Few M T := fun ns a b => Nat.le_trans (h ns a b) l
section
variable {P : Program} {w : World} {K : PySem.W.Frag} {mg : Str → Option Value} {base : Heap} {C f : Addr} {fd : FuncData}
abbrev nLaw : List Str := ["_law_script", "_law_rounds_here", "_law_units_here", "_law_now", "_law_told", "_law_k", "_law_cell", "_law_number", "_law_name_here", "_law_later_here", "_law_waiting", "_law_wheel"]
def spLaw (K : PySem.W.Frag) : Sp := fun vs H Q _ => ∃ (a : Addr) (ns : List Int), vs = [.ref a] ∧ SqL K H a (ns.map V.int) ∧ ns.length ≤ 63 ∧ ∀ H', Q (.bl true) H'
theorem scLaw : FnScope nLaw ["_law_script"] (defScope sLaw) := ⟨rfl, rfl, rfl, by decide +kernel, rfl, by decide +kernel, by decide +kernel⟩
theorem Wheel.ob {c : Cfg} {H : Hp} {Zp : Addr → Prop} {now : Int} {T : Str → Option Int} (W : Wheel C c H Zp now T) : ∃ dx, H c.p = some (.ins C dx (flds c now)) := by
  obtain ⟨Z, Fl, tkv, x⟩ := W
  exact x.I.ob
theorem Wheel.U {c : Cfg} {H : Hp} {Zp : Addr → Prop} {now : Int} {T : Str → Option Int} (W : Wheel C c H Zp now T) : Units c.n c.rr c.uu := by
  obtain ⟨Z, Fl, tkv, x⟩ := W
  exact x.I.U
theorem Wheel.on {c : Cfg} {H : Hp} {Zp : Addr → Prop} {now t : Int} {T : Str → Option Int} {s : Str} (W : Wheel C c H Zp now T) (h : T s = some t) : now < t := by
  obtain ⟨Z, Fl, tkv, x⟩ := W
  exact x.on s t h
theorem and_last {b : Bool} {A B : Prop} (h : if false = true then A else B) (hA : b = true → A) : if b = true then A else B := by
  cases b with
  | false => exact h
  | true => exact hA rfl
theorem dueT_sub {T : Str → Option Int} {to : Int} (s : Str) (h : (dueT T to s).isSome = true) : (T s).isSome = true := by
  unfold dueT at h
  cases e : T s with
  | none =>
    rw [e] at h
    cases h
  | some t => rfl
structure TxtL (mg : Str → Option Value) (C : Addr) : Prop where
  enum : mg "enumerate" = none
  mgC : mg "Wheels" = some (.ref C)
def tDeed (C : Addr) : TS := fun D σ H => ∃ (c : Cfg) (a l u : Addr) (Zp : Addr → Prop) (now : Int) (T : Str → Option Int) (k cell number later : Int) (name : Str) (pW : Addr) (ys : List V) (ms : List (Int × Str)) (v11 : Option V),
  σ = [some (.ref a), some (.ref l), some (.ref u), some (.int now), some (.ref c.p), some (.int k), some (.int cell), some (.int number), some (.str name), some (.int later), some (.ref pW), v11] ∧
  Wheel C c H Zp now T ∧ Few 900 T ∧ 0 ≤ later ∧ H pW = some (.lst ys) ∧ Paired (IsTN H fun _ => False) ys ms ∧ (∀ m, m ∈ ms ↔ T m.2 = some m.1) ∧
  ∀ (H' : Hp) (Zp' : Addr → Prop) (now' : Int) (T' : Str → Option Int), Wheel C c H' Zp' now' T' → Step1 T T' → Keeps Zp H Zp' H' →
    D.nx [some (.ref a), some (.ref l), some (.ref u), some (.int now'), some (.ref c.p), some (.int k), some (.int cell), some (.int number), some (.str name), some (.int later), some (.ref pW), v11] H'
def tDue (C : Addr) : TS := fun D σ H => ∃ (c : Cfg) (a l u : Addr) (Zp : Addr → Prop) (now to : Int) (T : Str → Option Int) (r : List (Option V)),
  σ = [some (.ref a), some (.ref l), some (.ref u), some (.int to), some (.ref c.p)] ++ r ∧ Wheel C c H Zp now T ∧ Few 900 T ∧ now ≤ to ∧
  ∀ (H' : Hp) (Zp' : Addr → Prop), Wheel C c H' Zp' to (dueT T to) → Keeps Zp H Zp' H' → D.nx ([some (.ref a), some (.ref l), some (.ref u), some (.int to), some (.ref c.p)] ++ r) H'
theorem ok_law {fI : Addr} {fdI : FuncData} (F : Fun K "law" "law" sLaw f fd) (T : Txt K mg C) (TL : TxtL mg C)
    (GR : GOk P w K mg base "_law_rounds" 2 ["_law_script"] (spRounds K)) (GU : GOk P w K mg base "_law_units" 1 ["_law_rounds_here"] (spUnits K)) (GC : GOk P w K mg base "_law_cell_at" 1 ["_law_script", "_law_k"] (spCell K))
    (GX : GOk P w K mg base "_law_mixed" 1 ["_law_cell", "_law_k"] spMixed) (GN : GOk P w K mg base "_law_name" 1 ["_law_number"] spName) (GL : GOk P w K mg base "_law_later" 1 ["_law_cell", "_law_number", "_law_units_here"] (spLater K))
    (GB : GOk P w K mg base "_law_bits_are" 2 ["_law_told", "_law_k", "_law_rounds_here", "_law_units_here"] (spBitsAre K C))
    (M : Mk K C fI) (GI : FnOk P w K mg base CX0 3 fI fdI ["self", "rounds", "now"] (spInit K C)) (bI : Binds K fdI ["self", "rounds", "now"] [])
    (MP : MOk P w K mg base C "put" 4 ["self", "name", "time"] (spPut C)) (MT : MOk P w K mg base C "take" 4 ["self", "name"] (spTake C)) (MD : MOk P w K mg base C "due" 5 ["self", "to"] (spDue C))
    (MO : MOk P w K mg base C "time_of" 1 ["self", "name"] (spTimeOf C)) (MA : MOk P w K mg base C "all_of" 1 ["self"] (spAllOf C)) : FnOk P w K mg base CX0 6 f fd ["_law_script"] (spLaw K) := by
  refine F.ok scLaw (fun vs H Q E h => ?_) (fun cdv A outer s H vs Q E hr h => ?_)
  · obtain ⟨a, ns, rfl, _⟩ := h
    rfl
  · obtain ⟨a, ns, rfl, hS, hlen, q⟩ := h
    have nd := scLaw.nd
    have hr1 : Room 1 _ := hr.mono (by decide)
    have hr2 : Room 2 _ := hr.mono (by decide)
    have hr4 : Room 4 _ := hr.mono (by decide)
    have hneu : (A.deeper (PyProof.Rows.envOfC "law" (defScope sLaw) s.heap.objs.size f cdv)).units < cLine := Nat.lt_of_succ_lt (hu_of hr)
    refine ⟨_, pss_cons (ps_set (i := 1) nd rfl (Or.inl rfl) (pe_go GR hr2 (by rfl) (pa_cons (pv 0) pa_nil)))
      (pss_cons (ps_set (i := 2) nd rfl (Or.inl rfl) (pe_go GU hr1 (by rfl) (pa_cons (pv 1) pa_nil)))
      (pss_cons (ps_set (i := 3) nd rfl (Or.inl rfl) (pe_op op_mod (pe_go GC hr1 (by rfl) (pa_cons (pv 0) (pa_cons pe_int pa_nil))) (pe_op op_pow pe_int pe_int)))
      (pss_cons (ps_set (i := 4) nd rfl (Or.inl rfl) (pe_make M GI hr4 rfl TL.mgC bI .nil pass0 (pa_cons (pe_callTy call_list_of (by rfl) T.list (by decide +kernel) (pa_cons (pv 1) pa_nil)) (pa_cons (pv 3) pa_nil))))
      (pss_cons (ps_for PassesOwn.never rfl (pi_enum (by rfl) TL.enum (pa_cons (pe_op op_cat (pe_lst (pa_cons pe_int pa_nil)) (pe_slice sl_list (pv 0) (po_some pe_int) (po_some pe_int))) pa_nil))
          (pg_tup rfl (pgs_cons (pg_name (i := 5) nd rfl (Or.inl rfl)) (pgs_cons (pg_name (i := 6) nd rfl (Or.inl rfl)) pgs_nil)))
        (pss_cons (ps_set (i := 7) nd rfl (Or.inl rfl) (pe_go GX hr1 (by rfl) (pa_cons (pv 6) (pa_cons (pv 5) pa_nil))))
        (pss_cons (ps_set (i := 8) nd rfl (Or.inl rfl) (pe_go GN hr1 (by rfl) (pa_cons (pe_op op_fdiv (pv 7) pe_int) pa_nil)))
        (pss_cons (ps_set (i := 9) nd rfl (Or.inl rfl) (pe_go GL hr1 (by rfl) (pa_cons (pv 6) (pa_cons (pv 7) (pa_cons (pv 2) pa_nil)))))
        (pss_cons (ps_set (i := 10) nd rfl (Or.inl rfl) (pe_mo0 (pv 4) T.cl MA hr1))
        (pss_cons (ps_by (tDeed C) (ps_if (PW.pt (pw_and (pt_cmpR op_gt (pv 5) pe_int (nomark _)) (pw_and (pt_cmpR op_lt (pe_op op_mod (pv 6) pe_int) pe_int (nomark _)) (pw_and1 (pt_cmpR op_isN (pe_mo (pv 4) T.cl MO hr1 (pa_cons (pv 8) pa_nil)) pe_non (nomark _))))))
            (pss_one (ps_expr (pe_mo (pv 4) T.cl MP hr4 (pa_cons (pv 8) (pa_cons (pe_op op_add (pe_op op_add (pv 3) pe_int) (pv 9)) pa_nil)))))
            (pss_one (ps_if (PW.pt (pw_and (pt_cmpR op_gt (pv 5) pe_int (nomark _)) (pw_and (pt_cmpR op_eq (pe_op op_mod (pv 6) pe_int) pe_int (nomark _)) (pw_and1 (pt_cmpR (op_neE hneu) (pv 10) (pe_lst pa_nil) (nomark _))))))
              (pss_one (ps_expr (pe_mo (pv 4) T.cl MT hr4 (pa_cons (pe_ix ix_tup (pe_ix ix_list (pv 10) (pe_op op_mod (pv 7) (pe_callB call_len_seq (by rfl) T.len PySem.boot_len (pa_cons (pv 10) pa_nil))) (fun _ _ => rfl)) pe_int (fun _ _ => rfl)) pa_nil))))
              (pss_one (ps_by (tDeed C) (ps_if (PW.pt (pw_and (pt_cmpR op_gt (pv 5) pe_int (nomark _)) (pw_and1 (pt_cmpR op_gt (pe_op op_mod (pv 6) pe_int) pe_int (nomark _)))))
                (pss_cons (ps_set (i := 3) nd rfl (Or.inl rfl) (pe_op op_add (pv 3) (pv 9)))
                (pss_cons (ps_if (PW.pt (pw_and (pt_cmpR op_eq (pe_op op_mod (pv 6) pe_int) pe_int (nomark _)) (pw_and1 (pt_cmpR (op_neE hneu) (pv 10) (pe_lst pa_nil) (nomark _)))))
                  (pss_one (ps_set (i := 3) nd rfl (Or.inl rfl) (pe_ix ix_tup (pe_ix ix_list (pv 10) pe_int (fun _ _ => rfl)) pe_int (fun _ _ => rfl)))) pss_nil)
                (pss_one (ps_by (tDue C) (ps_expr (pe_mo (pv 4) T.cl MD hr (pa_cons (pv 3) pa_nil))) ?due))))
                pss_nil) ?onward)))))
            ?deed)
        (pss_one (ps_for PassesOwn.never rfl (pi_range1 (by rfl) T.range (pa_cons (pe_callB call_len_seq (by rfl) T.len PySem.boot_len (pa_cons (pv 1) pa_nil)) pa_nil)) (pg_name (i := 11) nd rfl (Or.inl rfl))
          (pss_one (ps_if (pt_not (pt_val (pe_go GB hr2 (by rfl) (pa_cons (pv 4) (pa_cons (pv 11) (pa_cons (pv 1) (pa_cons (pv 2) pa_nil))))))) (pss_one (ps_ret pe_bl)) pss_nil))))))))))
      (pss_one (ps_ret pe_bl)))))), ?main⟩
    case due =>
      rintro D σ H0 ⟨c, a, l, u, Zp, now, to, Ti, r, rfl, W, hfew, hle, next⟩
      obtain ⟨dx, h0⟩ := W.ob
      exact ⟨_, rfl, c.p, dx, _, rfl, h0, flds_no _ _ (by decide +kernel), _, rfl, c, Zp, now, to, Ti, rfl, W, hle, hfew.more (by decide), fun H' Zp' p W' k' => next H' Zp' W' k'⟩
    case onward =>
      rintro D σ H0 ⟨c, a, l, u, Zp, now, Ti, k, cell, number, later, name, pW, ys, ms, v11, rfl, W, hfew, hl, hp, hys, hms, next⟩
      have dueR : ∀ (to : Int) (H' : Hp), now ≤ to → Same H0 H' → tDue C D [some (.ref a), some (.ref l), some (.ref u), some (.int to), some (.ref c.p), some (.int k), some (.int cell), some (.int number), some (.str name), some (.int later), some (.ref pW), v11] H' := fun to H' hle s =>
        ⟨c, a, l, u, Zp, now, to, Ti, [some (.int k), some (.int cell), some (.int number), some (.str name), some (.int later), some (.ref pW), v11], rfl, W.same s, hfew, hle, fun H2 Zp' W2 k2 =>
          next H2 Zp' to (dueT Ti to) W2 (fun N h => (h.sub dueT_sub).more (Nat.le_succ _)) ((Keeps.same s).trans k2)⟩
      refine ⟨_, rfl, _, _, rfl, rfl, _, rfl, ?_⟩
      refine if_both ?_ (fun hB _ => ?_)
      · refine iteF ?_
        exact next H0 Zp now Ti W (fun N h => h.more (Nat.le_succ _)) (Keeps.refl _ _)
      refine ⟨_, rfl, _, _, rfl, rfl, (by show (0 : Int) < 6; decide), _, _, rfl, rfl, _, rfl, ?_⟩
      refine and_last hB (fun _ => ?_)
      refine ⟨_, rfl, _, rfl, _, _, rfl, rfl, ?_⟩
      refine ⟨_, rfl, _, _, rfl, rfl, (by show (0 : Int) < 12; decide), rfl, _, rfl, ?_⟩
      refine ite2 (fun _ => ?_) (fun _ => ?_)
      · refine ⟨_, rfl, Nat.zero_le _, fun d hd => ?_⟩
        have sd := same_new (o := .lst []) hd
        refine ⟨pW, d, ys, rfl, rfl, SqL.of (sd _ _ hp), SqL.of upd_same, _, rfl, ?_⟩
        refine ite2 (fun e => ?_) (fun _ => ?_)
        · have hne : ys ≠ [] := fun z => by
            rw [z] at e
            cases e
          have hpos : 0 < ys.length := List.length_pos_iff.mpr hne
          obtain ⟨m, hm, b, eb, hb, _⟩ := paired_get hys (List.getElem?_eq_getElem hpos)
          refine ⟨_, rfl, pW, _, _, .ref b, rfl, rfl, SqL.of (sd _ _ hp), atI_nat (j := 0) ?_, b, _, _, .int m.1, rfl, rfl, SqT.of (sd _ _ hb), atI_nat (j := 0) rfl, ?_⟩
          · rw [← eb]
            exact List.getElem?_eq_getElem hpos
          · exact dueR m.1 _ (Int.le_of_lt (W.on ((hms m).mp (List.mem_of_getElem? hm)))) sd
        · exact dueR (now + later) _ (by omega) sd
      · refine iteF ?_
        exact dueR (now + later) _ (by omega) (Same.refl H0)
    case deed =>
      rintro D σ H0 ⟨c, a, l, u, Zp, now, Ti, k, cell, number, later, name, pW, ys, ms, v11, rfl, W, hfew, hl, hp, hys, hms, next⟩
      obtain ⟨dx, h0⟩ := W.ob
      have on : ∀ H' : Hp, Same H0 H' → tDeed C D [some (.ref a), some (.ref l), some (.ref u), some (.int now), some (.ref c.p), some (.int k), some (.int cell), some (.int number), some (.str name), some (.int later), some (.ref pW), v11] H' := fun H' s =>
        ⟨c, a, l, u, Zp, now, Ti, k, cell, number, later, name, pW, ys, ms, v11, rfl, W.same s, hfew, hl, s _ _ hp, isTN_keeps (Keeps.same s) hys, hms, fun H2 Zp' now' T' W2 st k2 => next H2 Zp' now' T' W2 st ((Keeps.same s).trans k2)⟩
      refine ⟨_, rfl, _, _, rfl, rfl, _, rfl, ?_⟩
      refine if_both ?_ (fun hB _ => ?_)
      · refine iteF ?_
        refine ⟨_, rfl, _, _, rfl, rfl, _, rfl, ?_⟩
        refine ite2 (fun _ => ?_) (fun _ => ?_)
        · refine ⟨_, rfl, _, _, rfl, rfl, (by show (0 : Int) < 6; decide), rfl, _, rfl, ?_⟩
          refine ite2 (fun _ => ?_) (fun _ => ?_)
          · refine ⟨_, rfl, Nat.zero_le _, fun d hd => ?_⟩
            have sd := same_new (o := .lst []) hd
            refine ⟨pW, d, ys, rfl, rfl, SqL.of (sd _ _ hp), SqL.of upd_same, _, rfl, ?_⟩
            refine ite2 (fun e => ?_) (fun _ => ?_)
            · have hne : ys ≠ [] := fun z => by
                rw [z] at e
                cases e
              have hpos : 0 < ys.length := List.length_pos_iff.mpr hne
              have i0 := Int.emod_nonneg number (show ((ys.length : Nat) : Int) ≠ 0 by omega)
              have i1 := Int.emod_lt_of_pos number (show (0 : Int) < ((ys.length : Nat) : Int) by omega)
              have ei : number % ((ys.length : Nat) : Int) = (((number % ((ys.length : Nat) : Int)).toNat : Nat) : Int) := by omega
              generalize (number % ((ys.length : Nat) : Int)).toNat = j at ei
              have hj : j < ys.length := by omega
              obtain ⟨m, hm, b, eb, hb, _⟩ := paired_get hys (List.getElem?_eq_getElem hj)
              refine ⟨_, rfl, c.p, dx, _, rfl, sd _ _ h0, flds_no _ _ (by decide +kernel), _, rfl, _, rfl, _, rfl, pW, _, rfl, .inl (SqL.of (sd _ _ hp)), _, _, rfl, rfl, (by show (0 : Int) < (ys.length : Int); omega), pW, _, _, .ref b, rfl, rfl, SqL.of (sd _ _ hp), ?_, b, _, _, .str m.2, rfl, rfl, SqT.of (sd _ _ hb), atI_nat (j := 1) rfl,
                c, Zp, now, m.1, Ti, m.2, rfl, W.same sd, (hms m).mp (List.mem_of_getElem? hm), fun H' Zp' W2 k2 => ?_⟩
              · rw [ei]
                refine atI_nat ?_
                rw [← eb]
                exact List.getElem?_eq_getElem hj
              · exact next H' Zp' now _ W2 (fun N h => (h.del m.2).more (Nat.le_succ _)) ((Keeps.same sd).trans k2)
            · exact on _ sd
          · refine iteF ?_
            exact on H0 (Same.refl H0)
        · refine iteF ?_
          exact on H0 (Same.refl H0)
      refine ⟨_, rfl, _, _, rfl, rfl, (by show (0 : Int) < 6; decide), _, _, rfl, rfl, _, rfl, ?_⟩
      refine if_both hB (fun _ _ => ?_)
      refine ⟨_, rfl, c.p, dx, _, rfl, h0, flds_no _ _ (by decide +kernel), _, rfl, c, Zp, now, Ti, name, rfl, W, rfl, _, rfl, ?_⟩
      refine and_last hB (fun e => ?_)
      have hn : Ti name = none := by
        have e' := of_decide_eq_true e
        unfold flF at e'
        cases z : Ti name with
        | none => rfl
        | some t =>
          rw [z] at e'
          cases e'
      refine ⟨_, rfl, c.p, dx, _, rfl, h0, flds_no _ _ (by decide +kernel), _, rfl, _, rfl, _, _, rfl, rfl, _, rfl, _, _, rfl, rfl, c, Zp, now, now + 1 + later, Ti, name, rfl, W, hn, by omega, hfew, fun H' Zp' W2 k2 => ?_⟩
      exact next H' Zp' now _ W2 (fun N h => h.put name _) k2
    case main =>
      refine ⟨_, rfl, a, ns, rfl, hS, fun H1 R n rr s1 hR0 hR hn1 hn6 hb => ?_⟩
      refine ⟨_, rfl, R, n, rr, rfl, SqL.of hR, hn6, hb, fun H2 U s2 hU0 hU => ?_⟩
      have s02 : Same H H2 := s1.trans s2
      refine ⟨_, rfl, a, ns, 1, rfl, Same.seq s02 hS, fun x0 => ?_⟩
      refine ⟨_, _, rfl, rfl, ⟨by decide, by decide, by decide⟩, _, _, rfl, rfl, (by show (0 : Int) < 10 ^ (30 : Int).toNat; decide), ?_⟩
      have hR2 := s2 _ _ hR
      refine ⟨_, rfl, R, _, rfl, .inl (SqL.of hR2), fun l hl => ?_⟩
      have s3 : Same H2 (upd H2 l (.lst (rl n fun k => .int (rr k)))) := same_new hl
      have hl3 : upd H2 l (.lst (rl n fun k => .int (rr k))) l = some (.lst (rl n fun k => .int (rr k))) := upd_same
      generalize upd H2 l (.lst (rl n fun k => .int (rr k))) = H3 at s3 hl3
      refine ⟨_, rfl, ?_⟩
      intro x dx nx ndx nex
      have sm : Same H3 (upd (upd H3 dx (.own x)) x (.ins C dx [])) := fun b o e => by
        rw [upd_ne (ne_of_none e nx), upd_ne (ne_of_none e ndx)]
        exact e
      have nlx : l ≠ x := ne_of_none hl3 nx
      refine ⟨x, dx, l, n, rr, x0 % 10 ^ (30 : Int).toNat, rfl, upd_same, SqL.of (sm _ _ hl3), nlx, hn1, hn6, hb, fun H4 c Zp0 ep en er eu W4 k4 hz => ⟨rfl, ?_⟩⟩
      subst ep en er
      have s4 : Same H3 H4 := Same.made nx ndx k4
      have nz : ∀ b o, H3 b = some o → ¬ Zp0 b := fun b o e z => by
        rcases hz b z with h | h
        · rw [sm _ _ e] at h
          cases h
        · exact ne_of_none e nx h
      have eU : (fun k => V.int (uuOf c.rr k)) = fun k => V.int (c.uu k) := by rw [eu]
      rw [eU] at hU
      have hR3 := s3 _ _ hR2
      have hU3 := s3 _ _ hU
      obtain ⟨es, e1, e2⟩ : ∃ es : List Int, [V.int 2] ++ cutV (ns.map V.int) (some 8) (some 32) = es.map V.int ∧ es.length ≤ 64 := by
        refine ⟨2 :: (ns.drop (HT.sIx (ns.map V.int).length 0 (some 8))).take (HT.sIx (ns.map V.int).length (ns.map V.int).length (some 32) - HT.sIx (ns.map V.int).length 0 (some 8)), ?_, ?_⟩
        · unfold cutV
          rw [List.map_cons, List.map_take, List.map_drop]
          all_goals rfl
        · rw [List.length_cons, List.length_take, List.length_drop]
          omega
      refine ⟨(by show 1 ≤ sizeLine; decide), fun d1 hd1 => ?_⟩
      have s5 := same_new (o := .lst [.int 2]) hd1
      have s05 : Same H (upd H4 d1 (.lst [.int 2])) := s02.trans (s3.trans (s4.trans s5))
      refine ⟨_, rfl, _, rfl, _, rfl, a, _, rfl, Same.seq s05 hS, fun d2 hd2 => ?_⟩
      have s6 := same_new (o := .lst (cutV (ns.map V.int) (some 8) (some 32))) hd2
      refine ⟨d1, d2, _, _, rfl, rfl, s6 _ _ upd_same, upd_same, ?_, fun e he => ?_⟩
      · refine Nat.le_of_lt (line1000 ?_)
        rw [← List.length_append, e1, List.length_map]
        omega
      have s7 := same_new (o := .lst ([V.int 2] ++ cutV (ns.map V.int) (some 8) (some 32))) he
      have hE := upd_same (H := upd (upd H4 d1 (.lst [.int 2])) d2 (.lst (cutV (ns.map V.int) (some 8) (some 32)))) (a := e) (o := .lst ([V.int 2] ++ cutV (ns.map V.int) (some 8) (some 32)))
      have s67 := s5.trans (s6.trans s7)
      have W6 := W4.same (s5.trans s6)
      have nE := W6.nz he
      rw [e1] at hE s7 s67
      rw [e1]
      generalize upd (upd (upd H4 d1 (.lst [.int 2])) d2 (.lst (cutV (ns.map V.int) (some 8) (some 32)))) e (.lst (es.map V.int)) = H7 at hE s7 s67
      have W7 := W4.same s67
      refine ⟨e, _, rfl, SqL.of hE, for_it (walk_enum (xs := es.map V.int)) (fun i σ H' => ∃ (Zp : Addr → Prop) (now : Int) (T : Str → Option Int) (v5 v6 v7 v8 v9 v10 v11 : Option V), σ = [some (.ref a), some (.ref R), some (.ref U), some (.int now), some (.ref c.p), v5, v6, v7, v8, v9, v10, v11] ∧
        Wheel C c H' Zp now T ∧ Few i T ∧ (H' R = some (.lst (rl c.n fun k => .int (c.rr k))) ∧ ¬ Zp R) ∧ (H' U = some (.lst (rl (c.n + 1) fun k => .int (c.uu k))) ∧ ¬ Zp U) ∧ (H' e = some (.lst (es.map V.int)) ∧ ¬ Zp e)) ?_ ?_ ?_ ?_⟩
      · refine ⟨Zp0, x0 % 10 ^ (30 : Int).toNat, fun _ => none, none, none, none, none, none, none, none, rfl, W7, fun xs _ h => ?_, ⟨s67 _ _ (s4 _ _ hR3), nz _ _ hR3⟩, ⟨s67 _ _ (s4 _ _ hU3), nz _ _ hU3⟩, hE, nE⟩
        cases xs with
        | nil => exact Nat.le_refl _
        | cons y _ => cases h y List.mem_cons_self
      · rintro i σ H' _ ⟨_, _, _, _, _, _, _, _, _, _, _, _, _, _, _, h, _⟩
        exact SqL.of h
      · rintro i y σ H' H'' hi ⟨Zp, now, T, v5, v6, v7, v8, v9, v10, v11, rfl, W, hf, ⟨hR', zR⟩, ⟨hU', zU⟩, ⟨hE', zE⟩⟩ ⟨g, k, v, rfl, hg, rfl, q1, q2⟩
        cases q1
        rw [List.length_map] at hi
        obtain ⟨cell, rfl⟩ : ∃ z, v = V.int z := by
          dsimp only at q2
          rw [List.getElem?_map] at q2
          cases z : es[i]? with
          | none =>
            rw [z] at q2
            cases q2
          | some m =>
            rw [z] at q2
            exact ⟨m, (Option.some.inj q2).symm⟩
        have sg := same_new (o := .tup [.int (i : Int), .int cell]) hg
        refine ⟨g, _, rfl, SqT.of upd_same, rfl, _, _, rfl, _, _, rfl, rfl, ?_⟩
        refine ⟨_, rfl, _, rfl, cell, (i : Int), rfl, fun number => ?_⟩
        refine ⟨_, rfl, _, _, rfl, rfl, ⟨by decide, by decide⟩, _, rfl, fun name => ?_⟩
        have Un := W.U
        refine ⟨_, rfl, _, rfl, _, rfl, cell, number, U, c.n, c.uu, rfl, SqL.of (sg _ _ hU'), fun k hk => Un.pos k hk, fun Ha later sa hla => ?_⟩
        have sga := sg.trans sa
        have Wa := W.same sga
        obtain ⟨dxa, ha⟩ := Wa.ob
        refine ⟨_, rfl, c.p, dxa, _, rfl, ha, flds_no _ _ (by decide +kernel), c, Zp, now, T, rfl, Wa, hf.more (by omega), fun Hb pW ys ms sb _ hp hys hms _ => ?_⟩
        have sgb := sga.trans sb
        refine ⟨c, a, R, U, Zp, now, T, i, cell, number, later, name, pW, ys, ms, v11, rfl, Wa.same sb, hf.more (by omega), hla, hp, hys, hms, fun Hc Zc now' T' Wc st kc => ?_⟩
        obtain ⟨hRc, zRc⟩ := kc _ _ (sgb _ _ hR') zR
        obtain ⟨hUc, zUc⟩ := kc _ _ (sgb _ _ hU') zU
        obtain ⟨hEc, zEc⟩ := kc _ _ (sgb _ _ hE') zE
        have hf' := st i hf
        have n6 := Un.n6
        refine ⟨_, rfl, R, _, rfl, .inl (SqL.of hRc), ?_⟩
        rw [rl_len]
        refine ⟨(c.n : Int), rfl, by omega, by omega, ?_⟩
        refine for_range (lo := 0) (n := (c.n : Int).toNat) (fun _ σ H' => ∃ v, σ = [some (.ref a), some (.ref R), some (.ref U), some (.int now'), some (.ref c.p), some (.int (i : Int)), some (.int cell), some (.int number), some (.str name), some (.int later), some (.ref pW), v] ∧ Same Hc H') ⟨v11, rfl, Same.refl Hc⟩ ?_ ?_
        · rintro j σ Hd hj ⟨v, rfl, sd⟩
          refine ⟨_, rfl, _, rfl, _, rfl, _, rfl, c, Zc, now', T', j, R, U, ?_, Wc.same sd, by omega, SqL.of (sd _ _ hRc), SqL.of (sd _ _ hUc), hf'.more (by omega), fun He se => ?_⟩
          · show [V.ref c.p, V.int (0 + (j : Int)), V.ref R, V.ref U] = [V.ref c.p, V.int (j : Int), V.ref R, V.ref U]
            rw [Int.zero_add]
          · refine ⟨true, rfl, ?_⟩
            refine iteF ?_
            exact ⟨_, rfl, sd.trans se⟩
        · rintro σ Hd ⟨v, rfl, sd⟩
          exact ⟨Zc, now', T', _, _, _, _, _, _, _, rfl, Wc.same sd, hf', ⟨sd _ _ hRc, zRc⟩, ⟨sd _ _ hUc, zUc⟩, sd _ _ hEc, zEc⟩
      · rintro σ H' ⟨Zp, now, T, v5, v6, v7, v8, v9, v10, v11, rfl, _⟩
        exact q H'
end
end Wk

namespace Wk
open PySem L2 Wr
section
variable {P : Program} {w : World} {K : PySem.W.Frag} {mg : Str → Option Value} {base : Heap} {C f : Addr} {fd : FuncData}
theorem mok {m : Str} {k : Nat} {ps : List Str} {sp : Sp} (h : FnOk P w K mg base CX0 k f fd ps sp) (b : Binds K fd ps []) (a : PySem.W.findIn K (.ref C) m = some (some (.ref f))) (i : PySem.W.isFn K (.ref f) = true) (kp : PySem.W.keepIn K (.ref f) = true) : MOk P w K mg base C m k ps sp := ⟨⟨f, fd, h, b, ⟨a, i, kp⟩⟩⟩
theorem gok {x : Str} {k : Nat} {ps : List Str} {sp : Sp} (h : FnOk P w K mg base CX0 k f fd ps sp) (b : Binds K fd ps []) (a : mg x = some (.ref f)) (kp : PySem.W.keepIn K (.ref f) = true) : GOk P w K mg base x k ps sp := ⟨⟨f, fd, h, b, a, kp⟩⟩
end
theorem dfl_mk {K : PySem.W.Frag} {T : Addr} {o : Obj} {n : Nat} {t : Tok} (l : K.lookup T = some o) (e : o.data = .seq (List.toArray [Value.int 0 t]) n) : DflV K (.ref T) [.int 0] :=
  .inr ⟨(fun z => by cases z), T, o, [Value.int 0 t], n, rfl, l, e, .cons ⟨t, rfl⟩ .nil⟩
theorem all_mk {l : PySem.W.OpenLaw} {w : World} {K : PySem.W.Frag} {h : Heap} {mg : Str → Option Value} {fa C CW fput ftake fdue ftof fall fwat fsat flin flou flby flif fldn fnbl ftou frea fwof fbit fisw faro flow fwho fcel fmix frou funi fnam flat fbar flaw fini fwini tini twini : Addr} (X : K.In h) (G : h.Ns mainGlobals mg) (hfa : mg "law" = some (.ref fa))
    {odput anput odtake antake oddue andue odtof antof odall anall odwat anwat odsat ansat odlin anlin odlou anlou odlby anlby odlif anlif odldn anldn odnbl annbl odtou antou odrea anrea odwof anwof odbit anbit odisw anisw odaro anaro odlow anlow odwho anwho odcel ancel odmix anmix odrou anrou oduni anuni odnam annam odlat anlat odbar anbar odlaw anlaw odini anini odwini anwini : Option Addr}
    {slput sltake sldue sltof slall slwat slsat sllin sllou sllby sllif slldn slnbl sltou slrea slwof slbit slisw slaro sllow slwho slcel slmix slrou sluni slnam sllat slbar sllaw slini slwini : Array (Option Value)}
    {ocput kVput dcput pmput cdput ctput octake kVtake dctake pmtake cdtake cttake ocdue kVdue dcdue pmdue cddue ctdue octof kVtof dctof pmtof cdtof cttof ocall kVall dcall pmall cdall ctall ocwat kVwat dcwat pmwat cdwat ctwat ocsat kVsat dcsat pmsat cdsat ctsat oclin kVlin dclin pmlin cdlin ctlin oclou kVlou dclou pmlou cdlou ctlou oclby kVlby dclby pmlby cdlby ctlby oclif kVlif dclif pmlif cdlif ctlif ocldn kVldn dcldn pmldn cdldn ctldn ocnbl kVnbl dcnbl pmnbl cdnbl ctnbl octou kVtou dctou pmtou cdtou cttou ocrea kVrea dcrea pmrea cdrea ctrea ocwof kVwof dcwof pmwof cdwof ctwof ocbit kVbit dcbit pmbit cdbit ctbit ocisw kVisw dcisw pmisw cdisw ctisw ocaro kVaro dcaro pmaro cdaro ctaro oclow kVlow dclow pmlow cdlow ctlow ocwho kVwho dcwho pmwho cdwho ctwho occel kVcel dccel pmcel cdcel ctcel ocmix kVmix dcmix pmmix cdmix ctmix ocrou kVrou dcrou pmrou cdrou ctrou ocuni kVuni dcuni pmuni cduni ctuni ocnam kVnam dcnam pmnam cdnam ctnam oclat kVlat dclat pmlat cdlat ctlat ocbar kVbar dcbar pmbar cdbar ctbar oclaw kVlaw dclaw pmlaw cdlaw ctlaw ocini kVini dcini pmini cdini ctini ocwini kVwini dcwini pmwini cdwini ctwini : Value}
    {oini owini : Obj} {nini nwini : Nat} {xkini xkwini kmost kleast kgreat : Tok}
    (aC : PySem.W.nsIn K mainGlobals "Wheels" = some (some (.ref C)))
    (aW : PySem.W.nsIn K mainGlobals "Waits" = some (some (.ref CW)))
    (aput : PySem.W.findIn K (.ref C) "put" = some (some (.ref fput)))
    (iput : PySem.W.isFn K (.ref fput) = true)
    (lput : K.lookup fput = some ⟨ocput, odput, .func (PySem.W.fnOf "put" "Waits.put" (defArgs sPut) (defBody sPut) (defScope sPut) .none kVput dcput pmput anput cdput ctput), slput⟩)
    (cput : PySem.W.codeIn K cdput "Waits.put" = true)
    (kput : PySem.W.keepIn K (.ref fput) = true)
    (atake : PySem.W.findIn K (.ref C) "take" = some (some (.ref ftake)))
    (itake : PySem.W.isFn K (.ref ftake) = true)
    (ltake : K.lookup ftake = some ⟨octake, odtake, .func (PySem.W.fnOf "take" "Waits.take" (defArgs sTake) (defBody sTake) (defScope sTake) .none kVtake dctake pmtake antake cdtake cttake), sltake⟩)
    (ctake : PySem.W.codeIn K cdtake "Waits.take" = true)
    (ktake : PySem.W.keepIn K (.ref ftake) = true)
    (adue : PySem.W.findIn K (.ref C) "due" = some (some (.ref fdue)))
    (idue : PySem.W.isFn K (.ref fdue) = true)
    (ldue : K.lookup fdue = some ⟨ocdue, oddue, .func (PySem.W.fnOf "due" "Waits.due" (defArgs sDue) (defBody sDue) (defScope sDue) .none kVdue dcdue pmdue andue cddue ctdue), sldue⟩)
    (cdue : PySem.W.codeIn K cddue "Waits.due" = true)
    (kdue : PySem.W.keepIn K (.ref fdue) = true)
    (atof : PySem.W.findIn K (.ref C) "time_of" = some (some (.ref ftof)))
    (itof : PySem.W.isFn K (.ref ftof) = true)
    (ltof : K.lookup ftof = some ⟨octof, odtof, .func (PySem.W.fnOf "time_of" "Waits.time_of" (defArgs sTimeOf) (defBody sTimeOf) (defScope sTimeOf) .none kVtof dctof pmtof antof cdtof cttof), sltof⟩)
    (ctof : PySem.W.codeIn K cdtof "Waits.time_of" = true)
    (ktof : PySem.W.keepIn K (.ref ftof) = true)
    (aall : PySem.W.findIn K (.ref C) "all_of" = some (some (.ref fall)))
    (iall : PySem.W.isFn K (.ref fall) = true)
    (lall : K.lookup fall = some ⟨ocall, odall, .func (PySem.W.fnOf "all_of" "Waits.all_of" (defArgs sAllOf) (defBody sAllOf) (defScope sAllOf) .none kVall dcall pmall anall cdall ctall), slall⟩)
    (call : PySem.W.codeIn K cdall "Waits.all_of" = true)
    (kall : PySem.W.keepIn K (.ref fall) = true)
    (awat : PySem.W.findIn K (.ref C) "wheel_at" = some (some (.ref fwat)))
    (iwat : PySem.W.isFn K (.ref fwat) = true)
    (lwat : K.lookup fwat = some ⟨ocwat, odwat, .func (PySem.W.fnOf "wheel_at" "Wheels.wheel_at" (defArgs sWheelAt) (defBody sWheelAt) (defScope sWheelAt) .none kVwat dcwat pmwat anwat cdwat ctwat), slwat⟩)
    (cwat : PySem.W.codeIn K cdwat "Wheels.wheel_at" = true)
    (kwat : PySem.W.keepIn K (.ref fwat) = true)
    (asat : PySem.W.findIn K (.ref C) "slot_at" = some (some (.ref fsat)))
    (isat : PySem.W.isFn K (.ref fsat) = true)
    (lsat : K.lookup fsat = some ⟨ocsat, odsat, .func (PySem.W.fnOf "slot_at" "Wheels.slot_at" (defArgs sSlotAt) (defBody sSlotAt) (defScope sSlotAt) .none kVsat dcsat pmsat ansat cdsat ctsat), slsat⟩)
    (csat : PySem.W.codeIn K cdsat "Wheels.slot_at" = true)
    (ksat : PySem.W.keepIn K (.ref fsat) = true)
    (alin : PySem.W.findIn K (.ref C) "lay_in" = some (some (.ref flin)))
    (ilin : PySem.W.isFn K (.ref flin) = true)
    (llin : K.lookup flin = some ⟨oclin, odlin, .func (PySem.W.fnOf "lay_in" "Wheels.lay_in" (defArgs sLayIn) (defBody sLayIn) (defScope sLayIn) .none kVlin dclin pmlin anlin cdlin ctlin), sllin⟩)
    (clin : PySem.W.codeIn K cdlin "Wheels.lay_in" = true)
    (klin : PySem.W.keepIn K (.ref flin) = true)
    (alou : PySem.W.findIn K (.ref C) "lay_out" = some (some (.ref flou)))
    (ilou : PySem.W.isFn K (.ref flou) = true)
    (llou : K.lookup flou = some ⟨oclou, odlou, .func (PySem.W.fnOf "lay_out" "Wheels.lay_out" (defArgs sLayOut) (defBody sLayOut) (defScope sLayOut) .none kVlou dclou pmlou anlou cdlou ctlou), sllou⟩)
    (clou : PySem.W.codeIn K cdlou "Wheels.lay_out" = true)
    (klou : PySem.W.keepIn K (.ref flou) = true)
    (alby : PySem.W.findIn K (.ref C) "laid_by" = some (some (.ref flby)))
    (ilby : PySem.W.isFn K (.ref flby) = true)
    (llby : K.lookup flby = some ⟨oclby, odlby, .func (PySem.W.fnOf "laid_by" "Wheels.laid_by" (defArgs sLaidBy) (defBody sLaidBy) (defScope sLaidBy) .none kVlby dclby pmlby anlby cdlby ctlby), sllby⟩)
    (clby : PySem.W.codeIn K cdlby "Wheels.laid_by" = true)
    (klby : PySem.W.keepIn K (.ref flby) = true)
    (alif : PySem.W.findIn K (.ref C) "lifted" = some (some (.ref flif)))
    (ilif : PySem.W.isFn K (.ref flif) = true)
    (llif : K.lookup flif = some ⟨oclif, odlif, .func (PySem.W.fnOf "lifted" "Wheels.lifted" (defArgs sLifted) (defBody sLifted) (defScope sLifted) .none kVlif dclif pmlif anlif cdlif ctlif), sllif⟩)
    (clif : PySem.W.codeIn K cdlif "Wheels.lifted" = true)
    (klif : PySem.W.keepIn K (.ref flif) = true)
    (aldn : PySem.W.findIn K (.ref C) "let_down" = some (some (.ref fldn)))
    (ildn : PySem.W.isFn K (.ref fldn) = true)
    (lldn : K.lookup fldn = some ⟨ocldn, odldn, .func (PySem.W.fnOf "let_down" "Wheels.let_down" (defArgs sLetDown) (defBody sLetDown) (defScope sLetDown) .none kVldn dcldn pmldn anldn cdldn ctldn), slldn⟩)
    (cldn : PySem.W.codeIn K cdldn "Wheels.let_down" = true)
    (kldn : PySem.W.keepIn K (.ref fldn) = true)
    (anbl : PySem.W.findIn K (.ref C) "names_below" = some (some (.ref fnbl)))
    (inbl : PySem.W.isFn K (.ref fnbl) = true)
    (lnbl : K.lookup fnbl = some ⟨ocnbl, odnbl, .func (PySem.W.fnOf "names_below" "Wheels.names_below" (defArgs sNamesBelow) (defBody sNamesBelow) (defScope sNamesBelow) .none kVnbl dcnbl pmnbl annbl cdnbl ctnbl), slnbl⟩)
    (cnbl : PySem.W.codeIn K cdnbl "Wheels.names_below" = true)
    (knbl : PySem.W.keepIn K (.ref fnbl) = true)
    (atou : PySem.W.findIn K (.ref C) "touched" = some (some (.ref ftou)))
    (itou : PySem.W.isFn K (.ref ftou) = true)
    (ltou : K.lookup ftou = some ⟨octou, odtou, .func (PySem.W.fnOf "touched" "Wheels.touched" (defArgs sTouched) (defBody sTouched) (defScope sTouched) .none kVtou dctou pmtou antou cdtou cttou), sltou⟩)
    (ctou : PySem.W.codeIn K cdtou "Wheels.touched" = true)
    (ktou : PySem.W.keepIn K (.ref ftou) = true)
    (area : PySem.W.findIn K (.ref C) "reached" = some (some (.ref frea)))
    (irea : PySem.W.isFn K (.ref frea) = true)
    (lrea : K.lookup frea = some ⟨ocrea, odrea, .func (PySem.W.fnOf "reached" "Wheels.reached" (defArgs sReached) (defBody sReached) (defScope sReached) .none kVrea dcrea pmrea anrea cdrea ctrea), slrea⟩)
    (crea : PySem.W.codeIn K cdrea "Wheels.reached" = true)
    (krea : PySem.W.keepIn K (.ref frea) = true)
    (awof : PySem.W.findIn K (.ref C) "wheel_of" = some (some (.ref fwof)))
    (iwof : PySem.W.isFn K (.ref fwof) = true)
    (lwof : K.lookup fwof = some ⟨ocwof, odwof, .func (PySem.W.fnOf "wheel_of" "Wheels.wheel_of" (defArgs sWheelOf) (defBody sWheelOf) (defScope sWheelOf) .none kVwof dcwof pmwof anwof cdwof ctwof), slwof⟩)
    (cwof : PySem.W.codeIn K cdwof "Wheels.wheel_of" = true)
    (kwof : PySem.W.keepIn K (.ref fwof) = true)
    (abit : PySem.W.findIn K (.ref C) "bits" = some (some (.ref fbit)))
    (ibit : PySem.W.isFn K (.ref fbit) = true)
    (lbit : K.lookup fbit = some ⟨ocbit, odbit, .func (PySem.W.fnOf "bits" "Wheels.bits" (defArgs sBits) (defBody sBits) (defScope sBits) .none kVbit dcbit pmbit anbit cdbit ctbit), slbit⟩)
    (cbit : PySem.W.codeIn K cdbit "Wheels.bits" = true)
    (kbit : PySem.W.keepIn K (.ref fbit) = true)
    (aisw : PySem.W.nsIn K mainGlobals "is_whole" = some (some (.ref fisw)))
    (lisw : K.lookup fisw = some ⟨ocisw, odisw, .func (PySem.W.fnOf "is_whole" "is_whole" (defArgs sIsWhole) (defBody sIsWhole) (defScope sIsWhole) .none kVisw dcisw pmisw anisw cdisw ctisw), slisw⟩)
    (cisw : PySem.W.codeIn K cdisw "is_whole" = true)
    (kisw : PySem.W.keepIn K (.ref fisw) = true)
    (aaro : PySem.W.nsIn K mainGlobals "are_rounds" = some (some (.ref faro)))
    (laro : K.lookup faro = some ⟨ocaro, odaro, .func (PySem.W.fnOf "are_rounds" "are_rounds" (defArgs sAreRounds) (defBody sAreRounds) (defScope sAreRounds) .none kVaro dcaro pmaro anaro cdaro ctaro), slaro⟩)
    (caro : PySem.W.codeIn K cdaro "are_rounds" = true)
    (karo : PySem.W.keepIn K (.ref faro) = true)
    (alow : PySem.W.nsIn K mainGlobals "low_bit" = some (some (.ref flow)))
    (llow : K.lookup flow = some ⟨oclow, odlow, .func (PySem.W.fnOf "low_bit" "low_bit" (defArgs sLowBit) (defBody sLowBit) (defScope sLowBit) .none kVlow dclow pmlow anlow cdlow ctlow), sllow⟩)
    (clow : PySem.W.codeIn K cdlow "low_bit" = true)
    (klow : PySem.W.keepIn K (.ref flow) = true)
    (awho : PySem.W.nsIn K mainGlobals "_law_whole" = some (some (.ref fwho)))
    (lwho : K.lookup fwho = some ⟨ocwho, odwho, .func (PySem.W.fnOf "_law_whole" "_law_whole" (defArgs sWhole) (defBody sWhole) (defScope sWhole) .none kVwho dcwho pmwho anwho cdwho ctwho), slwho⟩)
    (cwho : PySem.W.codeIn K cdwho "_law_whole" = true)
    (kwho : PySem.W.keepIn K (.ref fwho) = true)
    (acel : PySem.W.nsIn K mainGlobals "_law_cell_at" = some (some (.ref fcel)))
    (lcel : K.lookup fcel = some ⟨occel, odcel, .func (PySem.W.fnOf "_law_cell_at" "_law_cell_at" (defArgs sCellAt) (defBody sCellAt) (defScope sCellAt) .none kVcel dccel pmcel ancel cdcel ctcel), slcel⟩)
    (ccel : PySem.W.codeIn K cdcel "_law_cell_at" = true)
    (kcel : PySem.W.keepIn K (.ref fcel) = true)
    (amix : PySem.W.nsIn K mainGlobals "_law_mixed" = some (some (.ref fmix)))
    (lmix : K.lookup fmix = some ⟨ocmix, odmix, .func (PySem.W.fnOf "_law_mixed" "_law_mixed" (defArgs sMixed) (defBody sMixed) (defScope sMixed) .none kVmix dcmix pmmix anmix cdmix ctmix), slmix⟩)
    (cmix : PySem.W.codeIn K cdmix "_law_mixed" = true)
    (kmix : PySem.W.keepIn K (.ref fmix) = true)
    (arou : PySem.W.nsIn K mainGlobals "_law_rounds" = some (some (.ref frou)))
    (lrou : K.lookup frou = some ⟨ocrou, odrou, .func (PySem.W.fnOf "_law_rounds" "_law_rounds" (defArgs sRounds) (defBody sRounds) (defScope sRounds) .none kVrou dcrou pmrou anrou cdrou ctrou), slrou⟩)
    (crou : PySem.W.codeIn K cdrou "_law_rounds" = true)
    (krou : PySem.W.keepIn K (.ref frou) = true)
    (auni : PySem.W.nsIn K mainGlobals "_law_units" = some (some (.ref funi)))
    (luni : K.lookup funi = some ⟨ocuni, oduni, .func (PySem.W.fnOf "_law_units" "_law_units" (defArgs sUnits) (defBody sUnits) (defScope sUnits) .none kVuni dcuni pmuni anuni cduni ctuni), sluni⟩)
    (cuni : PySem.W.codeIn K cduni "_law_units" = true)
    (kuni : PySem.W.keepIn K (.ref funi) = true)
    (anam : PySem.W.nsIn K mainGlobals "_law_name" = some (some (.ref fnam)))
    (lnam : K.lookup fnam = some ⟨ocnam, odnam, .func (PySem.W.fnOf "_law_name" "_law_name" (defArgs sName) (defBody sName) (defScope sName) .none kVnam dcnam pmnam annam cdnam ctnam), slnam⟩)
    (cnam : PySem.W.codeIn K cdnam "_law_name" = true)
    (knam : PySem.W.keepIn K (.ref fnam) = true)
    (alat : PySem.W.nsIn K mainGlobals "_law_later" = some (some (.ref flat)))
    (llat : K.lookup flat = some ⟨oclat, odlat, .func (PySem.W.fnOf "_law_later" "_law_later" (defArgs sLater) (defBody sLater) (defScope sLater) .none kVlat dclat pmlat anlat cdlat ctlat), sllat⟩)
    (clat : PySem.W.codeIn K cdlat "_law_later" = true)
    (klat : PySem.W.keepIn K (.ref flat) = true)
    (abar : PySem.W.nsIn K mainGlobals "_law_bits_are" = some (some (.ref fbar)))
    (lbar : K.lookup fbar = some ⟨ocbar, odbar, .func (PySem.W.fnOf "_law_bits_are" "_law_bits_are" (defArgs sBitsAre) (defBody sBitsAre) (defScope sBitsAre) .none kVbar dcbar pmbar anbar cdbar ctbar), slbar⟩)
    (cbar : PySem.W.codeIn K cdbar "_law_bits_are" = true)
    (kbar : PySem.W.keepIn K (.ref fbar) = true)
    (alaw : PySem.W.nsIn K mainGlobals "law" = some (some (.ref flaw)))
    (llaw : K.lookup flaw = some ⟨oclaw, odlaw, .func (PySem.W.fnOf "law" "law" (defArgs sLaw) (defBody sLaw) (defScope sLaw) .none kVlaw dclaw pmlaw anlaw cdlaw ctlaw), sllaw⟩)
    (claw : PySem.W.codeIn K cdlaw "law" = true)
    (klaw : PySem.W.keepIn K (.ref flaw) = true)
    (aini : PySem.W.findIn K (.ref C) "__init__" = some (some (.ref fini)))
    (iini : PySem.W.isFn K (.ref fini) = true)
    (lini : K.lookup fini = some ⟨ocini, odini, .func (PySem.W.fnOf "__init__" "Wheels.__init__" (defArgs sInit) (defBody sInit) (defScope sInit) (.ref tini) kVini dcini pmini anini cdini ctini), slini⟩)
    (cini : PySem.W.codeIn K cdini "Wheels.__init__" = true)
    (kini : PySem.W.keepIn K (.ref fini) = true)
    (tinil : K.lookup tini = some oini)
    (tinid : oini.data = .seq (List.toArray [Value.int 0 xkini]) nini)
    (awini : PySem.W.findCls K (.ref CW) (.type "type") "__init__" = some (.val (.ref fwini)))
    (lwini : K.lookup fwini = some ⟨ocwini, odwini, .func (PySem.W.fnOf "__init__" "Waits.__init__" (defArgs sWInit) (defBody sWInit) (defScope sWInit) (.ref twini) kVwini dcwini pmwini anwini cdwini ctwini), slwini⟩)
    (cwini : PySem.W.codeIn K cdwini "Waits.__init__" = true)
    (kwini : PySem.W.keepIn K (.ref fwini) = true)
    (twinil : K.lookup twini = some owini)
    (twinid : owini.data = .seq (List.toArray [Value.int 0 xkwini]) nwini)
    (rW : PySem.W.readsIn K CW (.type "type") = true)
    (gW : PySem.W.specialIn K (.ref CW) "__getattribute__" = some (some (.builtin "type.__getattribute__")))
    (pg : PySem.W.plainGet K C Str.empty = true)
    (hd : PySem.W.hasDictIn K C = true)
    (po : PySem.W.plainOver K C = true)
    (sa : PySem.W.findIn K (.ref C) "__setattr__" = some (some (.builtin "object.__setattr__")))
    (mk : PySem.W.makesIn K C = true)
    (kc : PySem.W.keepIn K (.ref C) = true)
    (n_now : PySem.W.findIn K (.ref C) "now" = some none)
    (n_times : PySem.W.findIn K (.ref C) "times" = some none)
    (n_rounds : PySem.W.findIn K (.ref C) "rounds" = some none)
    (n_units : PySem.W.findIn K (.ref C) "units" = some none)
    (n_masks : PySem.W.findIn K (.ref C) "masks" = some none)
    (n_slots : PySem.W.findIn K (.ref C) "slots" = some none)
    (n_far : PySem.W.findIn K (.ref C) "far" = some none)
    (n_lying : PySem.W.findIn K (.ref C) "lying" = some none)
    (n_falls : PySem.W.findIn K (.ref C) "falls" = some none)
    (z_len : PySem.W.nsIn K mainGlobals "len" = some none)
    (z_range : PySem.W.nsIn K mainGlobals "range" = some none)
    (z_divmod : PySem.W.nsIn K mainGlobals "divmod" = some none)
    (z_list : PySem.W.nsIn K mainGlobals "list" = some none)
    (z_sorted : PySem.W.nsIn K mainGlobals "sorted" = some none)
    (z_isinstance : PySem.W.nsIn K mainGlobals "isinstance" = some none)
    (z_int : PySem.W.nsIn K mainGlobals "int" = some none)
    (z_bool : PySem.W.nsIn K mainGlobals "bool" = some none)
    (z_all : PySem.W.nsIn K mainGlobals "all" = some none)
    (z_enumerate : PySem.W.nsIn K mainGlobals "enumerate" = some none)
    (v_most : PySem.W.nsIn K mainGlobals "MOST" = some (some (.int 6 kmost)))
    (v_least : PySem.W.nsIn K mainGlobals "LEAST_ROUND" = some (some (.int 2 kleast)))
    (v_great : PySem.W.nsIn K mainGlobals "GREATEST_ROUND" = some (some (.int 60 kgreat)))
    : ∃ fd : FuncData, (∀ (s : Shared) (v : Value), BindsTo s fd ⟨[v], []⟩ [("_law_script", v)]) ∧ ∀ base : Heap, K.In base → base.Ns mainGlobals mg → FnOk l.prog w K mg base CX0 6 fa fd ["_law_script"] (spLaw K) := by
  have e := hfa.symm.trans (PySem.W.mg_of X G alaw)
  cases e
  have Fput := fun_mk (st := sPut) lput cput kput
  have bput := Fput.binds (ps := ["self", "name", "time"]) fun _ _ _ _ _ _ us hl => match us, hl with | [_, _, _], _ => rfl
  have Ftake := fun_mk (st := sTake) ltake ctake ktake
  have btake := Ftake.binds (ps := ["self", "name"]) fun _ _ _ _ _ _ us hl => match us, hl with | [_, _], _ => rfl
  have Fdue := fun_mk (st := sDue) ldue cdue kdue
  have bdue := Fdue.binds (ps := ["self", "to"]) fun _ _ _ _ _ _ us hl => match us, hl with | [_, _], _ => rfl
  have Ftof := fun_mk (st := sTimeOf) ltof ctof ktof
  have btof := Ftof.binds (ps := ["self", "name"]) fun _ _ _ _ _ _ us hl => match us, hl with | [_, _], _ => rfl
  have Fall := fun_mk (st := sAllOf) lall call kall
  have ball := Fall.binds (ps := ["self"]) fun _ _ _ _ _ _ us hl => match us, hl with | [_], _ => rfl
  have Fwat := fun_mk (st := sWheelAt) lwat cwat kwat
  have bwat := Fwat.binds (ps := ["self", "time", "now"]) fun _ _ _ _ _ _ us hl => match us, hl with | [_, _, _], _ => rfl
  have Fsat := fun_mk (st := sSlotAt) lsat csat ksat
  have bsat := Fsat.binds (ps := ["self", "k", "time"]) fun _ _ _ _ _ _ us hl => match us, hl with | [_, _, _], _ => rfl
  have Flin := fun_mk (st := sLayIn) llin clin klin
  have blin := Flin.binds (ps := ["self", "name", "time", "k"]) fun _ _ _ _ _ _ us hl => match us, hl with | [_, _, _, _], _ => rfl
  have Flou := fun_mk (st := sLayOut) llou clou klou
  have blou := Flou.binds (ps := ["self", "name", "time"]) fun _ _ _ _ _ _ us hl => match us, hl with | [_, _, _], _ => rfl
  have Flby := fun_mk (st := sLaidBy) llby clby klby
  have blby := Flby.binds (ps := ["self", "name", "time"]) fun _ _ _ _ _ _ us hl => match us, hl with | [_, _, _], _ => rfl
  have Flif := fun_mk (st := sLifted) llif clif klif
  have blif := Flif.binds (ps := ["self", "name", "time"]) fun _ _ _ _ _ _ us hl => match us, hl with | [_, _, _], _ => rfl
  have Fldn := fun_mk (st := sLetDown) lldn cldn kldn
  have bldn := Fldn.binds (ps := ["self", "name", "time", "to"]) fun _ _ _ _ _ _ us hl => match us, hl with | [_, _, _, _], _ => rfl
  have Fnbl := fun_mk (st := sNamesBelow) lnbl cnbl knbl
  have bnbl := Fnbl.binds (ps := ["self", "k", "slot"]) fun _ _ _ _ _ _ us hl => match us, hl with | [_, _, _], _ => rfl
  have Ftou := fun_mk (st := sTouched) ltou ctou ktou
  have btou := Ftou.binds (ps := ["self", "to"]) fun _ _ _ _ _ _ us hl => match us, hl with | [_, _], _ => rfl
  have Frea := fun_mk (st := sReached) lrea crea krea
  have brea := Frea.binds (ps := ["self", "to"]) fun _ _ _ _ _ _ us hl => match us, hl with | [_, _], _ => rfl
  have Fwof := fun_mk (st := sWheelOf) lwof cwof kwof
  have bwof := Fwof.binds (ps := ["self", "name"]) fun _ _ _ _ _ _ us hl => match us, hl with | [_, _], _ => rfl
  have Fbit := fun_mk (st := sBits) lbit cbit kbit
  have bbit := Fbit.binds (ps := ["self", "k"]) fun _ _ _ _ _ _ us hl => match us, hl with | [_, _], _ => rfl
  have Fisw := fun_mk (st := sIsWhole) lisw cisw kisw
  have bisw := Fisw.binds (ps := ["thing"]) fun _ _ _ _ _ _ us hl => match us, hl with | [_], _ => rfl
  have Faro := fun_mk (st := sAreRounds) laro caro karo
  have baro := Faro.binds (ps := ["rounds"]) fun _ _ _ _ _ _ us hl => match us, hl with | [_], _ => rfl
  have Flow := fun_mk (st := sLowBit) llow clow klow
  have blow := Flow.binds (ps := ["bits"]) fun _ _ _ _ _ _ us hl => match us, hl with | [_], _ => rfl
  have Fwho := fun_mk (st := sWhole) lwho cwho kwho
  have bwho := Fwho.binds (ps := ["_law_found"]) fun _ _ _ _ _ _ us hl => match us, hl with | [_], _ => rfl
  have Fcel := fun_mk (st := sCellAt) lcel ccel kcel
  have bcel := Fcel.binds (ps := ["_law_script", "_law_k"]) fun _ _ _ _ _ _ us hl => match us, hl with | [_, _], _ => rfl
  have Fmix := fun_mk (st := sMixed) lmix cmix kmix
  have bmix := Fmix.binds (ps := ["_law_cell", "_law_k"]) fun _ _ _ _ _ _ us hl => match us, hl with | [_, _], _ => rfl
  have Frou := fun_mk (st := sRounds) lrou crou krou
  have brou := Frou.binds (ps := ["_law_script"]) fun _ _ _ _ _ _ us hl => match us, hl with | [_], _ => rfl
  have Funi := fun_mk (st := sUnits) luni cuni kuni
  have buni := Funi.binds (ps := ["_law_rounds_here"]) fun _ _ _ _ _ _ us hl => match us, hl with | [_], _ => rfl
  have Fnam := fun_mk (st := sName) lnam cnam knam
  have bnam := Fnam.binds (ps := ["_law_number"]) fun _ _ _ _ _ _ us hl => match us, hl with | [_], _ => rfl
  have Flat := fun_mk (st := sLater) llat clat klat
  have blat := Flat.binds (ps := ["_law_cell", "_law_number", "_law_units_here"]) fun _ _ _ _ _ _ us hl => match us, hl with | [_, _, _], _ => rfl
  have Fbar := fun_mk (st := sBitsAre) lbar cbar kbar
  have bbar := Fbar.binds (ps := ["_law_told", "_law_k", "_law_rounds_here", "_law_units_here"]) fun _ _ _ _ _ _ us hl => match us, hl with | [_, _, _, _], _ => rfl
  have Flaw := fun_mk (st := sLaw) llaw claw klaw
  have Fini : FunD K "__init__" "Wheels.__init__" (defArgs sInit) (defBody sInit) (defScope sInit) [.int 0] [] fini _ := ⟨⟨_, _, _, _, _, _, _, _, _, _, rfl, lini, cini, dfl_mk tinil tinid, .inl rfl⟩, kini⟩
  have Fwini : FunD K "__init__" "Waits.__init__" (defArgs sWInit) (defBody sWInit) (defScope sWInit) [.int 0] [] fwini _ := ⟨⟨_, _, _, _, _, _, _, _, _, _, rfl, lwini, cwini, dfl_mk twinil twinid, .inl rfl⟩, kwini⟩
  have T : Txt K mg C := ⟨⟨pg, hd, po, sa⟩, n_now, n_times, n_rounds, n_units, n_masks, n_slots, n_far, n_lying, n_falls, PySem.W.mg_none_of X G z_len, PySem.W.mg_none_of X G z_range, PySem.W.mg_none_of X G z_divmod, PySem.W.mg_none_of X G z_list, PySem.W.mg_none_of X G z_sorted⟩
  have TG : TxtG mg := ⟨PySem.W.mg_none_of X G z_isinstance, PySem.W.mg_none_of X G z_int, PySem.W.mg_none_of X G z_bool, PySem.W.mg_none_of X G z_all, ⟨_, PySem.W.mg_of X G v_most⟩, ⟨_, PySem.W.mg_of X G v_least⟩, ⟨_, PySem.W.mg_of X G v_great⟩⟩
  have TL : TxtL mg C := ⟨PySem.W.mg_none_of X G z_enumerate, PySem.W.mg_of X G aC⟩
  have CF : ClsFn K CW (.type "type") "__init__" fwini := ⟨⟨rW, gW⟩, awini, kwini⟩
  refine ⟨PySem.W.fnOf "law" "law" (defArgs sLaw) (defBody sLaw) (defScope sLaw) .none kVlaw dclaw pmlaw anlaw cdlaw ctlaw, fun s v => .of_eq rfl, fun base _ _ => ?_⟩
  have Mwat : MOk l.prog w K mg base C "wheel_at" 1 ["self", "time", "now"] (spWheelAt C) := mok (ok_wheel_at Fwat T) bwat awat iwat kwat
  have Msat : MOk l.prog w K mg base C "slot_at" 1 ["self", "k", "time"] (spSlotAt C) := mok (ok_slot_at Fsat T) bsat asat isat ksat
  have Mlin : MOk l.prog w K mg base C "lay_in" 2 ["self", "name", "time", "k"] (spLayIn C) := mok (ok_lay_in Flin T Msat) blin alin ilin klin
  have Mlou : MOk l.prog w K mg base C "lay_out" 2 ["self", "name", "time"] (spLayOut C) := mok (ok_lay_out Flou T Msat) blou alou ilou klou
  have Mlby : MOk l.prog w K mg base C "laid_by" 3 ["self", "name", "time"] (spLaidBy C) := mok (ok_laid_by Flby T Mwat Mlin) blby alby ilby klby
  have Mlif : MOk l.prog w K mg base C "lifted" 3 ["self", "name", "time"] (spLifted C) := mok (ok_lifted Flif T Mlou) blif alif ilif klif
  have Mldn : MOk l.prog w K mg base C "let_down" 3 ["self", "name", "time", "to"] (spLetDown C) := mok (ok_let_down Fldn T Mwat Mlin Mlou) bldn aldn ildn kldn
  have Mlow : GOk l.prog w K mg base "low_bit" 1 ["bits"] (spLowBit) := gok (ok_low_bit Flow) blow (PySem.W.mg_of X G alow) klow
  have Mnbl : MOk l.prog w K mg base C "names_below" 2 ["self", "k", "slot"] (spNamesBelow C) := mok (ok_names_below Fnbl T Mlow) bnbl anbl inbl knbl
  have Mtou : MOk l.prog w K mg base C "touched" 3 ["self", "to"] (spTouched C) := mok (ok_touched Ftou T Mwat Msat Mnbl) btou atou itou ktou
  have Mrea : MOk l.prog w K mg base C "reached" 4 ["self", "to"] (spReached C) := mok (ok_reached Frea T Mtou Mlif Mldn) brea area irea krea
  have Mput : MOk l.prog w K mg base C "put" 4 ["self", "name", "time"] (spPut C) := mok (ok_put Fput T Mlby) bput aput iput kput
  have Mtake : MOk l.prog w K mg base C "take" 4 ["self", "name"] (spTake C) := mok (ok_take Ftake T Mlif) btake atake itake ktake
  have Mdue : MOk l.prog w K mg base C "due" 5 ["self", "to"] (spDue C) := mok (ok_due Fdue T Mrea) bdue adue idue kdue
  have Mtof : MOk l.prog w K mg base C "time_of" 1 ["self", "name"] (spTimeOf C) := mok (ok_time_of Ftof T) btof atof itof ktof
  have Mwof : MOk l.prog w K mg base C "wheel_of" 1 ["self", "name"] (spWheelOf C) := mok (ok_wheel_of Fwof T) bwof awof iwof kwof
  have Mbit : MOk l.prog w K mg base C "bits" 1 ["self", "k"] (spBits C) := mok (ok_bits Fbit T) bbit abit ibit kbit
  have Mall : MOk l.prog w K mg base C "all_of" 1 ["self"] (spAllOf C) := mok (ok_all_of Fall T) ball aall iall kall
  have Misw : GOk l.prog w K mg base "is_whole" 1 ["thing"] (spIsWhole) := gok (ok_is_whole Fisw TG) bisw (PySem.W.mg_of X G aisw) kisw
  have Maro : GOk l.prog w K mg base "are_rounds" 2 ["rounds"] (spAreRounds K) := gok (ok_are_rounds Faro T TG Misw) baro (PySem.W.mg_of X G aaro) karo
  have Mwho : GOk l.prog w K mg base "_law_whole" 1 ["_law_found"] (spIsWhole) := gok (ok_whole Fwho TG) bwho (PySem.W.mg_of X G awho) kwho
  have Mcel : GOk l.prog w K mg base "_law_cell_at" 1 ["_law_script", "_law_k"] (spCell K) := gok (ok_cell_at Fcel T) bcel (PySem.W.mg_of X G acel) kcel
  have Mmix : GOk l.prog w K mg base "_law_mixed" 1 ["_law_cell", "_law_k"] (spMixed) := gok (ok_mixed Fmix) bmix (PySem.W.mg_of X G amix) kmix
  have Mnam : GOk l.prog w K mg base "_law_name" 1 ["_law_number"] (spName) := gok (ok_name Fnam) bnam (PySem.W.mg_of X G anam) knam
  have Mrou : GOk l.prog w K mg base "_law_rounds" 2 ["_law_script"] (spRounds K) := gok (ok_rounds Frou T Mcel) brou (PySem.W.mg_of X G arou) krou
  have Muni : GOk l.prog w K mg base "_law_units" 1 ["_law_rounds_here"] (spUnits K) := gok (ok_units Funi) buni (PySem.W.mg_of X G auni) kuni
  have Mlat : GOk l.prog w K mg base "_law_later" 1 ["_law_cell", "_law_number", "_law_units_here"] (spLater K) := gok (ok_later Flat T) blat (PySem.W.mg_of X G alat) klat
  have Mbar : GOk l.prog w K mg base "_law_bits_are" 2 ["_law_told", "_law_k", "_law_rounds_here", "_law_units_here"] (spBitsAre K C) := gok (ok_bits_are Fbar T TG Mwho Mbit Mall Mwof) bbar (PySem.W.mg_of X G abar) kbar
  have GI : FnOk l.prog w K mg base CX0 3 fini _ ["self", "rounds", "now"] (spInit K C) := ok_init Fini T Maro (PySem.W.mg_of X G aW) CF Fwini
  exact ok_law Flaw T TL Mrou Muni Mcel Mmix Mnam Mlat Mbar ⟨mk, aini, iini, kc⟩ GI (binds_init Fini) Mput Mtake Mdue Mtof Mall
theorem walk {l : PySem.W.OpenLaw} {q : Program} {loose : List Str} {XP : (Str → Option Value) → Heap → Prop} {YP : World → Heap → Prop} {d : DefRec} {K : Params → PySem.W.Frag} (hn : l.most = some 63) (hdf : d.params.defaults = [])
    (hY : ∀ (w : World) (h : Heap), YP w h → (K w.params).In h)
    (F : ∀ (w : World) (mg : Str → Option Value) (fa : Addr) (h : Heap), (K w.params).In h → h.Ns mainGlobals mg → mg d.name = some (.ref fa) →
      ∃ fd : FuncData, (∀ (s : Shared) (u : Value), BindsTo s fd ⟨[u], []⟩ [("_law_script", u)]) ∧ ∀ base : Heap, (K w.params).In base → base.Ns mainGlobals mg → FnOk l.prog w (K w.params) mg base CX0 6 fa fd ["_law_script"] (spLaw (K w.params))) :
    PySem.W.WalkO q loose XP YP l.row.toRowW d [] (fun f vs => PySem.call f vs) :=
  L2.walk_of (n := 63) (k := 6) (x := "_law_script") (CX := fun _ => CX0) (sp := fun w => spLaw (K w.params)) hn (by decide) hdf ⟨rfl, by decide, by decide⟩ hY F (fun _ _ a ns hl _ hS => ⟨a, ns, rfl, hS, hl, fun _ => rfl⟩) fun _ _ _ _ _ z => z
end Wk

open PySem PySem.W PyProof.Rows in
set_option maxRecDepth 100000 in
set_option maxHeartbeats 0 in
theorem PySem.Challenge.cw_wakefew_k15_slots_by_bits_holds : PySem.Challenge.rw_wakefew_k15_slots_by_bits.Holds := by
  w_on; o_law; k_head; (case hw => w_witness2)
  k_fill
  refine Wk.walk (l := PySem.Challenge.rw_wakefew_k15_slots_by_bits) rfl rfl (fun w h Y => PySem.W.kIn_of Y) ?F
  case F =>
    intro w mg fa h KX G hmg
    refine' Wk.all_mk KX G hmg ?aC ?aW ?aput ?iput ?lput ?cput ?kput ?atake ?itake ?ltake ?ctake ?ktake ?adue ?idue ?ldue ?cdue ?kdue ?atof ?itof ?ltof ?ctof ?ktof ?aall ?iall ?lall ?call ?kall ?awat ?iwat ?lwat ?cwat ?kwat ?asat ?isat ?lsat ?csat ?ksat ?alin ?ilin ?llin ?clin ?klin ?alou ?ilou ?llou ?clou ?klou ?alby ?ilby ?llby ?clby ?klby ?alif ?ilif ?llif ?clif ?klif ?aldn ?ildn ?lldn ?cldn ?kldn ?anbl ?inbl ?lnbl ?cnbl ?knbl ?atou ?itou ?ltou ?ctou ?ktou ?area ?irea ?lrea ?crea ?krea ?awof ?iwof ?lwof ?cwof ?kwof ?abit ?ibit ?lbit ?cbit ?kbit ?aisw ?lisw ?cisw ?kisw ?aaro ?laro ?caro ?karo ?alow ?llow ?clow ?klow ?awho ?lwho ?cwho ?kwho ?acel ?lcel ?ccel ?kcel ?amix ?lmix ?cmix ?kmix ?arou ?lrou ?crou ?krou ?auni ?luni ?cuni ?kuni ?anam ?lnam ?cnam ?knam ?alat ?llat ?clat ?klat ?abar ?lbar ?cbar ?kbar ?alaw ?llaw ?claw ?klaw ?aini ?iini ?lini ?cini ?kini ?tinil ?tinid ?awini ?lwini ?cwini ?kwini ?twinil ?twinid ?rW ?gW ?pg ?hd ?po ?sa ?mk ?kc ?n_now ?n_times ?n_rounds ?n_units ?n_masks ?n_slots ?n_far ?n_lying ?n_falls ?z_len ?z_range ?z_divmod ?z_list ?z_sorted ?z_isinstance ?z_int ?z_bool ?z_all ?z_enumerate ?v_most ?v_least ?v_great
    (case aC => k_is)
    (case aW => k_is)
    (case aput => k_is)
    (case iput => k_is)
    (case lput => k_is)
    (case cput => k_is)
    (case kput => k_is)
    (case atake => k_is)
    (case itake => k_is)
    (case ltake => k_is)
    (case ctake => k_is)
    (case ktake => k_is)
    (case adue => k_is)
    (case idue => k_is)
    (case ldue => k_is)
    (case cdue => k_is)
    (case kdue => k_is)
    (case atof => k_is)
    (case itof => k_is)
    (case ltof => k_is)
    (case ctof => k_is)
    (case ktof => k_is)
    (case aall => k_is)
    (case iall => k_is)
    (case lall => k_is)
    (case call => k_is)
    (case kall => k_is)
    (case awat => k_is)
    (case iwat => k_is)
    (case lwat => k_is)
    (case cwat => k_is)
    (case kwat => k_is)
    (case asat => k_is)
    (case isat => k_is)
    (case lsat => k_is)
    (case csat => k_is)
    (case ksat => k_is)
    (case alin => k_is)
    (case ilin => k_is)
    (case llin => k_is)
    (case clin => k_is)
    (case klin => k_is)
    (case alou => k_is)
    (case ilou => k_is)
    (case llou => k_is)
    (case clou => k_is)
    (case klou => k_is)
    (case alby => k_is)
    (case ilby => k_is)
    (case llby => k_is)
    (case clby => k_is)
    (case klby => k_is)
    (case alif => k_is)
    (case ilif => k_is)
    (case llif => k_is)
    (case clif => k_is)
    (case klif => k_is)
    (case aldn => k_is)
    (case ildn => k_is)
    (case lldn => k_is)
    (case cldn => k_is)
    (case kldn => k_is)
    (case anbl => k_is)
    (case inbl => k_is)
    (case lnbl => k_is)
    (case cnbl => k_is)
    (case knbl => k_is)
    (case atou => k_is)
    (case itou => k_is)
    (case ltou => k_is)
    (case ctou => k_is)
    (case ktou => k_is)
    (case area => k_is)
    (case irea => k_is)
    (case lrea => k_is)
    (case crea => k_is)
    (case krea => k_is)
    (case awof => k_is)
    (case iwof => k_is)
    (case lwof => k_is)
    (case cwof => k_is)
    (case kwof => k_is)
    (case abit => k_is)
    (case ibit => k_is)
    (case lbit => k_is)
    (case cbit => k_is)
    (case kbit => k_is)
    (case aisw => k_is)
    (case lisw => k_is)
    (case cisw => k_is)
    (case kisw => k_is)
    (case aaro => k_is)
    (case laro => k_is)
    (case caro => k_is)
    (case karo => k_is)
    (case alow => k_is)
    (case llow => k_is)
    (case clow => k_is)
    (case klow => k_is)
    (case awho => k_is)
    (case lwho => k_is)
    (case cwho => k_is)
    (case kwho => k_is)
    (case acel => k_is)
    (case lcel => k_is)
    (case ccel => k_is)
    (case kcel => k_is)
    (case amix => k_is)
    (case lmix => k_is)
    (case cmix => k_is)
    (case kmix => k_is)
    (case arou => k_is)
    (case lrou => k_is)
    (case crou => k_is)
    (case krou => k_is)
    (case auni => k_is)
    (case luni => k_is)
    (case cuni => k_is)
    (case kuni => k_is)
    (case anam => k_is)
    (case lnam => k_is)
    (case cnam => k_is)
    (case knam => k_is)
    (case alat => k_is)
    (case llat => k_is)
    (case clat => k_is)
    (case klat => k_is)
    (case abar => k_is)
    (case lbar => k_is)
    (case cbar => k_is)
    (case kbar => k_is)
    (case alaw => k_is)
    (case llaw => k_is)
    (case claw => k_is)
    (case klaw => k_is)
    (case aini => k_is)
    (case iini => k_is)
    (case lini => k_is)
    (case cini => k_is)
    (case kini => k_is)
    (case tinil => k_is)
    (case tinid => rfl)
    (case awini => k_is)
    (case lwini => k_is)
    (case cwini => k_is)
    (case kwini => k_is)
    (case twinil => k_is)
    (case twinid => rfl)
    (case rW => k_is)
    (case gW => k_is)
    (case pg => k_is)
    (case hd => k_is)
    (case po => k_is)
    (case sa => k_is)
    (case mk => k_is)
    (case kc => k_is)
    (case n_now => k_is)
    (case n_times => k_is)
    (case n_rounds => k_is)
    (case n_units => k_is)
    (case n_masks => k_is)
    (case n_slots => k_is)
    (case n_far => k_is)
    (case n_lying => k_is)
    (case n_falls => k_is)
    (case z_len => k_is)
    (case z_range => k_is)
    (case z_divmod => k_is)
    (case z_list => k_is)
    (case z_sorted => k_is)
    (case z_isinstance => k_is)
    (case z_int => k_is)
    (case z_bool => k_is)
    (case z_all => k_is)
    (case z_enumerate => k_is)
    (case v_most => k_is)
    (case v_least => k_is)
    (case v_great => k_is)
