import PyProof.Rows.All
import Ut08Spec
import Ut08Neutral
import PyUt08
import Wide.All
import OpenK.AllK
import Wide.FinOn
import PyProof.EqAt
import PyProof.EqKinds
import PyProof.TupleCall
import Open.SpecLaws
import KE.OsGo
import KE.OsRun
import KE.KIntText
import HandS.ForSpec
import HandS.ForMost
import HandS.Evl
import HandS.Walk
import HandS.Flow
import HandS.ExcInit
import HandS.TupSets
import HandS.Conv
import HandS.CallSlots
import HandS.ExcField
import HandS.Deep
import HandS.NoneIn
import PySem.Challenge.RW_writtendays_s01_answers
set_option Elab.async false
set_option linter.all false
set_option maxRecDepth 100000
set_option maxHeartbeats 4000000
namespace Wd
open Ut08

/-! digits -/
theorem digitsFrom_succ (f n : Nat) : digitsFrom (f + 1) n = if n < 10 then [48 + n] else digitsFrom f (n / 10) ++ [48 + n % 10] := rfl
theorem digitChar_code : ∀ d, d < 10 → (Nat.digitChar d).toNat = 48 + d := by decide
theorem digitsFrom_toDigits : ∀ (f n : Nat), 0 < f → n < 10 ^ f → (Nat.toDigits 10 n).map Char.toNat = digitsFrom f n
  | 0, _, h, _ => absurd h (Nat.lt_irrefl 0)
  | f + 1, n, _, hn => by
    rw [digitsFrom_succ, Nat.toDigits_eq_if (by decide)]
    by_cases c : n < 10
    · rw [if_pos c, if_pos c, List.map_cons, List.map_nil, digitChar_code n c]
    · rw [if_neg c, if_neg c, List.map_append, List.map_cons, List.map_nil, digitChar_code _ (Nat.mod_lt _ (by decide))]
      cases f with
      | zero => exact absurd hn (by simpa using c)
      | succ f => rw [digitsFrom_toDigits (f + 1) (n / 10) (Nat.succ_pos _) (by rw [Nat.div_lt_iff_lt_mul (by decide)]; rw [Nat.pow_succ] at hn; exact hn)]
theorem toDigits_digits {n : Nat} (h : n < 10 ^ 20) : (Nat.toDigits 10 n).map Char.toNat = digits n := digitsFrom_toDigits 20 n (by decide) h
theorem digitsFrom_fuel : ∀ (f g n : Nat), 0 < f → 0 < g → n < 10 ^ f → n < 10 ^ g → digitsFrom f n = digitsFrom g n := fun f g n a b c d =>
  (digitsFrom_toDigits f n a c).symm.trans (digitsFrom_toDigits g n b d)
theorem digits_lt {n : Nat} (h : n < 10) : digits n = [48 + n] := by
  show digitsFrom (19 + 1) n = _
  rw [digitsFrom_succ, if_pos h]
theorem digits_ge {n : Nat} (h : 10 ≤ n) (h2 : n < 10 ^ 20) : digits n = digits (n / 10) ++ [48 + n % 10] := by
  show digitsFrom (19 + 1) n = digitsFrom 20 (n / 10) ++ _
  rw [digitsFrom_succ, if_neg (by omega)]
  have e : n / 10 < 10 ^ 19 := by
    rw [Nat.div_lt_iff_lt_mul (by decide)]
    exact h2
  rw [digitsFrom_fuel 19 20 (n / 10) (by decide) (by decide) e (Nat.lt_trans e (by decide))]
theorem isDigit_iff {c : Nat} : isDigit c = true ↔ 48 ≤ c ∧ c ≤ 57 := by
  unfold isDigit
  rw [Bool.and_eq_true, decide_eq_true_iff, decide_eq_true_iff]
theorem digitsFrom_isDigit : ∀ (f n : Nat), (digitsFrom f n).all isDigit = true
  | 0, _ => rfl
  | f + 1, n => by
    rw [digitsFrom_succ]
    by_cases c : n < 10
    · rw [if_pos c]
      simp [isDigit_iff]
      omega
    · rw [if_neg c, List.all_append, digitsFrom_isDigit f]
      have := Nat.mod_lt n (show 0 < 10 by decide)
      simp [isDigit_iff]
      omega
theorem digits_isDigit (n : Nat) : (digits n).all isDigit = true := digitsFrom_isDigit 20 n
theorem digits_ne_nil (n : Nat) : digits n ≠ [] := by
  show digitsFrom (19 + 1) n ≠ []
  rw [digitsFrom_succ]
  split <;> simp
theorem digits_pos (n : Nat) : 0 < (digits n).length := List.length_pos_iff.mpr (digits_ne_nil n)
theorem digitsFrom_len : ∀ (f n k : Nat), 0 < k → n < 10 ^ k → (digitsFrom f n).length ≤ k
  | 0, _, _, _, _ => Nat.zero_le _
  | f + 1, n, k, hk, hn => by
    rw [digitsFrom_succ]
    by_cases c : n < 10
    · rw [if_pos c]
      exact hk
    · rw [if_neg c, List.length_append]
      cases k with
      | zero => exact absurd hk (Nat.lt_irrefl 0)
      | succ k =>
        cases k with
        | zero => exact absurd hn (by simpa using c)
        | succ k =>
          have := digitsFrom_len f (n / 10) (k + 1) (Nat.succ_pos _) (by rw [Nat.div_lt_iff_lt_mul (by decide)]; rw [Nat.pow_succ] at hn; exact hn)
          simp
          omega
theorem digits_len {n k : Nat} (hk : 0 < k) (hn : n < 10 ^ k) : (digits n).length ≤ k := digitsFrom_len 20 n k hk hn
theorem digitsFrom_len_ge : ∀ (f n k : Nat), k < f → 10 ^ k ≤ n → k < (digitsFrom f n).length
  | 0, _, _, h, _ => absurd h (Nat.not_lt_zero _)
  | f + 1, n, k, hk, hn => by
    rw [digitsFrom_succ]
    by_cases c : n < 10
    · rw [if_pos c]
      cases k with
      | zero => simp
      | succ k =>
        rw [Nat.pow_succ] at hn
        have := Nat.pow_pos (n := k) (show 0 < 10 by decide)
        omega
    · rw [if_neg c, List.length_append]
      cases k with
      | zero => simp
      | succ k =>
        have := digitsFrom_len_ge f (n / 10) k (by omega) (by rw [Nat.le_div_iff_mul_le (by decide)]; rw [Nat.pow_succ] at hn; exact hn)
        simp
        omega
theorem digits_len_ge {n k : Nat} (hk : k < 20) (hn : 10 ^ k ≤ n) : k < (digits n).length := digitsFrom_len_ge 20 n k hk hn
/-! the value of digits -/
theorem valueOf_snoc (w : Bytes) (c : Nat) : valueOf (w ++ [c]) = 10 * valueOf w + (c - 48) := by
  unfold valueOf
  rw [List.foldl_append]
  rfl
theorem valueOf_nil : valueOf [] = 0 := rfl
theorem valueOf_digitsFrom : ∀ (f n : Nat), 0 < f → n < 10 ^ f → valueOf (digitsFrom f n) = n
  | 0, _, h, _ => absurd h (Nat.lt_irrefl 0)
  | f + 1, n, _, hn => by
    rw [digitsFrom_succ]
    by_cases c : n < 10
    · rw [if_pos c]
      show 10 * 0 + (48 + n - 48) = n
      omega
    · rw [if_neg c, valueOf_snoc]
      cases f with
      | zero => exact absurd hn (by simpa using c)
      | succ f =>
        rw [valueOf_digitsFrom (f + 1) (n / 10) (Nat.succ_pos _) (by rw [Nat.div_lt_iff_lt_mul (by decide)]; rw [Nat.pow_succ] at hn; exact hn)]
        omega
theorem valueOf_digits {n : Nat} (h : n < 10 ^ 20) : valueOf (digits n) = n := valueOf_digitsFrom 20 n (by decide) h
theorem valueOf_zeros (w : Bytes) : ∀ k, valueOf (List.replicate k 48 ++ w) = valueOf w
  | 0 => rfl
  | k + 1 => by
    rw [List.replicate_succ, List.cons_append]
    have e := valueOf_zeros w k
    unfold valueOf at e ⊢
    rw [List.foldl_cons]
    exact e
theorem valueOf_padded {k n : Nat} (h : n < 10 ^ 20) : valueOf (padded k (digits n)) = n := by
  unfold padded
  rw [valueOf_zeros, valueOf_digits h]
theorem valueOf_lt_rev : ∀ (r : Bytes), r.all isDigit = true → valueOf r.reverse < 10 ^ r.length
  | [], _ => by decide
  | c :: r, h => by
    rw [List.reverse_cons, valueOf_snoc, List.length_cons, Nat.pow_succ]
    rw [List.all_cons, Bool.and_eq_true, isDigit_iff] at h
    have := valueOf_lt_rev r h.2
    omega
theorem valueOf_lt {w : Bytes} (h : w.all isDigit = true) : valueOf w < 10 ^ w.length := by
  have := valueOf_lt_rev w.reverse (by rw [List.all_reverse]; exact h)
  rwa [List.reverse_reverse, List.length_reverse] at this
theorem padded_length {k : Nat} {w : Bytes} (h : w.length ≤ k) : (padded k w).length = k := by
  unfold padded
  rw [List.length_append, List.length_replicate]
  omega
theorem padded_length_max {k : Nat} {w : Bytes} : (padded k w).length = max k w.length := by
  unfold padded
  rw [List.length_append, List.length_replicate]
  omega
theorem padded_all {k : Nat} {w : Bytes} (h : w.all isDigit = true) : (padded k w).all isDigit = true := by
  unfold padded
  rw [List.all_append, h, Bool.and_true, List.all_eq_true]
  intro x hx
  rw [List.eq_of_mem_replicate hx]
  rfl
/-- digits of one length with one value are the same -/
theorem digits_inj_rev : ∀ (r s : Bytes), r.all isDigit = true → s.all isDigit = true → r.length = s.length → valueOf r.reverse = valueOf s.reverse → r = s
  | [], [], _, _, _, _ => rfl
  | [], _ :: _, _, _, h, _ => by simp at h
  | _ :: _, [], _, _, h, _ => by simp at h
  | c :: r, d :: s, h1, h2, hl, hv => by
    rw [List.reverse_cons, List.reverse_cons, valueOf_snoc, valueOf_snoc] at hv
    rw [List.all_cons, Bool.and_eq_true, isDigit_iff] at h1 h2
    have e1 : c = d := by omega
    have e2 : valueOf r.reverse = valueOf s.reverse := by omega
    rw [e1, digits_inj_rev r s h1.2 h2.2 (by simpa using hl) e2]
theorem digits_inj {w v : Bytes} (h1 : w.all isDigit = true) (h2 : v.all isDigit = true) (hl : w.length = v.length) (hv : valueOf w = valueOf v) : w = v := by
  have := digits_inj_rev w.reverse v.reverse (by rw [List.all_reverse]; exact h1) (by rw [List.all_reverse]; exact h2) (by simpa using hl) (by simpa using hv)
  simpa using this
theorem padded_valueOf {w : Bytes} (h : w.all isDigit = true) (h0 : 0 < w.length) (h1 : w.length ≤ 20) : padded w.length (digits (valueOf w)) = w := by
  have hb : valueOf w < 10 ^ 20 := Nat.lt_of_lt_of_le (valueOf_lt h) (Nat.pow_le_pow_right (by decide) h1)
  exact digits_inj (padded_all (digits_isDigit _)) h (padded_length (digits_len h0 (valueOf_lt h))) (valueOf_padded hb)
end Wd
namespace Wd
open Ut08

/-- the sign between threes as the program has it: 256 for none -/
def thr (g : Option Nat) : Nat := g.getD 256
/-- what one digit adds -/
def gstep (g : Option Nat) (n k b : Nat) : Bytes := if 0 < k ∧ (n - k) % 3 = 0 ∧ thr g ≠ 256 then [thr g, b] else [b]
def groupTo (g : Option Nat) (w : Bytes) (i : Nat) : Bytes := (w.zipIdx.take i).flatMap fun x => gstep g w.length x.2 x.1
theorem groupTo_zero (g : Option Nat) (w : Bytes) : groupTo g w 0 = [] := rfl
theorem groupTo_succ {g : Option Nat} {w : Bytes} {i b : Nat} (h : w[i]? = some b) : groupTo g w (i + 1) = groupTo g w i ++ gstep g w.length i b := by
  unfold groupTo
  have e : w.zipIdx[i]? = some (b, i) := by
    rw [List.getElem?_zipIdx, h]
    simp
  rw [List.take_add_one, e]
  simp
theorem flat_fst : ∀ (w : Bytes) (k : Nat), (w.zipIdx k).flatMap (fun x => [x.1]) = w
  | [], _ => rfl
  | b :: w, k => by
    rw [List.zipIdx_cons, List.flatMap_cons, flat_fst w]
    rfl
theorem groupTo_all {g : Option Nat} {w : Bytes} (hg : ∀ c, g = some c → c ≠ 256) : groupTo g w w.length = grouped g w := by
  unfold groupTo
  have e : w.zipIdx.take w.length = w.zipIdx := by
    rw [List.take_of_length_le]
    simp
  rw [e]
  cases g with
  | none =>
    unfold grouped gstep thr
    simp only [Option.getD_none, ne_eq, not_true_eq_false, and_false, if_false]
    exact flat_fst w 0
  | some c =>
    have hc := hg c rfl
    unfold grouped gstep thr
    simp [hc]
theorem groupTo_len (g : Option Nat) (w : Bytes) (i : Nat) : (groupTo g w i).length ≤ 2 * i := by
  unfold groupTo
  induction i with
  | zero => simp
  | succ i ih =>
    rw [List.take_add_one, List.flatMap_append, List.length_append]
    have : (List.flatMap (fun x => gstep g w.length x.2 x.1) w.zipIdx[i]?.toList).length ≤ 2 := by
      cases w.zipIdx[i]? with
      | none => simp
      | some x =>
        simp
        unfold gstep
        split <;> simp
    omega
/-! what stands in a grouped row -/
theorem mem_grouped {g : Option Nat} {w : Bytes} {c : Nat} (h : c ∈ grouped g w) : c ∈ w ∨ g = some c := by
  unfold grouped at h
  cases g with
  | none => exact .inl h
  | some s =>
    simp only [List.mem_flatMap] at h
    obtain ⟨x, hx, hc⟩ := h
    have hm : x.1 ∈ w := by
      have := List.mem_zipIdx hx
      simp at this
      rw [this.2]
      exact List.getElem_mem _
    split at hc
    · simp at hc
      rcases hc with e | e
      · exact .inr (by rw [e])
      · exact .inl (e ▸ hm)
    · simp at hc
      exact .inl (hc ▸ hm)
theorem filter_grouped {g : Option Nat} {w : Bytes} {p : Nat → Bool} (hw : ∀ c ∈ w, p c = true) (hg : ∀ c, g = some c → p c = false) : (grouped g w).filter p = w := by
  unfold grouped
  cases g with
  | none => exact List.filter_eq_self.mpr hw
  | some s =>
    have hs := hg s rfl
    show List.filter p (w.zipIdx.flatMap _) = w
    rw [List.filter_flatMap]
    have e : ∀ x ∈ w.zipIdx, List.filter p (if 0 < x.2 ∧ (w.length - x.2) % 3 = 0 then [s, x.1] else [x.1]) = [x.1] := fun x hx => by
      have hm : x.1 ∈ w := by
        have := List.mem_zipIdx hx
        simp at this
        rw [this.2]
        exact List.getElem_mem _
      split <;> simp [hs, hw _ hm]
    have e2 : w.zipIdx.flatMap (fun x => List.filter p (if 0 < x.2 ∧ (w.length - x.2) % 3 = 0 then [s, x.1] else [x.1])) = w.zipIdx.flatMap fun x => [x.1] := by
      rw [List.flatMap_def, List.flatMap_def, List.map_congr_left e]
    exact e2.trans (flat_fst w 0)
theorem grouped_head {g : Option Nat} {b : Nat} {w : Bytes} : (grouped g (b :: w)).head? = some b := by
  unfold grouped
  cases g with
  | none => rfl
  | some s =>
    show (List.flatMap _ ((b :: w).zipIdx)).head? = some b
    rw [List.zipIdx_cons, List.flatMap_cons]
    simp
/-! rounding -/
theorem rounded_exact {x y k m : Nat} (hk : k ≤ m) (hm : m ≤ 6) : rounded (x * 10 ^ 6 + y * 10 ^ (6 - k)) m = x * 10 ^ m + y * 10 ^ (m - k) := by
  have e1 : 10 ^ 6 = 10 ^ (6 - m) * 10 ^ m := by rw [← Nat.pow_add]; congr 1; omega
  have e2 : 10 ^ (6 - k) = 10 ^ (6 - m) * 10 ^ (m - k) := by rw [← Nat.pow_add]; congr 1; omega
  have e : x * 10 ^ 6 + y * 10 ^ (6 - k) = 10 ^ (6 - m) * (x * 10 ^ m + y * 10 ^ (m - k)) := by
    rw [e2, e1, Nat.mul_add, Nat.mul_left_comm x, Nat.mul_left_comm y]
  have hd : 0 < 10 ^ (6 - m) := Nat.pow_pos (by decide)
  unfold rounded
  rw [e]
  simp only []
  rw [Nat.mul_div_cancel_left _ hd, Nat.mul_mod_right, if_pos (Or.inl (by omega))]
theorem whole_exact {x y k m : Nat} (hk : k ≤ m) (hm : m ≤ 6) (hy : y < 10 ^ k) : rounded (x * 10 ^ 6 + y * 10 ^ (6 - k)) m / 10 ^ m = x := by
  rw [rounded_exact hk hm]
  have hd : 0 < 10 ^ m := Nat.pow_pos (by decide)
  have : y * 10 ^ (m - k) < 10 ^ m := by
    have e : 10 ^ m = 10 ^ k * 10 ^ (m - k) := by rw [← Nat.pow_add]; congr 1; omega
    rw [e]
    exact Nat.mul_lt_mul_of_pos_right hy (Nat.pow_pos (by decide))
  rw [Nat.mul_comm x, Nat.mul_add_div hd, Nat.div_eq_of_lt this, Nat.add_zero]
/-- as the program rounds -/
theorem rounded_prog (n m : Nat) : rounded n m = (if 10 ^ (6 - m) < 2 * (n % 10 ^ (6 - m)) ∨ (2 * (n % 10 ^ (6 - m)) = 10 ^ (6 - m) ∧ n / 10 ^ (6 - m) % 2 = 1) then n / 10 ^ (6 - m) + 1 else n / 10 ^ (6 - m)) := by
  unfold rounded
  simp only []
  by_cases c : 2 * (n % 10 ^ (6 - m)) < 10 ^ (6 - m) ∨ (2 * (n % 10 ^ (6 - m)) = 10 ^ (6 - m) ∧ n / 10 ^ (6 - m) % 2 = 0)
  · rw [if_pos c, if_neg (by omega)]
  · rw [if_neg c, if_pos (by omega)]
theorem rounded_le {n m : Nat} : rounded n m ≤ n + 1 := by
  have hd : 0 < 10 ^ (6 - m) := Nat.pow_pos (by decide)
  have := Nat.div_le_self n (10 ^ (6 - m))
  rw [rounded_prog]
  split <;> omega
/-! noughts at the end -/
def keepLen (w : Bytes) : Nat := (w.reverse.dropWhile fun c => c == 48).length
theorem keepLen_nil : keepLen [] = 0 := rfl
theorem keepLen_snoc (w : Bytes) (c : Nat) : keepLen (w ++ [c]) = if c = 48 then keepLen w else w.length + 1 := by
  unfold keepLen
  rw [List.reverse_append, List.reverse_cons, List.reverse_nil, List.nil_append, List.cons_append, List.nil_append, List.dropWhile_cons]
  by_cases h : c = 48
  · simp [h]
  · simp [h]
theorem keepLen_le : ∀ w : Bytes, keepLen w ≤ w.length := fun w => by
  unfold keepLen
  have := (List.dropWhile_suffix (fun c => c == 48) (l := w.reverse)).length_le
  simpa using this
theorem snoc_ind {P : Bytes → Prop} (h0 : P []) (h1 : ∀ w c, P w → P (w ++ [c])) (w : Bytes) : P w := by
  have : ∀ r : Bytes, P r.reverse := fun r => by
    induction r with
    | nil => exact h0
    | cons c r ih => rw [List.reverse_cons]; exact h1 _ _ ih
  simpa using this w.reverse
/-- behind what is kept there are noughts alone; what is kept ends on another sign -/
theorem keepLen_after (w : Bytes) : ∀ m, keepLen w ≤ m → m < w.length → w[m]? = some 48 := by
  refine snoc_ind (P := fun w => ∀ m, keepLen w ≤ m → m < w.length → w[m]? = some 48) (fun m _ h => absurd h (Nat.not_lt_zero _)) (fun w c ih m h1 h2 => ?_) w
  rw [keepLen_snoc] at h1
  rw [List.length_append, List.length_singleton] at h2
  by_cases hc : c = 48
  · rw [if_pos hc] at h1
    by_cases hm : m < w.length
    · rw [List.getElem?_append_left hm]
      exact ih m h1 hm
    · have e : m = w.length := by omega
      rw [e, List.getElem?_append_right (Nat.le_refl _), hc]
      simp
  · rw [if_neg hc] at h1
    omega
theorem keepLen_last (w : Bytes) : 0 < keepLen w → w[keepLen w - 1]? ≠ some 48 := by
  refine snoc_ind (P := fun w => 0 < keepLen w → w[keepLen w - 1]? ≠ some 48) (fun h => absurd h (Nat.lt_irrefl 0)) (fun w c ih h => ?_) w
  rw [keepLen_snoc] at h ⊢
  by_cases hc : c = 48
  · rw [if_pos hc] at h ⊢
    have := keepLen_le w
    rw [List.getElem?_append_left (by omega)]
    exact ih h
  · rw [if_neg hc]
    simp [hc]
theorem trimmed_eq (least : Nat) (w : Bytes) : trimmed least w = w.take (max least (keepLen w)) := rfl
/-- one turn of the program's loop: m digits are left -/
theorem trim_turn {least m : Nat} {w : Bytes} (h1 : max least (keepLen w) ≤ m) (h2 : m ≤ w.length) (h3 : least < m) (h4 : w[m - 1]? = some 48) : max least (keepLen w) ≤ m - 1 := by
  by_cases e : keepLen w = m
  · exact absurd (by rw [e]; exact h4) (keepLen_last w (by omega))
  · omega
theorem trim_end {least m : Nat} {w : Bytes} (h1 : max least (keepLen w) ≤ m) (h2 : m ≤ w.length) (h : ¬ (least < m ∧ w[m - 1]? = some 48)) : w.take m = trimmed least w := by
  rw [trimmed_eq]
  congr 1
  by_cases c : least < m
  · by_cases k : keepLen w ≤ m - 1
    · exact absurd ⟨c, keepLen_after w (m - 1) k (by omega)⟩ h
    · omega
  · omega
/-! a number written: its parts -/
def nPre (f : Num) (neg : Bool) (n : Nat) : Bytes := if neg = true ∧ rounded n f.most ≠ 0 then [f.minus] else []
def nInt (f : Num) (n : Nat) : Bytes := padded f.lead (digits (rounded n f.most / 10 ^ f.most))
def nFrac (f : Num) (n : Nat) : Bytes := trimmed f.least (padded f.most (if f.most = 0 then [] else digits (rounded n f.most % 10 ^ f.most)))
def nRest (f : Num) (n : Nat) : Bytes := if nFrac f n = [] then [] else f.point :: nFrac f n
theorem numText_parts (f : Num) (neg : Bool) (n : Nat) : numText f neg n = nPre f neg n ++ (grouped f.group (nInt f n) ++ nRest f n) := rfl
structure NumGood (f : Num) : Prop where
  lm : f.least ≤ f.most
  m6 : f.most ≤ 6
  l1 : 1 ≤ f.lead
  l6 : f.lead ≤ 6
  pb : f.point ≤ 255
  pd : isDigit f.point = false
  mb : f.minus ≤ 255
  md : isDigit f.minus = false
  pm : f.point ≠ f.minus
  gb : ∀ c, f.group = some c → c ≤ 255
  gd : ∀ c, f.group = some c → isDigit c = false
  gp : ∀ c, f.group = some c → c ≠ f.point
  gm : ∀ c, f.group = some c → c ≠ f.minus
theorem numGood_of {f : Num} (h : numOk f = true) : NumGood f := by
  unfold numOk signOk at h
  simp only [Bool.and_eq_true, decide_eq_true_eq, Bool.not_eq_true', ne_eq] at h
  obtain ⟨h1, h2, h3, h4, ⟨h5, h6⟩, ⟨h7, h8⟩, h9, h10⟩ := h
  refine ⟨h1, h2, h3, h4, h5, h6, h7, h8, h9, ?_, ?_, ?_, ?_⟩ <;> intro c e <;> rw [e] at h10 <;> simp at h10
  · exact h10.1.1
  · exact h10.1.2
  · exact h10.2.1
  · exact h10.2.2
theorem numGood_init : NumGood init.num := numGood_of (by decide)
theorem nInt_cons (f : Num) (n : Nat) : ∃ b r, nInt f n = b :: r ∧ isDigit b = true := by
  have hd := padded_all (k := f.lead) (digits_isDigit (rounded n f.most / 10 ^ f.most))
  cases e : nInt f n with
  | nil =>
    have : (nInt f n).length = 0 := by rw [e]; rfl
    unfold nInt at this
    rw [padded_length_max] at this
    have := digits_pos (rounded n f.most / 10 ^ f.most)
    omega
  | cons b r =>
    refine ⟨b, r, rfl, ?_⟩
    have h2 : (nInt f n).all isDigit = true := hd
    rw [e, List.all_cons, Bool.and_eq_true] at h2
    exact h2.1
theorem nInt_digit (f : Num) (n : Nat) : ∀ c ∈ nInt f n, isDigit c = true := fun c hc =>
  List.all_eq_true.mp (padded_all (k := f.lead) (digits_isDigit (rounded n f.most / 10 ^ f.most))) c hc
/-- what stands between minus' sign and the point, of a text that is written so -/
theorem cut_written {f : Num} (g : NumGood f) {n : Nat} {w : Bytes} (h : numText f (w.head? == some f.minus) n = w) :
    (if (w.head? == some f.minus) = true then w.drop 1 else w) = grouped f.group (nInt f n) ++ nRest f n := by
  obtain ⟨b, r, eb, db⟩ := nInt_cons f n
  rw [numText_parts] at h
  have hh : (grouped f.group (nInt f n) ++ nRest f n).head? = some b := by
    rw [eb, List.head?_append, grouped_head]
    rfl
  cases hn : (w.head? == some f.minus) with
  | false =>
    rw [hn] at h
    have e : nPre f false n = [] := by simp [nPre]
    rw [e, List.nil_append] at h
    rw [if_neg (by decide)]
    exact h.symm
  | true =>
    rw [hn] at h
    rw [if_pos rfl]
    by_cases hq : rounded n f.most = 0
    · have e : nPre f true n = [] := by simp [nPre, hq]
      rw [e, List.nil_append] at h
      rw [← h, hh] at hn
      have e2 : b = f.minus := by simpa using hn
      rw [e2, g.md] at db
      cases db
    · have e : nPre f true n = [f.minus] := by simp [nPre, hq]
      rw [e] at h
      rw [← h]
      rfl
theorem takeWhile_self {p : Nat → Bool} : ∀ {l : Bytes}, (∀ c ∈ l, p c = true) → l.takeWhile p = l
  | [], _ => rfl
  | c :: l, h => by
    rw [List.takeWhile_cons, if_pos (h c List.mem_cons_self), takeWhile_self fun x hx => h x (List.mem_cons_of_mem _ hx)]
theorem take_point {f : Num} (g : NumGood f) (n : Nat) : (grouped f.group (nInt f n) ++ nRest f n).takeWhile (fun c => c != f.point) = grouped f.group (nInt f n) := by
  have hg : ∀ c ∈ grouped f.group (nInt f n), (c != f.point) = true := fun c hc => by
    rcases mem_grouped hc with h | h
    · have := nInt_digit f n c h
      have hp := g.pd
      simp
      intro e
      rw [e, hp] at this
      cases this
    · simpa using g.gp c h
  rw [List.takeWhile_append, if_pos (by rw [takeWhile_self hg])]
  have e : (nRest f n).takeWhile (fun c => c != f.point) = [] := by
    unfold nRest
    split
    · rfl
    · simp
  rw [e, List.append_nil]
/-- the program's reading -/
def cutRow (f : Num) (w : Bytes) : Bytes := w.drop (if (w.head? == some f.minus) = true then 1 else 0)
def aheadOf (f : Num) (w : Bytes) : Bytes := ((cutRow f w).takeWhile fun c => c != f.point).filter fun c => c != thr f.group
def fracOf (f : Num) (w : Bytes) : Bytes := (cutRow f w).drop (((cutRow f w).takeWhile fun c => c != f.point).length + 1)
def millOf (f : Num) (w : Bytes) : Nat := valueOf (aheadOf f w) * 10 ^ 6 + valueOf (fracOf f w) * 10 ^ (6 - (fracOf f w).length)
def readM (f : Num) (w : Bytes) : Option (Bool × Nat) :=
  if (aheadOf f w ++ fracOf f w).all isDigit = false ∨ f.most < (fracOf f w).length then none else
    if 10 ^ 12 ≤ valueOf (aheadOf f w) then none else
      if numText f (w.head? == some f.minus) (millOf f w) = w then some (w.head? == some f.minus, millOf f w) else none
theorem cutRow_eq (f : Num) (w : Bytes) : cutRow f w = if (w.head? == some f.minus) = true then w.drop 1 else w := by
  unfold cutRow
  split <;> rfl
/-- the digits of a text that is written so, either way -/
theorem ahead_written {f : Num} (g : NumGood f) {n : Nat} {w : Bytes} (h : numText f (w.head? == some f.minus) n = w) :
    aheadOf f w = nInt f n ∧ ((cutRow f w).takeWhile fun c => c != f.point).filter isDigit = nInt f n := by
  have e : (cutRow f w).takeWhile (fun c => c != f.point) = grouped f.group (nInt f n) := by
    rw [cutRow_eq, cut_written g h]
    exact take_point g n
  unfold aheadOf
  rw [e]
  refine ⟨filter_grouped (fun c hc => ?_) (fun c hc => ?_), filter_grouped (fun c hc => nInt_digit f n c hc) g.gd⟩
  · have := nInt_digit f n c hc
    have hb := isDigit_iff.mp this
    have ht : c ≠ thr f.group := fun z => by
      unfold thr at z
      cases hgp : f.group with
      | none =>
        rw [hgp] at z
        simp at z
        omega
      | some s =>
        rw [hgp] at z
        have := g.gd s hgp
        simp at z
        rw [← z] at this
        simp_all
    simpa using ht
  · unfold thr
    rw [hc]
    simp
theorem numRead_def (f : Num) (w : Bytes) : numRead f w = (
    if ((cutRow f w).takeWhile fun c => c != f.point).filter isDigit = [] ∨ (fracOf f w).all isDigit = false ∨ f.most < (fracOf f w).length ∨ 12 < (((cutRow f w).takeWhile fun c => c != f.point).filter isDigit).length then none else
    if numText f (w.head? == some f.minus) (valueOf (((cutRow f w).takeWhile fun c => c != f.point).filter isDigit) * 10 ^ 6 + valueOf (fracOf f w) * 10 ^ (6 - (fracOf f w).length)) = w
    then some (w.head? == some f.minus, valueOf (((cutRow f w).takeWhile fun c => c != f.point).filter isDigit) * 10 ^ 6 + valueOf (fracOf f w) * 10 ^ (6 - (fracOf f w).length)) else none) := by
  unfold numRead fracOf
  simp only [cutRow_eq]
theorem read_some {f : Num} (g : NumGood f) {w : Bytes} {r : Bool × Nat} (h : readM f w = some r) : numRead f w = some r := by
  unfold readM at h
  split at h
  · cases h
  · rename_i h1
    split at h
    · cases h
    · rename_i h2
      split at h
      · rename_i h3
        obtain ⟨e1, e2⟩ := ahead_written g h3
        rw [numRead_def]
        have h1' : ¬ ((aheadOf f w ++ fracOf f w).all isDigit = false) ∧ ¬ f.most < (fracOf f w).length := ⟨fun z => h1 (.inl z), fun z => h1 (.inr z)⟩
        have hall : (aheadOf f w).all isDigit = true ∧ (fracOf f w).all isDigit = true := by
          have := h1'.1
          rw [Bool.not_eq_false, List.all_append, Bool.and_eq_true] at this
          exact this
        have e3 : ((cutRow f w).takeWhile fun c => c != f.point).filter isDigit = aheadOf f w := e2.trans e1.symm
        rw [e3]
        have hw : rounded (millOf f w) f.most / 10 ^ f.most = valueOf (aheadOf f w) := whole_exact (by omega) g.m6 (valueOf_lt hall.2)
        have hlen : (aheadOf f w).length ≤ 12 := by
          rw [e1]
          unfold nInt
          rw [padded_length_max, hw]
          have a1 := digits_len (k := 12) (by decide) (show valueOf (aheadOf f w) < 10 ^ 12 by omega)
          have a2 := g.l6
          omega
        have hne : aheadOf f w ≠ [] := by
          rw [e1]
          obtain ⟨b, r', eb, _⟩ := nInt_cons f (millOf f w)
          rw [eb]
          simp
        rw [if_neg (by
          rintro (z | z | z | z)
          · exact hne z
          · rw [hall.2] at z; cases z
          · exact h1'.2 z
          · omega)]
        have h3' : numText f (w.head? == some f.minus) (valueOf (aheadOf f w) * 10 ^ 6 + valueOf (fracOf f w) * 10 ^ (6 - (fracOf f w).length)) = w := h3
        rw [if_pos h3']
        exact h
      · cases h
theorem read_some' {f : Num} (g : NumGood f) {w : Bytes} {r : Bool × Nat} (h : numRead f w = some r) : readM f w = some r := by
  rw [numRead_def] at h
  split at h
  · cases h
  · rename_i h1
    split at h
    · rename_i h3
      obtain ⟨e1, e2⟩ := ahead_written g h3
      have e3 : ((cutRow f w).takeWhile fun c => c != f.point).filter isDigit = aheadOf f w := e2.trans e1.symm
      rw [e3] at h1 h3 h
      unfold readM
      have hd : (aheadOf f w).all isDigit = true := by
        rw [← e3]
        exact List.all_eq_true.mpr fun c hc => (List.mem_filter.mp hc).2
      have q2 : ¬ (fracOf f w).all isDigit = false := fun z => h1 (.inr (.inl z))
      have q3 : ¬ f.most < (fracOf f w).length := fun z => h1 (.inr (.inr (.inl z)))
      have q4 : ¬ 12 < (aheadOf f w).length := fun z => h1 (.inr (.inr (.inr z)))
      rw [if_neg (by
        rintro (z | z)
        · rw [List.all_append, hd, Bool.true_and] at z
          exact q2 z
        · exact q3 z)]
      have hv : valueOf (aheadOf f w) < 10 ^ 12 := Nat.lt_of_lt_of_le (valueOf_lt hd) (Nat.pow_le_pow_right (by decide) (by omega))
      rw [if_neg (by omega)]
      have h3' : numText f (w.head? == some f.minus) (millOf f w) = w := h3
      rw [if_pos h3']
      exact h
    · cases h
theorem readM_eq {f : Num} (g : NumGood f) (w : Bytes) : readM f w = numRead f w := by
  cases e : readM f w with
  | some r => exact (read_some g e).symm
  | none =>
    cases e2 : numRead f w with
    | none => rfl
    | some r => rw [read_some' g e2] at e; cases e
end Wd
namespace Wd
open Ut08

/-! the calendar -/
def msum (y k : Nat) : Nat := ((List.range k).map fun j => monthLong y (j + 1)).sum
theorem msum_zero (y : Nat) : msum y 0 = 0 := rfl
theorem msum_succ (y k : Nat) : msum y (k + 1) = msum y k + monthLong y (k + 1) := by
  unfold msum
  rw [List.range_succ, List.map_append, List.sum_append]
  simp
theorem msum_mono (y : Nat) {a b : Nat} (h : a ≤ b) : msum y a ≤ msum y b := by
  induction b with
  | zero =>
    have : a = 0 := by omega
    rw [this]
    exact Nat.le_refl _
  | succ b ih =>
    by_cases c : a ≤ b
    · have := ih c
      rw [msum_succ]
      omega
    · have : a = b + 1 := by omega
      rw [this]
      exact Nat.le_refl _
theorem numberOf_eq (x : Day) : numberOf x = yearsDays x.y + msum x.y (x.m - 1) + (x.d - 1) := rfl
theorem leap_cases (y : Nat) : leap y = true ∨ leap y = false := by cases leap y <;> simp
theorem msum12 (y : Nat) : msum y 12 = if leap y = true then 366 else 365 := by
  rcases leap_cases y with h | h <;> simp [msum, List.range, List.range.loop, monthLong, h]
theorem monthLong_pos (y m : Nat) : 28 ≤ monthLong y m ∧ monthLong y m ≤ 31 := by
  unfold monthLong
  split
  · split <;> omega
  · split <;> omega
theorem leap_dec (y : Nat) : leap y = (decide (y % 400 = 0) || (decide (y % 4 = 0) && decide (y % 100 ≠ 0))) := by
  unfold leap
  by_cases h4 : y % 4 = 0 <;> by_cases h1 : y % 100 = 0 <;> by_cases h400 : y % 400 = 0 <;> simp [h4, h1, h400]
theorem yearsDays_succ (y : Nat) (h : 1 ≤ y) : yearsDays (y + 1) = yearsDays y + msum y 12 := by
  rw [msum12]
  rw [leap_dec]
  unfold yearsDays
  by_cases h4 : y % 4 = 0 <;> by_cases h1 : y % 100 = 0 <;> by_cases h400 : y % 400 = 0 <;> simp [h4, h1, h400] <;> omega
theorem yearsDays_mono {a b : Nat} (h1 : 1 ≤ a) (h : a ≤ b) : yearsDays a ≤ yearsDays b := by
  induction b with
  | zero => omega
  | succ b ih =>
    by_cases c : a ≤ b
    · have := ih c
      rw [yearsDays_succ b (by omega)]
      omega
    · have : a = b + 1 := by omega
      rw [this]
      exact Nat.le_refl _
theorem yearsDays_last : yearsDays 10000 = 3652059 := by decide
theorem find_range {N k : Nat} {p : Nat → Bool} (hk : k < N) (h1 : p k = true) (h0 : ∀ i, i < k → p i = false) : (List.range N).find? p = some k := by
  rw [List.find?_range_eq_some]
  exact ⟨h1, List.mem_range.mpr hk, fun j hj => by simp [h0 j hj]⟩
/-- the year of a day's number -/
def yr (n : Nat) : Nat := ((List.range 9999).find? fun i => decide (n < yearsDays (i + 2))).getD 9998 + 1
theorem yr_of {n y : Nat} (h1 : 1 ≤ y) (h2 : y ≤ 9999) (h3 : yearsDays y ≤ n) (h4 : n < yearsDays (y + 1)) : yr n = y := by
  unfold yr
  rw [find_range (k := y - 1) (by omega) (by
      rw [show y - 1 + 2 = y + 1 by omega]
      exact decide_eq_true h4) (fun i hi => decide_eq_false (by
      have := yearsDays_mono (a := i + 2) (b := y) (by omega) (by omega)
      omega))]
  show y - 1 + 1 = y
  omega
theorem dayAt_eq (n : Nat) : dayAt n = ⟨yr n, ((List.range 12).find? fun i => decide (n - yearsDays (yr n) < msum (yr n) (i + 1))).getD 11 + 1, n - yearsDays (yr n) - msum (yr n) (((List.range 12).find? fun i => decide (n - yearsDays (yr n) < msum (yr n) (i + 1))).getD 11) + 1⟩ := rfl
theorem dayAt_of {n y m : Nat} (hy : yr n = y) (hm : m < 12) (h1 : msum y m ≤ n - yearsDays y) (h2 : n - yearsDays y < msum y (m + 1)) : dayAt n = ⟨y, m + 1, n - yearsDays y - msum y m + 1⟩ := by
  rw [dayAt_eq, hy]
  have e : (List.range 12).find? (fun i => decide (n - yearsDays y < msum y (i + 1))) = some m := find_range hm (decide_eq_true h2) (fun i hi => decide_eq_false (by
    have := msum_mono y (a := i + 1) (b := m) (by omega)
    omega))
  rw [e]
  rfl
/-! valid days, in order -/
theorem dayOk_iff {x : Day} : dayOk x = true ↔ 1 ≤ x.y ∧ x.y ≤ 9999 ∧ 1 ≤ x.m ∧ x.m ≤ 12 ∧ 1 ≤ x.d ∧ x.d ≤ monthLong x.y x.m := by
  unfold dayOk
  simp only [Bool.and_eq_true, decide_eq_true_eq]
theorem day_in_year {x : Day} (h : dayOk x = true) : msum x.y (x.m - 1) + (x.d - 1) < msum x.y 12 := by
  obtain ⟨h1, h2, h3, h4, h5, h6⟩ := dayOk_iff.mp h
  have a := msum_succ x.y (x.m - 1)
  rw [show x.m - 1 + 1 = x.m by omega] at a
  have b := msum_mono x.y (a := x.m) (b := 12) h4
  omega
def lexLt (a b : Day) : Prop := a.y < b.y ∨ (a.y = b.y ∧ (a.m < b.m ∨ (a.m = b.m ∧ a.d < b.d)))
theorem numberOf_lt {a b : Day} (ha : dayOk a = true) (hb : dayOk b = true) (h : lexLt a b) : numberOf a < numberOf b := by
  obtain ⟨a1, a2, a3, a4, a5, a6⟩ := dayOk_iff.mp ha
  obtain ⟨b1, b2, b3, b4, b5, b6⟩ := dayOk_iff.mp hb
  rw [numberOf_eq, numberOf_eq]
  rcases h with h | ⟨e, h⟩
  · have q := day_in_year ha
    have m := yearsDays_mono (a := a.y + 1) (b := b.y) (by omega) h
    rw [yearsDays_succ a.y a1] at m
    omega
  · rw [e] at a6 ⊢
    rcases h with h | ⟨e2, h⟩
    · have s := msum_succ b.y (a.m - 1)
      rw [show a.m - 1 + 1 = a.m by omega] at s
      have m := msum_mono b.y (a := a.m) (b := b.m - 1) (by omega)
      omega
    · rw [e2] at *
      omega
theorem lex_total {a b : Day} (h : a ≠ b) : lexLt a b ∨ lexLt b a := by
  have : ¬ (a.y = b.y ∧ a.m = b.m ∧ a.d = b.d) := fun ⟨e1, e2, e3⟩ => h (by
    cases a
    cases b
    simp_all)
  unfold lexLt
  omega
theorem lex_of_number {a b : Day} (ha : dayOk a = true) (hb : dayOk b = true) (h : numberOf a < numberOf b) : lexLt a b := by
  by_cases e : a = b
  · rw [e] at h
    exact absurd h (Nat.lt_irrefl _)
  · rcases lex_total e with q | q
    · exact q
    · have := numberOf_lt hb ha q
      omega
/-! the program's arithmetic -/
def LEN : List Nat := [31, 28, 31, 30, 31, 30, 31, 31, 30, 31, 30, 31]
theorem monthLong_len {y m : Nat} (h1 : 1 ≤ m) (h2 : m ≤ 12) : LEN[m - 1]? = some (monthLong y m - (if m = 2 ∧ leap y = true then 1 else 0)) ∧ (if m = 2 ∧ leap y = true then 1 else 0) ≤ monthLong y m := by
  have : m = 1 ∨ m = 2 ∨ m = 3 ∨ m = 4 ∨ m = 5 ∨ m = 6 ∨ m = 7 ∨ m = 8 ∨ m = 9 ∨ m = 10 ∨ m = 11 ∨ m = 12 := by omega
  rcases leap_cases y with h | h <;> rcases this with e | e | e | e | e | e | e | e | e | e | e | e <;> subst e <;> simp [LEN, monthLong, h]
theorem leap_prog (y : Nat) : leap y = (decide (y % 4 = 0) && (decide (y % 100 ≠ 0) || decide (y % 400 = 0))) := by
  rw [leap_dec]
  by_cases h4 : y % 4 = 0 <;> by_cases h1 : y % 100 = 0 <;> by_cases h400 : y % 400 = 0 <;> simp [h4, h1, h400] <;> omega
theorem yearsDays_int {y : Nat} (h : 1 ≤ y) : ((yearsDays y : Nat) : Int) = 365 * ((y : Int) - 1) + ((y : Int) - 1) / 4 - ((y : Int) - 1) / 100 + ((y : Int) - 1) / 400 := by
  unfold yearsDays
  omega
end Wd
namespace Wd
open Ut08
theorem yr_ex {n : Nat} : ∀ k, 1 ≤ k → n < yearsDays (k + 1) → ∃ y, 1 ≤ y ∧ y ≤ k ∧ yearsDays y ≤ n ∧ n < yearsDays (y + 1)
  | 0, h, _ => absurd h (by decide)
  | k + 1, _, h => by
    by_cases c : n < yearsDays (k + 1)
    · by_cases k0 : k = 0
      · subst k0
        have : yearsDays (0 + 1) = 0 := by decide
        omega
      · obtain ⟨y, a, b, c, d⟩ := yr_ex k (by omega) c
        exact ⟨y, a, by omega, c, d⟩
    · exact ⟨k + 1, by omega, Nat.le_refl _, by omega, h⟩
theorem yr_spec {n : Nat} (h : n ≤ 3652058) : 1 ≤ yr n ∧ yr n ≤ 9999 ∧ yearsDays (yr n) ≤ n ∧ n < yearsDays (yr n + 1) := by
  obtain ⟨y, a, b, c, d⟩ := yr_ex (n := n) 9999 (by decide) (by rw [yearsDays_last]; omega)
  rw [yr_of a b c d]
  exact ⟨a, b, c, d⟩
/-- a year's days by months -/
def monthDays (y m : Nat) : List Day := (List.range (monthLong y (m + 1))).map fun d => ⟨y, m + 1, d + 1⟩
def daysTo (y k : Nat) : List Day := (List.range k).flatMap (monthDays y)
theorem daysTo_zero (y : Nat) : daysTo y 0 = [] := rfl
theorem daysTo_succ (y k : Nat) : daysTo y (k + 1) = daysTo y k ++ monthDays y k := by
  unfold daysTo
  rw [List.range_succ, List.flatMap_append, List.flatMap_singleton]
theorem daysOf_to (y : Nat) : daysOf y = daysTo y 12 := rfl
theorem daysTo_len (y k : Nat) : (daysTo y k).length = msum y k := by
  induction k with
  | zero => rfl
  | succ k ih =>
    rw [daysTo_succ, List.length_append, ih, msum_succ]
    unfold monthDays
    rw [List.length_map, List.length_range]
theorem daysOf_len (y : Nat) : (daysOf y).length ≤ 366 := by
  rw [daysOf_to, daysTo_len, msum12]
  split <;> omega
theorem mem_daysOf {y : Nat} {x : Day} (h : x ∈ daysOf y) : x.y = y ∧ 1 ≤ x.m ∧ x.m ≤ 12 ∧ 1 ≤ x.d ∧ x.d ≤ monthLong y x.m := by
  unfold daysOf at h
  simp only [List.mem_flatMap, List.mem_map, List.mem_range] at h
  obtain ⟨m, hm, d, hd, rfl⟩ := h
  exact ⟨rfl, by show 1 ≤ m + 1; omega, by show m + 1 ≤ 12; omega, by show 1 ≤ d + 1; omega, by show d + 1 ≤ monthLong y (m + 1); omega⟩
end Wd
namespace Wd
open Ut08
/-! a day's pattern as the program has it -/
def code : Part → Nat
  | .text _ => 0
  | .year4 => 1
  | .year2 => 2
  | .month2 => 3
  | .month1 => 4
  | .monthName => 5
  | .day2 => 6
  | .day1 => 7
  | .weekName => 8
def ownB : Part → Bytes
  | .text w => w
  | _ => []
/-- a part that isn't the year's, of a month, a day and a weekday -/
def fixP (t : Tongue) (m d w : Nat) : Part → Bytes
  | .text u => u
  | .month2 => padded 2 (digits m)
  | .month1 => digits m
  | .monthName => t.months.getD (m - 1) []
  | .day2 => padded 2 (digits d)
  | .day1 => digits d
  | .weekName => t.weeks.getD w []
  | .year4 => []
  | .year2 => []
theorem part_fix {t : Tongue} {x : Day} {p : Part} (h : code p ≠ 1 ∧ code p ≠ 2) : part t x p = fixP t x.m x.d (weekday x) p := by
  cases p <;> first | rfl | simp [code] at h
theorem padded_one (n : Nat) : padded 1 (digits n) = digits n := by
  have := digits_pos n
  unfold padded
  rw [show 1 - (digits n).length = 0 by omega]
  rfl
structure TonGood (t : Tongue) : Prop where
  m12 : t.months.length = 12
  w7 : t.weeks.length = 7
  mOk : ∀ u ∈ t.months, u.length ≤ 6 ∧ u ≠ []
  wOk : ∀ u ∈ t.weeks, u.length ≤ 6 ∧ u ≠ []
  f1 : 1 ≤ t.from_
  f2 : t.from_ ≤ 9900
def PatGood (ps : List Part) : Prop := ps.length ≤ 8 ∧ ∀ p ∈ ps, (ownB p).length ≤ 6
theorem month_at {t : Tongue} (g : TonGood t) {m : Nat} (h1 : 1 ≤ m) (h2 : m ≤ 12) : t.months[m - 1]? = some (t.months.getD (m - 1) []) := by
  have := g.m12
  rw [List.getD_eq_getElem?_getD, List.getElem?_eq_getElem (by omega)]
  rfl
theorem week_at {t : Tongue} (g : TonGood t) {w : Nat} (h : w < 7) : t.weeks[w]? = some (t.weeks.getD w []) := by
  have := g.w7
  rw [List.getD_eq_getElem?_getD, List.getElem?_eq_getElem (by omega)]
  rfl
theorem weekday_lt (x : Day) : weekday x < 7 := Nat.mod_lt _ (by decide)
theorem fix_len {t : Tongue} (g : TonGood t) {m d w : Nat} (hm : 1 ≤ m ∧ m ≤ 12) (hd : d ≤ 31) (hw : w < 7) {p : Part} (hp : (ownB p).length ≤ 6) : (fixP t m d w p).length ≤ 6 := by
  have d2 : ∀ n, n < 100 → (digits n).length ≤ 2 := fun n h => digits_len (by decide) (by omega)
  have hm2 := d2 m (by omega)
  have hd2 := d2 d (by omega)
  cases p with
  | text u => exact hp
  | month2 => show (padded 2 (digits m)).length ≤ 6; rw [padded_length_max]; omega
  | month1 => show (digits m).length ≤ 6; omega
  | monthName => exact (g.mOk _ (List.mem_of_getElem? (month_at g hm.1 hm.2))).1
  | day2 => show (padded 2 (digits d)).length ≤ 6; rw [padded_length_max]; omega
  | day1 => show (digits d).length ≤ 6; omega
  | weekName => exact (g.wOk _ (List.mem_of_getElem? (week_at g hw))).1
  | year4 => exact Nat.zero_le _
  | year2 => exact Nat.zero_le _
theorem part_len {t : Tongue} (g : TonGood t) {x : Day} (hy : x.y ≤ 9999) (hm : 1 ≤ x.m ∧ x.m ≤ 12) (hd : x.d ≤ 31) {p : Part} (hp : (ownB p).length ≤ 6) : (part t x p).length ≤ 6 := by
  by_cases c : code p ≠ 1 ∧ code p ≠ 2
  · rw [part_fix c]
    exact fix_len g hm hd (weekday_lt x) hp
  · cases p with
    | year4 =>
      show (padded 4 (digits x.y)).length ≤ 6
      rw [padded_length_max]
      have := digits_len (n := x.y) (k := 4) (by decide) (by omega)
      omega
    | year2 =>
      show (padded 2 (digits (x.y % 100))).length ≤ 6
      rw [padded_length_max]
      have := digits_len (n := x.y % 100) (k := 2) (by decide) (by omega)
      omega
    | _ => simp [code] at c
/-- a day written, up to a part -/
def textTo (t : Tongue) (ps : List Part) (x : Day) (i : Nat) : Bytes := (ps.take i).flatMap (part t x)
theorem textTo_succ {t : Tongue} {ps : List Part} {x : Day} {i : Nat} {p : Part} (h : ps[i]? = some p) : textTo t ps x (i + 1) = textTo t ps x i ++ part t x p := by
  unfold textTo
  rw [List.take_add_one, h, List.flatMap_append]
  simp
theorem textTo_all (t : Tongue) (ps : List Part) (x : Day) : textTo t ps x ps.length = dayText t ps x := by
  unfold textTo dayText
  rw [List.take_length]
theorem textTo_len {t : Tongue} (g : TonGood t) {ps : List Part} (gp : PatGood ps) {x : Day} (hy : x.y ≤ 9999) (hm : 1 ≤ x.m ∧ x.m ≤ 12) (hd : x.d ≤ 31) (i : Nat) : (textTo t ps x i).length ≤ 6 * i := by
  induction i with
  | zero => exact Nat.le_refl _
  | succ i ih =>
    cases h : ps[i]? with
    | none =>
      have : textTo t ps x (i + 1) = textTo t ps x i := by
        unfold textTo
        rw [List.take_add_one, h]
        simp
      rw [this]
      omega
    | some p =>
      rw [textTo_succ h, List.length_append]
      have := part_len g hy hm hd (gp.2 p (List.mem_of_getElem? h))
      omega
theorem dayText_len {t : Tongue} (g : TonGood t) {ps : List Part} (gp : PatGood ps) {x : Day} (hy : x.y ≤ 9999) (hm : 1 ≤ x.m ∧ x.m ≤ 12) (hd : x.d ≤ 31) : (dayText t ps x).length ≤ 48 := by
  rw [← textTo_all]
  have := textTo_len g gp hy hm hd ps.length
  have := gp.1
  omega
theorem day_le {x : Day} (h : dayOk x = true) : x.d ≤ 31 := by
  have := (dayOk_iff.mp h).2.2.2.2.2
  have := (monthLong_pos x.y x.m).2
  omega
def meantY (t : Tongue) (k : Nat) : Nat := t.from_ + (k + 100 - t.from_ % 100) % 100
theorem meantY_int (t : Tongue) (k : Nat) : ((meantY t k : Nat) : Int) = (t.from_ : Int) + ((k : Int) - (t.from_ : Int)) % 100 := by
  unfold meantY
  omega
/-! reading: the year that a text tells -/
def toldGo (t : Tongue) (m d w : Nat) (row : Bytes) : List Part → Nat → Option Nat → Option Nat → Option (Nat × Option Nat × Option Nat)
  | [], pos, a, b => some (pos, a, b)
  | p :: ps, pos, a, b =>
    if code p = 1 then (if ((row.drop pos).take 4).length = 4 ∧ ((row.drop pos).take 4).all isDigit = true then toldGo t m d w row ps (pos + 4) (some (valueOf ((row.drop pos).take 4))) b else none)
    else if code p = 2 then (if ((row.drop pos).take 2).length = 2 ∧ ((row.drop pos).take 2).all isDigit = true then toldGo t m d w row ps (pos + 2) a (some (valueOf ((row.drop pos).take 2))) else none)
    else if (row.drop pos).take (fixP t m d w p).length = fixP t m d w p then toldGo t m d w row ps (pos + (fixP t m d w p).length) a b else none
def tellOf : Option Nat → Option Nat → Nat × Nat
  | some y, _ => (1, y)
  | none, some k => (2, k)
  | none, none => (0, 0)
def yearTold (t : Tongue) (ps : List Part) (row : Bytes) (m d w : Nat) : Option (Nat × Nat) := match toldGo t m d w row ps 0 none none with
  | none => none
  | some (pos, a, b) => if pos ≠ row.length then none else some (tellOf a b)
theorem yearTold_of {t : Tongue} {ps : List Part} {row : Bytes} {m d w pos : Nat} {y k : Option Nat} (h : toldGo t m d w row ps 0 none none = some (pos, y, k)) (hp : ¬ pos ≠ row.length) : yearTold t ps row m d w = some (tellOf y k) := by
  unfold yearTold
  rw [h]
  simp only []
  rw [if_neg hp]
def yearMeant (t : Tongue) (ps : List Part) (row : Bytes) (m d w year : Nat) : Option Nat := match yearTold t ps row m d w with
  | none => none
  | some (c, v) => if c = 1 then some v else if c = 2 then some (meantY t v) else some year
end Wd
namespace Wd
open Ut08
def isMonthP (p : Part) : Prop := code p = 3 ∨ code p = 4 ∨ code p = 5
def isDayP (p : Part) : Prop := code p = 6 ∨ code p = 7
def YearRule (t : Tongue) (ps : List Part) (now y : Nat) : Prop := Part.year4 ∈ ps ∨ (Part.year4 ∉ ps ∧ Part.year2 ∈ ps ∧ t.from_ ≤ y ∧ y < t.from_ + 100) ∨ (Part.year4 ∉ ps ∧ Part.year2 ∉ ps ∧ y = now)
structure Mean (t : Tongue) (ps : List Part) (now : Nat) (row : Bytes) (x : Day) : Prop where
  ok : dayOk x = true
  txt : dayText t ps x = row
  mon : ∃ p ∈ ps, isMonthP p
  day : ∃ p ∈ ps, isDayP p
  yr : YearRule t ps now x.y
theorem dayText_cons (t : Tongue) (p : Part) (ps : List Part) (x : Day) : dayText t (p :: ps) x = part t x p ++ dayText t ps x := rfl
theorem year4_len {y : Nat} (h : y ≤ 9999) : (padded 4 (digits y)).length = 4 := padded_length (digits_len (by decide) (by omega))
theorem year2_len (y : Nat) : (padded 2 (digits (y % 100))).length = 2 := padded_length (digits_len (by decide) (by omega))
/-! the program's reading -/
theorem told_dom {t : Tongue} {m d w : Nat} {row : Bytes} : ∀ (ps : List Part) (pos : Nat) (a b : Option Nat) (pos' : Nat) (a' b' : Option Nat), toldGo t m d w row ps pos a b = some (pos', a', b') →
    (Part.year4 ∈ ps → a' ≠ none) ∧ (Part.year4 ∉ ps → a' = a) ∧ (Part.year2 ∈ ps → b' ≠ none) ∧ (Part.year2 ∉ ps → b' = b) ∧ ((∀ k, b = some k → k < 100) → ∀ k, b' = some k → k < 100) ∧ (a ≠ none → a' ≠ none) ∧ (b ≠ none → b' ≠ none)
  | [], pos, a, b, pos', a', b', h => by
    rw [toldGo] at h
    cases h
    refine ⟨fun z => by simp at z, fun _ => rfl, fun z => by simp at z, fun _ => rfl, fun q => q, fun q => q, fun q => q⟩
  | p :: ps, pos, a, b, pos', a', b', h => by
    rw [toldGo] at h
    by_cases c1 : code p = 1
    · have ep : p = .year4 := by cases p <;> simp [code] at c1 <;> rfl
      rw [if_pos c1] at h
      split at h
      · obtain ⟨i1, i2, i3, i4, i5, i6, i7⟩ := told_dom ps _ _ _ _ _ _ h
        subst ep
        refine ⟨fun _ => i6 (by simp), fun z => absurd List.mem_cons_self z, fun z => i3 (by simpa using z), fun z => i4 (by simpa using z), i5, fun _ => i6 (by simp), i7⟩
      · cases h
    · rw [if_neg c1] at h
      by_cases c2 : code p = 2
      · have ep : p = .year2 := by cases p <;> simp [code] at c2 <;> rfl
        rw [if_pos c2] at h
        split at h
        · rename_i hc
          obtain ⟨i1, i2, i3, i4, i5, i6, i7⟩ := told_dom ps _ _ _ _ _ _ h
          subst ep
          refine ⟨fun z => i1 (by simpa using z), fun z => i2 (by simpa using z), fun _ => i7 (by simp), fun z => absurd List.mem_cons_self z, fun _ => i5 (fun k hk => ?_), i6, fun _ => i7 (by simp)⟩
          have := valueOf_lt hc.2
          rw [hc.1] at this
          cases hk
          exact this
        · cases h
      · rw [if_neg c2] at h
        have n4 : p ≠ .year4 := fun z => c1 (by rw [z]; rfl)
        have n2 : p ≠ .year2 := fun z => c2 (by rw [z]; rfl)
        split at h
        · obtain ⟨i1, i2, i3, i4, i5, i6, i7⟩ := told_dom ps _ _ _ _ _ _ h
          refine ⟨fun z => i1 ((List.mem_cons.mp z).resolve_left fun e => n4 e.symm), fun z => i2 fun q => z (List.mem_cons_of_mem _ q), fun z => i3 ((List.mem_cons.mp z).resolve_left fun e => n2 e.symm), fun z => i4 fun q => z (List.mem_cons_of_mem _ q), i5, i6, i7⟩
        · cases h
theorem drop_app {pos : Nat} {row a b : Bytes} (h : row.drop pos = a ++ b) : (row.drop pos).take a.length = a ∧ row.drop (pos + a.length) = b := by
  constructor
  · rw [h, List.take_left]
  · rw [← List.drop_drop, h, List.drop_left]
theorem told_all {t : Tongue} {row : Bytes} {x : Day} {w : Nat} (hy : x.y ≤ 9999) : ∀ (ps : List Part) (pos : Nat) (a b : Option Nat) (rest : Bytes), (Part.weekName ∈ ps → w = weekday x) → row.drop pos = dayText t ps x ++ rest →
    toldGo t x.m x.d w row ps pos a b = some (pos + (dayText t ps x).length, if Part.year4 ∈ ps then some x.y else a, if Part.year2 ∈ ps then some (x.y % 100) else b)
  | [], pos, a, b, rest, _, _ => by
    rw [toldGo]
    simp [dayText]
  | p :: ps, pos, a, b, rest, hw, h => by
    rw [dayText_cons, List.append_assoc] at h
    obtain ⟨h1, h2⟩ := drop_app h
    have ih := fun a b => told_all hy ps (pos + (part t x p).length) a b rest (fun z => hw (List.mem_cons_of_mem _ z)) h2
    rw [toldGo, dayText_cons, List.length_append, ← Nat.add_assoc]
    by_cases c1 : code p = 1
    · have ep : p = .year4 := by cases p <;> simp [code] at c1 <;> rfl
      subst ep
      have e4 : (part t x .year4).length = 4 := year4_len hy
      rw [if_pos c1]
      have e : (row.drop pos).take 4 = padded 4 (digits x.y) := by rw [e4] at h1; exact h1
      rw [e, if_pos ⟨year4_len hy, padded_all (digits_isDigit _)⟩, valueOf_padded (by omega)]
      rw [e4] at ih ⊢
      rw [ih]
      simp
    · rw [if_neg c1]
      by_cases c2 : code p = 2
      · have ep : p = .year2 := by cases p <;> simp [code] at c2 <;> rfl
        subst ep
        have e2 : (part t x .year2).length = 2 := year2_len x.y
        rw [if_pos c2]
        have e : (row.drop pos).take 2 = padded 2 (digits (x.y % 100)) := by rw [e2] at h1; exact h1
        rw [e, if_pos ⟨year2_len x.y, padded_all (digits_isDigit _)⟩, valueOf_padded (by omega)]
        rw [e2] at ih ⊢
        rw [ih]
        simp
      · rw [if_neg c2]
        have n4 : Part.year4 ≠ p := fun z => c1 (by rw [← z]; rfl)
        have n2 : Part.year2 ≠ p := fun z => c2 (by rw [← z]; rfl)
        have ef : fixP t x.m x.d w p = part t x p := by
          rw [part_fix ⟨c1, c2⟩]
          by_cases cw : p = .weekName
          · rw [hw (by rw [cw]; exact List.mem_cons_self)]
          · cases p <;> first | rfl | exact absurd rfl cw
        rw [ef, if_pos h1, ih]
        simp [n4, n2]
/-- the days that the program finds -/
def hit (t : Tongue) (ps : List Part) (row : Bytes) (now m d w : Nat) : List Day := match yearMeant t ps row m d w now with
  | none => []
  | some y => if dayOk ⟨y, m, d⟩ = true ∧ dayText t ps ⟨y, m, d⟩ = row then [⟨y, m, d⟩] else []
def weeksOf (ps : List Part) : List Nat := if Part.weekName ∈ ps then List.range 7 else [0]
def foundAll (t : Tongue) (ps : List Part) (row : Bytes) (now : Nat) : List Day := (List.range 12).flatMap fun m => (List.range 31).flatMap fun d => (weeksOf ps).flatMap fun w => hit t ps row now (m + 1) (d + 1) w
theorem mem_hit {t : Tongue} {ps : List Part} {row : Bytes} {now m d w : Nat} {x : Day} (h : x ∈ hit t ps row now m d w) : x.m = m ∧ x.d = d ∧ dayOk x = true ∧ dayText t ps x = row ∧ YearRule t ps now x.y := by
  unfold hit at h
  cases e : yearMeant t ps row m d w now with
  | none => rw [e] at h; cases h
  | some y =>
    rw [e] at h
    simp only [] at h
    split at h
    · rename_i hc
      have ex : x = ⟨y, m, d⟩ := by simpa using h
      subst ex
      refine ⟨rfl, rfl, hc.1, hc.2, ?_⟩
      unfold yearMeant at e
      cases e1 : yearTold t ps row m d w with
      | none => rw [e1] at e; cases e
      | some cv =>
        obtain ⟨c, v⟩ := cv
        rw [e1] at e
        simp only [] at e
        unfold yearTold at e1
        cases e2 : toldGo t m d w row ps 0 none none with
        | none => rw [e2] at e1; cases e1
        | some r =>
          obtain ⟨pos, a, b⟩ := r
          rw [e2] at e1
          simp only [] at e1
          obtain ⟨i1, i2, i3, i4, i5, _, _⟩ := told_dom ps _ _ _ _ _ _ e2
          split at e1
          · cases e1
          · have e1' : tellOf a b = (c, v) := Option.some.inj e1
            by_cases y4 : Part.year4 ∈ ps
            · exact .inl y4
            · have ha := i2 y4
              subst ha
              by_cases y2 : Part.year2 ∈ ps
              · refine .inr (.inl ⟨y4, y2, ?_⟩)
                cases b with
                | none => exact absurd rfl (i3 y2)
                | some k =>
                  have ek : (2, k) = (c, v) := e1'
                  obtain ⟨rfl, rfl⟩ := Prod.mk.inj ek
                  have ey : meantY t k = y := by simpa using e
                  have hk := i5 (fun k hk => by cases hk) k rfl
                  unfold meantY at ey
                  show t.from_ ≤ y ∧ y < t.from_ + 100
                  omega
              · refine .inr (.inr ⟨y4, y2, ?_⟩)
                have hb := i4 y2
                subst hb
                have ek : ((0 : Nat), (0 : Nat)) = (c, v) := e1'
                obtain ⟨rfl, rfl⟩ := Prod.mk.inj ek
                exact (by simpa using e.symm)
    · cases h
theorem meant_back {t : Tongue} {y : Nat} (h1 : t.from_ ≤ y) (h2 : y < t.from_ + 100) : meantY t (y % 100) = y := by
  unfold meantY
  omega
theorem hit_of {t : Tongue} {ps : List Part} {row : Bytes} {now : Nat} {x : Day} {w : Nat} (hx : dayOk x = true) (ht : dayText t ps x = row) (hy : YearRule t ps now x.y) (hw : Part.weekName ∈ ps → w = weekday x) : x ∈ hit t ps row now x.m x.d w := by
  have h9 := (dayOk_iff.mp hx).2.1
  have e := told_all (t := t) (row := row) (x := x) (w := w) h9 ps 0 none none [] hw (by rw [List.drop_zero, List.append_nil, ht])
  rw [ht] at e
  have eT := yearTold_of e (by omega)
  have eM : yearMeant t ps row x.m x.d w now = some x.y := by
    unfold yearMeant
    rw [eT]
    rcases hy with z | ⟨z1, z2, z3, z4⟩ | ⟨z1, z2, z3⟩
    · simp only [z, if_true, tellOf]
    · simp only [z1, z2, if_true, if_false, tellOf]
      rw [meant_back z3 z4]
      rfl
    · simp only [z1, z2, if_false, tellOf]
      rw [z3]
      rfl
  unfold hit
  rw [eM]
  simp only []
  rw [if_pos ⟨hx, ht⟩]
  simp
theorem mem_found {t : Tongue} {ps : List Part} {row : Bytes} {now : Nat} {x : Day} : x ∈ foundAll t ps row now ↔ dayOk x = true ∧ dayText t ps x = row ∧ YearRule t ps now x.y := by
  unfold foundAll
  simp only [List.mem_flatMap, List.mem_range]
  constructor
  · rintro ⟨m, hm, d, hd, w, hw, h⟩
    obtain ⟨_, _, h1, h2, h3⟩ := mem_hit h
    exact ⟨h1, h2, h3⟩
  · rintro ⟨h1, h2, h3⟩
    obtain ⟨a1, a2, a3, a4, a5, a6⟩ := dayOk_iff.mp h1
    have a7 := day_le h1
    refine ⟨x.m - 1, by omega, x.d - 1, by omega, if Part.weekName ∈ ps then weekday x else 0, ?_, ?_⟩
    · unfold weeksOf
      split
      · exact List.mem_range.mpr (weekday_lt x)
      · simp
    · rw [show x.m - 1 + 1 = x.m by omega, show x.d - 1 + 1 = x.d by omega]
      exact hit_of h1 h2 h3 fun z => by rw [if_pos z]
theorem hit_len (t : Tongue) (ps : List Part) (row : Bytes) (now m d w : Nat) : (hit t ps row now m d w).length ≤ 1 := by
  unfold hit
  split
  · exact Nat.zero_le _
  · split <;> simp
end Wd
namespace Wd
open Ut08
/-! the specification's reading -/
structure Agree (s : Said) (x : Day) : Prop where
  y : ∀ v, s.y = some v → x.y = v
  y2 : ∀ v, s.y2 = some v → x.y % 100 = v
  m : ∀ v, s.m = some v → x.m = v
  d : ∀ v, s.d = some v → x.d = v
  w : ∀ v, s.w = some v → weekday x = v
/-- what a reading has said: all that was said before, and what the parts say -/
structure Told (ps : List Part) (s0 s : Said) : Prop where
  ky : ∀ v, s0.y = some v → s.y = some v
  ky2 : ∀ v, s0.y2 = some v → s.y2 = some v
  km : ∀ v, s0.m = some v → s.m = some v
  kd : ∀ v, s0.d = some v → s.d = some v
  kw : ∀ v, s0.w = some v → s.w = some v
  py : Part.year4 ∈ ps → s.y ≠ none
  ny : Part.year4 ∉ ps → s.y = s0.y
  py2 : Part.year2 ∈ ps → s.y2 ≠ none
  ny2 : Part.year2 ∉ ps → s.y2 = s0.y2
  nm : (¬ ∃ p ∈ ps, isMonthP p) → s.m = s0.m
  nd : (¬ ∃ p ∈ ps, isDayP p) → s.d = s0.d
  hy2 : (∀ v, s0.y2 = some v → v < 100) → ∀ v, s.y2 = some v → v < 100
theorem both_some {a : Option Nat} {n : Nat} {r : Option Nat} (h : both a (some n) = some r) : r = some n ∧ ∀ v, a = some v → v = n := by
  cases a with
  | none =>
    have e : some (some n) = some r := h
    cases e
    exact ⟨rfl, fun v hv => by cases hv⟩
  | some p =>
    have e : (if p = n then some (some p) else none) = some r := h
    split at e
    · rename_i c
      cases e
      exact ⟨by rw [c], fun v hv => by cases hv; exact c⟩
    · cases e
theorem both_of {a : Option Nat} {n : Nat} (h : ∀ v, a = some v → n = v) : both a (some n) = some (some n) := by
  cases a with
  | none => rfl
  | some p =>
    show (if p = n then some (some p) else none) = _
    have := h p rfl
    rw [if_pos this.symm, this]
theorem two_some {w : Bytes} {k n : Nat} {v : Bytes} (h : twoDigits w k = some (n, v)) : k ≤ w.length ∧ (w.take k).all isDigit = true ∧ n = valueOf (w.take k) ∧ v = w.drop k := by
  unfold twoDigits at h
  split at h
  · rename_i c
    cases h
    exact ⟨c.1, c.2, rfl, rfl⟩
  · cases h
theorem two_of {w u r : Bytes} (h : w = u ++ r) (hu : u.all isDigit = true) : twoDigits w u.length = some (valueOf u, r) := by
  unfold twoDigits
  rw [h, List.take_left, List.drop_left, if_pos ⟨by rw [List.length_append]; omega, hu⟩]
/-- two digits read are what is written of their number -/
theorem two_text {w : Bytes} {k n : Nat} {v : Bytes} (h : twoDigits w k = some (n, v)) (hk : 0 < k) (hk2 : k ≤ 20) : w = padded k (digits n) ++ v ∧ n < 10 ^ k := by
  obtain ⟨h1, h2, rfl, rfl⟩ := two_some h
  have hl : (w.take k).length = k := by rw [List.length_take]; omega
  have e := padded_valueOf h2 (by omega) (by omega)
  rw [hl] at e
  rw [e]
  refine ⟨(List.take_append_drop k w).symm, ?_⟩
  have := valueOf_lt h2
  rwa [hl] at this
theorem one_text {w : Bytes} {k n : Nat} {v : Bytes} (h : twoDigits w k = some (n, v)) (hk : k = 1 ∨ k = 2) (hc : ¬ (k = 2 ∧ n < 10)) : w = digits n ++ v := by
  obtain ⟨e, hb⟩ := two_text h (by omega) (by omega)
  rw [e]
  rcases hk with z | z
  · subst z
    rw [padded_one]
  · subst z
    have : (digits n).length = 2 := by
      have a := digits_len (n := n) (k := 2) (by decide) hb
      have b := digits_len_ge (n := n) (k := 1) (by decide) (by omega)
      omega
    unfold padded
    rw [this]
    rfl
theorem names_some {l : List Bytes} {w : Bytes} {x : Nat × Bytes} (h : x ∈ namesAt l w) : ∃ u, l[x.1]? = some u ∧ w = u ++ x.2 ∧ u ≠ [] := by
  unfold namesAt at h
  simp only [List.mem_map, List.mem_filter] at h
  obtain ⟨⟨u, i⟩, ⟨h1, h2⟩, rfl⟩ := h
  have h3 := List.mem_zipIdx_iff_getElem?.mp h1
  simp only [Bool.and_eq_true, bne_iff_ne, beq_iff_eq] at h2
  refine ⟨u, h3, ?_, h2.1⟩
  have h2' : w.take u.length = u := h2.2
  show w = u ++ w.drop u.length
  conv => lhs; rw [← List.take_append_drop u.length w, h2']
theorem names_of {l : List Bytes} {u r : Bytes} {i : Nat} (h : l[i]? = some u) (hu : u ≠ []) : (i, r) ∈ namesAt l (u ++ r) := by
  unfold namesAt
  simp only [List.mem_map, List.mem_filter]
  refine ⟨(u, i), ⟨List.mem_zipIdx_iff_getElem?.mpr h, ?_⟩, ?_⟩
  · simp only [Bool.and_eq_true, bne_iff_ne, beq_iff_eq]
    exact ⟨hu, List.take_left ..⟩
  · show (i, (u ++ r).drop u.length) = (i, r)
    rw [List.drop_left]
theorem getD_of {l : List Bytes} {i : Nat} {u : Bytes} (h : l[i]? = some u) : l.getD i [] = u := by
  rw [List.getD_eq_getElem?_getD, h]
  rfl
/-- one more part that says nothing of the year and its digits -/
theorem read_sound {t : Tongue} : ∀ (ps : List Part) (s0 : Said) (w : Bytes) (s : Said), s ∈ readParts t ps s0 w → Told ps s0 s ∧ ∀ x, Agree s x → dayText t ps x = w
  | [], s0, w, s, h => by
    rw [readParts] at h
    split at h
    · rename_i hw
      have e : s = s0 := by simpa using h
      subst e
      refine ⟨⟨fun _ q => q, fun _ q => q, fun _ q => q, fun _ q => q, fun _ q => q, fun z => by simp at z, fun _ => rfl, fun z => by simp at z, fun _ => rfl, fun _ => rfl, fun _ => rfl, fun q => q⟩, fun x _ => by rw [hw]; rfl⟩
    · cases h
  | p :: ps, s0, w, s, h => by
    cases p with
    | text u =>
      rw [readParts] at h
      split at h
      · rename_i hc
        obtain ⟨T, hx⟩ := read_sound ps s0 _ s h
        have hc' : w.take u.length = u := by simpa using hc
        refine ⟨⟨T.ky, T.ky2, T.km, T.kd, T.kw, fun z => T.py (by simpa using z), fun z => T.ny (by simpa using z), fun z => T.py2 (by simpa using z), fun z => T.ny2 (by simpa using z), fun z => T.nm fun ⟨q, h1, h2⟩ => z ⟨q, List.mem_cons_of_mem _ h1, h2⟩, fun z => T.nd fun ⟨q, h1, h2⟩ => z ⟨q, List.mem_cons_of_mem _ h1, h2⟩, T.hy2⟩, fun x ax => ?_⟩
        rw [dayText_cons, hx x ax]
        conv => rhs; rw [← List.take_append_drop u.length w, hc']
        rfl
      · cases h
    | year4 =>
      rw [readParts] at h
      cases e1 : twoDigits w 4 with
      | none => rw [e1] at h; cases h
      | some nv =>
        obtain ⟨n, v⟩ := nv
        rw [e1] at h
        simp only [] at h
        cases e2 : both s0.y (some n) with
        | none => rw [e2] at h; cases h
        | some y =>
          rw [e2] at h
          obtain ⟨rfl, hb⟩ := both_some e2
          obtain ⟨T, hx⟩ := read_sound ps _ _ s h
          have hs := T.ky n rfl
          refine ⟨⟨fun v' hv => by rw [hs, hb v' hv], T.ky2, T.km, T.kd, T.kw, fun _ => by rw [hs]; simp, fun z => absurd List.mem_cons_self z, fun z => T.py2 (by simpa using z), fun z => T.ny2 (by simpa using z), fun z => T.nm fun ⟨q, h1, h2⟩ => z ⟨q, List.mem_cons_of_mem _ h1, h2⟩, fun z => T.nd fun ⟨q, h1, h2⟩ => z ⟨q, List.mem_cons_of_mem _ h1, h2⟩, T.hy2⟩, fun x ax => ?_⟩
          rw [dayText_cons, hx x ax, (two_text e1 (by decide) (by decide)).1]
          show padded 4 (digits x.y) ++ v = _
          rw [ax.y n hs]
    | year2 =>
      rw [readParts] at h
      cases e1 : twoDigits w 2 with
      | none => rw [e1] at h; cases h
      | some nv =>
        obtain ⟨n, v⟩ := nv
        rw [e1] at h
        simp only [] at h
        cases e2 : both s0.y2 (some n) with
        | none => rw [e2] at h; cases h
        | some y =>
          rw [e2] at h
          obtain ⟨rfl, hb⟩ := both_some e2
          obtain ⟨T, hx⟩ := read_sound ps _ _ s h
          have hs := T.ky2 n rfl
          have htx := two_text e1 (by decide) (by decide)
          refine ⟨⟨T.ky, fun v' hv => by rw [hs, hb v' hv], T.km, T.kd, T.kw, fun z => T.py (by simpa using z), fun z => T.ny (by simpa using z), fun _ => by rw [hs]; simp, fun z => absurd List.mem_cons_self z, fun z => T.nm fun ⟨q, h1, h2⟩ => z ⟨q, List.mem_cons_of_mem _ h1, h2⟩, fun z => T.nd fun ⟨q, h1, h2⟩ => z ⟨q, List.mem_cons_of_mem _ h1, h2⟩, fun _ => T.hy2 fun v' hv => by cases hv; exact htx.2⟩, fun x ax => ?_⟩
          rw [dayText_cons, hx x ax, htx.1]
          show padded 2 (digits (x.y % 100)) ++ v = _
          rw [ax.y2 n hs]
    | month2 =>
      rw [readParts] at h
      cases e1 : twoDigits w 2 with
      | none => rw [e1] at h; cases h
      | some nv =>
        obtain ⟨n, v⟩ := nv
        rw [e1] at h
        simp only [] at h
        cases e2 : both s0.m (some n) with
        | none => rw [e2] at h; cases h
        | some y =>
          rw [e2] at h
          obtain ⟨rfl, hb⟩ := both_some e2
          obtain ⟨T, hx⟩ := read_sound ps _ _ s h
          have hs := T.km n rfl
          refine ⟨⟨T.ky, T.ky2, fun v' hv => by rw [hs, hb v' hv], T.kd, T.kw, fun z => T.py (by simpa using z), fun z => T.ny (by simpa using z), fun z => T.py2 (by simpa using z), fun z => T.ny2 (by simpa using z), fun z => absurd ⟨_, List.mem_cons_self, .inl rfl⟩ z, fun z => T.nd fun ⟨q, h1, h2⟩ => z ⟨q, List.mem_cons_of_mem _ h1, h2⟩, T.hy2⟩, fun x ax => ?_⟩
          rw [dayText_cons, hx x ax, (two_text e1 (by decide) (by decide)).1]
          show padded 2 (digits x.m) ++ v = _
          rw [ax.m n hs]
    | month1 =>
      rw [readParts] at h
      simp only [List.mem_flatMap] at h
      obtain ⟨k, hk, h⟩ := h
      have hk' : k = 1 ∨ k = 2 := by simpa using hk
      cases e1 : twoDigits w k with
      | none => rw [e1] at h; cases h
      | some nv =>
        obtain ⟨n, v⟩ := nv
        rw [e1] at h
        simp only [] at h
        split at h
        · cases h
        · rename_i hc
          cases e2 : both s0.m (some n) with
          | none => rw [e2] at h; cases h
          | some y =>
            rw [e2] at h
            obtain ⟨rfl, hb⟩ := both_some e2
            obtain ⟨T, hx⟩ := read_sound ps _ _ s h
            have hs := T.km n rfl
            refine ⟨⟨T.ky, T.ky2, fun v' hv => by rw [hs, hb v' hv], T.kd, T.kw, fun z => T.py (by simpa using z), fun z => T.ny (by simpa using z), fun z => T.py2 (by simpa using z), fun z => T.ny2 (by simpa using z), fun z => absurd ⟨_, List.mem_cons_self, .inr (.inl rfl)⟩ z, fun z => T.nd fun ⟨q, h1, h2⟩ => z ⟨q, List.mem_cons_of_mem _ h1, h2⟩, T.hy2⟩, fun x ax => ?_⟩
            rw [dayText_cons, hx x ax, one_text e1 hk' hc]
            show digits x.m ++ v = _
            rw [ax.m n hs]
    | monthName =>
      rw [readParts] at h
      simp only [List.mem_flatMap] at h
      obtain ⟨⟨i, v⟩, hi, h⟩ := h
      obtain ⟨u, hu1, hu2, hu3⟩ := names_some hi
      cases e2 : both s0.m (some (i + 1)) with
      | none => rw [e2] at h; cases h
      | some y =>
        rw [e2] at h
        obtain ⟨rfl, hb⟩ := both_some e2
        obtain ⟨T, hx⟩ := read_sound ps _ _ s h
        have hs := T.km (i + 1) rfl
        refine ⟨⟨T.ky, T.ky2, fun v' hv => by rw [hs, hb v' hv], T.kd, T.kw, fun z => T.py (by simpa using z), fun z => T.ny (by simpa using z), fun z => T.py2 (by simpa using z), fun z => T.ny2 (by simpa using z), fun z => absurd ⟨_, List.mem_cons_self, .inr (.inr rfl)⟩ z, fun z => T.nd fun ⟨q, h1, h2⟩ => z ⟨q, List.mem_cons_of_mem _ h1, h2⟩, T.hy2⟩, fun x ax => ?_⟩
        rw [dayText_cons, hx x ax, hu2]
        show t.months.getD (x.m - 1) [] ++ v = _
        rw [ax.m _ hs, show i + 1 - 1 = i by omega, getD_of hu1]
    | day2 =>
      rw [readParts] at h
      cases e1 : twoDigits w 2 with
      | none => rw [e1] at h; cases h
      | some nv =>
        obtain ⟨n, v⟩ := nv
        rw [e1] at h
        simp only [] at h
        cases e2 : both s0.d (some n) with
        | none => rw [e2] at h; cases h
        | some y =>
          rw [e2] at h
          obtain ⟨rfl, hb⟩ := both_some e2
          obtain ⟨T, hx⟩ := read_sound ps _ _ s h
          have hs := T.kd n rfl
          refine ⟨⟨T.ky, T.ky2, T.km, fun v' hv => by rw [hs, hb v' hv], T.kw, fun z => T.py (by simpa using z), fun z => T.ny (by simpa using z), fun z => T.py2 (by simpa using z), fun z => T.ny2 (by simpa using z), fun z => T.nm fun ⟨q, h1, h2⟩ => z ⟨q, List.mem_cons_of_mem _ h1, h2⟩, fun z => absurd ⟨_, List.mem_cons_self, .inl rfl⟩ z, T.hy2⟩, fun x ax => ?_⟩
          rw [dayText_cons, hx x ax, (two_text e1 (by decide) (by decide)).1]
          show padded 2 (digits x.d) ++ v = _
          rw [ax.d n hs]
    | day1 =>
      rw [readParts] at h
      simp only [List.mem_flatMap] at h
      obtain ⟨k, hk, h⟩ := h
      have hk' : k = 1 ∨ k = 2 := by simpa using hk
      cases e1 : twoDigits w k with
      | none => rw [e1] at h; cases h
      | some nv =>
        obtain ⟨n, v⟩ := nv
        rw [e1] at h
        simp only [] at h
        split at h
        · cases h
        · rename_i hc
          cases e2 : both s0.d (some n) with
          | none => rw [e2] at h; cases h
          | some y =>
            rw [e2] at h
            obtain ⟨rfl, hb⟩ := both_some e2
            obtain ⟨T, hx⟩ := read_sound ps _ _ s h
            have hs := T.kd n rfl
            refine ⟨⟨T.ky, T.ky2, T.km, fun v' hv => by rw [hs, hb v' hv], T.kw, fun z => T.py (by simpa using z), fun z => T.ny (by simpa using z), fun z => T.py2 (by simpa using z), fun z => T.ny2 (by simpa using z), fun z => T.nm fun ⟨q, h1, h2⟩ => z ⟨q, List.mem_cons_of_mem _ h1, h2⟩, fun z => absurd ⟨_, List.mem_cons_self, .inr rfl⟩ z, T.hy2⟩, fun x ax => ?_⟩
            rw [dayText_cons, hx x ax, one_text e1 hk' hc]
            show digits x.d ++ v = _
            rw [ax.d n hs]
    | weekName =>
      rw [readParts] at h
      simp only [List.mem_flatMap] at h
      obtain ⟨⟨i, v⟩, hi, h⟩ := h
      obtain ⟨u, hu1, hu2, hu3⟩ := names_some hi
      cases e2 : both s0.w (some i) with
      | none => rw [e2] at h; cases h
      | some y =>
        rw [e2] at h
        obtain ⟨rfl, hb⟩ := both_some e2
        obtain ⟨T, hx⟩ := read_sound ps _ _ s h
        have hs := T.kw i rfl
        refine ⟨⟨T.ky, T.ky2, T.km, T.kd, fun v' hv => by rw [hs, hb v' hv], fun z => T.py (by simpa using z), fun z => T.ny (by simpa using z), fun z => T.py2 (by simpa using z), fun z => T.ny2 (by simpa using z), fun z => T.nm fun ⟨q, h1, h2⟩ => z ⟨q, List.mem_cons_of_mem _ h1, h2⟩, fun z => T.nd fun ⟨q, h1, h2⟩ => z ⟨q, List.mem_cons_of_mem _ h1, h2⟩, T.hy2⟩, fun x ax => ?_⟩
        rw [dayText_cons, hx x ax, hu2]
        show t.weeks.getD (weekday x) [] ++ v = _
        rw [ax.w _ hs, getD_of hu1]
end Wd
namespace Wd
open Ut08
theorem dg_len {n : Nat} (h : n < 100) : (digits n).length = 1 ∨ ((digits n).length = 2 ∧ 10 ≤ n) := by
  by_cases c : n < 10
  · exact .inl (by rw [digits_lt c]; rfl)
  · have a := digits_len (n := n) (k := 2) (by decide) (by omega)
    have b := digits_len_ge (n := n) (k := 1) (by decide) (by omega)
    exact .inr ⟨by omega, by omega⟩
theorem read_full {t : Tongue} (g : TonGood t) {x : Day} (hx : dayOk x = true) : ∀ (ps : List Part) (s0 : Said), Agree s0 x → ∃ s ∈ readParts t ps s0 (dayText t ps x), Agree s x
  | [], s0, a => ⟨s0, by rw [readParts]; simp [dayText], a⟩
  | p :: ps, s0, a => by
    obtain ⟨a1, a2, a3, a4, a5, a6⟩ := dayOk_iff.mp hx
    have a7 := day_le hx
    rw [dayText_cons]
    cases p with
    | text u =>
      obtain ⟨s, h1, h2⟩ := read_full g hx ps s0 a
      refine ⟨s, ?_, h2⟩
      rw [readParts]
      show s ∈ if ((u ++ dayText t ps x).take u.length == u) = true then readParts t ps s0 ((u ++ dayText t ps x).drop u.length) else []
      rw [List.take_left, if_pos (by simp), List.drop_left]
      exact h1
    | year4 =>
      have e := two_of (w := padded 4 (digits x.y) ++ dayText t ps x) rfl (padded_all (digits_isDigit x.y))
      rw [year4_len a2, valueOf_padded (by omega)] at e
      obtain ⟨s, h1, h2⟩ := read_full g hx ps { s0 with y := some x.y } ⟨fun v hv => by cases hv; rfl, a.y2, a.m, a.d, a.w⟩
      refine ⟨s, ?_, h2⟩
      rw [readParts]
      show s ∈ match twoDigits (padded 4 (digits x.y) ++ dayText t ps x) 4 with | none => [] | some (n, v) => _
      rw [e]
      simp only []
      rw [both_of a.y]
      exact h1
    | year2 =>
      have e := two_of (w := padded 2 (digits (x.y % 100)) ++ dayText t ps x) rfl (padded_all (digits_isDigit _))
      rw [year2_len, valueOf_padded (by omega)] at e
      obtain ⟨s, h1, h2⟩ := read_full g hx ps { s0 with y2 := some (x.y % 100) } ⟨a.y, fun v hv => by cases hv; rfl, a.m, a.d, a.w⟩
      refine ⟨s, ?_, h2⟩
      rw [readParts]
      show s ∈ match twoDigits (padded 2 (digits (x.y % 100)) ++ dayText t ps x) 2 with | none => [] | some (n, v) => _
      rw [e]
      simp only []
      rw [both_of a.y2]
      exact h1
    | month2 =>
      have e := two_of (w := padded 2 (digits x.m) ++ dayText t ps x) rfl (padded_all (digits_isDigit _))
      rw [padded_length (digits_len (by decide) (by omega)), valueOf_padded (by omega)] at e
      obtain ⟨s, h1, h2⟩ := read_full g hx ps { s0 with m := some x.m } ⟨a.y, a.y2, fun v hv => by cases hv; rfl, a.d, a.w⟩
      refine ⟨s, ?_, h2⟩
      rw [readParts]
      show s ∈ match twoDigits (padded 2 (digits x.m) ++ dayText t ps x) 2 with | none => [] | some (n, v) => _
      rw [e]
      simp only []
      rw [both_of a.m]
      exact h1
    | month1 =>
      have e := two_of (w := digits x.m ++ dayText t ps x) rfl (digits_isDigit _)
      rw [valueOf_digits (by omega)] at e
      obtain ⟨s, h1, h2⟩ := read_full g hx ps { s0 with m := some x.m } ⟨a.y, a.y2, fun v hv => by cases hv; rfl, a.d, a.w⟩
      refine ⟨s, ?_, h2⟩
      rw [readParts]
      show s ∈ [1, 2].flatMap fun k => _
      rw [List.mem_flatMap]
      have hl := dg_len (n := x.m) (by omega)
      refine ⟨(digits x.m).length, by rcases hl with z | z <;> simp [z], ?_⟩
      show s ∈ match twoDigits (digits x.m ++ dayText t ps x) (digits x.m).length with | none => [] | some (n, v) => _
      rw [e]
      simp only []
      rw [if_neg (by omega), both_of a.m]
      exact h1
    | monthName =>
      have hm := month_at g a3 a4
      have hne := (g.mOk _ (List.mem_of_getElem? hm)).2
      obtain ⟨s, h1, h2⟩ := read_full g hx ps { s0 with m := some (x.m - 1 + 1) } ⟨a.y, a.y2, fun v hv => by cases hv; show x.m = x.m - 1 + 1; omega, a.d, a.w⟩
      refine ⟨s, ?_, h2⟩
      rw [readParts]
      show s ∈ (namesAt t.months (t.months.getD (x.m - 1) [] ++ dayText t ps x)).flatMap fun q => _
      rw [List.mem_flatMap]
      refine ⟨(x.m - 1, dayText t ps x), names_of hm hne, ?_⟩
      simp only []
      rw [both_of (n := x.m - 1 + 1) fun v hv => by have := a.m v hv; omega]
      exact h1
    | day2 =>
      have e := two_of (w := padded 2 (digits x.d) ++ dayText t ps x) rfl (padded_all (digits_isDigit _))
      rw [padded_length (digits_len (by decide) (by omega)), valueOf_padded (by omega)] at e
      obtain ⟨s, h1, h2⟩ := read_full g hx ps { s0 with d := some x.d } ⟨a.y, a.y2, a.m, fun v hv => by cases hv; rfl, a.w⟩
      refine ⟨s, ?_, h2⟩
      rw [readParts]
      show s ∈ match twoDigits (padded 2 (digits x.d) ++ dayText t ps x) 2 with | none => [] | some (n, v) => _
      rw [e]
      simp only []
      rw [both_of a.d]
      exact h1
    | day1 =>
      have e := two_of (w := digits x.d ++ dayText t ps x) rfl (digits_isDigit _)
      rw [valueOf_digits (by omega)] at e
      obtain ⟨s, h1, h2⟩ := read_full g hx ps { s0 with d := some x.d } ⟨a.y, a.y2, a.m, fun v hv => by cases hv; rfl, a.w⟩
      refine ⟨s, ?_, h2⟩
      rw [readParts]
      show s ∈ [1, 2].flatMap fun k => _
      rw [List.mem_flatMap]
      have hl := dg_len (n := x.d) (by omega)
      refine ⟨(digits x.d).length, by rcases hl with z | z <;> simp [z], ?_⟩
      show s ∈ match twoDigits (digits x.d ++ dayText t ps x) (digits x.d).length with | none => [] | some (n, v) => _
      rw [e]
      simp only []
      rw [if_neg (by omega), both_of a.d]
      exact h1
    | weekName =>
      have hm := week_at g (weekday_lt x)
      have hne := (g.wOk _ (List.mem_of_getElem? hm)).2
      obtain ⟨s, h1, h2⟩ := read_full g hx ps { s0 with w := some (weekday x) } ⟨a.y, a.y2, a.m, a.d, fun v hv => by cases hv; rfl⟩
      refine ⟨s, ?_, h2⟩
      rw [readParts]
      show s ∈ (namesAt t.weeks (t.weeks.getD (weekday x) [] ++ dayText t ps x)).flatMap fun q => _
      rw [List.mem_flatMap]
      refine ⟨(weekday x, dayText t ps x), names_of hm hne, ?_⟩
      simp only []
      rw [both_of a.w]
      exact h1
/-- what a pattern must say of a day it has said -/
theorem agree_nothing (x : Day) : Agree nothing x := ⟨fun _ h => (by cases h), fun _ h => (by cases h), fun _ h => (by cases h), fun _ h => (by cases h), fun _ h => (by cases h)⟩
theorem month_said {t : Tongue} : ∀ (ps : List Part) (s0 : Said) (w : Bytes) (s : Said), s ∈ readParts t ps s0 w → ((∃ p ∈ ps, isMonthP p) → s.m ≠ none) ∧ ((∃ p ∈ ps, isDayP p) → s.d ≠ none)
  | [], _, _, _, _ => ⟨fun ⟨_, h, _⟩ => by simp at h, fun ⟨_, h, _⟩ => by simp at h⟩
  | p :: ps, s0, w, s, h => by
    have pass : ∀ s1 w1, s ∈ readParts t ps s1 w1 → (isMonthP p → s.m ≠ none) → (isDayP p → s.d ≠ none) → ((∃ q ∈ p :: ps, isMonthP q) → s.m ≠ none) ∧ ((∃ q ∈ p :: ps, isDayP q) → s.d ≠ none) := fun s1 w1 h1 hm hd => by
      obtain ⟨i1, i2⟩ := month_said ps s1 w1 s h1
      constructor
      · rintro ⟨q, hq, hp⟩
        rcases List.mem_cons.mp hq with e | e
        · exact hm (e ▸ hp)
        · exact i1 ⟨q, e, hp⟩
      · rintro ⟨q, hq, hp⟩
        rcases List.mem_cons.mp hq with e | e
        · exact hd (e ▸ hp)
        · exact i2 ⟨q, e, hp⟩
    cases p with
    | text u =>
      rw [readParts] at h
      split at h
      · exact pass _ _ h (fun z => by simp [isMonthP, code] at z) (fun z => by simp [isDayP, code] at z)
      · cases h
    | year4 =>
      rw [readParts] at h
      split at h
      · cases h
      · split at h
        · cases h
        · exact pass _ _ h (fun z => by simp [isMonthP, code] at z) (fun z => by simp [isDayP, code] at z)
    | year2 =>
      rw [readParts] at h
      split at h
      · cases h
      · split at h
        · cases h
        · exact pass _ _ h (fun z => by simp [isMonthP, code] at z) (fun z => by simp [isDayP, code] at z)
    | month2 =>
      rw [readParts] at h
      split at h
      · cases h
      · split at h
        · cases h
        · rename_i e
          obtain ⟨rfl, _⟩ := both_some e
          exact pass _ _ h (fun _ => by rw [((read_sound ps _ _ s h).1.km _ rfl)]; simp) (fun z => by simp [isDayP, code] at z)
    | month1 =>
      rw [readParts] at h
      obtain ⟨k, _, h⟩ := List.mem_flatMap.mp h
      split at h
      · cases h
      · split at h
        · cases h
        · split at h
          · cases h
          · rename_i e
            obtain ⟨rfl, _⟩ := both_some e
            exact pass _ _ h (fun _ => by rw [((read_sound ps _ _ s h).1.km _ rfl)]; simp) (fun z => by simp [isDayP, code] at z)
    | monthName =>
      rw [readParts] at h
      obtain ⟨k, _, h⟩ := List.mem_flatMap.mp h
      split at h
      · cases h
      · rename_i e
        obtain ⟨rfl, _⟩ := both_some e
        exact pass _ _ h (fun _ => by rw [((read_sound ps _ _ s h).1.km _ rfl)]; simp) (fun z => by simp [isDayP, code] at z)
    | day2 =>
      rw [readParts] at h
      split at h
      · cases h
      · split at h
        · cases h
        · rename_i e
          obtain ⟨rfl, _⟩ := both_some e
          exact pass _ _ h (fun z => by simp [isMonthP, code] at z) (fun _ => by rw [((read_sound ps _ _ s h).1.kd _ rfl)]; simp)
    | day1 =>
      rw [readParts] at h
      obtain ⟨k, _, h⟩ := List.mem_flatMap.mp h
      split at h
      · cases h
      · split at h
        · cases h
        · split at h
          · cases h
          · rename_i e
            obtain ⟨rfl, _⟩ := both_some e
            exact pass _ _ h (fun z => by simp [isMonthP, code] at z) (fun _ => by rw [((read_sound ps _ _ s h).1.kd _ rfl)]; simp)
    | weekName =>
      rw [readParts] at h
      obtain ⟨k, _, h⟩ := List.mem_flatMap.mp h
      split at h
      · cases h
      · exact pass _ _ h (fun z => by simp [isMonthP, code] at z) (fun z => by simp [isDayP, code] at z)
theorem y2_mod {f k : Nat} (h : k < 100) : (f + (k + 100 - f % 100) % 100) % 100 = k := by omega
/-- a day that the specification reads -/
theorem mean_of_read {t : Tongue} {ps : List Part} {now : Nat} {row : Bytes} {s : Said} {x : Day} (h : s ∈ readParts t ps nothing row) (hd : dayOf t s now = some x) : Mean t ps now row x := by
  obtain ⟨T, hx⟩ := read_sound ps nothing row s h
  unfold dayOf at hd
  cases ey : yearOf t s now with
  | none => rw [ey] at hd; cases hd
  | some y =>
    cases em : s.m with
    | none => rw [ey, em] at hd; cases hd
    | some m =>
      cases ed : s.d with
      | none => rw [ey, em, ed] at hd; cases hd
      | some d =>
        rw [ey, em, ed] at hd
        simp only [] at hd
        split at hd
        · rename_i hc
          have ex : (⟨y, m, d⟩ : Day) = x := Option.some.inj hd
          subst ex
          have k100 : ∀ v, s.y2 = some v → v < 100 := T.hy2 fun v hv => by cases hv
          have ag : Agree s ⟨y, m, d⟩ := by
            refine ⟨fun v hv => ?_, fun v hv => ?_, fun v hv => ?_, fun v hv => ?_, fun v hv => ?_⟩
            · unfold yearOf at ey
              rw [hv] at ey
              cases e2 : s.y2 with
              | none =>
                rw [e2] at ey
                exact (Option.some.inj ey).symm
              | some k =>
                rw [e2] at ey
                simp only [] at ey
                split at ey
                · exact (Option.some.inj ey).symm
                · cases ey
            · unfold yearOf at ey
              rw [hv] at ey
              cases e1 : s.y with
              | none =>
                rw [e1] at ey
                have ey' : t.from_ + (v + 100 - t.from_ % 100) % 100 = y := Option.some.inj ey
                show y % 100 = v
                rw [← ey', y2_mod (k100 v hv)]
              | some yy =>
                rw [e1] at ey
                simp only [] at ey
                split at ey
                · rename_i c
                  have ey' : yy = y := Option.some.inj ey
                  show y % 100 = v
                  rw [← ey', c]
                · cases ey
            · rw [em] at hv
              exact Option.some.inj hv
            · rw [ed] at hv
              exact Option.some.inj hv
            · rcases hc.2 with z | z
              · rw [z] at hv; cases hv
              · rw [z] at hv
                exact Option.some.inj hv
          refine ⟨hc.1, hx _ ag, ?_, ?_, ?_⟩
          · refine Classical.byContradiction fun z => ?_
            have := T.nm z
            rw [em] at this
            cases this
          · refine Classical.byContradiction fun z => ?_
            have := T.nd z
            rw [ed] at this
            cases this
          · by_cases y4 : Part.year4 ∈ ps
            · exact .inl y4
            · have e1 : s.y = none := T.ny y4
              by_cases y2 : Part.year2 ∈ ps
              · refine .inr (.inl ⟨y4, y2, ?_⟩)
                cases e2 : s.y2 with
                | none => exact absurd e2 (T.py2 y2)
                | some k =>
                  unfold yearOf at ey
                  rw [e1, e2] at ey
                  have ey' : t.from_ + (k + 100 - t.from_ % 100) % 100 = y := Option.some.inj ey
                  show t.from_ ≤ y ∧ y < t.from_ + 100
                  omega
              · refine .inr (.inr ⟨y4, y2, ?_⟩)
                have e2 : s.y2 = none := T.ny2 y2
                unfold yearOf at ey
                rw [e1, e2] at ey
                exact (Option.some.inj ey).symm
        · cases hd
theorem read_of_mean {t : Tongue} (g : TonGood t) {ps : List Part} {now : Nat} {row : Bytes} {x : Day} (h : Mean t ps now row x) : ∃ s ∈ readParts t ps nothing row, dayOf t s now = some x := by
  obtain ⟨s, h1, ag⟩ := read_full g h.ok ps nothing (agree_nothing x)
  rw [h.txt] at h1
  refine ⟨s, h1, ?_⟩
  obtain ⟨T, _⟩ := read_sound ps nothing row s h1
  obtain ⟨sm, sd⟩ := month_said ps nothing row s h1
  have ey : yearOf t s now = some x.y := by
    unfold yearOf
    cases e1 : s.y with
    | some v =>
      cases e2 : s.y2 with
      | none => simp only []; rw [ag.y v e1]
      | some k =>
        simp only []
        rw [← ag.y v e1, if_pos (ag.y2 k e2)]
    | none =>
      have n4 : Part.year4 ∉ ps := fun z => T.py z e1
      cases e2 : s.y2 with
      | some k =>
        have y2 : Part.year2 ∈ ps := Classical.byContradiction fun z => by
          have := T.ny2 z
          rw [e2] at this
          cases this
        simp only []
        have hk := ag.y2 k e2
        rcases h.yr with z | ⟨_, _, z1, z2⟩ | ⟨_, z, _⟩
        · exact absurd z n4
        · have := meant_back z1 z2
          unfold meantY at this
          rw [hk] at this
          rw [this]
        · exact absurd y2 z
      | none =>
        have n2 : Part.year2 ∉ ps := fun z => T.py2 z e2
        simp only []
        rcases h.yr with z | ⟨_, z, _⟩ | ⟨_, _, z⟩
        · exact absurd z n4
        · exact absurd z n2
        · rw [z]
  unfold dayOf
  cases em : s.m with
  | none => exact absurd em (sm h.mon)
  | some m =>
    cases ed : s.d with
    | none => exact absurd ed (sd h.day)
    | some d =>
      rw [ey]
      simp only []
      have e : (⟨x.y, m, d⟩ : Day) = x := by
        have e1 := ag.m m em
        have e2 := ag.d d ed
        cases x
        simp_all
      rw [e, if_pos]
      refine ⟨h.ok, ?_⟩
      cases ew : s.w with
      | none => exact .inl rfl
      | some v => exact .inr (by rw [ag.w v ew])
/-! the list of days -/
def Rising (l : List Day) : Prop := l.Pairwise fun a b => numberOf a < numberOf b
theorem number_inj {a b : Day} (ha : dayOk a = true) (hb : dayOk b = true) (h : numberOf a = numberOf b) : a = b := by
  refine Classical.byContradiction fun e => ?_
  rcases lex_total e with q | q
  · have := numberOf_lt ha hb q
    omega
  · have := numberOf_lt hb ha q
    omega
theorem insert_mem {x y : Day} : ∀ {l : List Day}, y ∈ insertDay x l ↔ y = x ∨ y ∈ l
  | [] => by simp [insertDay]
  | z :: l => by
    rw [insertDay]
    by_cases c : x = z
    · rw [if_pos c, List.mem_cons]
      constructor
      · rintro (h | h)
        · exact .inl (h.trans c.symm)
        · exact .inr (.inr h)
      · rintro (h | h)
        · exact .inl (h.trans c)
        · exact h
    · rw [if_neg c]
      by_cases b : before x z = true
      · rw [if_pos b, List.mem_cons]
      · rw [if_neg b, List.mem_cons, insert_mem (l := l), List.mem_cons]
        constructor
        · rintro (h | h | h)
          · exact .inr (.inl h)
          · exact .inl h
          · exact .inr (.inr h)
        · rintro (h | h | h)
          · exact .inr (.inl h)
          · exact .inl h
          · exact .inr (.inr h)
theorem insert_rising {x : Day} (hx : dayOk x = true) : ∀ {l : List Day}, (∀ y ∈ l, dayOk y = true) → Rising l → Rising (insertDay x l)
  | [], _, _ => List.pairwise_singleton _ _
  | z :: l, hl, hr => by
    have hz := hl z List.mem_cons_self
    obtain ⟨r1, r2⟩ := List.pairwise_cons.mp hr
    rw [insertDay]
    by_cases c : x = z
    · rw [if_pos c]
      exact hr
    · rw [if_neg c]
      by_cases b : before x z = true
      · have b' : numberOf x < numberOf z := of_decide_eq_true b
        rw [if_pos b]
        refine List.pairwise_cons.mpr ⟨fun y hy => ?_, hr⟩
        rcases List.mem_cons.mp hy with e | e
        · rw [e]; exact b'
        · exact Nat.lt_trans b' (r1 y e)
      · have b' : ¬ numberOf x < numberOf z := fun q => b (decide_eq_true q)
        have ne : numberOf x ≠ numberOf z := fun q => c (number_inj hx hz q)
        rw [if_neg b]
        refine List.pairwise_cons.mpr ⟨fun y hy => ?_, insert_rising hx (fun y hy => hl y (List.mem_cons_of_mem _ hy)) r2⟩
        rcases insert_mem.mp hy with e | e
        · rw [e]; omega
        · exact r1 y e
theorem fold_days : ∀ (xs acc : List Day), (∀ y ∈ xs, dayOk y = true) → (∀ y ∈ acc, dayOk y = true) → Rising acc → Rising (xs.foldl (fun l x => insertDay x l) acc) ∧ ∀ y, y ∈ xs.foldl (fun l x => insertDay x l) acc ↔ y ∈ acc ∨ y ∈ xs
  | [], acc, _, _, hr => ⟨hr, fun y => by simp⟩
  | x :: xs, acc, h1, h2, hr => by
    have hx := h1 x List.mem_cons_self
    obtain ⟨i1, i2⟩ := fold_days xs (insertDay x acc) (fun y hy => h1 y (List.mem_cons_of_mem _ hy)) (fun y hy => (insert_mem.mp hy).elim (fun e => e ▸ hx) (h2 y)) (insert_rising hx h2 hr)
    refine ⟨i1, fun y => ?_⟩
    rw [List.foldl_cons, i2 y, insert_mem, List.mem_cons]
    constructor
    · rintro ((h | h) | h)
      · exact .inr (.inl h)
      · exact .inl h
      · exact .inr (.inr h)
    · rintro (h | h | h)
      · exact .inl (.inr h)
      · exact .inl (.inl h)
      · exact .inr h
theorem dayRead_spec {t : Tongue} (g : TonGood t) {ps : List Part} {now : Nat} {row : Bytes} : Rising (dayRead t ps now row) ∧ ∀ x, x ∈ dayRead t ps now row ↔ Mean t ps now row x := by
  have hm : ∀ y ∈ (readParts t ps nothing row).filterMap (fun s => dayOf t s now), Mean t ps now row y := fun y hy => by
    obtain ⟨s, h1, h2⟩ := List.mem_filterMap.mp hy
    exact mean_of_read h1 h2
  obtain ⟨h1, h2⟩ := fold_days ((readParts t ps nothing row).filterMap fun s => dayOf t s now) [] (fun y hy => (hm y hy).ok) (fun y hy => by simp at hy) List.Pairwise.nil
  refine ⟨h1, fun x => ?_⟩
  unfold dayRead
  rw [h2 x]
  constructor
  · rintro (h | h)
    · simp at h
    · exact hm x h
  · intro h
    obtain ⟨s, q1, q2⟩ := read_of_mean g h
    exact .inr (List.mem_filterMap.mpr ⟨s, q1, q2⟩)
theorem rising_nodup {l : List Day} (h : Rising l) : l.Nodup := List.Pairwise.imp (fun {a b} q e => by rw [e] at q; exact Nat.lt_irrefl _ q) h
theorem rising_eq {a b : List Day} (ha : Rising a) (hb : Rising b) (h : ∀ x, x ∈ a ↔ x ∈ b) : a = b := by
  refine List.Perm.eq_of_pairwise (le := fun a b => numberOf a < numberOf b) (fun x y _ _ h1 h2 => by omega) ha hb ?_
  exact (List.perm_ext_iff_of_nodup (rising_nodup ha) (rising_nodup hb)).mpr h
end Wd
namespace Wd
open Ut08
/-! few days are meant by one text -/
theorem flat_len {F G : Part → Bytes} : ∀ (ps : List Part), (∀ p ∈ ps, (F p).length ≤ (G p).length) → (ps.flatMap F).length ≤ (ps.flatMap G).length ∧ ((ps.flatMap F).length = (ps.flatMap G).length → ∀ p ∈ ps, (F p).length = (G p).length)
  | [], _ => ⟨Nat.le_refl _, fun _ p h => by simp at h⟩
  | p :: ps, h => by
    obtain ⟨i1, i2⟩ := flat_len ps fun q hq => h q (List.mem_cons_of_mem _ hq)
    have hp := h p List.mem_cons_self
    rw [List.flatMap_cons, List.flatMap_cons, List.length_append, List.length_append]
    refine ⟨by omega, fun e q hq => ?_⟩
    rcases List.mem_cons.mp hq with z | z
    · rw [z]; omega
    · exact i2 (by omega) q z
theorem flat_inj {F G : Part → Bytes} : ∀ (ps : List Part), (∀ p ∈ ps, (F p).length = (G p).length) → ps.flatMap F = ps.flatMap G → ∀ p ∈ ps, F p = G p
  | [], _, _, p, h => by simp at h
  | p :: ps, h, e, q, hq => by
    rw [List.flatMap_cons, List.flatMap_cons] at e
    obtain ⟨e1, e2⟩ := List.append_inj e (h p List.mem_cons_self)
    rcases List.mem_cons.mp hq with z | z
    · rw [z]; exact e1
    · exact flat_inj ps (fun q hq => h q (List.mem_cons_of_mem _ hq)) e2 q z
theorem part_lens {t : Tongue} {x x' : Day} (hx : dayOk x = true) (hx' : dayOk x' = true) (hm : x.m = x'.m) (hd : (digits x.d).length = (digits x'.d).length) {p : Part} (hp : p ≠ .weekName) : (part t x p).length = (part t x' p).length := by
  have a := (dayOk_iff.mp hx).2.1
  have a' := (dayOk_iff.mp hx').2.1
  cases p with
  | text u => rfl
  | year4 => exact (year4_len a).trans (year4_len a').symm
  | year2 => exact (year2_len _).trans (year2_len _).symm
  | month2 => show (padded 2 (digits x.m)).length = (padded 2 (digits x'.m)).length; rw [hm]
  | month1 => show (digits x.m).length = (digits x'.m).length; rw [hm]
  | monthName => show (t.months.getD (x.m - 1) []).length = (t.months.getD (x'.m - 1) []).length; rw [hm]
  | day2 => show (padded 2 (digits x.d)).length = (padded 2 (digits x'.d)).length; rw [padded_length_max, padded_length_max, hd]
  | day1 => exact hd
  | weekName => exact absurd rfl hp
theorem parts_same {t : Tongue} {ps : List Part} {x x' : Day} (hx : dayOk x = true) (hx' : dayOk x' = true) (hm : x.m = x'.m) (hd : (digits x.d).length = (digits x'.d).length) (he : dayText t ps x = dayText t ps x') : ∀ p ∈ ps, part t x p = part t x' p := by
  have main : ∀ {x x' : Day}, dayOk x = true → dayOk x' = true → x.m = x'.m → (digits x.d).length = (digits x'.d).length → dayText t ps x = dayText t ps x' → (part t x .weekName).length ≤ (part t x' .weekName).length → ∀ p ∈ ps, part t x p = part t x' p := fun {x x'} hx hx' hm hd he hw => by
    have hle : ∀ p ∈ ps, (part t x p).length ≤ (part t x' p).length := fun p _ => by
      by_cases c : p = .weekName
      · rw [c]; exact hw
      · rw [part_lens hx hx' hm hd c]; exact Nat.le_refl _
    have h2 := (flat_len ps hle).2 (congrArg List.length he)
    exact flat_inj ps h2 he
  rcases Nat.le_total (part t x .weekName).length (part t x' .weekName).length with h | h
  · exact main hx hx' hm hd he h
  · intro p hp
    exact (main hx' hx hm.symm hd.symm he.symm h p hp).symm
theorem mean_inj {t : Tongue} {ps : List Part} {now : Nat} {row : Bytes} {x x' : Day} (h : Mean t ps now row x) (h' : Mean t ps now row x') (hm : x.m = x'.m) (hd : (digits x.d).length = (digits x'.d).length) : x = x' := by
  have same := parts_same h.ok h'.ok hm hd (h.txt.trans h'.txt.symm)
  have a := dayOk_iff.mp h.ok
  have a' := dayOk_iff.mp h'.ok
  have d1 := day_le h.ok
  have d2 := day_le h'.ok
  have ed : x.d = x'.d := by
    obtain ⟨p, hp, hq⟩ := h.day
    have e := same p hp
    rcases hq with z | z
    · have ep : p = .day2 := by cases p <;> simp [code] at z <;> rfl
      subst ep
      have e' : padded 2 (digits x.d) = padded 2 (digits x'.d) := e
      have := congrArg valueOf e'
      rwa [valueOf_padded (by omega), valueOf_padded (by omega)] at this
    · have ep : p = .day1 := by cases p <;> simp [code] at z <;> rfl
      subst ep
      have e' : digits x.d = digits x'.d := e
      have := congrArg valueOf e'
      rwa [valueOf_digits (by omega), valueOf_digits (by omega)] at this
  have ey : x.y = x'.y := by
    by_cases y4 : Part.year4 ∈ ps
    · have e' : padded 4 (digits x.y) = padded 4 (digits x'.y) := same _ y4
      have := congrArg valueOf e'
      rwa [valueOf_padded (by omega), valueOf_padded (by omega)] at this
    · by_cases y2 : Part.year2 ∈ ps
      · have e' : padded 2 (digits (x.y % 100)) = padded 2 (digits (x'.y % 100)) := same _ y2
        have e3 := congrArg valueOf e'
        rw [valueOf_padded (by omega), valueOf_padded (by omega)] at e3
        rcases h.yr with z | ⟨_, _, z1, z2⟩ | ⟨_, z, _⟩
        · exact absurd z y4
        · rcases h'.yr with q | ⟨_, _, q1, q2⟩ | ⟨_, q, _⟩
          · exact absurd q y4
          · omega
          · exact absurd y2 q
        · exact absurd y2 z
      · rcases h.yr with z | ⟨_, z, _⟩ | ⟨_, _, z⟩
        · exact absurd z y4
        · exact absurd z y2
        · rcases h'.yr with q | ⟨_, q, _⟩ | ⟨_, _, q⟩
          · exact absurd q y4
          · exact absurd q y2
          · rw [z, q]
  cases x
  cases x'
  simp_all
theorem pigeon : ∀ (n : Nat) (l : List Nat), l.Nodup → (∀ x ∈ l, x < n) → l.length ≤ n
  | 0, l, _, h => by
    cases l with
    | nil => exact Nat.le_refl _
    | cons a l => exact absurd (h a List.mem_cons_self) (Nat.not_lt_zero _)
  | n + 1, l, hn, h => by
    by_cases c : n ∈ l
    · have i := pigeon n (l.erase n) (hn.erase n) fun x hx => by
        have h1 := h x (List.mem_of_mem_erase hx)
        have h2 : x ≠ n := fun e => by
          rw [e] at hx
          exact (hn.mem_erase_iff.mp hx).1 rfl
        omega
      rw [List.length_erase_of_mem c] at i
      omega
    · have i := pigeon n l hn fun x hx => by
        have h1 := h x hx
        have h2 : x ≠ n := fun e => c (e ▸ hx)
        omega
      omega
def dkey (x : Day) : Nat := (x.m - 1) * 2 + ((digits x.d).length - 1)
theorem few_days {t : Tongue} {ps : List Part} {now : Nat} {row : Bytes} : ∀ (l : List Day), l.Nodup → (∀ x ∈ l, Mean t ps now row x) → l.length ≤ 24 := fun l hn hm => by
  have kb : ∀ x ∈ l, dkey x < 24 ∧ 1 ≤ x.m ∧ 1 ≤ (digits x.d).length ∧ (digits x.d).length ≤ 2 := fun x hx => by
    have a := dayOk_iff.mp (hm x hx).ok
    have d := day_le (hm x hx).ok
    have b := digits_len (n := x.d) (k := 2) (by decide) (by omega)
    have c := digits_pos x.d
    unfold dkey
    omega
  have inj : ∀ x ∈ l, ∀ y ∈ l, dkey x = dkey y → x = y := fun x hx y hy e => by
    have a := kb x hx
    have b := kb y hy
    unfold dkey at e
    exact mean_inj (hm x hx) (hm y hy) (by omega) (by omega)
  have hnd : (l.map dkey).Nodup := by
    clear kb hm
    induction l with
    | nil => exact List.nodup_nil
    | cons a l ih =>
      obtain ⟨h1, h2⟩ := List.nodup_cons.mp hn
      rw [List.map_cons]
      refine List.nodup_cons.mpr ⟨fun h => ?_, ih h2 fun x hx y hy => inj x (List.mem_cons_of_mem _ hx) y (List.mem_cons_of_mem _ hy)⟩
      obtain ⟨b, hb, e⟩ := List.mem_map.mp h
      exact h1 (inj b (List.mem_cons_of_mem _ hb) a List.mem_cons_self e ▸ hb)
  have := pigeon 24 (l.map dkey) hnd fun k hk => by
    obtain ⟨x, hx, rfl⟩ := List.mem_map.mp hk
    exact (kb x hx).1
  rwa [List.length_map] at this
end Wd
namespace Wd
open Ut08
open Ut08Neutral (partsIn rowIn)
theorem partsIn_nil (f : Nat) : partsIn f [] = some [] := by cases f <;> rfl
theorem partsIn_cons {f k : Nat} {l : List Nat} {ps : List Part} (h : partsIn f (k :: l) = some ps) : ∃ g, f = g + 1 ∧ ((k = 0 ∧ ∃ n l' qs, l = n :: l' ∧ n ≤ l'.length ∧ partsIn g (l'.drop n) = some qs ∧ ps = Part.text (l'.take n) :: qs) ∨
    (k ≠ 0 ∧ ∃ p qs, code p = k ∧ ownB p = [] ∧ partsIn g l = some qs ∧ ps = p :: qs)) := by
  cases f with
  | zero => cases h
  | succ g =>
    refine ⟨g, rfl, ?_⟩
    cases k with
    | zero =>
      refine .inl ⟨rfl, ?_⟩
      rw [partsIn] at h
      cases l with
      | nil => cases h
      | cons n l' =>
        have h' : ((if l'.length < n then none else some (l'.take n, l'.drop n)).bind fun x => (partsIn g x.2).map fun y => Part.text x.1 :: y) = some ps := h
        by_cases c : l'.length < n
        · rw [if_pos c] at h'
          cases h'
        · rw [if_neg c] at h'
          have h2 : (partsIn g (l'.drop n)).map (fun y => Part.text (l'.take n) :: y) = some ps := h'
          cases e : partsIn g (l'.drop n) with
          | none => rw [e] at h2; cases h2
          | some qs =>
            rw [e] at h2
            exact ⟨n, l', qs, rfl, by omega, e, (Option.some.inj h2).symm⟩
    | succ k =>
      refine .inr ⟨by omega, ?_⟩
      rw [partsIn] at h
      · cases e : partsIn g l with
        | none =>
          rw [e] at h
          simp only [Option.map_none] at h
          split at h
          all_goals first | cases h | (repeat (split at h; rotate_left)) <;> cases h
        | some qs =>
          rw [e] at h
          simp only [Option.map_some] at h
          by_cases c1 : k + 1 = 1
          · rw [if_pos c1] at h
            exact ⟨.year4, qs, c1.symm, rfl, rfl, (Option.some.inj h).symm⟩
          rw [if_neg c1] at h
          by_cases c2 : k + 1 = 2
          · rw [if_pos c2] at h
            exact ⟨.year2, qs, c2.symm, rfl, rfl, (Option.some.inj h).symm⟩
          rw [if_neg c2] at h
          by_cases c3 : k + 1 = 3
          · rw [if_pos c3] at h
            exact ⟨.month2, qs, c3.symm, rfl, rfl, (Option.some.inj h).symm⟩
          rw [if_neg c3] at h
          by_cases c4 : k + 1 = 4
          · rw [if_pos c4] at h
            exact ⟨.month1, qs, c4.symm, rfl, rfl, (Option.some.inj h).symm⟩
          rw [if_neg c4] at h
          by_cases c5 : k + 1 = 5
          · rw [if_pos c5] at h
            exact ⟨.monthName, qs, c5.symm, rfl, rfl, (Option.some.inj h).symm⟩
          rw [if_neg c5] at h
          by_cases c6 : k + 1 = 6
          · rw [if_pos c6] at h
            exact ⟨.day2, qs, c6.symm, rfl, rfl, (Option.some.inj h).symm⟩
          rw [if_neg c6] at h
          by_cases c7 : k + 1 = 7
          · rw [if_pos c7] at h
            exact ⟨.day1, qs, c7.symm, rfl, rfl, (Option.some.inj h).symm⟩
          rw [if_neg c7] at h
          by_cases c8 : k + 1 = 8
          · rw [if_pos c8] at h
            exact ⟨.weekName, qs, c8.symm, rfl, rfl, (Option.some.inj h).symm⟩
          rw [if_neg c8] at h
          cases h
      · intro z
        omega
end Wd
namespace Wd
open Ut08
/-! two days written alike -/
def texts (t : Tongue) (ps : List Part) (y : Nat) : List (Day × Bytes) := (daysOf y).map fun x => (x, dayText t ps x)
theorem clash_def (t : Tongue) (ps : List Part) (y : Nat) : clash t ps y = ((texts t ps y).zipIdx.find? fun x => ((texts t ps y).take x.2).any fun z => z.2 == x.1.2).bind fun x => (((texts t ps y).take x.2).find? fun z => z.2 == x.1.2).map fun z => (z.1, x.1.1) := rfl
theorem find_idx {α : Type} {l : List α} {p : α × Nat → Bool} {i : Nat} {x : α} (hx : l[i]? = some x) (hp : p (x, i) = true) (h0 : ∀ j y, j < i → l[j]? = some y → p (y, j) = false) : l.zipIdx.find? p = some (x, i) := by
  have hi : i < l.zipIdx.length := by rw [List.length_zipIdx]; exact (List.getElem?_eq_some_iff.mp hx).1
  have e : l.zipIdx[i] = (x, i) := by
    have : l.zipIdx[i]? = some (x, i) := by rw [List.getElem?_zipIdx, hx]; simp
    exact (List.getElem?_eq_some_iff.mp this).2
  rw [List.find?_eq_some_iff_getElem]
  refine ⟨hp, i, hi, e, fun j hj => ?_⟩
  have hjl : j < l.length := by rw [List.length_zipIdx] at hi; omega
  have ej : l.zipIdx[j]'(by omega) = (l[j], j) := by simp
  rw [ej, h0 j l[j] hj (List.getElem?_eq_getElem hjl)]
  rfl
theorem clash_none {t : Tongue} {ps : List Part} {y : Nat} (h : ∀ (i : Nat) x, (texts t ps y)[i]? = some x → (((texts t ps y).take i).any fun z => z.2 == x.2) = false) : clash t ps y = none := by
  rw [clash_def]
  have e : (texts t ps y).zipIdx.find? (fun x => ((texts t ps y).take x.2).any fun z => z.2 == x.1.2) = none := by
    rw [List.find?_eq_none]
    intro x hx
    have := List.mem_zipIdx_iff_getElem?.mp hx
    rw [h x.2 x.1 this]
    decide
  rw [e]
  rfl
theorem clash_some {t : Tongue} {ps : List Part} {y i : Nat} {x z : Day × Bytes} (hx : (texts t ps y)[i]? = some x) (hz : ((texts t ps y).take i).find? (fun z => z.2 == x.2) = some z) (h : ∀ (j : Nat) x, j < i → (texts t ps y)[j]? = some x → (((texts t ps y).take j).any fun z => z.2 == x.2) = false) : clash t ps y = some (z.1, x.1) := by
  rw [clash_def]
  have e : (texts t ps y).zipIdx.find? (fun x => ((texts t ps y).take x.2).any fun z => z.2 == x.1.2) = some (x, i) := by
    refine find_idx hx ?_ fun j w hj hw => h j w hj hw
    rw [List.any_eq_true]
    have q := List.find?_some (p := fun z : Day × Bytes => z.2 == x.2) hz
    exact ⟨z, List.mem_of_find?_eq_some hz, q⟩
  rw [e]
  show (((texts t ps y).take i).find? fun z => z.2 == x.2).map _ = _
  rw [hz]
  rfl
end Wd
namespace Wd
open Ut08
open Ut08Neutral (partsIn bit rowIn rowsIn callIn callOf)
/-- a call of the desk: its place, its numbers, its rows -/
inductive CallIs : Nat → List Nat → List (List Nat) → Ut08.Call → Prop
  | tongue (y : Nat) (rows : List (List Nat)) : rows.length = 19 → (∀ r ∈ rows, r.length ≤ 10) → CallIs 0 [y] rows (.tongue (rows.take 12) (rows.drop 12) y)
  | num (g p l m h i : Nat) : CallIs 1 [g, p, l, m, h, i] [] (.num ⟨if g = 256 then none else some g, p, l, m, h, i⟩)
  | pat (r : List Nat) (ps : List Part) : partsIn (r.length + 1) r = some ps → r.length ≤ 100 → CallIs 2 [] [r] (.pat ps)
  | writeNum (s n : Nat) : n ≤ 10 ^ 18 → CallIs 3 [s, n] [] (.writeNum (decide (s = 1)) n)
  | readNum (r : List Nat) : r.length ≤ 80 → CallIs 4 [] [r] (.readNum r)
  | writeDay (y m d : Nat) : CallIs 5 [y, m, d] [] (.writeDay ⟨y, m, d⟩)
  | readDay (y : Nat) (r : List Nat) : r.length ≤ 80 → CallIs 6 [y] [r] (.readDay y r)
  | clash (y : Nat) : CallIs 7 [y] [] (.clash y)
  | week (y m d : Nat) : CallIs 8 [y, m, d] [] (.week ⟨y, m, d⟩)
  | on (n : Nat) : CallIs 9 [n] [] (.on n)
theorem partsIn_own : ∀ {f : Nat} {l : List Nat} {ps : List Part}, partsIn f l = some ps → ∀ p ∈ ps, (ownB p).length ≤ l.length
  | f, [], ps, h, p, hp => by
    rw [partsIn_nil] at h
    cases h
    cases hp
  | f, k :: l, ps, h, p, hp => by
    obtain ⟨g, rfl, hc⟩ := partsIn_cons h
    rcases hc with ⟨_, n, l', qs, rfl, hn, hq, rfl⟩ | ⟨_, pt, qs, hcd, how, hq, rfl⟩
    · rcases List.mem_cons.mp hp with rfl | hm
      · show (l'.take n).length ≤ _
        rw [List.length_take, List.length_cons, List.length_cons]
        omega
      · have := partsIn_own hq p hm
        rw [List.length_drop] at this
        rw [List.length_cons, List.length_cons]
        omega
    · rcases List.mem_cons.mp hp with rfl | hm
      · rw [how]
        exact Nat.zero_le _
      · have := partsIn_own hq p hm
        rw [List.length_cons]
        omega
termination_by f => f
theorem digitsFrom_le : ∀ f n : Nat, (digitsFrom f n).length ≤ f
  | 0, _ => Nat.le_refl _
  | f + 1, n => by
    rw [digitsFrom]
    split
    · show 1 ≤ _
      omega
    · rw [List.length_append]
      have := digitsFrom_le f (n / 10)
      show _ + 1 ≤ _
      omega
theorem digits_le20 (n : Nat) : (digits n).length ≤ 20 := digitsFrom_le 20 n
theorem grouped_len (g : Option Nat) (w : Bytes) : (grouped g w).length ≤ 2 * w.length := by
  unfold grouped
  cases g with
  | none =>
    show w.length ≤ _
    omega
  | some c =>
    show (w.zipIdx.flatMap _).length ≤ _
    rw [List.length_flatMap]
    have : ∀ l : List (Nat × Nat), (l.map fun x => (if 0 < x.2 ∧ (w.length - x.2) % 3 = 0 then [c, x.1] else [x.1]).length).sum ≤ 2 * l.length := fun l => by
      induction l with
      | nil => exact Nat.le_refl _
      | cons a l ih =>
        rw [List.map_cons, List.sum_cons, List.length_cons]
        have : (if 0 < a.2 ∧ (w.length - a.2) % 3 = 0 then [c, a.1] else [a.1]).length ≤ 2 := by split <;> simp
        omega
    have h := this w.zipIdx
    rw [List.length_zipIdx] at h
    exact h
theorem numText_len {f : Num} (g : NumGood f) (neg : Bool) (n : Nat) : (numText f neg n).length ≤ 100 := by
  unfold numText
  simp only
  generalize rounded n f.most = q
  have h1 : (padded f.lead (digits (q / 10 ^ f.most))).length ≤ 20 := by
    rw [padded_length_max]
    have := digits_le20 (q / 10 ^ f.most)
    have := g.l6
    omega
  have h2 := grouped_len f.group (padded f.lead (digits (q / 10 ^ f.most)))
  have h3 : (trimmed f.least (padded f.most (if f.most = 0 then [] else digits (q % 10 ^ f.most)))).length ≤ 20 := by
    unfold trimmed
    rw [List.length_take, padded_length_max]
    have := digits_le20 (q % 10 ^ f.most)
    have := g.m6
    split <;> simp <;> omega
  rw [List.length_append, List.length_append]
  have h4 : (if neg = true ∧ q ≠ 0 then [f.minus] else []).length ≤ 1 := by split <;> simp
  have h5 : ∀ l : Bytes, l.length ≤ 20 → (if l = [] then [] else f.point :: l).length ≤ 21 := fun l hl => by
    split
    · simp
    · simp; omega
  have h6 := h5 _ h3
  omega
end Wd
namespace Wd
open Ut08
open Ut08Neutral (partsIn bit rowIn rowsIn callIn callOf nat)
/-! the flat list of calls -/
def cI (m : List Nat) : List Int := m.map fun (n : Nat) => (n : Int)
theorem cI_len (m : List Nat) : (cI m).length = m.length := List.length_map ..
theorem cI_toNat (m : List Nat) : (cI m).map Int.toNat = m := by
  unfold cI
  rw [List.map_map]
  exact List.map_id'' (fun n => rfl) m
theorem row_nat {m : List Nat} {x t : List Int} (h : PyFlat.row (cI m) = some (x, t)) : ∃ x' t', rowIn m = some (x', t') ∧ x = cI x' ∧ t = cI t' := by
  cases m with
  | nil => cases h
  | cons n r =>
    have h' : (if 0 ≤ (n : Int) ∧ (n : Int).toNat ≤ (cI r).length then some ((cI r).take (n : Int).toNat, (cI r).drop (n : Int).toNat) else none) = some (x, t) := h
    rw [cI_len, Int.toNat_natCast] at h'
    by_cases c : n ≤ r.length
    · rw [if_pos ⟨by omega, c⟩] at h'
      cases h'
      refine ⟨r.take n, r.drop n, ?_, (List.map_take ..).symm, (List.map_drop ..).symm⟩
      show (if r.length < n then none else some (r.take n, r.drop n)) = _
      rw [if_neg (by omega)]
    · rw [if_neg (fun z => c z.2)] at h'
      cases h'
theorem rows_nat : ∀ {k : Nat} {m : List Nat} {xs : List (List Int)} {t : List Int}, PyFlat.rows k (cI m) = some (xs, t) → ∃ xs' t', rowsIn k m = some (xs', t') ∧ xs = xs'.map cI ∧ t = cI t'
  | 0, m, xs, t, h => by
    cases h
    exact ⟨[], m, rfl, rfl, rfl⟩
  | k + 1, m, xs, t, h => by
    rw [PyFlat.rows] at h
    cases e : PyFlat.row (cI m) with
    | none => rw [e] at h; cases h
    | some y =>
      obtain ⟨x, s⟩ := y
      rw [e] at h
      simp only at h
      obtain ⟨x', s', h1, rfl, rfl⟩ := row_nat e
      cases e2 : PyFlat.rows k (cI s') with
      | none => rw [e2] at h; cases h
      | some z =>
        obtain ⟨ys, u⟩ := z
        rw [e2] at h
        cases h
        obtain ⟨ys', u', h2, rfl, rfl⟩ := rows_nat e2
        refine ⟨x' :: ys', u', ?_, rfl, rfl⟩
        rw [rowsIn, h1]
        show (rowsIn k s').map _ = _
        rw [h2]
        rfl
theorem rowsIn_len : ∀ {k : Nat} {m : List Nat} {xs : List (List Nat)} {t : List Nat}, rowsIn k m = some (xs, t) → xs.length = k
  | 0, m, xs, t, h => by cases h; rfl
  | k + 1, m, xs, t, h => by
    rw [rowsIn] at h
    cases e : rowIn m with
    | none => rw [e] at h; cases h
    | some x =>
      rw [e] at h
      have h' : (rowsIn k x.2).map (fun y => (x.1 :: y.1, y.2)) = some (xs, t) := h
      cases e2 : rowsIn k x.2 with
      | none => rw [e2] at h'; cases h'
      | some y =>
        rw [e2] at h'
        cases h'
        rw [List.length_cons, rowsIn_len (k := k) (m := x.2) (xs := y.1) (t := y.2) e2]
theorem rowsIn_succ {k : Nat} {m : List Nat} {xs : List (List Nat)} {t : List Nat} (h : rowsIn (k + 1) m = some (xs, t)) : ∃ n l ys, m = n :: l ∧ n ≤ l.length ∧ xs = l.take n :: ys ∧ rowsIn k (l.drop n) = some (ys, t) := by
  rw [rowsIn] at h
  cases m with
  | nil => cases h
  | cons n l =>
    by_cases c : l.length < n
    · have : rowIn (n :: l) = none := if_pos c
      rw [this] at h
      cases h
    · have : rowIn (n :: l) = some (l.take n, l.drop n) := if_neg c
      rw [this] at h
      have h' : (rowsIn k (l.drop n)).map (fun y => (l.take n :: y.1, y.2)) = some (xs, t) := h
      cases e2 : rowsIn k (l.drop n) with
      | none => rw [e2] at h'; cases h'
      | some y =>
        rw [e2] at h'
        cases h'
        exact ⟨n, l, y.1, rfl, by omega, rfl, e2⟩
def flatN (xs : List (List Nat)) : List Nat := xs.flatMap fun r => r.length :: r
theorem rowIn_put (r rest : List Nat) : rowIn (r.length :: (r ++ rest)) = some (r, rest) := by
  show (if (r ++ rest).length < r.length then none else some ((r ++ rest).take r.length, (r ++ rest).drop r.length)) = _
  rw [if_neg (by rw [List.length_append]; omega), List.take_left, List.drop_left]
theorem rowsIn_flat : ∀ (xs : List (List Nat)) (rest : List Nat), rowsIn xs.length (flatN xs ++ rest) = some (xs, rest)
  | [], _ => rfl
  | r :: xs, rest => by
    have e : flatN (r :: xs) ++ rest = r.length :: (r ++ (flatN xs ++ rest)) := by
      unfold flatN
      rw [List.flatMap_cons]
      simp
    rw [e, List.length_cons, rowsIn, rowIn_put]
    show (rowsIn xs.length (flatN xs ++ rest)).map _ = _
    rw [rowsIn_flat xs rest]
    rfl
theorem call_nat {m : List Nat} {c : List (List Int)} {t : List Int} (h : PyFlat.call PyUt08.shape (cI m) = some (c, t)) : ∃ p r n k xs t', m = p :: r ∧ PyUt08.shape (p : Int) = some (n, k) ∧ n ≤ r.length ∧ rowsIn k (r.drop n) = some (xs, t') ∧ t = cI t' ∧ c = ((p : Int) :: cI (r.take n)) :: xs.map cI := by
  cases m with
  | nil => cases h
  | cons p r =>
    have h1 : (match PyUt08.shape (p : Int) with
      | none => none
      | some (n, k) => if (cI r).length < n then none else match PyFlat.rows k ((cI r).drop n) with
        | none => none
        | some (xs, t) => some (((p : Int) :: (cI r).take n) :: xs, t)) = some (c, t) := h
    cases e : PyUt08.shape (p : Int) with
    | none => rw [e] at h1; cases h1
    | some q =>
      obtain ⟨n, k⟩ := q
      rw [e] at h1
      simp only at h1
      rw [cI_len] at h1
      by_cases cc : r.length < n
      · rw [if_pos cc] at h1
        cases h1
      · rw [if_neg cc] at h1
        have ed : (cI r).drop n = cI (r.drop n) := (List.map_drop ..).symm
        have et : (cI r).take n = cI (r.take n) := (List.map_take ..).symm
        rw [ed, et] at h1
        cases e2 : PyFlat.rows k (cI (r.drop n)) with
        | none => rw [e2] at h1; cases h1
        | some z =>
          obtain ⟨xs, u⟩ := z
          rw [e2] at h1
          cases h1
          obtain ⟨xs', u', h2, rfl, rfl⟩ := rows_nat e2
          exact ⟨p, r, n, k, xs', u', rfl, e, by omega, h2, rfl, rfl⟩
theorem callOf_nat {m : List Nat} (h : (callOf (cI m)).isSome = true) : callOf (cI m) = callIn m ∧ ∀ n ∈ m, n ≤ 10 ^ 18 := by
  unfold callOf at h ⊢
  cases e : (cI m).all nat with
  | false => rw [if_pos e] at h; cases h
  | true =>
    rw [if_neg (by decide), cI_toNat]
    refine ⟨rfl, fun n hn => ?_⟩
    have := List.all_eq_true.mp e (n : Int) (List.mem_map.mpr ⟨n, hn, rfl⟩)
    unfold nat at this
    rw [Bool.and_eq_true, decide_eq_true_eq, decide_eq_true_eq] at this
    omega
theorem lists_le : ∀ {b : List (Int × Int × Nat × Nat)} {rs : List (List Int)} {M : Nat}, PyInside.lists b rs = true → (b.all fun q => decide (q.2.2.2 ≤ M)) = true → rs.length ≤ b.length → ∀ r ∈ rs, r.length ≤ M
  | _, [], _, _, _, _, r, hr => by cases hr
  | [], _ :: _, _, _, _, hl, _, _ => by simp at hl
  | (lo, hi, least, most) :: b, x :: rs, M, h, hb, hl, r, hr => by
    rw [PyInside.lists] at h
    rw [List.all_cons, Bool.and_eq_true, decide_eq_true_eq] at hb
    simp only [Bool.and_eq_true, decide_eq_true_eq] at h
    rcases List.mem_cons.mp hr with rfl | hm
    · have := h.1.1.2
      have hb1 : most ≤ M := hb.1
      omega
    · exact lists_le h.2 hb.2 (by simpa using hl) r hm
theorem rows_le {p : Nat} {ns : List Nat} {xs : List (List Nat)} {M : Nat} (hb : PyInside.call PyUt08.bound (((p : Int) :: cI ns) :: xs.map cI) = true) (hM : ((PyUt08.bound (p : Int)).2.all fun q => decide (q.2.2.2 ≤ M)) = true) (hl : xs.length ≤ (PyUt08.bound (p : Int)).2.length) : ∀ r ∈ xs, r.length ≤ M := fun r hr => by
  have h : (PyInside.each (PyUt08.bound (p : Int)).1 (cI ns) && PyInside.lists (PyUt08.bound (p : Int)).2 (xs.map cI)) = true := hb
  rw [Bool.and_eq_true] at h
  have := lists_le h.2 hM (by rw [List.length_map]; exact hl) (cI r) (List.mem_map.mpr ⟨r, hr, rfl⟩)
  rwa [cI_len] at this
/-- the ten shapes -/
theorem shape_cases {p : Nat} {n k : Nat} (h : PyUt08.shape (p : Int) = some (n, k)) : (p = 0 ∧ n = 1 ∧ k = 19) ∨ (p = 1 ∧ n = 6 ∧ k = 0) ∨ (p = 2 ∧ n = 0 ∧ k = 1) ∨ (p = 3 ∧ n = 2 ∧ k = 0) ∨ (p = 4 ∧ n = 0 ∧ k = 1) ∨ (p = 5 ∧ n = 3 ∧ k = 0) ∨ (p = 6 ∧ n = 1 ∧ k = 1) ∨ (p = 7 ∧ n = 1 ∧ k = 0) ∨ (p = 8 ∧ n = 3 ∧ k = 0) ∨ (p = 9 ∧ n = 1 ∧ k = 0) := by
  by_cases hp : p < 10
  · have hp' : p = 0 ∨ p = 1 ∨ p = 2 ∨ p = 3 ∨ p = 4 ∨ p = 5 ∨ p = 6 ∨ p = 7 ∨ p = 8 ∨ p = 9 := by omega
    rcases hp' with rfl | rfl | rfl | rfl | rfl | rfl | rfl | rfl | rfl | rfl
    · have h' : some (1, 19) = some (n, k) := h
      cases h'
      simp
    · have h' : some (6, 0) = some (n, k) := h
      cases h'
      simp
    · have h' : some (0, 1) = some (n, k) := h
      cases h'
      simp
    · have h' : some (2, 0) = some (n, k) := h
      cases h'
      simp
    · have h' : some (0, 1) = some (n, k) := h
      cases h'
      simp
    · have h' : some (3, 0) = some (n, k) := h
      cases h'
      simp
    · have h' : some (1, 1) = some (n, k) := h
      cases h'
      simp
    · have h' : some (1, 0) = some (n, k) := h
      cases h'
      simp
    · have h' : some (3, 0) = some (n, k) := h
      cases h'
      simp
    · have h' : some (1, 0) = some (n, k) := h
      cases h'
      simp
  · unfold PyUt08.shape at h
    rw [if_neg (by omega), if_neg (by omega), if_neg (by omega), if_neg (by omega), if_neg (by omega), if_neg (by omega), if_neg (by omega), if_neg (by omega), if_neg (by omega), if_neg (by omega)] at h
    cases h
theorem len_succ {α : Type} {xs : List α} {n : Nat} (h : xs.length = n + 1) : ∃ a l, xs = a :: l ∧ l.length = n := by
  cases xs with
  | nil => cases h
  | cons a l => exact ⟨a, l, rfl, Nat.succ.inj h⟩
theorem whole0 (x0 : Int) (r0 r1 r2 r3 r4 r5 r6 r7 r8 r9 r10 r11 r12 r13 r14 r15 r16 r17 r18 : List Int) : PyUt08.whole [[0, x0], r0, r1, r2, r3, r4, r5, r6, r7, r8, r9, r10, r11, r12, r13, r14, r15, r16, r17, r18] = [[0] ++ [x0] ++ [(r0.length : Int)] ++ r0 ++ [(r1.length : Int)] ++ r1 ++ [(r2.length : Int)] ++ r2 ++ [(r3.length : Int)] ++ r3 ++ [(r4.length : Int)] ++ r4 ++ [(r5.length : Int)] ++ r5 ++ [(r6.length : Int)] ++ r6 ++ [(r7.length : Int)] ++ r7 ++ [(r8.length : Int)] ++ r8 ++ [(r9.length : Int)] ++ r9 ++ [(r10.length : Int)] ++ r10 ++ [(r11.length : Int)] ++ r11 ++ [(r12.length : Int)] ++ r12 ++ [(r13.length : Int)] ++ r13 ++ [(r14.length : Int)] ++ r14 ++ [(r15.length : Int)] ++ r15 ++ [(r16.length : Int)] ++ r16 ++ [(r17.length : Int)] ++ r17 ++ [(r18.length : Int)] ++ r18] := rfl
theorem whole0N (y : Nat) {xs : List (List Nat)} (hx : xs.length = 19) : (PyUt08.whole ((((0 : Nat) : Int) :: cI [y]) :: xs.map cI)).headD [] = cI (0 :: y :: flatN xs) := by
  obtain ⟨r0, l0, rfl, h0⟩ := len_succ (n := 18) hx
  obtain ⟨r1, l1, rfl, h1⟩ := len_succ (n := 17) h0
  obtain ⟨r2, l2, rfl, h2⟩ := len_succ (n := 16) h1
  obtain ⟨r3, l3, rfl, h3⟩ := len_succ (n := 15) h2
  obtain ⟨r4, l4, rfl, h4⟩ := len_succ (n := 14) h3
  obtain ⟨r5, l5, rfl, h5⟩ := len_succ (n := 13) h4
  obtain ⟨r6, l6, rfl, h6⟩ := len_succ (n := 12) h5
  obtain ⟨r7, l7, rfl, h7⟩ := len_succ (n := 11) h6
  obtain ⟨r8, l8, rfl, h8⟩ := len_succ (n := 10) h7
  obtain ⟨r9, l9, rfl, h9⟩ := len_succ (n := 9) h8
  obtain ⟨r10, l10, rfl, h10⟩ := len_succ (n := 8) h9
  obtain ⟨r11, l11, rfl, h11⟩ := len_succ (n := 7) h10
  obtain ⟨r12, l12, rfl, h12⟩ := len_succ (n := 6) h11
  obtain ⟨r13, l13, rfl, h13⟩ := len_succ (n := 5) h12
  obtain ⟨r14, l14, rfl, h14⟩ := len_succ (n := 4) h13
  obtain ⟨r15, l15, rfl, h15⟩ := len_succ (n := 3) h14
  obtain ⟨r16, l16, rfl, h16⟩ := len_succ (n := 2) h15
  obtain ⟨r17, l17, rfl, h17⟩ := len_succ (n := 1) h16
  obtain ⟨r18, l18, rfl, h18⟩ := len_succ (n := 0) h17
  obtain rfl := List.length_eq_zero_iff.mp h18
  have e := whole0 (y : Int) (cI r0) (cI r1) (cI r2) (cI r3) (cI r4) (cI r5) (cI r6) (cI r7) (cI r8) (cI r9) (cI r10) (cI r11) (cI r12) (cI r13) (cI r14) (cI r15) (cI r16) (cI r17) (cI r18)
  refine (congrArg (fun z => List.headD z []) e).trans ?_
  simp only [List.headD_cons, cI_len]
  simp [cI, flatN]
theorem call_is {p n k : Nat} {ns : List Nat} {xs : List (List Nat)} (hs : PyUt08.shape (p : Int) = some (n, k)) (hl : ns.length = n) (hx : xs.length = k) (hb : PyInside.call PyUt08.bound (((p : Int) :: cI ns) :: xs.map cI) = true)
    (ha : Ut08Neutral.asked1 ((PyUt08.whole (((p : Int) :: cI ns) :: xs.map cI)).headD []) = true) : ∃ x, CallIs p ns xs x ∧ callOf ((PyUt08.whole (((p : Int) :: cI ns) :: xs.map cI)).headD []) = some x := by
  unfold Ut08Neutral.asked1 at ha
  rcases shape_cases hs with ⟨rfl, rfl, rfl⟩ | ⟨rfl, rfl, rfl⟩ | ⟨rfl, rfl, rfl⟩ | ⟨rfl, rfl, rfl⟩ | ⟨rfl, rfl, rfl⟩ | ⟨rfl, rfl, rfl⟩ | ⟨rfl, rfl, rfl⟩ | ⟨rfl, rfl, rfl⟩ | ⟨rfl, rfl, rfl⟩ | ⟨rfl, rfl, rfl⟩
  · match ns, hl with
    | [y], _ =>
    have hM := rows_le hb (M := 10) (by decide) (by rw [hx]; decide)
    have e := whole0N y hx
    rw [e] at ha ⊢
    obtain ⟨h1, h2⟩ := callOf_nat ha
    refine ⟨_, .tongue y xs hx hM, ?_⟩
    rw [h1]
    show (rowsIn 12 (flatN xs)).bind _ = _
    have ex : flatN xs = flatN (xs.take 12) ++ (flatN (xs.drop 12) ++ []) := by
      rw [List.append_nil]
      unfold flatN
      rw [← List.flatMap_append, List.take_append_drop]
    have l1 : (xs.take 12).length = 12 := by rw [List.length_take, hx]; rfl
    have l2 : (xs.drop 12).length = 7 := by rw [List.length_drop, hx]
    have q1 := rowsIn_flat (xs.take 12) (flatN (xs.drop 12) ++ [])
    have q2 := rowsIn_flat (xs.drop 12) []
    rw [l1] at q1
    rw [l2] at q2
    rw [ex, q1]
    show (rowsIn 7 (flatN (xs.drop 12) ++ [])).bind _ = _
    rw [q2]
    rfl
  · match ns, hl, xs, hx with
    | [g, p, l, m, h, i], _, [], _ =>
    have e : (PyUt08.whole ((((1 : Nat) : Int) :: cI [g, p, l, m, h, i]) :: ([] : List (List Nat)).map cI)).headD [] = cI [1, g, p, l, m, h, i] := rfl
    rw [e] at ha ⊢
    obtain ⟨h1, h2⟩ := callOf_nat ha
    exact ⟨_, .num g p l m h i, by rw [h1]; rfl⟩
  · match ns, hl, xs, hx with
    | [], _, [r], _ =>
    have hM := rows_le hb (M := 100) (by decide) (Nat.le_refl 1)
    have e : (PyUt08.whole ((((2 : Nat) : Int) :: cI []) :: [r].map cI)).headD [] = cI (2 :: r) := rfl
    rw [e] at ha ⊢
    obtain ⟨h1, h2⟩ := callOf_nat ha
    rw [h1] at ha ⊢
    have e3 : callIn (2 :: r) = (partsIn (r.length + 1) r).map .pat := rfl
    rw [e3] at ha ⊢
    cases e2 : partsIn (r.length + 1) r with
    | none => rw [e2] at ha; cases ha
    | some ps => exact ⟨_, .pat r ps e2 (hM r (by simp)), rfl⟩
  · match ns, hl, xs, hx with
    | [s, n], _, [], _ =>
    have e : (PyUt08.whole ((((3 : Nat) : Int) :: cI [s, n]) :: ([] : List (List Nat)).map cI)).headD [] = cI [3, s, n] := rfl
    rw [e] at ha ⊢
    obtain ⟨h1, h2⟩ := callOf_nat ha
    rw [h1] at ha ⊢
    have e3 : callIn [3, s, n] = (bit s).map fun s => Ut08.Call.writeNum s n := rfl
    rw [e3] at ha ⊢
    refine ⟨_, .writeNum s n (h2 n (by simp)), ?_⟩
    unfold bit at ha ⊢
    by_cases c0 : s = 0
    · subst c0
      rfl
    · by_cases c1 : s = 1
      · subst c1
        rfl
      · rw [if_neg c0, if_neg c1] at ha
        cases ha
  · match ns, hl, xs, hx with
    | [], _, [r], _ =>
    have hM := rows_le hb (M := 80) (by decide) (Nat.le_refl 1)
    have e : (PyUt08.whole ((((4 : Nat) : Int) :: cI []) :: [r].map cI)).headD [] = cI (4 :: r.length :: r) := by
      show [4] ++ [((cI r).length : Int)] ++ cI r = _
      rw [cI_len]
      rfl
    rw [e] at ha ⊢
    obtain ⟨h1, h2⟩ := callOf_nat ha
    refine ⟨_, .readNum r (hM r (by simp)), ?_⟩
    rw [h1]
    show (rowIn (r.length :: r)).bind _ = _
    have := rowIn_put r []
    rw [List.append_nil] at this
    rw [this]
    rfl
  · match ns, hl, xs, hx with
    | [y, m, d], _, [], _ =>
    have e : (PyUt08.whole ((((5 : Nat) : Int) :: cI [y, m, d]) :: ([] : List (List Nat)).map cI)).headD [] = cI [5, y, m, d] := rfl
    rw [e] at ha ⊢
    obtain ⟨h1, h2⟩ := callOf_nat ha
    exact ⟨_, .writeDay y m d, by rw [h1]; rfl⟩
  · match ns, hl, xs, hx with
    | [y], _, [r], _ =>
    have hM := rows_le hb (M := 80) (by decide) (Nat.le_refl 1)
    have e : (PyUt08.whole ((((6 : Nat) : Int) :: cI [y]) :: [r].map cI)).headD [] = cI (6 :: y :: r.length :: r) := by
      show [6] ++ [(y : Int)] ++ [((cI r).length : Int)] ++ cI r = _
      rw [cI_len]
      rfl
    rw [e] at ha ⊢
    obtain ⟨h1, h2⟩ := callOf_nat ha
    refine ⟨_, .readDay y r (hM r (by simp)), ?_⟩
    rw [h1]
    show (rowIn (r.length :: r)).bind _ = _
    have := rowIn_put r []
    rw [List.append_nil] at this
    rw [this]
    rfl
  · match ns, hl, xs, hx with
    | [y], _, [], _ =>
    have e : (PyUt08.whole ((((7 : Nat) : Int) :: cI [y]) :: ([] : List (List Nat)).map cI)).headD [] = cI [7, y] := rfl
    rw [e] at ha ⊢
    obtain ⟨h1, h2⟩ := callOf_nat ha
    exact ⟨_, .clash y, by rw [h1]; rfl⟩
  · match ns, hl, xs, hx with
    | [y, m, d], _, [], _ =>
    have e : (PyUt08.whole ((((8 : Nat) : Int) :: cI [y, m, d]) :: ([] : List (List Nat)).map cI)).headD [] = cI [8, y, m, d] := rfl
    rw [e] at ha ⊢
    obtain ⟨h1, h2⟩ := callOf_nat ha
    exact ⟨_, .week y m d, by rw [h1]; rfl⟩
  · match ns, hl, xs, hx with
    | [n], _, [], _ =>
    have e : (PyUt08.whole ((((9 : Nat) : Int) :: cI [n]) :: ([] : List (List Nat)).map cI)).headD [] = cI [9, n] := rfl
    rw [e] at ha ⊢
    obtain ⟨h1, h2⟩ := callOf_nat ha
    exact ⟨_, .on n, by rw [h1]; rfl⟩
/-- what one call is, and what is behind it -/
abbrev stepC (s : House) (c : List (List Int)) : House × List Int := Ut08Neutral.step s (c.headD [])
def GoodC (c : List (List Int)) : Prop := PyInside.call PyUt08.bound c = true ∧ Ut08Neutral.asked1 ((PyUt08.whole c).headD []) = true
theorem calls_cons {f : Nat} {m : List Nat} {raw : List (List (List Int))} (hm : m ≠ []) (h : PyFlat.calls PyUt08.shape f (cI m) = some raw) (hg : ∀ c ∈ raw, GoodC c) :
    ∃ g p r n k xs t c rest x, m = p :: r ∧ PyUt08.shape (p : Int) = some (n, k) ∧ n ≤ r.length ∧ rowsIn k (r.drop n) = some (xs, t) ∧ raw = c :: rest ∧ PyFlat.calls PyUt08.shape g (cI t) = some rest ∧ CallIs p (r.take n) xs x ∧ ∀ s, stepC s (PyUt08.whole c) = Ut08.step s x := by
  cases m with
  | nil => exact absurd rfl hm
  | cons p0 r0 =>
  cases f with
  | zero => cases h
  | succ g =>
    have h1 : (match PyFlat.call PyUt08.shape (cI (p0 :: r0)) with
      | none => none
      | some (c, t) => match PyFlat.calls PyUt08.shape g t with
        | none => none
        | some cs => some (c :: cs)) = some raw := h
    cases e : PyFlat.call PyUt08.shape (cI (p0 :: r0)) with
    | none => rw [e] at h1; cases h1
    | some z =>
      obtain ⟨c, t⟩ := z
      rw [e] at h1
      simp only at h1
      obtain ⟨p, r, n, k, xs, t', hm', hs, hn, hr, rfl, hc⟩ := call_nat e
      cases e2 : PyFlat.calls PyUt08.shape g (cI t') with
      | none => rw [e2] at h1; cases h1
      | some cs =>
        rw [e2] at h1
        cases h1
        have hgc := hg c (by simp)
        rw [hc] at hgc
        obtain ⟨x, hx1, hx2⟩ := call_is hs (by rw [List.length_take]; omega) (rowsIn_len hr) hgc.1 hgc.2
        refine ⟨g, p, r, n, k, xs, t', c, cs, x, hm', hs, hn, hr, rfl, e2, hx1, fun s => ?_⟩
        rw [hc]
        show (match callOf ((PyUt08.whole _).headD []) with
          | none => (s, [])
          | some x => Ut08.step s x) = _
        rw [hx2]
theorem told_len : ∀ (s : House) (cs : List (List (List Int))), (PyFlat.told (PyFlat.played stepC s cs)).length = cs.length + Ut08Neutral.many s (cs.map fun c => c.headD [])
  | _, [] => rfl
  | s, c :: cs => by
    have ih := told_len (stepC s c).1 cs
    have e : PyFlat.told (PyFlat.played stepC s (c :: cs)) = (((stepC s c).2.length : Int) :: (stepC s c).2) ++ PyFlat.told (PyFlat.played stepC (stepC s c).1 cs) := rfl
    rw [e, List.length_append, ih, List.length_cons, List.length_cons, List.map_cons, Ut08Neutral.many]
    show _ = cs.length + 1 + ((stepC s c).2.length + Ut08Neutral.many (stepC s c).1 _)
    omega
/-- what is asked, told apart -/
theorem asked_of {l : List Int} (h : PyUt08.answers_asked l = true) : ∃ raw, PyFlat.calls PyUt08.shape l.length l = some raw ∧ (∀ c ∈ raw, GoodC c) ∧ PyUt08.answers l = PyFlat.told (PyFlat.played stepC Ut08.init (raw.map PyUt08.whole)) ∧ (PyUt08.answers l).length ≤ 1000030 := by
  unfold PyUt08.answers_asked at h
  cases e : PyFlat.calls PyUt08.shape l.length l with
  | none => rw [e] at h; cases h
  | some raw =>
    rw [e] at h
    simp only [Bool.and_eq_true] at h
    obtain ⟨⟨⟨⟨h1, h2⟩, h3⟩, h4⟩, h5⟩ := h
    unfold Ut08Neutral.asked at h4
    simp only [Bool.and_eq_true, decide_eq_true_eq] at h4
    obtain ⟨a1, a2, a3, a4, a5⟩ := h4
    have ea : PyUt08.answers l = PyFlat.told (PyFlat.played stepC Ut08.init (raw.map PyUt08.whole)) := by
      unfold PyUt08.answers PyUt08.calls
      rw [e]
      rfl
    refine ⟨raw, rfl, fun c hc => ⟨List.all_eq_true.mp h3 c hc, ?_⟩, ea, ?_⟩
    · exact List.all_eq_true.mp a1 _ (List.mem_map.mpr ⟨_, List.mem_map.mpr ⟨c, hc, rfl⟩, rfl⟩)
    · rw [ea, told_len, List.length_map]
      rw [List.length_map, List.length_map] at a3
      have : Ut08Neutral.many Ut08Neutral.start ((raw.map PyUt08.whole).map fun c => c.headD []) = Ut08Neutral.many Ut08.init ((raw.map PyUt08.whole).map fun c => c.headD []) := rfl
      omega
end Wd
namespace Wd
open PySem PySem.Spec PyProof.Rows L2 Evl

/-! numbers as values -/
abbrev nv (n : Nat) : V := .int (n : Int)
def nl (ns : List Nat) : List V := ns.map nv
theorem nl_len (ns : List Nat) : (nl ns).length = ns.length := List.length_map ..
theorem nl_app (a b : List Nat) : nl (a ++ b) = nl a ++ nl b := List.map_append ..
theorem nl_get {ns : List Nat} {i : Nat} {x : V} (h : (nl ns)[i]? = some x) : ∃ n, ns[i]? = some n ∧ x = nv n := by
  unfold nl at h
  rw [List.getElem?_map] at h
  cases e : ns[i]? with
  | none => rw [e] at h; cases h
  | some z => rw [e] at h; exact ⟨z, rfl, (Option.some.inj h).symm⟩
theorem nl_at {ns : List Nat} {i n : Nat} (h : ns[i]? = some n) : (nl ns)[i]? = some (nv n) := by
  unfold nl
  rw [List.getElem?_map, h]
  rfl

theorem given_all {n : Nat} {v : Nat → V} : given n (fun _ => true) v = (List.range n).map v := by
  unfold given
  rw [List.filter_eq_self.mpr (fun _ _ => rfl)]
theorem range_map {α : Type} {l : List α} {f : Nat → α} (h : ∀ i a, l[i]? = some a → f i = a) : (List.range l.length).map f = l := by
  apply List.ext_getElem?
  intro i
  rw [List.getElem?_map]
  by_cases hi : i < l.length
  · rw [List.getElem?_range hi, List.getElem?_eq_getElem hi]
    exact congrArg some (h i _ (List.getElem?_eq_getElem hi))
  · have h1 : (List.range l.length)[i]? = none := List.getElem?_eq_none (by rw [List.length_range]; omega)
    have h2 : l[i]? = none := List.getElem?_eq_none (by omega)
    rw [h1, h2]
    rfl

/-! the text -/
abbrev topS (i : Nat) : Stmt := PySem.Challenge.pw_writtendays_s01_answers.main.body.getD i (.Pass ⟨0, 0, 0, 0⟩)

/-! what may be called -/
section
variable (P : Program) (w : World) (K : PySem.W.Frag) (mg : Str → Option Value) (base : Heap)
/-- a def by its name -/
structure Cal (CX : CXT) (k : Nat) (x : Str) (sp : Sp) : Prop where
  ex : ∃ (f : Addr) (fd : FuncData) (ps : List Str), FnOk P w K mg base CX k f fd ps sp ∧ mg x = some (.ref f) ∧ PySem.W.keepIn K (.ref f) = true ∧ Binds K fd ps []
/-- a method of the class at C -/
structure Met (CX : CXT) (k : Nat) (C : Addr) (m : Str) (sp : Sp) : Prop where
  ex : ∃ (f : Addr) (fd : FuncData) (ps : List Str), Cls K C ∧ Meth K C m f ∧ FnOk P w K mg base CX k f fd ps sp ∧ Binds K fd ps []
/-- a class -/
structure Mak (k : Nat) (x : Str) (C : Addr) (sp : Sp) : Prop where
  ex : ∃ (f : Addr) (fd : FuncData) (ps : List Str), Mk K C f ∧ FnOk P w K mg base CX0 k f fd ps sp ∧ mg x = some (.ref C) ∧ Binds K fd ps []
end
section
variable {X : Cx} {CX : CXT} {k j : Nat} {C : Addr} {x m : Str} {sp : Sp} {E : XK} {p pos apos : Pos} {e o : Expr} {es : List Expr} {ta : TE} {t : TA}
theorem pe_c (c : Cal X.prog X.w X.K X.mg X.base CX k x sp) (hr : Room j X.A) (hk : k ≤ j) (hx : Passes CX X E) (hg : Gl X x) (ha : PA X (e :: es) t)
    (hdb : (x == ("__debug__" : Str)) = false := by decide) (he : starEach (e :: es) X.env = (false, eval e X.env) :: starEach es X.env := by rfl) (hpl : (backTo pos (starEach es X.env)).any (·.1) = false := by rfl) :
    PE X (.Call (.Name x p) (e :: es) [] pos) (tCall sp [] E t) := by
  obtain ⟨f, fd, ps, F, hm, kp, b⟩ := c.ex
  exact pe_call F (hr.mono hk) hg hm kp b .nil hx ha hdb he hpl
theorem pe_mk (c : Mak X.prog X.w X.K X.mg X.base k x C sp) (hr : Room j X.A) (hk : k + 1 ≤ j) (hg : Gl X x) (ha : PA X (e :: es) t)
    (hdb : (x == ("__debug__" : Str)) = false := by decide) (he : starEach (e :: es) X.env = (false, eval e X.env) :: starEach es X.env := by rfl) (hpl : (backTo pos (starEach es X.env)).any (·.1) = false := by rfl) :
    PE X (.Call (.Name x p) (e :: es) [] pos) (tMake C sp [] E0 t) := by
  obtain ⟨f, fd, ps, M, F, hm, b⟩ := c.ex
  exact pe_make M F (hr.mono hk) hg hm b .nil pass0 ha hdb he hpl
theorem pe_mk0 (c : Mak X.prog X.w X.K X.mg X.base k x C sp) (hr : Room j X.A) (hk : k + 1 ≤ j) (hg : Gl X x) (hdb : (x == ("__debug__" : Str)) = false := by decide) :
    PE X (.Call (.Name x p) [] [] pos) (tMake C sp [] E0 tNil) := by
  obtain ⟨f, fd, ps, M, F, hm, b⟩ := c.ex
  exact pe_make0 M F (hr.mono hk) hg hm b .nil pass0 hdb
theorem pe_mt {pl : Sem Bool} (c : Met X.prog X.w X.K X.mg X.base CX k C m sp) (hr : Room j X.A) (hk : k ≤ j) (hx : Passes CX X E) (he : PE X o ta) (ha : PA X (e :: es) t)
    (hst : starEach (e :: es) X.env = (false, eval e X.env) :: starEach es X.env := by rfl) (hpl : (backTo pos (starEach es X.env)).any (·.1) = false := by rfl)
    (ht : eval (.Call (.Attribute o m apos) (e :: es) [] pos) X.env = (do
      let ov ← eval o X.env
      standAt apos.atName
      let (f, first) ← holding [ov] (getMethod ov m pl)
      callWith pos f first (backTo pos (starEach (e :: es) X.env)) (backToKw pos (keywordEach [] X.env))) := by rfl) :
    PE X (.Call (.Attribute o m apos) (e :: es) [] pos) (tMeth C m sp [] E ta t) := by
  obtain ⟨f, fd, ps, hc, hm, F, b⟩ := c.ex
  exact pe_meth (pl := pl) he hc hm F (hr.mono hk) b .nil hx ha hst hpl ht
end

/-- a whole number of the module -/
def MgI (mg : Str → Option Value) (x : Str) (i : Int) : Prop := ∃ t, mg x = some (.int i t)
theorem pgi {X : Cx} {x : Str} {i : Int} {pos : Pos} (h : MgI X.mg x i) (hg : Gl X x := by rfl) (hd : (x == ("__debug__" : Str)) = false := by decide) : PE X (.Name x pos) (tC (.int i)) := by
  obtain ⟨t, h⟩ := h
  exact pe_glob hg h ⟨t, rfl⟩ hd
/-- an object of the module -/
theorem pgr {X : Cx} {x : Str} {a : Addr} {pos : Pos} (h : X.mg x = some (.ref a)) (hg : Gl X x := by rfl) (hd : (x == ("__debug__" : Str)) = false := by decide) : PE X (.Name x pos) (tC (.ref a)) := pe_glob hg h rfl hd

/-! more of what evaluates to what -/
section
variable {K : PySem.W.Frag} {σ : L2.St} {H H' : Hp} {ta tb tc te tx : TE} {t u : TT} {x y z v : V}
theorem ev_chain {f g : Int → Int → V} {a b c : Int} {p q : Bool} (ha : Ev ta σ H (.int a)) (hb : Ev tb σ H (.int b)) (hc : Ev tc σ H (.int c)) (hf : f a b = .bl p) (hg : g b c = .bl q) :
    Ev (tChain (rI0 f) (rI0 g) ta tb tc) σ H (.bl (p && q)) := fun H1 e Q k =>
  ha H1 e _ fun H2 e2 => hb H2 (e.trans e2) _ fun H3 e3 => ⟨a, b, rfl, rfl, p, hf, by
    cases p with
    | true =>
      show tc σ H3 _
      exact hc H3 ((e.trans e2).trans e3) _ fun H4 e4 => ⟨b, c, rfl, rfl, by rw [hg]; exact k H4 ((e2.trans e3).trans e4)⟩
    | false =>
      show Q (.bl false) H3
      exact k H3 (e2.trans e3)⟩
theorem ev_fld {a C dx : Addr} {fs : List (Str × V)} {f : Str} (ha : Ev ta σ H (.ref a)) (h : H a = some (.ins C dx fs)) (c : Cls K C) (n : NoAttr K C f) (l : fs.lookup f = some v) : Ev (tFld K ta f) σ H v := fun H1 e Q q =>
  ha H1 e _ fun H2 e2 => ⟨a, C, dx, fs, v, rfl, e2 a _ (e a _ h), c, n, l, q H2 e2⟩
theorem ev_meth {a C dx : Addr} {fs : List (Str × V)} {m : Str} {sp : Sp} {E : XK} {tr : TA} {vs : List V} (ha : Ev ta σ H (.ref a)) (h : H a = some (.ins C dx fs)) (l : fs.lookup m = none) (hr : EvA tr σ H vs) (hs : SpV sp (.ref a :: vs) H z) :
    Ev (tMeth C m sp [] E ta tr) σ H z := fun H1 e Q q =>
  ha H1 e _ fun H2 e2 => ⟨a, dx, fs, rfl, e2 a _ (e a _ h), l, hr H2 (e.trans e2) _ fun H3 e3 => by
    rw [List.append_nil]
    exact hs H3 ((e.trans e2).trans e3) Q (fun H4 e4 => q H4 ((e2.trans e3).trans e4)) E⟩
theorem el_meth {a C dx : Addr} {fs : List (Str × V)} {m : Str} {sp : Sp} {E : XK} {tr : TA} {vs xs : List V} (ha : Ev ta σ H (.ref a)) (h : H a = some (.ins C dx fs)) (l : fs.lookup m = none) (hr : EvA tr σ H vs) (hs : SpL sp (.ref a :: vs) H xs) :
    EvL (tMeth C m sp [] E ta tr) σ H xs := fun H1 e Q q =>
  ha H1 e _ fun H2 e2 => ⟨a, dx, fs, rfl, e2 a _ (e a _ h), l, hr H2 (e.trans e2) _ fun H3 e3 => by
    rw [List.append_nil]
    exact hs H3 ((e.trans e2).trans e3) Q (fun p H4 hp e4 h4 => q p H4 (fresh_back (e2.trans e3) hp) ((e2.trans e3).trans e4) h4) E⟩
theorem ev_c1 {sp : Sp} {E : XK} {tr : TA} {vs : List V} (h : EvA tr σ H vs) (hs : SpV sp vs H z) : Ev (tCall sp [] E tr) σ H z := ev_call h (by rw [List.append_nil]; exact hs)
theorem el_c1 {sp : Sp} {E : XK} {tr : TA} {vs xs : List V} (h : EvA tr σ H vs) (hs : SpL sp vs H xs) : EvL (tCall sp [] E tr) σ H xs := el_call h (by rw [List.append_nil]; exact hs)
theorem EvU.mono {xs : List V} (e : Ex H H') (h : EvU te σ H xs) : EvU te σ H' xs := fun H1 a Q q => h H1 (e.trans a) Q q
/-- a list plus a list, both tracked or made on the way: the new list -/
def EvR (te : TE) (σ : L2.St) (H : Hp) (xs : List V) : Prop := ∀ H1, Ex H H1 → ∀ Q : VK, (∀ p H2, Ex H1 H2 → H2 p = some (.lst xs) → Q (.ref p) H2) → te σ H1 Q
theorem er_l {xs : List V} (h : EvL te σ H xs) : EvR te σ H xs := fun H1 e Q q => h H1 e Q fun p H2 _ e2 h2 => q p H2 e2 h2
theorem er_v {xs : List V} {p : Addr} (h : Ev te σ H (.ref p)) (hp : H p = some (.lst xs)) : EvR te σ H xs := fun H1 e Q q => h H1 e Q fun H2 e2 => q p H2 e2 (e2 p _ (e p _ hp))
theorem el_cat {xs ys : List V} (ha : EvR ta σ H xs) (hb : EvR tb σ H ys) (hl : xs.length + ys.length ≤ 1000000) : EvL (tOp rCat ta tb) σ H (xs ++ ys) := fun H1 e Q q =>
  ha H1 e _ fun l H2 e2 h2 => hb H2 (e.trans e2) _ fun b H3 e3 h3 => ⟨l, b, xs, ys, rfl, rfl, e3 l _ h2, h3, Nat.le_trans hl (by decide), fun p hp => q p _ (fresh_back (e2.trans e3) hp) ((e2.trans e3).trans (Ex.new hp)) upd_same⟩
theorem el_rep {xs : List V} {k : Int} (ha : EvR ta σ H xs) (hb : Ev tb σ H (.int k)) (hk : -1000000 ≤ k ∧ k ≤ 1000000) (hl : xs.length * k.toNat ≤ 1000000) : EvL (tOp rRep ta tb) σ H ((List.replicate k.toNat xs).flatten) := fun H1 e Q q =>
  ha H1 e _ fun l H2 e2 h2 => hb H2 (e.trans e2) _ fun H3 e3 => ⟨l, k, xs, rfl, rfl, e3 l _ h2, by omega, by omega, Nat.le_trans hl (by decide), fun p hp => q p _ (fresh_back (e2.trans e3) hp) ((e2.trans e3).trans (Ex.new hp)) upd_same⟩
theorem ev_lenR {xs : List V} (ha : EvR ta σ H xs) : Ev (tCB (fun vs H Q => ∃ p ys, vs = [.ref p] ∧ (SqL K H p ys ∨ SqT K H p ys) ∧ Q (.int ys.length) H) (tCons ta tNil)) σ H (.int (xs.length : Int)) := fun H1 e Q q =>
  ha H1 e _ fun p H2 e2 h2 => ⟨p, xs, rfl, Or.inl (sq_of h2), q H2 e2⟩
end

/-! comprehensions over anything that is walked -/
def EvI (wi : TI) (σ : L2.St) (H : Hp) (J : It) : Prop := ∀ H1, Ex H H1 → ∀ R : It → Hp → Prop, (∀ H2, Ex H1 H2 → R J H2) → wi σ H1 R
/-- a new object -/
def EvN (te : TE) (σ : L2.St) (H : Hp) (o : HO) : Prop := ∀ H1, Ex H H1 → ∀ Q : VK, (∀ p H2, H1 p = none → Ex H1 H2 → H2 p = some o → Q (.ref p) H2) → te σ H1 Q
/-- a new list of n new objects -/
def EvNs (te : TE) (σ : L2.St) (H : Hp) (n : Nat) (o : Nat → HO) : Prop := ∀ H1, Ex H H1 → ∀ Q : VK,
  (∀ (p : Addr) (ps : List Addr) (H2 : Hp), H1 p = none → Ex H1 H2 → H2 p = some (.lst (ps.map V.ref)) → ps.length = n → (∀ (i : Nat) (a : Addr), ps[i]? = some a → H2 a = some (o i)) → Q (.ref p) H2) → te σ H1 Q
section
variable {K : PySem.W.Frag} {σ : L2.St} {H H' : Hp} {ta tb tc te tx : TE} {t u : TT} {x y z v : V} {wi : TI} {J : It} {n j : Nat} {G : Hp → Prop} {Y : Nat → Hp → V → Hp → Prop} {vs : List Nat} {it : Nat → V}
theorem et_yes : EvT tYes σ H true := fun H1 _ _ q => q H1 (Ex.refl H1)
theorem el_lcW (W : Walk J n G Y) (hY : ∀ i H x H', i < n → Y i H x H' → H' = H ∧ x = it i) (hG : ∀ H', Ex H H' → G H') (f : Nat → Bool) (v : Nat → V) (hi : EvI wi σ H J) (hn : n ≤ 40000)
    (ht : ∀ (i : Nat) H1, Ex H H1 → i < n → EvT t ((wipe σ vs).set j (some (it i))) H1 (f i)) (he : ∀ (i : Nat) H1, Ex H H1 → i < n → f i = true → Ev te ((wipe σ vs).set j (some (it i))) H1 (v i))
    (hw : ∀ x, wipe ((wipe σ vs).set j (some x)) vs = wipe σ vs := by intro _; rfl) :
    EvL (tLc wi (gName j) t te vs) σ H (given n f v) := fun H0 e Q q => hi H0 e _ fun H1 e1 D hD =>
  lc_it W (Cw H1 f v D) ⟨hD, Ex.new hD, upd_same⟩ (fun i H' _ p => hG H' ((e.trans e1).trans p.2.1))
    (fun i x H2 H2' hi p y => by
      obtain ⟨rfl, rfl⟩ := hY i H2 x H2' hi y
      exact ⟨hw _, cw_turn p (by omega) (ht i H1 (e.trans e1) hi) (fun hf => he i H1 (e.trans e1) hi hf)⟩)
    (fun H' p => q D H' (fresh_back e1 p.1) (e1.trans p.2.1) p.2.2)
/-- the elements are new objects -/
theorem el_lcN (W : Walk J n G Y) (hY : ∀ i H x H', i < n → Y i H x H' → H' = H ∧ x = it i) (hG : ∀ H', Ex H H' → G H') (o : Nat → HO) (hi : EvI wi σ H J) (hn : n ≤ 40000)
    (he : ∀ (i : Nat) H1, Ex H H1 → i < n → EvN te ((wipe σ vs).set j (some (it i))) H1 (o i)) (hw : ∀ x, wipe ((wipe σ vs).set j (some x)) vs = wipe σ vs := by intro _; rfl) :
    EvNs (tLc wi (gName j) tYes te vs) σ H n o := fun H0 e Q q =>
  hi H0 e _ fun H1 e1 D hD =>
  lc_it W (fun i H' => Ex H1 H' ∧ ∃ ps : List Addr, H' D = some (.lst (ps.map V.ref)) ∧ ps.length = i ∧ (∀ k a, ps[k]? = some a → a ≠ D ∧ H' a = some (o k))) ⟨Ex.new hD, [], upd_same, rfl, fun k a h => by simp at h⟩ (fun i H' _ p => hG H' ((e.trans e1).trans p.1))
    (fun i x H2 H2' hi p y => by
      obtain ⟨rfl, rfl⟩ := hY i H2 x H2' hi y
      obtain ⟨p1, ps, p2, p3, p4⟩ := p
      refine ⟨hw _, ?_⟩
      show te _ H2' _
      refine he i H1 (e.trans e1) hi H2' p1 _ fun a H3 ha e3 h3 => ?_
      have nD : a ≠ D := fun z => by rw [z, p2] at ha; cases ha
      refine ⟨ps.map V.ref, e3 D _ p2, ?_, Ex.mut (p1.trans e3) hD, ps ++ [a], ?_, ?_, fun k b hb => ?_⟩
      · rw [List.length_map, p3]
        exact Nat.lt_of_lt_of_le (show i < 40000 by omega) (by decide)
      · rw [List.map_append]
        exact upd_same
      · rw [List.length_append, p3]
        rfl
      · by_cases hk : k < ps.length
        · rw [List.getElem?_append_left hk] at hb
          obtain ⟨q1, q2⟩ := p4 k b hb
          exact ⟨q1, by rw [upd_ne q1]; exact e3 b _ q2⟩
        · rw [List.getElem?_append_right (by omega)] at hb
          have hk2 : k - ps.length = 0 := by
            cases hz : k - ps.length with
            | zero => rfl
            | succ m => rw [hz] at hb; simp at hb
          rw [hk2] at hb
          have eb : a = b := by simpa using hb
          have ek : k = i := by omega
          subst eb
          exact ⟨nD, by rw [upd_ne nD, ek]; exact h3⟩)
    (fun H' ⟨p1, ps, p2, p3, p4⟩ => q D ps H' (fresh_back e1 hD) (e1.trans p1) p2 p3 fun k a h => (p4 k a h).2)
theorem ei_list {a : Addr} {xs : List V} (h : Ev te σ H (.ref a)) (hx : SqL K H a xs) : EvI (iList K te) σ H (Itl K a) := fun H1 e R r => h H1 e _ fun H2 e2 => ⟨a, rfl, ⟨xs, ex_l (e.trans e2) hx⟩, r H2 e2⟩
theorem ei_tup {a : Addr} {xs : List V} (h : Ev te σ H (.ref a)) (hx : SqT K H a xs) : EvI (iTup K te) σ H (Itt K a) := fun H1 e R r => h H1 e _ fun H2 e2 => ⟨a, rfl, ⟨xs, ex_t (e.trans e2) hx⟩, r H2 e2⟩
theorem ei_str {s : Str} (h : Ev te σ H (.str s)) : EvI (iStr te) σ H (Its s) := fun H1 e R r => h H1 e _ fun H2 e2 => ⟨s, rfl, r H2 e2⟩
theorem ei_rng1 {ta : TA} {n : Int} (h : EvA ta σ H [.int n]) (hn : 0 ≤ n ∧ n ≤ 1000000) : EvI (iRng1 ta) σ H (Itr 0 n.toNat) := fun H1 e R r => h H1 e _ fun H2 e2 => ⟨n, rfl, by omega, by omega, r H2 e2⟩
theorem ei_rng2 {ta : TA} {lo n : Int} (h : EvA ta σ H [.int lo, .int n]) (hn : -1000000 ≤ lo ∧ lo ≤ 1000000 ∧ -1000000 ≤ n ∧ n ≤ 1000000) : EvI (iRng2 ta) σ H (Itr lo (n - lo).toNat) := fun H1 e R r => h H1 e _ fun H2 e2 => ⟨lo, n, rfl, ⟨by omega, by omega, by omega, by omega⟩, r H2 e2⟩
/-- over numbers that stand in a list -/
theorem el_lcNs {a : Addr} {ns : List Nat} (p : Nat → Bool) (g : Nat → V) (h : Ev te σ H (.ref a)) (hx : H a = some (.lst (nl ns))) (hn : ns.length ≤ 40000)
    (ht : ∀ (i c : Nat) H1, Ex H H1 → ns[i]? = some c → EvT t ((wipe σ vs).set j (some (nv c))) H1 (p c)) (he : ∀ (i c : Nat) H1, Ex H H1 → ns[i]? = some c → p c = true → Ev tx ((wipe σ vs).set j (some (nv c))) H1 (g c))
    (hw : ∀ x, wipe ((wipe σ vs).set j (some x)) vs = wipe σ vs := by intro _; rfl) :
    EvL (tLc (iList K te) (gName j) t tx vs) σ H ((ns.filter p).map g) := by
  have gi : ∀ i, i < ns.length → ns[i]? = some (ns.getD i 0) := fun i hi => by rw [List.getD_eq_getElem?_getD, List.getElem?_eq_getElem hi]; rfl
  have e : (ns.filter p).map g = given ns.length (fun i => p (ns.getD i 0)) (fun i => g (ns.getD i 0)) := by
    unfold given
    have en : ns = (List.range ns.length).map (fun i => ns.getD i 0) := by
      apply List.ext_getElem?
      intro i
      rw [List.getElem?_map]
      by_cases hi : i < ns.length
      · rw [gi i hi, List.getElem?_range hi]
        rfl
      · rw [List.getElem?_eq_none (by omega), List.getElem?_eq_none (by rw [List.length_range]; omega)]
        rfl
    conv => lhs; rw [en]
    rw [List.filter_map, List.map_map]
    rfl
  rw [e, ← nl_len ns]
  refine el_lcW (it := fun i => nv (ns.getD i 0)) (walk_list (K := K) (a := a) (xs := nl ns)) (fun i H x H' hi y => ?_) (fun H' e => sq_of (e a _ hx)) _ _ (ei_list h (sq_of hx)) (by rw [nl_len]; exact hn) (fun i H1 e1 hi => ?_) (fun i H1 e1 hi hf => ?_) hw
  · rw [nl_len] at hi
    obtain ⟨rfl, hx⟩ := y
    rw [nl_at (gi i hi)] at hx
    exact ⟨rfl, (Option.some.inj hx).symm⟩
  · rw [nl_len] at hi
    exact ht i _ H1 e1 (gi i hi)
  · rw [nl_len] at hi
    exact he i _ H1 e1 (gi i hi) hf
end
end Wd
namespace Wd
open PySem PySem.Spec PyProof.Rows L2 Evl
section
variable {K : PySem.W.Frag} {σ : L2.St} {H H' : Hp} {ta tb tc te tx : TE} {t u : TT} {x y z v : V} {D : Ends}
theorem el_is {xs ys : List V} (h : EvL te σ H xs) (e : xs = ys) : EvL te σ H ys := e ▸ h
theorem ev_eqI {i j : Int} {p : Bool} (ha : Ev ta σ H (.int i)) (hb : Ev tb σ H (.int j)) (hp : decide (i = j) = p) : Ev (tOp rEq ta tb) σ H (.bl p) :=
  ev_is (ev_op ha hb (rv_eq rfl)) (congrArg V.bl (by
    rw [← hp]
    exact decide_eq_decide.mpr ⟨fun h => V.int.inj h, fun h => congrArg V.int h⟩))
theorem ev_neI {i j : Int} {p : Bool} (ha : Ev ta σ H (.int i)) (hb : Ev tb σ H (.int j)) (hp : decide (i ≠ j) = p) : Ev (tOp rNe ta tb) σ H (.bl p) :=
  ev_is (ev_op ha hb (rv_ne rfl)) (congrArg V.bl (by
    rw [← hp]
    rw [show decide (i ≠ j) = !decide (i = j) from decide_not]
    congr 1
    exact decide_eq_decide.mpr ⟨fun h => V.int.inj h, fun h => congrArg V.int h⟩))
theorem ev_cI {f : Int → Int → Bool} {i j : Int} {p : Bool} (ha : Ev ta σ H (.int i)) (hb : Ev tb σ H (.int j)) (hp : f i j = p) : Ev (tOp (rI0 fun i j => .bl (f i j)) ta tb) σ H (.bl p) := ev_is (ev_op ha hb rv_I0) (congrArg V.bl hp)
theorem ev_mod {i j m : Int} (ha : Ev ta σ H (.int i)) (hb : Ev tb σ H (.int j)) (hj : 0 < j) (e : i % j = m) : Ev (tOp (rI (fun _ j => 0 < j) fun i j => .int (i % j)) ta tb) σ H (.int m) := ev_is (ev_op ha hb (rv_I hj)) (congrArg V.int e)
theorem ev_fdiv {i j m : Int} (ha : Ev ta σ H (.int i)) (hb : Ev tb σ H (.int j)) (hj : 0 < j ∧ j < 1073741824) (e : i / j = m) : Ev (tOp (rI CDiv fun i j => .int (i / j)) ta tb) σ H (.int m) := ev_is (ev_op ha hb (rv_I hj)) (congrArg V.int e)
theorem ev_add {i j m : Int} (ha : Ev ta σ H (.int i)) (hb : Ev tb σ H (.int j)) (e : i + j = m) : Ev (tOp (rI0 fun i j => .int (i + j)) ta tb) σ H (.int m) := ev_is (ev_op ha hb rv_I0) (congrArg V.int e)
theorem ev_sub {i j m : Int} (ha : Ev ta σ H (.int i)) (hb : Ev tb σ H (.int j)) (e : i - j = m) : Ev (tOp (rI0 fun i j => .int (i - j)) ta tb) σ H (.int m) := ev_is (ev_op ha hb rv_I0) (congrArg V.int e)
theorem ev_mulL {i j m : Int} (ha : Ev ta σ H (.int i)) (hb : Ev tb σ H (.int j)) (hi : -(2 ^ 64) < i ∧ i < 2 ^ 64) (e : i * j = m) : Ev (tOp (rI CMul fun i j => .int (i * j)) ta tb) σ H (.int m) := ev_is (ev_op ha hb (rv_I (Or.inl hi))) (congrArg V.int e)
theorem ev_mulR {i j m : Int} (ha : Ev ta σ H (.int i)) (hb : Ev tb σ H (.int j)) (hi : -(2 ^ 64) < j ∧ j < 2 ^ 64) (e : i * j = m) : Ev (tOp (rI CMul fun i j => .int (i * j)) ta tb) σ H (.int m) := ev_is (ev_op ha hb (rv_I (Or.inr hi))) (congrArg V.int e)
theorem ev_intB {b : Bool} (h : Ev te σ H (.bl b)) : Ev (tCB (fun xs H Q => (∃ i, xs = [.int i] ∧ Q (.int i) H) ∨ ∃ k, xs = [.bl k] ∧ Q (.int (if k then 1 else 0)) H) (tCons te tNil)) σ H (.int (if b then 1 else 0)) :=
  ev_cb (ea_cons h ea_nil) fun H1 _ _ q => .inr ⟨b, rfl, q H1 (Ex.refl H1)⟩
theorem ev_sum {ns : List Int} (h : EvL te σ H (ns.map V.int)) : Ev (tCB (rSum K) (tCons te tNil)) σ H (.int ns.sum) := fun H1 e Q q =>
  h H1 e _ fun p H2 _ e2 h2 => ⟨p, ns, rfl, sq_of h2, q H2 e2⟩
theorem ev_allL {bs : List Bool} (h : EvL te σ H (bs.map V.bl)) : Ev (tCB (rAll K) (tCons te tNil)) σ H (.bl (bs.all id)) := fun H1 e Q q =>
  h H1 e _ fun p H2 _ e2 h2 => ⟨p, bs, rfl, sq_of h2, q H2 e2⟩
theorem ev_anyL {bs : List Bool} (h : EvL te σ H (bs.map V.bl)) : Ev (tCB (rAny K) (tCons te tNil)) σ H (.bl (bs.any id)) := fun H1 e Q q =>
  h H1 e _ fun p H2 _ e2 h2 => ⟨p, bs, rfl, sq_of h2, q H2 e2⟩
theorem ev_len {p : Addr} {xs : List V} (ha : Ev ta σ H (.ref p)) (h : SqL K H p xs ∨ SqT K H p xs) : Ev (tCB (fun vs H Q => ∃ p ys, vs = [.ref p] ∧ (SqL K H p ys ∨ SqT K H p ys) ∧ Q (.int ys.length) H) (tCons ta tNil)) σ H (.int (xs.length : Int)) := fun H1 e Q q =>
  ha H1 e _ fun H2 e2 => ⟨p, xs, rfl, h.elim (fun h => Or.inl (ex_l (e.trans e2) h)) (fun h => Or.inr (ex_t (e.trans e2) h)), q H2 e2⟩
theorem ev_ixT {p : Addr} {xs : List V} {j : Nat} {i : Int} (ha : Ev ta σ H (.ref p)) (hb : Ev tb σ H (.int i)) (h : SqT K H p xs) (e : i = (j : Int)) (hx : xs[j]? = some v) : Ev (tOp (rIxT K) ta tb) σ H v := ev_op ha hb (rv_ixT h (at_of e hx))
theorem ev_ixL {p : Addr} {xs : List V} {j : Nat} {i : Int} (ha : Ev ta σ H (.ref p)) (hb : Ev tb σ H (.int i)) (h : SqL K H p xs) (e : i = (j : Int)) (hx : xs[j]? = some v) : Ev (tOp (rIxL K) ta tb) σ H v := ev_op ha hb (rv_ixL h (at_of e hx))
/-- a new tuple handed to names: a, b = divmod(..) -/
theorem q_asg2 {i j : Nat} {a b : V} {tz : TS} (h : EvU te σ H [a, b]) (k : ∀ H1, Ex H H1 → tz D ((σ.set i (some a)).set j (some b)) H1) : tSeq (tAsg te (gTup K 2 (gCons (gName i) (gCons (gName j) gNil)))) tz D σ H := h H (Ex.refl H) _ fun p H1 _ e h1 =>
  ⟨p, [a, b], rfl, st_of h1, rfl, a, [b], rfl, b, [], rfl, rfl, k H1 e⟩
end
end Wd
namespace Wd
open PySem PySem.Spec PyProof.Rows L2 Evl
/-- a tuple of numbers that the top has written -/
def TupK (K : PySem.W.Frag) (a : Addr) (ns : List Nat) : Prop := ∃ (o : Obj) (its : Array Value) (n : Nat), K.lookup a = some o ∧ o.cls = .type "tuple" ∧ o.data = .seq its n ∧ its.size ≤ sizeLine ∧ Vals (nl ns) its.toList
theorem TupK.sq {K : PySem.W.Frag} {a : Addr} {ns : List Nat} (h : TupK K a ns) {H : Hp} : SqT K H a (nl ns) := Or.inr h
def MgT (K : PySem.W.Frag) (mg : Str → Option Value) (x : Str) (ns : List Nat) : Prop := ∃ a, mg x = some (.ref a) ∧ TupK K a ns
/-- the module's names -/
structure Gs (K : PySem.W.Frag) (mg : Str → Option Value) : Prop where
  cNought : MgI mg "NOUGHT" 48
  cNine : MgI mg "NINE" 57
  cMostFraction : MgI mg "MOST_FRACTION" 6
  cMillion : MgI mg "MILLION" 1000000
  cTooGreat : MgI mg "TOO_GREAT" 1000000000000
  cNoSign : MgI mg "NO_SIGN" 256
  cMostYear : MgI mg "MOST_YEAR" 9999
  cWeek : MgI mg "WEEK" 7
  cFebruary : MgI mg "FEBRUARY" 2
  cAsTheyAre : MgI mg "AS_THEY_ARE" 0
  cYear : MgI mg "YEAR" 1
  cShortYear : MgI mg "SHORT_YEAR" 2
  cMonth : MgI mg "MONTH" 3
  cMonthName : MgI mg "MONTH_NAME" 5
  cDay : MgI mg "DAY" 6
  cWeekdayName : MgI mg "WEEKDAY_NAME" 8
  cHundred : MgI mg "HUNDRED" 100
  cMostDay : MgI mg "MOST_DAY" 31
  cNotAsTold : MgI mg "NOT_AS_TOLD" (-1)
  cNoneThere : MgI mg "NONE_THERE" (-6)
  cMostByte : MgI mg "MOST_BYTE" 255
  cMostName : MgI mg "MOST_NAME" 6
  cMostFirst : MgI mg "MOST_FIRST" 9900
  cMostAhead : MgI mg "MOST_AHEAD" 6
  cMostParts : MgI mg "MOST_PARTS" 8
  cMostRead : MgI mg "MOST_READ" 40
  cMostMeant : MgI mg "MOST_MEANT" 60
  cLastDay : MgI mg "LAST_DAY" 3652058
  cFirstMeant : MgI mg "FIRST_MEANT" 1950
  cFirstMonth : MgI mg "FIRST_MONTH" 97
  cFirstWeekday : MgI mg "FIRST_WEEKDAY" 65
  cLengths : MgT K mg "LENGTHS" [31, 28, 31, 30, 31, 30, 31, 31, 30, 31, 30, 31]
  cYearParts : MgT K mg "YEAR_PARTS" [1, 2]
  cMonthParts : MgT K mg "MONTH_PARTS" [3, 4, 5]
  cDayParts : MgT K mg "DAY_PARTS" [6, 7]
  cManyNumbers : MgT K mg "MANY_NUMBERS" [1, 6, 0, 2, 0, 3, 1, 1, 3, 1]
  cManyRows : MgT K mg "MANY_ROWS" [19, 0, 1, 0, 1, 0, 1, 0, 0, 0]
  bLen : mg "len" = none
  bInt : mg "int" = none
  bStr : mg "str" = none
  bRange : mg "range" = none
  bDivmod : mg "divmod" = none
  bEnumerate : mg "enumerate" = none
  bAll : mg "all" = none
  bAny : mg "any" = none
  bSum : mg "sum" = none
  bList : mg "list" = none
  bTuple : mg "tuple" = none
  bSet : mg "set" = none
  bSorted : mg "sorted" = none
  bValueerror : mg "ValueError" = none
end Wd
namespace Wd
open PySem PySem.Spec PyProof.Rows L2 Evl
/-! numbers in lists: slices, ==, in -/
theorem cut_lo (ns : List Nat) (k : Nat) : cutV (nl ns) (some (k : Int)) none = nl (ns.drop k) := by
  unfold cutV
  rw [HT.sIx_nat, HT.sIx_none, nl_len]
  unfold nl
  rw [← List.map_drop, ← List.map_take]
  congr 1
  by_cases h : k ≤ ns.length
  · rw [Nat.min_eq_left h, List.take_of_length_le (by rw [List.length_drop]; omega)]
  · rw [Nat.min_eq_right (by omega), List.drop_of_length_le (Nat.le_refl _), List.drop_of_length_le (by omega)]
    simp
theorem cut_hi (ns : List Nat) (k : Nat) : cutV (nl ns) none (some (k : Int)) = nl (ns.take k) := by
  unfold cutV
  rw [HT.sIx_nat, HT.sIx_none, nl_len]
  unfold nl
  rw [List.drop_zero, ← List.map_take]
  congr 1
  rw [Nat.sub_zero]
  by_cases h : k ≤ ns.length
  · rw [Nat.min_eq_left h]
  · rw [Nat.min_eq_right (by omega), List.take_of_length_le (Nat.le_refl _), List.take_of_length_le (by omega)]
theorem cut_both (ns : List Nat) (a b : Nat) : cutV (nl ns) (some (a : Int)) (some (b : Int)) = nl ((ns.drop a).take (b - a)) := by
  unfold cutV
  rw [HT.sIx_nat, HT.sIx_nat, nl_len]
  unfold nl
  rw [← List.map_drop, ← List.map_take]
  congr 1
  by_cases h : a ≤ ns.length
  · rw [Nat.min_eq_left h]
    by_cases h2 : b ≤ ns.length
    · rw [Nat.min_eq_left h2]
    · rw [Nat.min_eq_right (by omega), List.take_of_length_le (by rw [List.length_drop]; omega), List.take_of_length_le (by rw [List.length_drop]; omega)]
  · rw [Nat.min_eq_right (show ns.length ≤ a by omega), List.drop_of_length_le (Nat.le_refl _), List.drop_of_length_le (show ns.length ≤ a by omega)]
    simp
theorem cut_last (ns : List Nat) : cutV (nl ns) none (some (-1)) = nl (ns.take (ns.length - 1)) := by
  unfold cutV
  rw [HT.sIx_none, nl_len]
  have e : HT.sIx ns.length ns.length (some (-1)) = ns.length - 1 := by
    show (if (-1 : Int) < 0 then ((-1 : Int) + (ns.length : Int)).toNat else min (-1 : Int).toNat ns.length) = _
    rw [if_pos (by decide)]
    omega
  rw [e]
  unfold nl
  rw [List.drop_zero, ← List.map_take, Nat.sub_zero]
theorem at_last {ns : List Nat} {c : Nat} (h : ns[ns.length - 1]? = some c) : atI (nl ns) (-1) = some (nv c) := by
  have h0 := (List.getElem?_eq_some_iff.mp h).1
  have e : ns = ns.dropLast ++ [c] := by
    have hne : ns ≠ [] := fun z => by rw [z] at h0; simp at h0
    have h2 : ns.getLast hne = c := by
      rw [List.getLast_eq_getElem]
      exact (List.getElem?_eq_some_iff.mp h).2
    rw [← h2]
    exact (List.dropLast_concat_getLast hne).symm
  rw [e, nl_app]
  exact atI_last _ _
def di (n : Nat) : PyData := .int (n : Int)
def dl (ns : List Nat) : PyData := .list (ns.map di)
theorem dpAll_nl {K : PySem.W.Frag} {H : Hp} : ∀ ns : List Nat, DpAll K H (nl ns) (ns.map di)
  | [] => .nil
  | n :: r => .cons (.int _) (dpAll_nl r)
theorem dp_nl {K : PySem.W.Frag} {H : Hp} {p : Addr} {ns : List Nat} (h : SqL K H p (nl ns)) : Dp K H (.ref p) (dl ns) := .lst h (dpAll_nl ns)
theorem eqvAll_nl : ∀ ns ms : List Nat, PyData.eqvAll (ns.map di) (ms.map di) = decide (ns = ms)
  | [], [] => by simp [PyData.eqvAll]
  | [], _ :: _ => by simp [PyData.eqvAll]
  | _ :: _, [] => by simp [PyData.eqvAll]
  | n :: ns, m :: ms => by
    have ih := eqvAll_nl ns ms
    rw [List.map_cons, List.map_cons, PyData.eqvAll, ih]
    unfold di
    rw [PyData.eqv]
    by_cases h : n = m
    · subst h
      simp
    · have : ((n : Int) == (m : Int)) = false := beq_eq_false_iff_ne.mpr (by omega)
      rw [this, decide_eq_false (show ¬ n :: ns = m :: ms by simp [h])]
      rfl
theorem eqv_nl (ns ms : List Nat) : PyData.eqv (dl ns) (dl ms) = decide (ns = ms) := by
  unfold dl
  rw [PyData.eqv]
  exact eqvAll_nl ns ms
theorem canLay_nl : ∀ ns : List Nat, PyData.canLayAll0 (ns.map di) = true
  | [] => by simp [PyData.canLayAll0]
  | n :: r => by
    rw [List.map_cons, PyData.canLayAll0, canLay_nl r]
    unfold di
    simp [PyData.canLay0]
theorem depth_nl : ∀ ns : List Nat, PyData.depthAll (ns.map di) = 0
  | [] => by simp [PyData.depthAll]
  | n :: r => by
    rw [List.map_cons, PyData.depthAll, depth_nl r]
    unfold di
    simp [PyData.depth]
theorem shaped_nl (ns : List Nat) : SeqAt.shaped (dl ns) = true := by
  unfold SeqAt.shaped dl
  rw [PyData.canLay0, PyData.depth, canLay_nl, depth_nl]
  rfl
section
variable {K : PySem.W.Frag} {σ : L2.St} {H H' : Hp} {ta tb tc te tx : TE} {t u : TT} {x y z v : V} {D : Ends}
theorem ev_eqL {ns ms : List Nat} {p : Bool} (ha : EvR ta σ H (nl ns)) (hb : EvR tb σ H (nl ms)) (hp : decide (ns = ms) = p) : Ev (tOp (rEqD K) ta tb) σ H (.bl p) := fun H1 e Q q =>
  ha H1 e _ fun a H2 e2 h2 => hb H2 (e.trans e2) _ fun b H3 e3 h3 => ⟨dl ns, dl ms, dp_nl (sq_of (e3 a _ h2)), dp_nl (sq_of h3), shaped_nl ns, shaped_nl ms, by rw [eqv_nl, hp]; exact q H3 (e2.trans e3)⟩
theorem ev_neL {ns ms : List Nat} {p : Bool} (ha : EvR ta σ H (nl ns)) (hb : EvR tb σ H (nl ms)) (hp : decide (ns ≠ ms) = p) : Ev (tOp (rNeD K) ta tb) σ H (.bl p) := fun H1 e Q q =>
  ha H1 e _ fun a H2 e2 h2 => hb H2 (e.trans e2) _ fun b H3 e3 h3 => ⟨dl ns, dl ms, dp_nl (sq_of (e3 a _ h2)), dp_nl (sq_of h3), shaped_nl ns, shaped_nl ms, by
    rw [eqv_nl, ← decide_not, hp]
    exact q H3 (e2.trans e3)⟩
theorem er_slice {tl th : TO} {xs : List V} {lo hi : Option Int} (h : EvR te σ H xs) (h1 : EvO tl σ H lo) (h2 : EvO th σ H hi) : EvL (tSl (rSlL K) te tl th) σ H (cutV xs lo hi) := fun H1 e _ q =>
  h H1 e _ fun a H2 e2 ha => h1 H2 (e.trans e2) _ fun H3 e3 => h2 H3 ((e.trans e2).trans e3) _ fun H4 e4 =>
    ⟨a, xs, rfl, sq_of (e4 a _ (e3 a _ ha)), fun p hp => q p _ (fresh_back ((e2.trans e3).trans e4) hp) (((e2.trans e3).trans e4).trans (Ex.new hp)) upd_same⟩
theorem flat_nl (ns : List Nat) : (nl ns).all flatV = true := by
  rw [List.all_eq_true]
  intro x hx
  obtain ⟨n, _, rfl⟩ := List.mem_map.mp hx
  rfl
theorem inV_nl (c : Nat) (ns : List Nat) : inV (nv c) (nl ns) = decide (c ∈ ns) := by
  unfold inV
  induction ns with
  | nil => rfl
  | cons n r ih =>
    have e : (nl (n :: r)).any (fun y => eqV y (nv c)) = (((n : Int) == (c : Int)) || (nl r).any fun y => eqV y (nv c)) := rfl
    rw [e, ih]
    by_cases h : n = c
    · subst h
      simp
    · have h1 : ((n : Int) == (c : Int)) = false := beq_eq_false_iff_ne.mpr (by omega)
      rw [h1, Bool.false_or]
      exact decide_eq_decide.mpr ⟨fun m => List.mem_cons_of_mem _ m, fun m => (List.mem_cons.mp m).elim (fun z => absurd z.symm h) id⟩
theorem ev_inL {c : Nat} {p : Addr} {ns : List Nat} {b : Bool} (ha : Ev ta σ H (nv c)) (hb : Ev tb σ H (.ref p)) (h : H p = some (.lst (nl ns))) (e : decide (c ∈ ns) = b) : Ev (tOp (rIn K false) ta tb) σ H (.bl b) :=
  ev_is (ev_op ha hb (rv_isL (sq_of h) rfl (flat_nl ns))) (by rw [inV_nl, e])
theorem ev_inR {c : Nat} {ns : List Nat} {b : Bool} (ha : Ev ta σ H (nv c)) (hb : EvR tb σ H (nl ns)) (e : decide (c ∈ ns) = b) : Ev (tOp (rIn K false) ta tb) σ H (.bl b) := fun H1 e1 Q q =>
  ha H1 e1 _ fun H2 e2 => hb H2 (e1.trans e2) _ fun p H3 e3 h3 => ⟨p, nl ns, rfl, .inl (sq_of h3), rfl, flat_nl ns, by
    show Q (.bl (inV (nv c) (nl ns))) H3
    rw [inV_nl, e]
    exact q H3 (e2.trans e3)⟩
theorem ev_inT {c : Nat} {p : Addr} {ns : List Nat} {b : Bool} (ha : Ev ta σ H (nv c)) (hb : Ev tb σ H (.ref p)) (h : TupK K p ns) (e : decide (c ∈ ns) = b) : Ev (tOp (rIn K false) ta tb) σ H (.bl b) :=
  ev_is (ev_op ha hb (rv_isT h.sq rfl (flat_nl ns))) (by rw [inV_nl, e])
theorem ev_ixNL {p : Addr} {ns : List Nat} {j c : Nat} {i : Int} (ha : Ev ta σ H (.ref p)) (hb : Ev tb σ H (.int i)) (h : H p = some (.lst (nl ns))) (e : i = (j : Int)) (hx : ns[j]? = some c) : Ev (tOp (rIxL K) ta tb) σ H (nv c) := ev_ixL ha hb (sq_of h) e (nl_at hx)
theorem ev_ixR {ns : List Nat} {j c : Nat} {i : Int} (ha : EvR ta σ H (nl ns)) (hb : Ev tb σ H (.int i)) (e : i = (j : Int)) (hx : ns[j]? = some c) : Ev (tOp (rIxL K) ta tb) σ H (nv c) := fun H1 e1 Q q =>
  ha H1 e1 _ fun p H2 e2 h2 => hb H2 (e1.trans e2) _ fun H3 e3 => ⟨p, nl ns, i, nv c, rfl, rfl, sq_of (e3 p _ h2), at_of e (nl_at hx), q H3 (e2.trans e3)⟩
theorem ev_lenN {ns : List Nat} (ha : EvR ta σ H (nl ns)) : Ev (tCB (fun vs H Q => ∃ p ys, vs = [.ref p] ∧ (SqL K H p ys ∨ SqT K H p ys) ∧ Q (.int ys.length) H) (tCons ta tNil)) σ H (nv ns.length) := ev_is (ev_lenR ha) (by rw [nl_len])
/-- a method with one new list handed in -/
theorem el_methL {a C dx : Addr} {fs : List (Str × V)} {m : Str} {sp : Sp} {E : XK} {xs ys : List V} (ha : Ev ta σ H (.ref a)) (h : H a = some (.ins C dx fs)) (l : fs.lookup m = none) (hr : EvR tb σ H ys) (hs : ∀ p H1, Ex H H1 → H1 p = some (.lst ys) → SpL sp [.ref a, .ref p] H1 xs) :
    EvL (tMeth C m sp [] E ta (tCons tb tNil)) σ H xs := fun H1 e Q q =>
  ha H1 e _ fun H2 e2 => ⟨a, dx, fs, rfl, e2 a _ (e a _ h), l, hr H2 (e.trans e2) _ fun p H3 e3 h3 => by
    exact hs p H3 ((e.trans e2).trans e3) h3 H3 (Ex.refl _) Q (fun p H4 hp e4 h4 => q p H4 (fresh_back (e2.trans e3) hp) ((e2.trans e3).trans e4) h4) E⟩
end
end Wd
namespace Wd
open PySem PySem.Spec PyProof.Rows L2 Evl
open Ut08 (isDigit digits padded valueOf)

def spIsDigit : Sp := fun vs H Q _ => ∃ n : Nat, vs = [nv n] ∧ RetV (.bl (isDigit n)) H Q
def spDigitsOf : Sp := fun vs H Q _ => ∃ n k : Nat, vs = [nv n, nv k] ∧ n < 10 ^ 19 ∧ k ≤ 100 ∧ RetL (nl (padded k (digits n))) H Q
def spValueOf : Sp := fun vs H Q _ => ∃ (p : Addr) (ns : List Nat), vs = [.ref p] ∧ H p = some (.lst (nl ns)) ∧ ns.all isDigit = true ∧ RetV (nv (valueOf ns)) H Q
def spTens : Sp := fun vs H Q _ => ∃ k : Nat, vs = [nv k] ∧ k ≤ 100 ∧ RetV (nv (10 ^ k)) H Q
theorem sv_isDigit {n : Nat} {H : Hp} : SpV spIsDigit [nv n] H (.bl (isDigit n)) := fun H1 _ Q q _ => ⟨n, rfl, q⟩
theorem sl_digitsOf {n k : Nat} {H : Hp} (hn : n < 10 ^ 19) (hk : k ≤ 100) : SpL spDigitsOf [nv n, nv k] H (nl (padded k (digits n))) := fun H1 _ Q q _ => ⟨n, k, rfl, hn, hk, q⟩
theorem sv_valueOf {p : Addr} {ns : List Nat} {H : Hp} (hp : H p = some (.lst (nl ns))) (hd : ns.all isDigit = true) : SpV spValueOf [.ref p] H (nv (valueOf ns)) := fun H1 e Q q _ => ⟨p, ns, rfl, e p _ hp, hd, q⟩
theorem sv_tens {k : Nat} {H : Hp} (hk : k ≤ 100) : SpV spTens [nv k] H (nv (10 ^ k)) := fun H1 _ Q q _ => ⟨k, rfl, hk, q⟩

abbrev sIsDigit : Stmt := topS 3
abbrev sDigitsOf : Stmt := topS 4
abbrev sValueOf : Stmt := topS 5
abbrev sTens : Stmt := topS 12
theorem scIsDigit : FnScope ["byte"] ["byte"] (defScope sIsDigit) := ⟨rfl, rfl, rfl, by decide +kernel, rfl, by decide +kernel, by decide +kernel⟩
theorem scDigitsOf : FnScope ["number", "least", "found", "sign"] ["number", "least"] (defScope sDigitsOf) := ⟨rfl, rfl, rfl, by decide +kernel, rfl, by decide +kernel, by decide +kernel⟩
theorem scValueOf : FnScope ["digits", "found", "byte"] ["digits"] (defScope sValueOf) := ⟨rfl, rfl, rfl, by decide +kernel, rfl, by decide +kernel, by decide +kernel⟩
theorem scTens : FnScope ["many", "found", "turn"] ["many"] (defScope sTens) := ⟨rfl, rfl, rfl, by decide +kernel, rfl, by decide +kernel, by decide +kernel⟩

section
variable {P : Program} {w : World} {K : PySem.W.Frag} {mg : Str → Option Value} {base : Heap}
theorem ok_isDigit {f : Addr} {fd : FuncData} (F : Fun K "is_digit" "is_digit" sIsDigit f fd) (m1 : MgI mg "NOUGHT" 48) (m2 : MgI mg "NINE" 57) : FnOk P w K mg base CX0 1 f fd ["byte"] spIsDigit := by
  refine F.ok scIsDigit (fun vs H Q E h => by obtain ⟨n, rfl, _⟩ := h; rfl) (fun cdv A outer s H vs Q E hr h => ?_)
  refine ⟨_, pss_one (ps_ret (pe_chain op_le op_le (pgi m1) (pv 0) (pgi m2))), ?_⟩
  obtain ⟨n, rfl, k⟩ := h
  refine s_ret (v := .bl (isDigit n)) (ev_is (ev_chain (p := decide (48 ≤ n)) (q := decide (n ≤ 57)) ev_c (ev_var rfl) ev_c ?_ ?_) rfl) k
  · exact congrArg V.bl (decide_eq_decide.mpr (by omega))
  · exact congrArg V.bl (decide_eq_decide.mpr (by omega))
theorem ok_tens {f : Addr} {fd : FuncData} (F : Fun K "tens" "tens" sTens f fd) (mr : mg "range" = none) : FnOk P w K mg base CX0 1 f fd ["many"] spTens := by
  refine F.ok scTens (fun vs H Q E h => by obtain ⟨n, rfl, _⟩ := h; rfl) (fun cdv A outer s H vs Q E hr h => ?_)
  refine ⟨_, pss_cons (ps_set (i := 1) scTens.nd rfl (.inl rfl) pe_int) (pss_cons (ps_for PassesOwn.never rfl (pi_range1 rfl mr (pa_cons (pv 0) pa_nil)) (pg_name (i := 2) scTens.nd rfl (.inl rfl))
    (pss_one (ps_set (i := 1) scTens.nd rfl (.inl rfl) (pe_op op_mul pe_int (pv 1))))) (pss_one (ps_ret (pv 1)))), ?_⟩
  obtain ⟨n, rfl, hn, k⟩ := h
  refine q_asg ev_c fun H1 e1 => ?_
  refine q_forR1 (n := (n : Int)) (ea_cons (ev_var rfl) ea_nil) ⟨by omega, by omega⟩ (fun i σ H' => Ex H H' ∧ ∃ o, σ = [some (nv n), some (nv (10 ^ i)), o]) (fun H2 e2 => ⟨e1.trans e2, none, rfl⟩) (fun i σ H' hi ⟨e, o, hσ⟩ => ?_) (fun σ H' ⟨e, o, hσ⟩ => ?_)
  · subst hσ
    refine s_asg (v := nv (10 ^ (i + 1))) (ev_is (ev_op ev_c (ev_var rfl) (rv_I (Or.inl ⟨by decide, by decide⟩))) ?_) fun H2 e2 => ⟨e.trans e2, _, rfl⟩
    refine congrArg V.int ?_
    rw [Nat.pow_succ, Nat.mul_comm]
    simp
  · subst hσ
    exact s_ret (ev_var rfl) fun H2 e2 => k H2 (e.trans e2)
theorem ok_valueOf {f : Addr} {fd : FuncData} (F : Fun K "value_of" "value_of" sValueOf f fd) (m1 : MgI mg "NOUGHT" 48) : FnOk P w K mg base CX0 1 f fd ["digits"] spValueOf := by
  refine F.ok scValueOf (fun vs H Q E h => by obtain ⟨p, ns, rfl, _⟩ := h; rfl) (fun cdv A outer s H vs Q E hr h => ?_)
  refine ⟨_, pss_cons (ps_set (i := 1) scValueOf.nd rfl (.inl rfl) pe_int) (pss_cons (ps_for PassesOwn.never rfl (pi_list (pv 0)) (pg_name (i := 2) scValueOf.nd rfl (.inl rfl))
    (pss_one (ps_set (i := 1) scValueOf.nd rfl (.inl rfl) (pe_op op_sub (pe_op op_add (pe_op op_mul pe_int (pv 1)) (pv 2)) (pgi m1))))) (pss_one (ps_ret (pv 1)))), ?_⟩
  obtain ⟨p, ns, rfl, hp, hd, k⟩ := h
  refine q_asg ev_c fun H1 e1 => ?_
  refine q_forLn (xs := nl ns) (ev_var rfl) (sq_of (e1 p _ hp)) (fun i σ H' => Ex H H' ∧ ∃ o, σ = [some (.ref p), some (nv (valueOf (ns.take i))), o]) (fun H2 e2 => ⟨e1.trans e2, none, rfl⟩) (fun i σ H' _ ⟨e, _⟩ => sq_of (e p _ hp)) (fun i x σ H' hx ⟨e, o, hσ⟩ => ?_) (fun σ H' ⟨e, o, hσ⟩ => ?_)
  · subst hσ
    obtain ⟨c, hc, rfl⟩ := nl_get hx
    refine s_asg (v := nv (valueOf (ns.take (i + 1)))) (ev_is (ev_op (ev_op (ev_op ev_c (ev_var rfl) (rv_I (Or.inl ⟨by decide, by decide⟩))) (ev_var rfl) rv_I0) ev_c rv_I0) ?_) fun H2 e2 => ⟨e.trans e2, _, rfl⟩
    refine congrArg V.int ?_
    have h48 := (isDigit_iff.mp (List.all_eq_true.mp hd c (List.mem_of_getElem? hc))).1
    rw [List.take_add_one, hc]
    simp only [Option.toList]
    rw [valueOf_snoc]
    omega
  · subst hσ
    rw [nl_len, List.take_length]
    exact s_ret (ev_var rfl) fun H2 e2 => k H2 (e.trans e2)
/-- one sign's number -/
theorem int_of_sign {c : Nat} (h : isDigit c = true) : PySem.intText? ⟨#[c]⟩ = some ((c - 48 : Nat) : Int) := by
  have hb := isDigit_iff.mp h
  have : ∀ k, k < 10 → PySem.intText? ⟨#[48 + k]⟩ = some ((48 + k - 48 : Nat) : Int) := by decide +kernel
  have q := this (c - 48) (by omega)
  rw [show 48 + (c - 48) = c by omega] at q
  exact q
theorem log_small {n : Nat} (h : n < 10 ^ 19) : ((n : Int)).natAbs.log2 < 1920 := by
  rw [Int.natAbs_natCast]
  by_cases h0 : n = 0
  · rw [h0]; decide
  · rw [Nat.log2_lt h0]
    exact Nat.lt_trans h (by decide)
theorem cps_num {n : Nat} (h : n < 10 ^ 19) : (PySem.Str.ofString (toString ((n : Nat) : Int))).cps.toList = digits n := by
  rw [PySem.W.KIN.signs_num]
  exact toDigits_digits (Nat.lt_trans h (by decide))
theorem ok_digitsOf {f : Addr} {fd : FuncData} (F : Fun K "digits_of" "digits_of" sDigitsOf f fd) (m1 : MgI mg "NOUGHT" 48) (mi : mg "int" = none) (ms : mg "str" = none) (ml : mg "len" = none) : FnOk P w K mg base CX0 1 f fd ["number", "least"] spDigitsOf := by
  refine F.ok scDigitsOf (fun vs H Q E h => by obtain ⟨n, k, rfl, _⟩ := h; rfl) (fun cdv A outer s H vs Q E hr h => ?_)
  refine ⟨_, pss_cons (ps_setLc (i := 2) (own := [("sign", 3)]) (g := gName 3) (tt := tYes) rfl scDigitsOf.nd rfl rfl (sw_true rfl rfl rfl (by decide +kernel))
      (pi_str (pe_callTy call_str_int (by rfl) ms (by decide +kernel) (pa_cons (pv 0) pa_nil)))
      (blkOk_by (own := [("sign", 3)]) (N := ["number", "least", "found", "sign"]) (sc := defScope sDigitsOf) (by decide +kernel))
      (fun _ _ _ _ _ => pg_name (i := 3) scDigitsOf.nd rfl (Or.inl rfl)) (fun _ _ _ _ _ => pts_nil)
      (fun _ _ _ _ _ => pe_op op_add (pgi m1) (pe_callTy call_int_str (by rfl) mi (by decide +kernel) (pa_cons (pv 3) pa_nil))))
    (pss_one (ps_ret (pe_op op_cat (pe_op op_rep (pe_lst (pa_cons (pgi m1) pa_nil)) (pe_op op_sub (pv 1) (pe_callB call_len_seq (by rfl) ml PySem.boot_len (pa_cons (pv 2) pa_nil)))) (pv 2)))), ?_⟩
  obtain ⟨n, k, rfl, hn, hk, ret⟩ := h
  have hl : (digits n).length ≤ 20 := digits_len (by decide) (Nat.lt_trans hn (by decide))
  have hsz : (PySem.Str.ofString (toString ((n : Nat) : Int))).cps.size = (digits n).length := by
    rw [← cps_num hn]
    simp
  have hget : ∀ i : Nat, (PySem.Str.ofString (toString ((n : Nat) : Int))).cps[i]? = (digits n)[i]? := fun i => by
    rw [← cps_num hn]
    simp
  refine q_asgL (xs := nl (digits n)) ?_ fun p H1 hp e1 h1 => ?_
  · have g := el_lcW (H := H) (σ := L2.start ["number", "least", "found", "sign"] [nv n, nv k]) (te := tOp (rI0 fun i j => V.int (i + j)) (tC (V.int 48)) (tCB (fun xs H Q => ∃ a n, xs = [.str a] ∧ PySem.intText? a = some n ∧ a.length ≤ 640 ∧ Q (.int n) H) (tCons (tVar 3) tNil)))
      (j := 3) (vs := [3]) (t := tYes) (it := fun i => .str ⟨#[(digits n).getD i 0]⟩) (walk_str (z := PySem.Str.ofString (toString ((n : Nat) : Int))))
      (fun i H x H' hi y => ?_) (fun _ _ => trivial) (fun _ => true) (fun i => nv ((digits n).getD i 0)) (ei_str (te := tCB _ (tCons (tVar 0) tNil)) (ev_cb (r := fun xs H Q => ∃ i, xs = [.int i] ∧ i.natAbs.log2 < 1920 ∧ Q (.str (toString i)) H) (ea_cons (ev_var rfl) ea_nil) (fun H1 e Q q => ⟨_, rfl, log_small hn, q H1 (Ex.refl _)⟩)))
      (by rw [hsz]; omega) (fun i H1 e hi => et_yes) (fun i H1 e hi _ => ?_)
    · have eg : given (PySem.Str.ofString (toString ((n : Nat) : Int))).cps.size (fun _ => true) (fun i => nv ((digits n).getD i 0)) = nl (digits n) := by
        rw [given_all, hsz, ← nl_len (digits n)]
        refine range_map fun i a h => ?_
        obtain ⟨c, hc, rfl⟩ := nl_get h
        rw [List.getD_eq_getElem?_getD, hc]
        rfl
      rw [eg] at g
      exact g
    · obtain ⟨rfl, c, hc, rfl⟩ := y
      rw [hget] at hc
      exact ⟨rfl, by rw [List.getD_eq_getElem?_getD, hc]; rfl⟩
    · rw [hsz] at hi
      have hc : (digits n)[i]? = some ((digits n).getD i 0) := by rw [List.getD_eq_getElem?_getD, List.getElem?_eq_getElem hi]; rfl
      have hd := List.all_eq_true.mp (digits_isDigit n) _ (List.mem_of_getElem? hc)
      refine ev_is (ev_op (y := nv ((digits n).getD i 0 - 48)) ev_c (ev_cb (ea_cons (ev_var rfl) ea_nil) fun H2 e2 Q q => ⟨_, _, rfl, int_of_sign hd, by show 1 ≤ 640; decide, q H2 (Ex.refl _)⟩) rv_I0) ?_
      refine congrArg V.int ?_
      have := (isDigit_iff.mp hd).1
      omega
  · refine s_retL (xs := nl (padded k (digits n))) ?_ fun p2 H2 hp2 e2 h2 => ret p2 H2 (fresh_back e1 hp2) (e1.trans e2) h2
    have e0 : (List.replicate ((k : Int) - ((digits n).length : Int)).toNat [nv 48]).flatten ++ nl (digits n) = nl (padded k (digits n)) := by
      unfold padded
      rw [nl_app]
      congr 1
      rw [show ((k : Int) - ((digits n).length : Int)).toNat = k - (digits n).length by omega]
      unfold nl
      rw [List.map_replicate]
      induction (k - (digits n).length) with
      | zero => rfl
      | succ m ih => rw [List.replicate_succ, List.flatten_cons, ih]; rfl
    rw [← e0]
    refine el_cat (er_l (el_rep (k := (k : Int) - ((digits n).length : Int)) (er_l (el_lst (vs := [nv 48]) (ea_cons ev_c ea_nil) (by decide))) (ev_op (ev_var rfl) (ev_is (ev_lenR (er_v (ev_var rfl) h1)) (by rw [nl_len])) rv_I0) (by omega) ?_)) (er_v (ev_var rfl) h1) ?_
    · show 1 * _ ≤ 1000000
      omega
    · rw [nl_len]
      have : ((List.replicate ((k : Int) - ((digits n).length : Int)).toNat [nv 48]).flatten).length ≤ 100 := by
        rw [List.length_flatten]
        simp
        omega
      omega
end
end Wd
namespace Wd
open PySem PySem.Spec PyProof.Rows L2 Evl
open Ut08 (Day leap monthLong dayOk yearsDays numberOf weekday)

def spIsLeap : Sp := fun vs H Q _ => ∃ y : Nat, vs = [nv y] ∧ RetV (.bl (leap y)) H Q
def spMonthLength : Sp := fun vs H Q _ => ∃ y m : Nat, vs = [nv y, nv m] ∧ 1 ≤ m ∧ m ≤ 12 ∧ RetV (nv (monthLong y m)) H Q
def spIsYear : Sp := fun vs H Q _ => ∃ y : Nat, vs = [nv y] ∧ RetV (.bl (decide (1 ≤ y) && decide (y ≤ 9999))) H Q
def spIsDay : Sp := fun vs H Q _ => ∃ y m d : Nat, vs = [nv y, nv m, nv d] ∧ RetV (.bl (dayOk ⟨y, m, d⟩)) H Q
def spDaysBefore : Sp := fun vs H Q _ => ∃ y : Nat, vs = [nv y] ∧ 1 ≤ y ∧ RetV (nv (yearsDays y)) H Q
def spNumberOf : Sp := fun vs H Q _ => ∃ y m d : Nat, vs = [nv y, nv m, nv d] ∧ 1 ≤ y ∧ 1 ≤ m ∧ m ≤ 12 ∧ 1 ≤ d ∧ RetV (nv (numberOf ⟨y, m, d⟩)) H Q
def spWeekdayOf : Sp := fun vs H Q _ => ∃ y m d : Nat, vs = [nv y, nv m, nv d] ∧ 1 ≤ y ∧ 1 ≤ m ∧ m ≤ 12 ∧ 1 ≤ d ∧ RetV (nv (weekday ⟨y, m, d⟩)) H Q
theorem sv_isLeap {y : Nat} {H : Hp} : SpV spIsLeap [nv y] H (.bl (leap y)) := fun H1 _ Q q _ => ⟨y, rfl, q⟩
theorem sv_monthLength {y m : Nat} {H : Hp} (h1 : 1 ≤ m) (h2 : m ≤ 12) : SpV spMonthLength [nv y, nv m] H (nv (monthLong y m)) := fun H1 _ Q q _ => ⟨y, m, rfl, h1, h2, q⟩
theorem sv_isYear {y : Nat} {H : Hp} : SpV spIsYear [nv y] H (.bl (decide (1 ≤ y) && decide (y ≤ 9999))) := fun H1 _ Q q _ => ⟨y, rfl, q⟩
theorem sv_isDay {y m d : Nat} {H : Hp} : SpV spIsDay [nv y, nv m, nv d] H (.bl (dayOk ⟨y, m, d⟩)) := fun H1 _ Q q _ => ⟨y, m, d, rfl, q⟩
theorem sv_daysBefore {y : Nat} {H : Hp} (h : 1 ≤ y) : SpV spDaysBefore [nv y] H (nv (yearsDays y)) := fun H1 _ Q q _ => ⟨y, rfl, h, q⟩
theorem sv_numberOf {y m d : Nat} {H : Hp} (h : 1 ≤ y ∧ 1 ≤ m ∧ m ≤ 12 ∧ 1 ≤ d) : SpV spNumberOf [nv y, nv m, nv d] H (nv (numberOf ⟨y, m, d⟩)) := fun H1 _ Q q _ => ⟨y, m, d, rfl, h.1, h.2.1, h.2.2.1, h.2.2.2, q⟩
theorem sv_weekdayOf {y m d : Nat} {H : Hp} (h : 1 ≤ y ∧ 1 ≤ m ∧ m ≤ 12 ∧ 1 ≤ d) : SpV spWeekdayOf [nv y, nv m, nv d] H (nv (weekday ⟨y, m, d⟩)) := fun H1 _ Q q _ => ⟨y, m, d, rfl, h.1, h.2.1, h.2.2.1, h.2.2.2, q⟩

abbrev sIsLeap : Stmt := topS 18
abbrev sMonthLength : Stmt := topS 19
abbrev sIsYear : Stmt := topS 20
abbrev sIsDay : Stmt := topS 21
abbrev sDaysBefore : Stmt := topS 22
abbrev sNumberOf : Stmt := topS 23
abbrev sWeekdayOf : Stmt := topS 24
theorem scIsLeap : FnScope ["year"] ["year"] (defScope sIsLeap) := ⟨rfl, rfl, rfl, by decide +kernel, rfl, by decide +kernel, by decide +kernel⟩
theorem scMonthLength : FnScope ["year", "month"] ["year", "month"] (defScope sMonthLength) := ⟨rfl, rfl, rfl, by decide +kernel, rfl, by decide +kernel, by decide +kernel⟩
theorem scIsYear : FnScope ["year"] ["year"] (defScope sIsYear) := ⟨rfl, rfl, rfl, by decide +kernel, rfl, by decide +kernel, by decide +kernel⟩
theorem scIsDay : FnScope ["year", "month", "day"] ["year", "month", "day"] (defScope sIsDay) := ⟨rfl, rfl, rfl, by decide +kernel, rfl, by decide +kernel, by decide +kernel⟩
theorem scDaysBefore : FnScope ["year", "gone"] ["year"] (defScope sDaysBefore) := ⟨rfl, rfl, rfl, by decide +kernel, rfl, by decide +kernel, by decide +kernel⟩
theorem scNumberOf : FnScope ["year", "month", "day", "own"] ["year", "month", "day"] (defScope sNumberOf) := ⟨rfl, rfl, rfl, by decide +kernel, rfl, by decide +kernel, by decide +kernel⟩
theorem scWeekdayOf : FnScope ["year", "month", "day"] ["year", "month", "day"] (defScope sWeekdayOf) := ⟨rfl, rfl, rfl, by decide +kernel, rfl, by decide +kernel, by decide +kernel⟩
section
variable {P : Program} {w : World} {K : PySem.W.Frag} {mg : Str → Option Value} {base : Heap}
theorem ok_isLeap {f : Addr} {fd : FuncData} (F : Fun K "is_leap" "is_leap" sIsLeap f fd) : FnOk P w K mg base CX0 1 f fd ["year"] spIsLeap := by
  refine F.ok scIsLeap (fun vs H Q E h => by obtain ⟨n, rfl, _⟩ := h; rfl) (fun cdv A outer s H vs Q E hr h => ?_)
  refine ⟨_, pss_one (ps_ret (pe_and (pe_cmpR op_eq (pe_op op_mod (pv 0) pe_int) pe_int (nomark _)) (pe_one (pe_or (pe_cmpR op_ne (pe_op op_mod (pv 0) pe_int) pe_int (nomark _)) (pe_one (pe_cmpR op_eq (pe_op op_mod (pv 0) pe_int) pe_int (nomark _))))))), ?_⟩
  obtain ⟨y, rfl, k⟩ := h
  refine s_ret (ev_is (ev_andV (a := decide (y % 4 = 0)) (b := decide (y % 100 ≠ 0) || decide (y % 400 = 0)) ?_ fun _ => ev_orV ?_ fun _ => ?_) (congrArg V.bl (leap_prog y).symm)) k
  · exact ev_eqI (ev_mod (m := ((y % 4 : Nat) : Int)) (ev_var rfl) ev_c (by decide) (by omega)) ev_c (decide_eq_decide.mpr (by omega))
  · exact ev_neI (ev_mod (m := ((y % 100 : Nat) : Int)) (ev_var rfl) ev_c (by decide) (by omega)) ev_c (decide_eq_decide.mpr (by omega))
  · exact ev_eqI (ev_mod (m := ((y % 400 : Nat) : Int)) (ev_var rfl) ev_c (by decide) (by omega)) ev_c (decide_eq_decide.mpr (by omega))
theorem ok_monthLength {f : Addr} {fd : FuncData} (F : Fun K "month_length" "month_length" sMonthLength f fd) (G : Gs K mg) (c1 : Cal P w K mg base CX0 1 "is_leap" spIsLeap) : FnOk P w K mg base CX0 2 f fd ["year", "month"] spMonthLength := by
  obtain ⟨aL, mL, tL⟩ := G.cLengths
  refine F.ok scMonthLength (fun vs H Q E h => by obtain ⟨n, m, rfl, _⟩ := h; rfl) (fun cdv A outer s H vs Q E hr h => ?_)
  refine ⟨_, pss_one (ps_ret (pe_op op_add (pe_ix ix_tup (pgr mL) (pe_op op_sub (pv 1) pe_int) (fun _ _ => rfl)) (pe_callTy call_int1 (by rfl) G.bInt (by decide +kernel) (pa_cons (pe_and (pe_cmpR op_eq (pv 1) (pgi G.cFebruary) (nomark _)) (pe_one (pe_c c1 hr (by decide) pass0 rfl (pa_cons (pv 0) pa_nil)))) pa_nil)))), ?_⟩
  obtain ⟨y, m, rfl, h1, h2, k⟩ := h
  obtain ⟨e1, e2⟩ := monthLong_len (y := y) h1 h2
  refine s_ret (v := nv (monthLong y m)) (ev_add (ev_ixT (j := m - 1) ev_c (ev_sub (ev_var rfl) ev_c rfl) tL.sq (by omega) (nl_at e1)) (ev_intB (ev_andV (a := decide (m = 2)) (b := leap y) (ev_eqI (ev_var rfl) ev_c (decide_eq_decide.mpr (by omega))) fun _ => ev_c1 (ea_cons (ev_var rfl) ea_nil) sv_isLeap)) ?_) k
  by_cases hm : m = 2
  · cases hl : leap y <;> simp [hm, hl] at e2 ⊢ <;> omega
  · simp [hm]
theorem ok_isYear {f : Addr} {fd : FuncData} (F : Fun K "is_year" "is_year" sIsYear f fd) (G : Gs K mg) : FnOk P w K mg base CX0 1 f fd ["year"] spIsYear := by
  refine F.ok scIsYear (fun vs H Q E h => by obtain ⟨n, rfl, _⟩ := h; rfl) (fun cdv A outer s H vs Q E hr h => ?_)
  refine ⟨_, pss_one (ps_ret (pe_chain op_le op_le pe_int (pv 0) (pgi G.cMostYear))), ?_⟩
  obtain ⟨y, rfl, k⟩ := h
  exact s_ret (ev_chain ev_c (ev_var rfl) ev_c (congrArg V.bl (decide_eq_decide.mpr (by omega))) (congrArg V.bl (decide_eq_decide.mpr (by omega)))) k
theorem ok_isDay {f : Addr} {fd : FuncData} (F : Fun K "is_day" "is_day" sIsDay f fd) (G : Gs K mg) (c1 : Cal P w K mg base CX0 1 "is_year" spIsYear) (c2 : Cal P w K mg base CX0 2 "month_length" spMonthLength) : FnOk P w K mg base CX0 3 f fd ["year", "month", "day"] spIsDay := by
  obtain ⟨aL, mL, tL⟩ := G.cLengths
  refine F.ok scIsDay (fun vs H Q E h => by obtain ⟨n, m, d, rfl, _⟩ := h; rfl) (fun cdv A outer s H vs Q E hr h => ?_)
  refine ⟨_, pss_one (ps_ret (pe_and (pe_c c1 hr (by decide) pass0 rfl (pa_cons (pv 0) pa_nil)) (pe_and (pe_chain op_le op_le pe_int (pv 1) (pe_callB call_len_seq (by rfl) G.bLen PySem.boot_len (pa_cons (pgr mL) pa_nil)))
    (pe_one (pe_chain op_le op_le pe_int (pv 2) (pe_c c2 hr (by decide) pass0 rfl (pa_cons (pv 0) (pa_cons (pv 1) pa_nil)))))))), ?_⟩
  obtain ⟨y, m, d, rfl, k⟩ := h
  refine s_ret (v := .bl (dayOk ⟨y, m, d⟩)) (ev_is (ev_andV (ev_c1 (ea_cons (ev_var rfl) ea_nil) sv_isYear) fun _ => ev_andV (ev_chain (p := decide (1 ≤ m)) (q := decide (m ≤ 12)) ev_c (ev_var rfl) (ev_len ev_c (.inr tL.sq)) (congrArg V.bl (decide_eq_decide.mpr (by omega))) (congrArg V.bl (decide_eq_decide.mpr ?_))) fun hm => ev_chain (p := decide (1 ≤ d)) (q := decide (d ≤ monthLong y m)) ev_c (ev_var rfl) (ev_c1 (ea_cons (ev_var rfl) (ea_cons (ev_var rfl) ea_nil)) (sv_monthLength ?_ ?_)) (congrArg V.bl (decide_eq_decide.mpr (by omega))) (congrArg V.bl (decide_eq_decide.mpr (by omega)))) ?_) k
  · show (m : Int) ≤ ((12 : Nat) : Int) ↔ _
    omega
  · rw [Bool.and_eq_true, decide_eq_true_eq] at hm
    exact hm.1
  · rw [Bool.and_eq_true, decide_eq_true_eq, decide_eq_true_eq] at hm
    exact hm.2
  · unfold dayOk
    simp only [Bool.and_assoc]
theorem ok_daysBefore {f : Addr} {fd : FuncData} (F : Fun K "days_before" "days_before" sDaysBefore f fd) : FnOk P w K mg base CX0 1 f fd ["year"] spDaysBefore := by
  refine F.ok scDaysBefore (fun vs H Q E h => by obtain ⟨n, rfl, _⟩ := h; rfl) (fun cdv A outer s H vs Q E hr h => ?_)
  refine ⟨_, pss_cons (ps_set (i := 1) scDaysBefore.nd rfl (.inl rfl) (pe_op op_sub (pv 0) pe_int)) (pss_one (ps_ret (pe_op op_add (pe_op op_sub (pe_op op_add (pe_op op_mul pe_int (pv 1)) (pe_op op_fdiv (pv 1) pe_int)) (pe_op op_fdiv (pv 1) pe_int)) (pe_op op_fdiv (pv 1) pe_int)))), ?_⟩
  obtain ⟨y, rfl, h1, k⟩ := h
  refine q_asg (ev_sub (ev_var rfl) ev_c rfl) fun H1 e1 => ?_
  refine s_ret (v := nv (yearsDays y)) (ev_add (ev_sub (ev_add (ev_mulL ev_c (ev_var rfl) (by decide) rfl) (ev_fdiv (ev_var rfl) ev_c (by decide) rfl) rfl) (ev_fdiv (ev_var rfl) ev_c (by decide) rfl) rfl) (ev_fdiv (ev_var rfl) ev_c (by decide) rfl) (yearsDays_int h1).symm) fun H2 e2 => k H2 (e1.trans e2)
theorem ok_numberOf {f : Addr} {fd : FuncData} (F : Fun K "number_of" "number_of" sNumberOf f fd) (G : Gs K mg) (c1 : Cal P w K mg base CX0 1 "days_before" spDaysBefore) (c2 : Cal P w K mg base CX0 2 "month_length" spMonthLength) : FnOk P w K mg base CX0 3 f fd ["year", "month", "day"] spNumberOf := by
  refine F.ok scNumberOf (fun vs H Q E h => by obtain ⟨n, m, d, rfl, _⟩ := h; rfl) (fun cdv A outer s H vs Q E hr h => ?_)
  refine ⟨_, pss_one (ps_ret (pe_op op_sub (pe_op op_add (pe_op op_add (pe_c c1 hr (by decide) pass0 rfl (pa_cons (pv 0) pa_nil)) (pe_callB (cr_sum rfl) (by rfl) G.bSum (by decide +kernel) (pa_cons
      (pe_lc (own := [("own", 3)]) (g := gName 3) (tt := tYes) rfl scNumberOf.nd (pi_range2 rfl G.bRange (pa_cons pe_int (pa_cons (pv 1) pa_nil))) (blkOk_by (own := [("own", 3)]) (N := ["year", "month", "day", "own"]) (sc := defScope sNumberOf) (by decide +kernel))
        (fun _ _ _ _ _ => pg_name (i := 3) scNumberOf.nd rfl (Or.inl rfl)) (fun _ _ _ _ _ => pts_nil) (fun _ _ _ _ _ => pe_c c2 hr (by decide) pass0 rfl (pa_cons (pv 0) (pa_cons (pv 3) pa_nil)))) pa_nil))) (pv 2)) pe_int)), ?_⟩
  obtain ⟨y, m, d, rfl, h1, h2, h3, h4, k⟩ := h
  refine s_ret (v := nv (numberOf ⟨y, m, d⟩)) (ev_sub (ev_add (ev_add (ev_c1 (ea_cons (ev_var rfl) ea_nil) (sv_daysBefore h1)) (ev_sum (ns := (List.range (m - 1)).map fun i => ((monthLong y (i + 1) : Nat) : Int)) ?_) rfl) (ev_var rfl) rfl) ev_c ?_) k
  · refine el_is (el_lcW (it := fun i => nv (i + 1)) walk_range (fun i H x H' hi y => ?_) (fun _ _ => trivial) (fun _ => true) (fun i => nv (monthLong y (i + 1))) (ei_rng2 (ea_cons ev_c (ea_cons (ev_var rfl) ea_nil)) (by omega)) (by omega) (fun i H1 e hi => et_yes) (fun i H1 e hi _ => ?_)) ?_
    · obtain ⟨rfl, rfl⟩ := y
      exact ⟨rfl, congrArg V.int (by omega)⟩
    · exact ev_c1 (ea_cons (ev_var rfl) (ea_cons (ev_var rfl) ea_nil)) (sv_monthLength (by omega) (by omega))
    · rw [given_all, List.map_map, show ((m : Int) - 1).toNat = m - 1 by omega]
      rfl
  · have e : ((List.range (m - 1)).map fun i => ((monthLong y (i + 1) : Nat) : Int)).sum = ((msum y (m - 1) : Nat) : Int) := by
      unfold msum
      induction (m - 1) with
      | zero => rfl
      | succ n ih =>
        rw [List.range_succ, List.map_append, List.map_append, List.sum_append, List.sum_append, ih]
        simp
    rw [e, numberOf_eq]
    show ((yearsDays y : Nat) : Int) + ((msum y (m - 1) : Nat) : Int) + (d : Int) - 1 = ((yearsDays y + msum y (m - 1) + (d - 1) : Nat) : Int)
    omega
theorem ok_weekdayOf {f : Addr} {fd : FuncData} (F : Fun K "weekday_of" "weekday_of" sWeekdayOf f fd) (G : Gs K mg) (c1 : Cal P w K mg base CX0 3 "number_of" spNumberOf) : FnOk P w K mg base CX0 4 f fd ["year", "month", "day"] spWeekdayOf := by
  refine F.ok scWeekdayOf (fun vs H Q E h => by obtain ⟨n, m, d, rfl, _⟩ := h; rfl) (fun cdv A outer s H vs Q E hr h => ?_)
  refine ⟨_, pss_one (ps_ret (pe_op op_mod (pe_c c1 hr (by decide) pass0 rfl (pa_cons (pv 0) (pa_cons (pv 1) (pa_cons (pv 2) pa_nil)))) (pgi G.cWeek))), ?_⟩
  obtain ⟨y, m, d, rfl, h1, h2, h3, h4, k⟩ := h
  exact s_ret (v := nv (weekday ⟨y, m, d⟩)) (ev_mod (ev_c1 (ea_cons (ev_var rfl) (ea_cons (ev_var rfl) (ea_cons (ev_var rfl) ea_nil))) (sv_numberOf ⟨h1, h2, h3, h4⟩)) ev_c (by decide) (by unfold weekday; omega)) k
end
end Wd
namespace Wd
open PySem PySem.Spec PyProof.Rows L2 Evl
open Ut08 (Day leap monthLong dayOk yearsDays numberOf weekday dayAt daysOf)

/-! objects one by one -/
def ObjsAt {β : Type} (H : Hp) (o : β → HO) : List Addr → List β → Prop
  | [], [] => True
  | a :: as, b :: bs => H a = some (o b) ∧ ObjsAt H o as bs
  | _, _ => False
section
variable {β : Type} {H H' : Hp} {o : β → HO}
theorem ObjsAt.mono (e : Ex H H') : ∀ {as : List Addr} {bs : List β}, ObjsAt H o as bs → ObjsAt H' o as bs
  | [], [], _ => trivial
  | _ :: _, _ :: _, h => ⟨e _ _ h.1, ObjsAt.mono e h.2⟩
  | [], _ :: _, h => h.elim
  | _ :: _, [], h => h.elim
theorem ObjsAt.app : ∀ {as as' : List Addr} {bs bs' : List β}, ObjsAt H o as bs → ObjsAt H o as' bs' → ObjsAt H o (as ++ as') (bs ++ bs')
  | [], _, [], _, _, h => h
  | _ :: _, _, _ :: _, _, h, h' => ⟨h.1, ObjsAt.app h.2 h'⟩
  | [], _, _ :: _, _, h, _ => h.elim
  | _ :: _, _, [], _, h, _ => h.elim
theorem ObjsAt.len : ∀ {as : List Addr} {bs : List β}, ObjsAt H o as bs → as.length = bs.length
  | [], [], _ => rfl
  | _ :: _, _ :: _, h => congrArg (· + 1) (ObjsAt.len h.2)
  | [], _ :: _, h => h.elim
  | _ :: _, [], h => h.elim
theorem ObjsAt.get : ∀ {as : List Addr} {bs : List β} {i : Nat} {a : Addr}, ObjsAt H o as bs → as[i]? = some a → ∃ b, bs[i]? = some b ∧ H a = some (o b)
  | [], [], _, _, _, e => by simp at e
  | a :: _, b :: _, 0, c, h, e => by
    have : a = c := by simpa using e
    subst this
    exact ⟨b, rfl, h.1⟩
  | _ :: as, _ :: bs, i + 1, c, h, e => ObjsAt.get (as := as) (bs := bs) (i := i) h.2 (by simpa using e)
  | [], _ :: _, _, _, h, _ => h.elim
  | _ :: _, [], _, _, h, _ => h.elim
theorem ObjsAt.get' : ∀ {as : List Addr} {bs : List β} {i : Nat} {b : β}, ObjsAt H o as bs → bs[i]? = some b → ∃ a, as[i]? = some a ∧ H a = some (o b)
  | [], [], _, _, _, e => by simp at e
  | a :: _, b :: _, 0, c, h, e => by
    have : b = c := by simpa using e
    subst this
    exact ⟨a, rfl, h.1⟩
  | _ :: as, _ :: bs, i + 1, c, h, e => ObjsAt.get' (as := as) (bs := bs) (i := i) h.2 (by simpa using e)
  | [], _ :: _, _, _, h, _ => h.elim
  | _ :: _, [], _, _, h, _ => h.elim
theorem ObjsAt.of : ∀ {as : List Addr} {bs : List β}, as.length = bs.length → (∀ (i : Nat) a b, as[i]? = some a → bs[i]? = some b → H a = some (o b)) → ObjsAt H o as bs
  | [], [], _, _ => trivial
  | a :: as, b :: bs, hl, h => ⟨h 0 a b rfl rfl, ObjsAt.of (by simpa using hl) fun i a' b' h1 h2 => h (i + 1) a' b' (by simpa using h1) (by simpa using h2)⟩
  | [], _ :: _, hl, _ => by simp at hl
  | _ :: _, [], hl, _ => by simp at hl
end
def dayV (x : Day) : HO := .tup [nv x.y, nv x.m, nv x.d]
def RetU (xs : List V) (H : Hp) (Q : VK) : Prop := ∀ p H2, H p = none → Ex H H2 → H2 p = some (.tup xs) → Q (.ref p) H2

def spYearOf : Sp := fun vs H Q _ => ∃ n : Nat, vs = [nv n] ∧ n ≤ 3652058 ∧ RetV (nv (yr n)) H Q
def spDayOf : Sp := fun vs H Q _ => ∃ n : Nat, vs = [nv n] ∧ n ≤ 3652058 ∧ RetU [nv (dayAt n).y, nv (dayAt n).m, nv (dayAt n).d] H Q
def spDaysOf : Sp := fun vs H Q _ => ∃ y : Nat, vs = [nv y] ∧ ∀ (p : Addr) (ps : List Addr) (H2 : Hp), H p = none → Ex H H2 → H2 p = some (.lst (ps.map V.ref)) → ObjsAt H2 dayV ps (daysOf y) → Q (.ref p) H2
theorem sv_yearOf {n : Nat} {H : Hp} (h : n ≤ 3652058) : SpV spYearOf [nv n] H (nv (yr n)) := fun H1 _ Q q _ => ⟨n, rfl, h, q⟩

abbrev sYearOf : Stmt := topS 25
abbrev sDayOf : Stmt := topS 26
abbrev sDaysOf : Stmt := topS 27
theorem scYearOf : FnScope ["number", "low", "high", "middle"] ["number"] (defScope sYearOf) := ⟨rfl, rfl, rfl, by decide +kernel, rfl, by decide +kernel, by decide +kernel⟩
theorem scDayOf : FnScope ["number", "year", "left", "month"] ["number"] (defScope sDayOf) := ⟨rfl, rfl, rfl, by decide +kernel, rfl, by decide +kernel, by decide +kernel⟩
theorem scDaysOf : FnScope ["year", "found", "month", "day"] ["year"] (defScope sDaysOf) := ⟨rfl, rfl, rfl, by decide +kernel, rfl, by decide +kernel, by decide +kernel⟩
section
variable {P : Program} {w : World} {K : PySem.W.Frag} {mg : Str → Option Value} {base : Heap}
theorem ok_yearOf {f : Addr} {fd : FuncData} (F : Fun K "year_of" "year_of" sYearOf f fd) (G : Gs K mg) (c1 : Cal P w K mg base CX0 1 "days_before" spDaysBefore) : FnOk P w K mg base CX0 2 f fd ["number"] spYearOf := by
  refine F.ok scYearOf (fun vs H Q E h => by obtain ⟨n, rfl, _⟩ := h; rfl) (fun cdv A outer s H vs Q E hr h => ?_)
  refine ⟨_, pss_cons (ps_par (i := 1) (j := 2) (by rfl) scYearOf.nd rfl rfl (by decide) rfl rfl (pa_cons pe_int (pa_cons (pgi G.cMostYear) pa_nil)) (by rfl))
    (pss_cons (ps_while PassesOwn.never (pt_cmpR op_lt (pv 1) (pv 2) (nomark _)) (pss_cons (ps_set (i := 3) scYearOf.nd rfl (.inl rfl) (pe_op op_fdiv (pe_op op_add (pe_op op_add (pv 1) (pv 2)) pe_int) pe_int))
      (pss_one (ps_if (pt_cmpR op_le (pe_c c1 hr (by decide) pass0 rfl (pa_cons (pv 3) pa_nil)) (pv 0) (nomark _)) (pss_one (ps_set (i := 1) scYearOf.nd rfl (.inl rfl) (pv 3))) (pss_one (ps_set (i := 2) scYearOf.nd rfl (.inl rfl) (pe_op op_sub (pv 3) pe_int)))))))
    (pss_one (ps_ret (pv 1)))), ?_⟩
  obtain ⟨n, rfl, hn, k⟩ := h
  refine ⟨_, _, rfl, ?_⟩
  refine q_while (fun m σ H' => Ex H H' ∧ ∃ (lo hi : Nat) (o : Option V), σ = [some (nv n), some (nv lo), some (nv hi), o] ∧ m = hi - lo ∧ 1 ≤ lo ∧ lo ≤ hi ∧ hi ≤ 9999 ∧ yearsDays lo ≤ n ∧ n < yearsDays (hi + 1)) 9998 ⟨Ex.refl H, 1, 9999, none, rfl, rfl, by decide, by decide, by decide, by
    rw [show yearsDays 1 = 0 by decide]; omega, by rw [yearsDays_last]; omega⟩ fun m σ H' ⟨e, lo, hi, o, hσ, hm, h1, h2, h3, h4, h5⟩ => ?_
  subst hσ
  refine ⟨decide (lo < hi), et_test (ev_cI (ev_var rfl) (ev_var rfl) (decide_eq_decide.mpr (by omega))), fun hb H1 e1 => ?_, fun hb H1 e1 => ?_⟩
  · have hlt : lo < hi := of_decide_eq_true hb
    refine ⟨fun σ2 H2 => ∃ m', m' < m ∧ Ex H H2 ∧ ∃ (lo hi : Nat) (o : Option V), σ2 = [some (nv n), some (nv lo), some (nv hi), o] ∧ m' = hi - lo ∧ 1 ≤ lo ∧ lo ≤ hi ∧ hi ≤ 9999 ∧ yearsDays lo ≤ n ∧ n < yearsDays (hi + 1), fun _ _ h => h, ?_⟩
    obtain ⟨mid, hmid⟩ : ∃ mid : Nat, mid = (lo + hi + 1) / 2 := ⟨_, rfl⟩
    refine q_asg (v := nv mid) (ev_fdiv (ev_add (ev_add (ev_var rfl) (ev_var rfl) rfl) ev_c rfl) ev_c (by decide) (by omega)) fun H2 e2 => ?_
    refine s_if (b := decide (yearsDays mid ≤ n)) (et_test (ev_cI (ev_c1 (ea_cons (ev_var rfl) ea_nil) (sv_daysBefore (by omega))) (ev_var rfl) (decide_eq_decide.mpr (by omega)))) (fun hc H3 e3 => ?_) (fun hc H3 e3 => ?_)
    · have hc : yearsDays mid ≤ n := of_decide_eq_true hc
      exact s_asg (ev_var rfl) fun H4 e4 => ⟨hi - mid, by omega, ((((e.trans e1).trans e2).trans e3).trans e4), mid, hi, _, rfl, rfl, by omega, by omega, h3, hc, h5⟩
    · have hc : ¬ yearsDays mid ≤ n := of_decide_eq_false hc
      exact s_asg (v := nv (mid - 1)) (ev_sub (ev_var rfl) ev_c (by omega)) fun H4 e4 => ⟨mid - 1 - lo, by omega, ((((e.trans e1).trans e2).trans e3).trans e4), lo, mid - 1, _, rfl, rfl, h1, by omega, by omega, h4, by rw [show mid - 1 + 1 = mid by omega]; omega⟩
  · have hge : ¬ lo < hi := of_decide_eq_false hb
    have hy : yr n = lo := yr_of h1 (by omega) h4 (by rw [show lo + 1 = hi + 1 by omega]; exact h5)
    refine s_ret (v := nv (yr n)) (ev_is (ev_var rfl) (by rw [hy])) fun H2 e2 => k H2 ((e.trans e1).trans e2)
theorem ok_dayOf {f : Addr} {fd : FuncData} (F : Fun K "day_of" "day_of" sDayOf f fd) (G : Gs K mg) (c1 : Cal P w K mg base CX0 1 "days_before" spDaysBefore) (c2 : Cal P w K mg base CX0 2 "month_length" spMonthLength) (c3 : Cal P w K mg base CX0 2 "year_of" spYearOf) :
    FnOk P w K mg base CX0 3 f fd ["number"] spDayOf := by
  refine F.ok scDayOf (fun vs H Q E h => by obtain ⟨n, rfl, _⟩ := h; rfl) (fun cdv A outer s H vs Q E hr h => ?_)
  refine ⟨_, pss_cons (ps_set (i := 1) scDayOf.nd rfl (.inl rfl) (pe_c c3 hr (by decide) pass0 rfl (pa_cons (pv 0) pa_nil)))
    (pss_cons (ps_set (i := 2) scDayOf.nd rfl (.inl rfl) (pe_op op_sub (pv 0) (pe_c c1 hr (by decide) pass0 rfl (pa_cons (pv 1) pa_nil))))
    (pss_cons (ps_set (i := 3) scDayOf.nd rfl (.inl rfl) pe_int)
    (pss_cons (ps_while PassesOwn.never (pt_cmpR op_ge (pv 2) (pe_c c2 hr (by decide) pass0 rfl (pa_cons (pv 1) (pa_cons (pv 3) pa_nil))) (nomark _))
      (pss_cons (ps_set (i := 2) scDayOf.nd rfl (.inl rfl) (pe_op op_sub (pv 2) (pe_c c2 hr (by decide) pass0 rfl (pa_cons (pv 1) (pa_cons (pv 3) pa_nil))))) (pss_one (ps_set (i := 3) scDayOf.nd rfl (.inl rfl) (pe_op op_add (pv 3) pe_int)))))
    (pss_one (ps_ret (pe_tup (pa_cons (pv 1) (pa_cons (pv 3) (pa_cons (pe_op op_add (pv 2) pe_int) pa_nil))))))))), ?_⟩
  obtain ⟨n, rfl, hn, k⟩ := h
  obtain ⟨y1, y2, y3, y4⟩ := yr_spec hn
  obtain ⟨y, hy⟩ : ∃ y, y = yr n := ⟨_, rfl⟩
  rw [← hy] at y1 y2 y3 y4
  have y5 : n - yearsDays y < msum y 12 := by
    rw [yearsDays_succ y y1] at y4
    omega
  refine q_asg (v := nv y) (ev_is (ev_c1 (ea_cons (ev_var rfl) ea_nil) (sv_yearOf hn)) (by rw [hy])) fun H1 e1 => ?_
  refine q_asg (v := nv (n - yearsDays y)) (ev_sub (ev_var rfl) (ev_c1 (ea_cons (ev_var rfl) ea_nil) (sv_daysBefore y1)) (by omega)) fun H2 e2 => ?_
  refine q_asg ev_c fun H3 e3 => ?_
  refine q_while (fun m σ H' => Ex H H' ∧ ∃ j : Nat, σ = [some (nv n), some (nv y), some (nv (n - yearsDays y - msum y j)), some (nv (j + 1))] ∧ m = 12 - j ∧ j < 12 ∧ msum y j ≤ n - yearsDays y) 12 ⟨(e1.trans e2).trans e3, 0, rfl, rfl, by decide, Nat.zero_le _⟩ fun m σ H' ⟨e, j, hσ, hm, h1, h2⟩ => ?_
  subst hσ
  have hs := msum_succ y j
  refine ⟨decide (monthLong y (j + 1) ≤ n - yearsDays y - msum y j), et_test (ev_cI (ev_var rfl) (ev_c1 (ea_cons (ev_var rfl) (ea_cons (ev_var rfl) ea_nil)) (sv_monthLength (by omega) (by omega))) (decide_eq_decide.mpr (by omega))), fun hb H4 e4 => ?_, fun hb H4 e4 => ?_⟩
  · have hb : monthLong y (j + 1) ≤ n - yearsDays y - msum y j := of_decide_eq_true hb
    have hj : j + 1 < 12 := by
      by_cases c : j + 1 < 12
      · exact c
      · have : j + 1 = 12 := by omega
        rw [this] at hs hb
        omega
    refine ⟨fun σ2 H2 => ∃ m', m' < m ∧ Ex H H2 ∧ ∃ j : Nat, σ2 = [some (nv n), some (nv y), some (nv (n - yearsDays y - msum y j)), some (nv (j + 1))] ∧ m' = 12 - j ∧ j < 12 ∧ msum y j ≤ n - yearsDays y, fun _ _ h => h, ?_⟩
    refine q_asg (v := nv (n - yearsDays y - msum y (j + 1))) (ev_sub (ev_var rfl) (ev_c1 (ea_cons (ev_var rfl) (ea_cons (ev_var rfl) ea_nil)) (sv_monthLength (by omega) (by omega))) (by omega)) fun H5 e5 => ?_
    exact s_asg (v := nv (j + 1 + 1)) (ev_add (ev_var rfl) ev_c rfl) fun H6 e6 => ⟨12 - (j + 1), by omega, ((e.trans e4).trans e5).trans e6, j + 1, rfl, rfl, hj, by omega⟩
  · have hb : ¬ monthLong y (j + 1) ≤ n - yearsDays y - msum y j := of_decide_eq_false hb
    have ed := dayAt_of hy.symm h1 h2 (by omega)
    refine s_retU (xs := [nv (dayAt n).y, nv (dayAt n).m, nv (dayAt n).d]) ?_ fun p H5 hp e5 h5 => k p H5 (fresh_back (e.trans e4) hp) ((e.trans e4).trans e5) h5
    rw [ed]
    exact eu_tup (ea_cons (ev_var rfl) (ea_cons (ev_var rfl) (ea_cons (ev_add (ev_var rfl) ev_c rfl) ea_nil))) (by show 3 ≤ 100000; decide)
theorem en_is {te : TE} {σ : L2.St} {H : Hp} {n n' : Nat} {o : Nat → HO} (h : EvNs te σ H n o) (e : n = n') : EvNs te σ H n' o := e ▸ h
/-- xs.extend([.. new objects ..]) -/
theorem s_extN {ta te : TE} {σ : L2.St} {H : Hp} {D : Ends} {l : Addr} {xs : List V} {n : Nat} {o : Nat → HO} (hl : H l = some (.lst xs)) (ha : Ev ta σ H (.ref l)) (h : EvNs te σ H n o) (hz : xs.length + n ≤ 1000000)
    (k : ∀ (ps : List Addr) H1, Ex H H1 → ps.length = n → (∀ (i : Nat) a, ps[i]? = some a → H1 a = some (o i)) → D.nx σ (upd H1 l (.lst (xs ++ ps.map V.ref)))) :
    tDrop (tBM K "list" rExtend ta (tCons te tNil)) D σ H := ha H (Ex.refl H) _ fun H1 e1 =>
  ⟨Or.inl ⟨rfl, xs, sq_of (e1 l _ hl)⟩, h H1 e1 _ fun p ps H2 hp e2 h2 hn ho => ⟨l, p, xs, ps.map V.ref, rfl, rfl, e2 l _ (e1 l _ hl), h2, by
    rw [List.length_map, hn]
    exact Nat.le_trans hz (by decide), k ps H2 (e1.trans e2) hn ho⟩⟩
theorem ok_daysOf {f : Addr} {fd : FuncData} (F : Fun K "days_of" "days_of" sDaysOf f fd) (G : Gs K mg) (c2 : Cal P w K mg base CX0 2 "month_length" spMonthLength) : FnOk P w K mg base CX0 3 f fd ["year"] spDaysOf := by
  obtain ⟨aL, mL, tL⟩ := G.cLengths
  refine F.ok scDaysOf (fun vs H Q E h => by obtain ⟨n, rfl, _⟩ := h; rfl) (fun cdv A outer s H vs Q E hr h => ?_)
  refine ⟨_, pss_cons (ps_set (i := 1) scDaysOf.nd rfl (.inl rfl) (pe_lst pa_nil))
    (pss_cons (ps_for PassesOwn.never rfl (pi_range2 rfl G.bRange (pa_cons pe_int (pa_cons (pe_op op_add (pe_callB call_len_seq (by rfl) G.bLen PySem.boot_len (pa_cons (pgr mL) pa_nil)) pe_int) pa_nil))) (pg_name (i := 2) scDaysOf.nd rfl (.inr rfl))
      (pss_one (ps_expr (pe_bm PySem.F.plainAttrs_list PySem.F.slot_list_extend PySem.F.type_list_extend mt_extend (pv 1) (pa_cons
        (pe_lc (own := [("day", 3)]) (g := gName 3) (tt := tYes) rfl scDaysOf.nd (pi_range2 rfl G.bRange (pa_cons pe_int (pa_cons (pe_op op_add (pe_c c2 hr (by decide) pass0 rfl (pa_cons (pv 0) (pa_cons (pv 2) pa_nil))) pe_int) pa_nil))) (blkOk_by (own := [("day", 3)]) (N := ["year", "found", "month", "day"]) (sc := defScope sDaysOf) (by decide +kernel))
          (fun _ _ _ _ _ => pg_name (i := 3) scDaysOf.nd rfl (Or.inl rfl)) (fun _ _ _ _ _ => pts_nil) (fun _ _ _ _ _ => pe_tup (pa_cons (pv 0) (pa_cons (pv 2) (pa_cons (pv 3) pa_nil))))) pa_nil)))))
    (pss_one (ps_ret (pv 1)))), ?_⟩
  obtain ⟨y, rfl, k⟩ := h
  refine q_asgL (el_lst (vs := []) ea_nil (by decide)) fun l H1 hl e1 h1 => ?_
  refine q_forR2 (lo := 1) (n := 13) (ea_cons ev_c (ea_cons (ev_add (ev_len ev_c (.inr tL.sq)) ev_c rfl) ea_nil)) (by decide)
    (fun i σ H' => Ex H H' ∧ ∃ (o1 o2 : Option V) (ps : List Addr), σ = [some (nv y), some (.ref l), o1, o2] ∧ H' l = some (.lst (ps.map V.ref)) ∧ ObjsAt H' dayV ps (daysTo y i) ∧ ∀ a ∈ ps, a ≠ l) (fun H2 e2 => ⟨e1.trans e2, none, none, [], rfl, e2 l _ h1, trivial, fun a h => by simp at h⟩)
    (fun i σ H' hi ⟨e, o1, o2, ps, hσ, hl', hps, hne⟩ => ?_) (fun σ H' ⟨e, o1, o2, ps, hσ, hl', hps, hne⟩ => ?_)
  · subst hσ
    have hi12 : i < 12 := by omega
    have hb := monthLong_pos y (i + 1)
    have hlen := hps.len
    rw [daysTo_len] at hlen
    have hm := msum_mono y (a := i) (b := 12) (by omega)
    rw [msum12] at hm
    refine s_extN (xs := ps.map V.ref) (n := monthLong y (i + 1)) (o := fun d => dayV ⟨y, i + 1, d + 1⟩) hl' (ev_var rfl) ?_ ?_ fun qs H2 e2 hq ho => ?_
    · refine en_is (n := ((monthLong y (i + 1) : Int) + 1 - 1).toNat) (el_lcN (it := fun d => nv (d + 1)) (walk_range (lo := 1) (n := ((monthLong y (i + 1) : Int) + 1 - 1).toNat))
        (fun i H x H' hi y => ?_) (fun _ _ => trivial) (fun d => dayV ⟨y, i + 1, d + 1⟩) (ei_rng2 (ea_cons ev_c (ea_cons (ev_add (ev_c1 (ea_cons (ev_var rfl) (ea_cons (ev_is (ev_var (i := 2) (v := V.int (1 + (i : Int))) rfl) (show V.int (1 + (i : Int)) = nv (i + 1) from congrArg V.int (by omega))) ea_nil)) (sv_monthLength (y := y) (m := i + 1) (by omega) (by omega))) ev_c rfl) ea_nil)) (by omega)) (by omega) (fun d H1 e1 hd => ?_)) (by omega)
      · obtain ⟨rfl, rfl⟩ := y
        exact ⟨rfl, congrArg V.int (by omega)⟩
      · exact eu_tup (vs := [nv y, nv (i + 1), nv (d + 1)]) (ea_cons (ev_var rfl) (ea_cons (ev_is (ev_var (i := 2) (v := V.int (1 + (i : Int))) rfl) (show V.int (1 + (i : Int)) = nv (i + 1) from congrArg V.int (by omega))) (ea_cons (ev_var rfl) ea_nil))) (by show 3 ≤ 100000; decide)
    · rw [List.length_map]
      split at hm <;> omega
    · have hnew : ∀ a ∈ qs, a ≠ l := fun a ha z => by
        obtain ⟨j, hj⟩ := List.getElem?_of_mem ha
        have := ho j a hj
        rw [z, e2 l _ hl'] at this
        cases this
      refine ⟨(e.trans e2).mut hl, some (.int (1 + (i : Int))), o2, ps ++ qs, rfl, ?_, ?_, fun a ha => (List.mem_append.mp ha).elim (hne a) (hnew a)⟩
      · rw [List.map_append]
        exact upd_same
      · rw [daysTo_succ]
        have st : ∀ {as : List Addr} {ds : List Day}, (∀ a ∈ as, a ≠ l) → ObjsAt H2 dayV as ds → ObjsAt (upd H2 l (.lst (ps.map V.ref ++ qs.map V.ref))) dayV as ds := fun {as ds} hn h => ObjsAt.of h.len fun j a d h1 h2 => by
          rw [upd_ne (hn a (List.mem_of_getElem? h1))]
          obtain ⟨b, hb, hh⟩ := h.get h1
          rw [h2] at hb
          cases hb
          exact hh
        refine (st hne (hps.mono e2)).app (st hnew (ObjsAt.of ?_ fun j a d h1 h2 => ?_))
        · rw [hq]
          unfold monthDays
          rw [List.length_map, List.length_range]
        · rw [ho j a h1]
          unfold monthDays at h2
          rw [List.getElem?_map] at h2
          by_cases hj : j < monthLong y (i + 1)
          · rw [List.getElem?_range hj] at h2
            cases h2
            rfl
          · rw [List.getElem?_eq_none (by rw [List.length_range]; omega)] at h2
            cases h2
  · subst hσ
    exact s_ret (ev_var rfl) fun H2 e2 => k l ps H2 hl (e.trans e2) (e2 l _ hl') (hps.mono e2)
end
end Wd
namespace Wd
open PySem PySem.Spec PyProof.Rows L2 Evl
open Ut08 (Num isDigit digits padded valueOf rounded grouped trimmed numText)

/-! the object -/
def amtF (f : Num) : List (Str × V) := [("threes", nv (thr f.group)), ("point", nv f.point), ("least", nv f.least), ("most", nv f.most), ("ahead", nv f.lead), ("minus", nv f.minus)]
def AmtAt (C : Addr) (H : Hp) (a : Addr) (f : Num) : Prop := ∃ dx, H a = some (.ins C dx (amtF f))
theorem AmtAt.mono {C a : Addr} {H H' : Hp} {f : Num} (e : Ex H H') (h : AmtAt C H a f) : AmtAt C H' a f := by
  obtain ⟨dx, h⟩ := h
  exact ⟨dx, e a _ h⟩
structure AmtC (K : PySem.W.Frag) (C : Addr) : Prop where
  cl : Cls K C
  nThrees : NoAttr K C "threes"
  nPoint : NoAttr K C "point"
  nLeast : NoAttr K C "least"
  nMost : NoAttr K C "most"
  nAhead : NoAttr K C "ahead"
  nMinus : NoAttr K C "minus"
theorem upd_self {H : Hp} {p : Addr} {o : HO} (h : H p = some o) : upd H p o = H := by
  funext b
  unfold upd
  split
  · rename_i e
    rw [e, h]
  · rfl
/-- self.f = name, in an __init__ -/
theorem q_fldv {K : PySem.W.Frag} {σ : L2.St} {H : Hp} {D : Ends} {p C dx : Addr} {fs : List (Str × V)} {i j : Nat} {v : V} {f : Str} {tz : TS} (h0 : σ[i]? = some (some (.ref p))) (h1 : σ[j]? = some (some v)) (c : Cls K C) (n : NoAttr K C f) (hl : fs.length < 1000)
    (k : tz D σ (upd H p (.ins C dx (putF f v fs)))) : tSeq (sFld K (tVar i) (tVar j) f) tz D σ (upd H p (.ins C dx fs)) :=
  ⟨v, h1, .ref p, h0, p, C, dx, fs, rfl, upd_same, c, n, hl, by rw [upd_upd]; exact k⟩
theorem s_fldv {K : PySem.W.Frag} {σ : L2.St} {H : Hp} {D : Ends} {p C dx : Addr} {fs : List (Str × V)} {i j : Nat} {v : V} {f : Str} (h0 : σ[i]? = some (some (.ref p))) (h1 : σ[j]? = some (some v)) (c : Cls K C) (n : NoAttr K C f) (hl : fs.length < 1000)
    (k : D.nx σ (upd H p (.ins C dx (putF f v fs)))) : sFld K (tVar i) (tVar j) f D σ (upd H p (.ins C dx fs)) :=
  ⟨v, h1, .ref p, h0, p, C, dx, fs, rfl, upd_same, c, n, hl, by rw [upd_upd]; exact k⟩
/-- a new object of a class: its __init__ puts just these fields -/
def spInit (C : Addr) (args : List V) (fs : List (Str × V)) : List V → Hp → VK → Prop := fun vs H Q => ∃ p dx, vs = .ref p :: args ∧ H p = some (.ins C dx []) ∧ Q .non (upd H p (.ins C dx fs))
/-- a new instance -/
def EvK (te : TE) (σ : L2.St) (H : Hp) (C : Addr) (fs : List (Str × V)) : Prop := ∀ H1, Ex H H1 → ∀ Q : VK, (∀ p dx H2, H1 p = none → Ex H1 H2 → H2 p = some (.ins C dx fs) → Q (.ref p) H2) → te σ H1 Q
theorem ek_make {C : Addr} {sp : Sp} {E : XK} {tr : TA} {vs : List V} {fs : List (Str × V)} {σ : L2.St} {H : Hp} (ha : EvA tr σ H vs) (hs : ∀ H1 Q, Ex H H1 → ∀ p dx, (upd (upd H1 dx (.own p)) p (.ins C dx [])) p = some (.ins C dx []) → Q .non (upd (upd (upd H1 dx (.own p)) p (.ins C dx [])) p (.ins C dx fs)) → sp (.ref p :: vs) (upd (upd H1 dx (.own p)) p (.ins C dx [])) Q E) :
    EvK (tMake C sp [] E tr) σ H C fs := fun H1 e Q q => ha H1 e _ fun H2 e2 x dx nx nd ne => by
  rw [List.append_nil]
  refine hs H2 _ (e.trans e2) x dx upd_same ⟨rfl, ?_⟩
  rw [upd_upd]
  exact q x dx _ (fresh_back e2 nx) (e2.trans ((Ex.new nd).mut (H := H2) nx)) upd_same

def spAmtInit (C : Addr) : Sp := fun vs H Q _ => ∃ f : Num, spInit C [nv (thr f.group), nv f.point, nv f.least, nv f.most, nv f.lead, nv f.minus] (amtF f) vs H Q
def spRounded (C : Addr) : Sp := fun vs H Q _ => ∃ (a : Addr) (f : Num) (n : Nat), vs = [.ref a, nv n] ∧ AmtAt C H a f ∧ NumGood f ∧ RetV (nv (rounded n f.most)) H Q
def spGrouped (C : Addr) : Sp := fun vs H Q _ => ∃ (a p : Addr) (f : Num) (ns : List Nat), vs = [.ref a, .ref p] ∧ AmtAt C H a f ∧ NumGood f ∧ H p = some (.lst (nl ns)) ∧ ns.length ≤ 100 ∧ RetL (nl (grouped f.group ns)) H Q
def spFraction (C : Addr) : Sp := fun vs H Q _ => ∃ (a : Addr) (f : Num) (n : Nat), vs = [.ref a, nv n] ∧ AmtAt C H a f ∧ NumGood f ∧ n < 10 ^ f.most ∧ RetL (nl (trimmed f.least (padded f.most (if f.most = 0 then [] else digits n)))) H Q
def spAWritten (C : Addr) : Sp := fun vs H Q _ => ∃ (a : Addr) (f : Num) (b : Bool) (n : Nat), vs = [.ref a, .bl b, nv n] ∧ AmtAt C H a f ∧ NumGood f ∧ n < 2 * 10 ^ 18 ∧ RetL (nl (numText f b n)) H Q
theorem sv_rounded {C a : Addr} {H : Hp} {f : Num} {n : Nat} (h : AmtAt C H a f) (g : NumGood f) : SpV (spRounded C) [.ref a, nv n] H (nv (rounded n f.most)) := fun H1 e Q q _ => ⟨a, f, n, rfl, h.mono e, g, q⟩
theorem sl_grouped {C a p : Addr} {H : Hp} {f : Num} {ns : List Nat} (h : AmtAt C H a f) (g : NumGood f) (hp : H p = some (.lst (nl ns))) (hl : ns.length ≤ 100) : SpL (spGrouped C) [.ref a, .ref p] H (nl (grouped f.group ns)) := fun H1 e Q q _ => ⟨a, p, f, ns, rfl, h.mono e, g, e p _ hp, hl, q⟩
theorem sl_fraction {C a : Addr} {H : Hp} {f : Num} {n : Nat} (h : AmtAt C H a f) (g : NumGood f) (hn : n < 10 ^ f.most) : SpL (spFraction C) [.ref a, nv n] H (nl (trimmed f.least (padded f.most (if f.most = 0 then [] else digits n)))) := fun H1 e Q q _ => ⟨a, f, n, rfl, h.mono e, g, hn, q⟩
theorem sl_awritten {C a : Addr} {H : Hp} {f : Num} {b : Bool} {n : Nat} (h : AmtAt C H a f) (g : NumGood f) (hn : n < 2 * 10 ^ 18) : SpL (spAWritten C) [.ref a, .bl b, nv n] H (nl (numText f b n)) := fun H1 e Q q _ => ⟨a, f, b, n, rfl, h.mono e, g, hn, q⟩

abbrev sAmtInit : Stmt := inClass (topS 11) 0
abbrev sRounded : Stmt := inClass (topS 11) 1
abbrev sGrouped : Stmt := inClass (topS 11) 2
abbrev sFraction : Stmt := inClass (topS 11) 3
abbrev sAWritten : Stmt := inClass (topS 11) 4
theorem scAmtInit : FnScope ["self", "threes", "point", "least", "most", "ahead", "minus"] ["self", "threes", "point", "least", "most", "ahead", "minus"] (defScope sAmtInit) := ⟨rfl, rfl, rfl, by decide +kernel, rfl, by decide +kernel, by decide +kernel⟩
theorem scRounded : FnScope ["self", "millionths", "unit", "found", "rest"] ["self", "millionths"] (defScope sRounded) := ⟨rfl, rfl, rfl, by decide +kernel, rfl, by decide +kernel, by decide +kernel⟩
theorem scGrouped : FnScope ["self", "digits", "found", "k", "byte"] ["self", "digits"] (defScope sGrouped) := ⟨rfl, rfl, rfl, by decide +kernel, rfl, by decide +kernel, by decide +kernel⟩
theorem scFraction : FnScope ["self", "number", "found"] ["self", "number"] (defScope sFraction) := ⟨rfl, rfl, rfl, by decide +kernel, rfl, by decide +kernel, by decide +kernel⟩
theorem scAWritten : FnScope ["self", "is_below", "millionths", "number", "whole", "part", "found", "fraction"] ["self", "is_below", "millionths"] (defScope sAWritten) := ⟨rfl, rfl, rfl, by decide +kernel, rfl, by decide +kernel, by decide +kernel⟩
/-- a for over enumerate(xs) -/
theorem q_forE {K : PySem.W.Frag} {σ : L2.St} {H : Hp} {D : Ends} {a : Addr} {xs : List V} {ta : TA} {i j : Nat} {tu tz : TS} (h : EvA ta σ H [.ref a]) (hx : SqL K H a xs) (Pv : Nat → L2.St → Hp → Prop) (h0 : ∀ H1, Ex H H1 → Pv 0 σ H1) (hG : ∀ n σ' H', n ≤ xs.length → Pv n σ' H' → SqL K H' a xs)
    (hs : ∀ (n : Nat) x σ' H' H'', xs[n]? = some x → Pv n σ' H' → Ex H' H'' → tu { D with nx := Pv (n + 1), ct := Pv (n + 1), bk := tz D } ((σ'.set i (some (nv n))).set j (some x)) H'') (hd : ∀ σ' H', Pv xs.length σ' H' → tz D σ' H') :
    tSeq (tFor (iEnum K ta) (gTup K 2 (gCons (gName i) (gCons (gName j) gNil))) tu) tz D σ H := h H (Ex.refl H) _ fun H1 e1 => ⟨a, xs, rfl, ex_l e1 hx, for_it (D := { D with nx := tz D }) (walk_enum (K := K) (a := a) (xs := xs)) Pv (h0 H1 e1) hG
    (fun n x σ' H' H'' hn p y => by
      obtain ⟨T, u, v, rfl, hT, rfl, hu, hv⟩ := y
      cases hu
      exact ⟨T, _, rfl, st_of upd_same, rfl, _, _, rfl, _, _, rfl, rfl, hs n v σ' H' _ hv p (Ex.new hT)⟩) hd⟩
section
variable {P : Program} {w : World} {K : PySem.W.Frag} {mg : Str → Option Value} {base : Heap} {C : Addr}
theorem ok_amtInit {f : Addr} {fd : FuncData} (F : Fun K "__init__" "AmountPattern.__init__" sAmtInit f fd) (T : AmtC K C) : FnOk P w K mg base CX0 1 f fd ["self", "threes", "point", "least", "most", "ahead", "minus"] (spAmtInit C) := by
  refine F.ok scAmtInit (fun vs H Q E h => by obtain ⟨n, p, dx, rfl, _⟩ := h; rfl) (fun cdv A outer s H vs Q E hr h => ?_)
  refine ⟨_, pss_cons (ps_fld (pv 0) (pv 1) rfl) (pss_cons (ps_fld (pv 0) (pv 2) rfl) (pss_cons (ps_fld (pv 0) (pv 3) rfl) (pss_cons (ps_fld (pv 0) (pv 4) rfl) (pss_cons (ps_fld (pv 0) (pv 5) rfl) (pss_one (ps_fld (pv 0) (pv 6) rfl)))))), ?_⟩
  obtain ⟨f, p, dx, rfl, hp, q⟩ := h
  rw [← upd_self hp] at q ⊢
  rw [upd_upd] at q
  exact q_fldv rfl rfl T.cl T.nThrees (by decide) (q_fldv rfl rfl T.cl T.nPoint (by show 1 < 1000; decide) (q_fldv rfl rfl T.cl T.nLeast (by show 2 < 1000; decide) (q_fldv rfl rfl T.cl T.nMost (by show 3 < 1000; decide) (q_fldv rfl rfl T.cl T.nAhead (by show 4 < 1000; decide) (s_fldv rfl rfl T.cl T.nMinus (by show 5 < 1000; decide) q)))))
theorem ok_rounded {f : Addr} {fd : FuncData} (F : Fun K "rounded" "AmountPattern.rounded" sRounded f fd) (G : Gs K mg) (T : AmtC K C) (c1 : Cal P w K mg base CX0 1 "tens" spTens) : FnOk P w K mg base CX0 2 f fd ["self", "millionths"] (spRounded C) := by
  refine F.ok scRounded (fun vs H Q E h => by obtain ⟨a, n, b, rfl, _⟩ := h; rfl) (fun cdv A outer s H vs Q E hr h => ?_)
  refine ⟨_, pss_cons (ps_set (i := 2) scRounded.nd rfl (.inl rfl) (pe_op op_fdiv (pgi G.cMillion) (pe_c c1 hr (by decide) pass0 rfl (pa_cons (pe_fld (pv 0) rfl) pa_nil))))
    (pss_cons (ps_asg (pe_callB call_divmod (by rfl) G.bDivmod (by decide +kernel) (pa_cons (pv 1) (pa_cons (pv 2) pa_nil))) (pg_tup (by rfl) (pgs_cons (pg_name (i := 3) scRounded.nd rfl (.inl rfl)) (pgs_cons (pg_name (i := 4) scRounded.nd rfl (.inl rfl)) pgs_nil))))
    (pss_cons (ps_if (PW.pt (pw_or (pt_cmpR op_gt (pe_op op_mul pe_int (pv 4)) (pv 2) (nomark _)) (pw_or1 (PW.pt (pw_and (pt_cmpR op_eq (pe_op op_mul pe_int (pv 4)) (pv 2) (nomark _)) (pw_and1 (pt_cmpR op_eq (pe_op op_mod (pv 3) pe_int) pe_int (nomark _))))))))
      (pss_one (ps_set (i := 3) scRounded.nd rfl (.inl rfl) (pe_op op_add (pv 3) pe_int))) pss_nil)
    (pss_one (ps_ret (pv 3))))), ?_⟩
  obtain ⟨a, f, n, rfl, ⟨dx, ha⟩, g, k⟩ := h
  have hm := g.m6
  have e6 : 10 ^ 6 = 10 ^ (6 - f.most) * 10 ^ f.most := by rw [← Nat.pow_add]; congr 1; omega
  obtain ⟨u, hu⟩ : ∃ u, u = 10 ^ (6 - f.most) := ⟨_, rfl⟩
  have hd : 0 < u := by rw [hu]; exact Nat.pow_pos (by decide)
  have ht : 0 < 10 ^ f.most := Nat.pow_pos (by decide)
  have hule : u ≤ 10 ^ 6 := by rw [hu]; exact Nat.pow_le_pow_right (by decide) (by omega)
  have htle : 10 ^ f.most ≤ 10 ^ 6 := Nat.pow_le_pow_right (by decide) (by omega)
  refine q_asg (v := nv u) (ev_fdiv (j := ((10 ^ f.most : Nat) : Int)) ev_c (ev_c1 (ea_cons (ev_fld (ev_var rfl) ha T.cl T.nMost rfl) ea_nil) (sv_tens (by omega))) (by omega) ?_) fun H1 e1 => ?_
  · have : (1000000 : Nat) / 10 ^ f.most = u := by
      rw [show (1000000 : Nat) = 10 ^ 6 by decide, e6, hu, Nat.mul_div_cancel _ ht]
    rw [← this]
    simp
  refine q_asg2 (a := nv (n / u)) (b := nv (n % u)) ?_ fun H2 e2 => ?_
  · exact fun H1 e Q q => ⟨_, rfl, _, rfl, _, _, rfl, ⟨by omega, by omega⟩, fun p hp => q p _ hp (Ex.new hp) (by rw [upd_same]; simp)⟩
  have hr' := rounded_prog n f.most
  rw [← hu] at hr'
  refine q_ifAsg (v := nv (rounded n f.most)) (b := decide (u < 2 * (n % u)) || (decide (2 * (n % u) = u) && decide (n / u % 2 = 1))) (et_or (et_test (ev_cI (ev_mulL ev_c (ev_var rfl) (by decide) rfl) (ev_var rfl) (decide_eq_decide.mpr (by omega)))) fun _ => et_and (et_test (ev_eqI (ev_mulL ev_c (ev_var rfl) (by decide) rfl) (ev_var rfl) (decide_eq_decide.mpr (by omega)))) fun _ => et_test (ev_eqI (ev_mod (m := ((n / u % 2 : Nat) : Int)) (ev_var rfl) ev_c (by decide) (by omega)) ev_c (decide_eq_decide.mpr (by omega))))
    (fun hb => ev_add (ev_var rfl) ev_c ?_) (fun hb => ?_) fun H3 e3 => ?_
  · rw [hr', if_pos (by simpa using hb)]
    rfl
  · rw [hr', if_neg (by
      have : ¬ (u < 2 * (n % u) ∨ 2 * (n % u) = u ∧ n / u % 2 = 1) := by
        rw [← Bool.not_eq_true] at hb
        simpa using hb
      exact this)]
    rfl
  · exact s_ret (ev_var rfl) fun H4 e4 => k H4 (((e1.trans e2).trans e3).trans e4)
theorem ok_grouped {f : Addr} {fd : FuncData} (F : Fun K "grouped" "AmountPattern.grouped" sGrouped f fd) (G : Gs K mg) (T : AmtC K C) : FnOk P w K mg base CX0 1 f fd ["self", "digits"] (spGrouped C) := by
  refine F.ok scGrouped (fun vs H Q E h => by obtain ⟨a, n, b, c, rfl, _⟩ := h; rfl) (fun cdv A outer s H vs Q E hr h => ?_)
  refine ⟨_, pss_cons (ps_set (i := 2) scGrouped.nd rfl (.inl rfl) (pe_lst pa_nil))
    (pss_cons (ps_for PassesOwn.never rfl (pi_enum (by rfl) G.bEnumerate (pa_cons (pv 1) pa_nil)) (pg_tup (by rfl) (pgs_cons (pg_name (i := 3) scGrouped.nd rfl (.inl rfl)) (pgs_cons (pg_name (i := 4) scGrouped.nd rfl (.inl rfl)) pgs_nil)))
      (pss_cons (ps_if (PW.pt (pw_and (pt_cmpR op_gt (pv 3) pe_int (nomark _)) (pw_and (pt_cmpR op_eq (pe_op op_mod (pe_op op_sub (pe_callB call_len_seq (by rfl) G.bLen PySem.boot_len (pa_cons (pv 1) pa_nil)) (pv 3)) pe_int) pe_int (nomark _)) (pw_and1 (pt_cmpR op_ne (pe_fld (pv 0) rfl) (pgi G.cNoSign) (nomark _))))))
        (pss_one (ps_expr (pe_bm PySem.F.plainAttrs_list PySem.F.slot_list_append PySem.F.type_list_append mt_append (pv 2) (pa_cons (pe_fld (pv 0) rfl) pa_nil)))) pss_nil)
      (pss_one (ps_expr (pe_bm PySem.F.plainAttrs_list PySem.F.slot_list_append PySem.F.type_list_append mt_append (pv 2) (pa_cons (pv 4) pa_nil))))))
    (pss_one (ps_ret (pv 2)))), ?_⟩
  obtain ⟨a, p, f, ns, rfl, ⟨dx, ha⟩, g, hp, hl, k⟩ := h
  refine q_asgL (el_lst (vs := []) ea_nil (by decide)) fun l H1 hl1 e1 h1 => ?_
  refine q_forE (a := p) (xs := nl ns) (ea_cons (ev_var rfl) ea_nil) (sq_of (e1 p _ hp)) (fun i σ H' => Ex H H' ∧ ∃ o1 o2 : Option V, σ = [some (.ref a), some (.ref p), some (.ref l), o1, o2] ∧ H' l = some (.lst (nl (groupTo f.group ns i)))) (fun H2 e2 => ⟨e1.trans e2, none, none, rfl, e2 l _ h1⟩) (fun i σ H' _ ⟨e, _⟩ => sq_of (e p _ hp))
    (fun i x σ H' H2 hx ⟨e, o1, o2, hσ, hl'⟩ e2 => ?_) (fun σ H' ⟨e, o1, o2, hσ, hl'⟩ => ?_)
  · subst hσ
    obtain ⟨c, hc, rfl⟩ := nl_get hx
    have hi := (List.getElem?_eq_some_iff.mp hc).1
    have hlg := groupTo_len f.group ns i
    have hne : p ≠ l := ne_of_none hp hl1
    refine q_when (b := decide (0 < i) && (decide ((ns.length - i) % 3 = 0) && decide (thr f.group ≠ 256))) (et_and (et_test (ev_cI (ev_var rfl) ev_c (decide_eq_decide.mpr (by omega)))) fun _ => et_and (et_test (ev_eqI (ev_mod (m := (((ns.length - i) % 3 : Nat) : Int)) (ev_sub (ev_lenN (er_v (ev_var rfl) (e2 p _ (e p _ hp)))) (ev_var rfl) rfl) ev_c (by decide) (by omega)) ev_c (decide_eq_decide.mpr (by omega)))) fun _ => et_test (ev_neI (ev_fld (ev_var rfl) (e2 a _ (e a _ ha)) T.cl T.nThrees rfl) ev_c (decide_eq_decide.mpr (by omega))))
      (fun hb H3 e3 => ?_) (fun hb H3 e3 => ?_)
    · have hb : 0 < i ∧ (ns.length - i) % 3 = 0 ∧ thr f.group ≠ 256 := by simpa using hb
      refine s_app (xs := nl (groupTo f.group ns i)) (v := nv (thr f.group)) (e3 l _ (e2 l _ hl')) (ev_var rfl) (ev_fld (ev_var rfl) (e3 a _ (e2 a _ (e a _ ha))) T.cl T.nThrees rfl) (by rw [nl_len]; omega) fun H4 e4 => ?_
      refine s_app (xs := nl (groupTo f.group ns i) ++ [nv (thr f.group)]) (v := nv c) upd_same (ev_var rfl) (ev_var rfl) (by rw [List.length_append, nl_len]; simp; omega) fun H5 e5 => ?_
      refine ⟨(((e.trans e2).trans e3).trans e4).mut hl1 |>.trans e5 |>.mut hl1, _, _, rfl, ?_⟩
      rw [groupTo_succ hc, upd_same]
      unfold gstep
      rw [if_pos hb, nl_app, List.append_assoc]
      rfl
    · have hb : ¬ (0 < i ∧ (ns.length - i) % 3 = 0 ∧ thr f.group ≠ 256) := by
        rw [← Bool.not_eq_true] at hb
        simpa using hb
      refine s_app (xs := nl (groupTo f.group ns i)) (v := nv c) (e3 l _ (e2 l _ hl')) (ev_var rfl) (ev_var rfl) (by rw [nl_len]; omega) fun H4 e4 => ?_
      refine ⟨(((e.trans e2).trans e3).trans e4).mut hl1, _, _, rfl, ?_⟩
      rw [groupTo_succ hc, upd_same]
      unfold gstep
      rw [if_neg hb, nl_app]
      rfl
  · subst hσ
    rw [nl_len, groupTo_all (fun c hc => by have := g.gb c hc; omega)] at hl'
    exact s_ret (ev_var rfl) fun H2 e2 => k l H2 hl1 (e.trans e2) (e2 l _ hl')
theorem ok_fraction {f : Addr} {fd : FuncData} (F : Fun K "fraction" "AmountPattern.fraction" sFraction f fd) (G : Gs K mg) (T : AmtC K C) (c1 : Cal P w K mg base CX0 1 "digits_of" spDigitsOf) : FnOk P w K mg base CX0 2 f fd ["self", "number"] (spFraction C) := by
  refine F.ok scFraction (fun vs H Q E h => by obtain ⟨a, n, b, rfl, _⟩ := h; rfl) (fun cdv A outer s H vs Q E hr h => ?_)
  refine ⟨_, pss_cons (ps_set (i := 2) scFraction.nd rfl (.inl rfl) (pe_slice sl_list (pe_c c1 hr (by decide) pass0 rfl (pa_cons (pv 1) (pa_cons (pe_fld (pv 0) rfl) pa_nil))) po_none (po_some (pe_fld (pv 0) rfl))))
    (pss_cons (ps_while PassesOwn.never (PW.pt (pw_and (pt_cmpR op_gt (pe_callB call_len_seq (by rfl) G.bLen PySem.boot_len (pa_cons (pv 2) pa_nil)) (pe_fld (pv 0) rfl) (nomark _)) (pw_and1 (pt_cmpR op_eq (pe_ix ix_list (pv 2) (pe_un un_neg pe_int) (fun _ _ => rfl)) (pgi G.cNought) (nomark _)))))
      (pss_one (ps_set (i := 2) scFraction.nd rfl (.inl rfl) (pe_slice sl_list (pv 2) po_none (po_some (pe_un un_neg pe_int))))))
    (pss_one (ps_ret (pv 2)))), ?_⟩
  obtain ⟨a, f, n, rfl, ⟨dx, ha⟩, g, hn, k⟩ := h
  have hm := g.m6
  have hn19 : n < 10 ^ 19 := Nat.lt_of_lt_of_le hn (Nat.pow_le_pow_right (by decide) (by omega))
  obtain ⟨ds, hds⟩ : ∃ ds, ds = padded f.most (if f.most = 0 then [] else digits n) := ⟨_, rfl⟩
  have hlen : ds.length = f.most := by
    rw [hds]
    by_cases h0 : f.most = 0
    · rw [if_pos h0, h0]; rfl
    · rw [if_neg h0]
      exact padded_length (digits_len (by omega) hn)
  have hcut : (padded f.most (digits n)).take f.most = ds := by
    rw [hds]
    by_cases h0 : f.most = 0
    · rw [if_pos h0, h0]; rfl
    · rw [if_neg h0, List.take_of_length_le]
      rw [padded_length (digits_len (by omega) hn)]
      exact Nat.le_refl _
  rw [← hds] at k
  have hk := keepLen_le ds
  have hlm := g.lm
  refine q_asgL (xs := nl ds) (el_is (er_slice (er_l (el_c1 (ea_cons (ev_var rfl) (ea_cons (ev_fld (ev_var rfl) ha T.cl T.nMost rfl) ea_nil)) (sl_digitsOf hn19 (by omega)))) eo_none (eo_some (ev_fld (ev_var rfl) ha T.cl T.nMost rfl))) (by rw [cut_hi, hcut])) fun l H1 hl1 e1 h1 => ?_
  refine q_while (fun m σ H' => Ex H H' ∧ ∃ q : Addr, σ = [some (.ref a), some (nv n), some (.ref q)] ∧ H q = none ∧ H' q = some (.lst (nl (ds.take m))) ∧ max f.least (keepLen ds) ≤ m ∧ m ≤ ds.length) ds.length ⟨e1, l, rfl, hl1, by rw [List.take_length]; exact h1, by omega, Nat.le_refl _⟩ fun m σ H' ⟨e, q, hσ, hq, h2, h3, h4⟩ => ?_
  subst hσ
  have ltk : (ds.take m).length = m := by rw [List.length_take]; omega
  by_cases hlt : f.least < m
  · have hgl : (ds.take m)[(ds.take m).length - 1]? = some (ds.getD (m - 1) 0) := by
      rw [ltk, List.getElem?_take_of_lt (by omega), List.getD_eq_getElem?_getD, List.getElem?_eq_getElem (by omega)]
      rfl
    have hge : ds[m - 1]? = some (ds.getD (m - 1) 0) := by
      rw [List.getD_eq_getElem?_getD, List.getElem?_eq_getElem (by omega)]
      rfl
    refine ⟨decide (f.least < m) && decide (ds.getD (m - 1) 0 = 48), et_and (et_test (ev_cI (ev_lenN (er_v (ev_var rfl) h2)) (ev_fld (ev_var rfl) (e a _ ha) T.cl T.nLeast rfl) (decide_eq_decide.mpr (by rw [ltk]; omega)))) fun _ => et_test (ev_eqI (ev_op (ev_var rfl) (ev_un ev_c ru_neg) (rv_ixL (sq_of h2) (at_last hgl))) ev_c (decide_eq_decide.mpr (by omega))), fun hb H2 e2 => ?_, fun hb H2 e2 => ?_⟩
    · have hb : f.least < m ∧ ds.getD (m - 1) 0 = 48 := by simpa using hb
      refine ⟨fun σ2 H2 => ∃ m', m' < m ∧ Ex H H2 ∧ ∃ q : Addr, σ2 = [some (.ref a), some (nv n), some (.ref q)] ∧ H q = none ∧ H2 q = some (.lst (nl (ds.take m'))) ∧ max f.least (keepLen ds) ≤ m' ∧ m' ≤ ds.length, fun _ _ h => h, ?_⟩
      refine s_asgL (xs := nl (ds.take (m - 1))) (el_is (er_slice (er_v (ev_var rfl) (e2 q _ h2)) eo_none (eo_some (ev_un ev_c ru_neg))) ?_) fun q2 H3 hq2 e3 h3' => ⟨m - 1, by omega, (e.trans e2).trans e3, q2, rfl, fresh_back (e.trans e2) hq2, h3', trim_turn h3 h4 hb.1 (by rw [hge, hb.2]), by omega⟩
      rw [cut_last, ltk, List.take_take]
      congr 2
      omega
    · have hb : ¬ (f.least < m ∧ ds[m - 1]? = some 48) := fun ⟨z1, z2⟩ => by
        rw [hge] at z2
        have : ds.getD (m - 1) 0 = 48 := Option.some.inj z2
        rw [decide_eq_true z1, decide_eq_true this] at hb
        cases hb
      have ed := trim_end h3 h4 hb
      rw [ed] at h2
      exact s_ret (ev_var rfl) fun H3 e3 => k q H3 hq ((e.trans e2).trans e3) (e3 q _ (e2 q _ h2))
  · refine ⟨false, et_is (et_and (b := false) (et_test (ev_cI (p := false) (ev_lenN (er_v (ev_var rfl) h2)) (ev_fld (ev_var rfl) (e a _ ha) T.cl T.nLeast rfl) (decide_eq_false (by rw [ltk]; omega)))) fun z => (by cases z)) rfl, fun hb => (by cases hb), fun hb H2 e2 => ?_⟩
    have ed := trim_end h3 h4 (fun z => hlt z.1)
    rw [ed] at h2
    exact s_ret (ev_var rfl) fun H3 e3 => k q H3 hq ((e.trans e2).trans e3) (e3 q _ (e2 q _ h2))
end
end Wd
namespace Wd
open PySem PySem.Spec PyProof.Rows L2 Evl
open Ut08 (Num isDigit digits padded valueOf rounded grouped trimmed numText numRead)

/-- a slot holds a list, the same or a new one -/
abbrev sARead : Stmt := inClass (topS 11) 5
theorem scARead : FnScope ["self", "row", "is_below", "rest", "place", "ahead", "fraction", "millionths", "byte"] ["self", "row"] (defScope sARead) := ⟨rfl, rfl, rfl, by decide +kernel, rfl, by decide +kernel, by decide +kernel⟩
/-- None, or a tuple (whether below 0, millionths) -/
def spARead (C : Addr) : Sp := fun vs H Q _ => ∃ (a p : Addr) (f : Num) (ns : List Nat), vs = [.ref a, .ref p] ∧ AmtAt C H a f ∧ NumGood f ∧ H p = some (.lst (nl ns)) ∧ ns.length ≤ 100 ∧
  (numRead f ns = none → RetV .non H Q) ∧ (∀ b n, numRead f ns = some (b, n) → RetU [.bl b, nv n] H Q)
section
variable {K : PySem.W.Frag} {σ : L2.St} {H H' : Hp} {ta tb tc te tx : TE} {t u : TT} {x y z v : V} {D : Ends}
/-- a test on a truth value that a slot holds -/
theorem et_val {b : Bool} (h : Ev te σ H (.bl b)) : EvT (tB te) σ H b := et_B h
theorem el_lcR {vs : List Nat} {j : Nat} {ns : List Nat} (p : Nat → Bool) (g : Nat → V) (h : EvR te σ H (nl ns)) (hn : ns.length ≤ 40000)
    (ht : ∀ (i c : Nat) H1, Ex H H1 → ns[i]? = some c → EvT t ((wipe σ vs).set j (some (nv c))) H1 (p c)) (he : ∀ (i c : Nat) H1, Ex H H1 → ns[i]? = some c → p c = true → Ev tx ((wipe σ vs).set j (some (nv c))) H1 (g c))
    (hw : ∀ x, wipe ((wipe σ vs).set j (some x)) vs = wipe σ vs := by intro _; rfl) :
    EvL (tLc (iList K te) (gName j) t tx vs) σ H ((ns.filter p).map g) := fun H1 e Q q => h H1 e _ fun a H2 e2 h2 =>
  (el_lcNs (te := tC (.ref a)) (K := K) p g ev_c h2 hn (fun i c H3 e3 hc => ht i c H3 ((e.trans e2).trans e3) hc) (fun i c H3 e3 hc hp => he i c H3 ((e.trans e2).trans e3) hc hp) hw) H2 (Ex.refl H2) Q fun p H3 hp e3 h3 => q p H3 (fresh_back e2 hp) (e2.trans e3) h3
theorem place_in {c : Nat} : ∀ {l : List Nat}, c ∈ l → l[(l.takeWhile fun x => x != c).length]? = some c ∧ ∀ m z, m < (l.takeWhile fun x => x != c).length → l[m]? = some z → z ≠ c
  | [], h => by simp at h
  | a :: l, h => by
    by_cases e : a = c
    · subst e
      simp
    · have hm : c ∈ l := (List.mem_cons.mp h).resolve_left (Ne.symm e)
      obtain ⟨h1, h2⟩ := place_in hm
      have e' : (a != c) = true := by simpa using e
      rw [List.takeWhile_cons, if_pos e', List.length_cons]
      refine ⟨by simpa using h1, fun m z hm hz => ?_⟩
      cases m with
      | zero =>
        have : a = z := by simpa using hz
        rw [← this]
        exact e
      | succ m => exact h2 m z (by omega) (by simpa using hz)
theorem take_takeWhile (l : List Nat) (p : Nat → Bool) : l.take (l.takeWhile p).length = l.takeWhile p := by
  have h := List.takeWhile_prefix p (l := l)
  exact (List.prefix_iff_eq_take.mp h).symm
theorem head_take (ns : List Nat) (c : Nat) : decide (ns.take 1 = [c]) = (ns.head? == some c) := by
  cases ns with
  | nil => rfl
  | cons n r =>
    show decide ([n] = [c]) = (some n == some c)
    by_cases e : n = c
    · subst e
      simp
    · rw [decide_eq_false (by simpa using e)]
      have : (some n == some c) = (n == c) := rfl
      rw [this, beq_eq_false_iff_ne.mpr e]
end
section
variable {P : Program} {w : World} {K : PySem.W.Frag} {mg : Str → Option Value} {base : Heap} {C : Addr}
theorem ok_awritten {f : Addr} {fd : FuncData} (F : Fun K "written" "AmountPattern.written" sAWritten f fd) (G : Gs K mg) (T : AmtC K C) (c1 : Cal P w K mg base CX0 1 "tens" spTens) (c2 : Cal P w K mg base CX0 1 "digits_of" spDigitsOf)
    (m1 : Met P w K mg base CX0 2 C "rounded" (spRounded C)) (m2 : Met P w K mg base CX0 1 C "grouped" (spGrouped C)) (m3 : Met P w K mg base CX0 2 C "fraction" (spFraction C)) : FnOk P w K mg base CX0 3 f fd ["self", "is_below", "millionths"] (spAWritten C) := by
  refine F.ok scAWritten (fun vs H Q E h => by obtain ⟨a, n, b, c, rfl, _⟩ := h; rfl) (fun cdv A outer s H vs Q E hr h => ?_)
  refine ⟨_, pss_cons (ps_set (i := 3) scAWritten.nd rfl (.inl rfl) (pe_mt m1 hr (by decide) pass0 (pv 0) (pa_cons (pv 2) pa_nil)))
    (pss_cons (ps_asg (pe_callB call_divmod (by rfl) G.bDivmod (by decide +kernel) (pa_cons (pv 3) (pa_cons (pe_c c1 hr (by decide) pass0 rfl (pa_cons (pe_fld (pv 0) rfl) pa_nil)) pa_nil))) (pg_tup (by rfl) (pgs_cons (pg_name (i := 4) scAWritten.nd rfl (.inl rfl)) (pgs_cons (pg_name (i := 5) scAWritten.nd rfl (.inl rfl)) pgs_nil))))
    (pss_cons (ps_set (i := 6) scAWritten.nd rfl (.inl rfl) (pe_mt m2 hr (by decide) pass0 (pv 0) (pa_cons (pe_c c2 hr (by decide) pass0 rfl (pa_cons (pv 4) (pa_cons (pe_fld (pv 0) rfl) pa_nil))) pa_nil)))
    (pss_cons (ps_set (i := 7) scAWritten.nd rfl (.inl rfl) (pe_mt m3 hr (by decide) pass0 (pv 0) (pa_cons (pv 5) pa_nil)))
    (pss_cons (ps_if (pt_cmpR (op_neD hr.units) (pv 7) (pe_lst pa_nil) (nomark _)) (pss_one (ps_set (i := 6) scAWritten.nd rfl (.inl rfl) (pe_op op_cat (pe_op op_cat (pv 6) (pe_lst (pa_cons (pe_fld (pv 0) rfl) pa_nil))) (pv 7)))) pss_nil)
    (pss_cons (ps_if (PW.pt (pw_and (pt_val (pv 1)) (pw_and1 (pt_cmpR op_ne (pv 3) pe_int (nomark _))))) (pss_one (ps_set (i := 6) scAWritten.nd rfl (.inl rfl) (pe_op op_cat (pe_lst (pa_cons (pe_fld (pv 0) rfl) pa_nil)) (pv 6)))) pss_nil)
    (pss_one (ps_ret (pv 6)))))))), ?_⟩
  obtain ⟨a, f, b, n, rfl, ⟨dx, ha⟩, g, hn, k⟩ := h
  have hm := g.m6
  have hl6 := g.l6
  have htle : 10 ^ f.most ≤ 10 ^ 6 := Nat.pow_le_pow_right (by decide) (by omega)
  have ht : 0 < 10 ^ f.most := Nat.pow_pos (by decide)
  have hq := rounded_le (n := n) (m := f.most)
  obtain ⟨q, eq⟩ : ∃ q, q = rounded n f.most := ⟨_, rfl⟩
  have hw19 : q / 10 ^ f.most < 10 ^ 19 := Nat.lt_of_le_of_lt (Nat.div_le_self _ _) (by omega)
  have hint : (nInt f n).length ≤ 20 := by
    unfold nInt
    rw [padded_length_max, ← eq]
    have := digits_len (k := 19) (by decide) hw19
    omega
  have hfr : (nFrac f n).length ≤ 6 := by
    unfold nFrac
    rw [trimmed_eq, List.length_take]
    have : (padded f.most (if f.most = 0 then [] else digits (rounded n f.most % 10 ^ f.most))).length = f.most := by
      by_cases h0 : f.most = 0
      · rw [if_pos h0, h0]; rfl
      · rw [if_neg h0]
        exact padded_length (digits_len (by omega) (Nat.mod_lt _ ht))
    omega
  have hgr : (grouped f.group (nInt f n)).length ≤ 40 := by
    rw [← groupTo_all (fun c hc => by have := g.gb c hc; omega)]
    have := groupTo_len f.group (nInt f n) (nInt f n).length
    omega
  refine q_asg (v := nv q) (ev_is (ev_meth (ev_var rfl) ha rfl (ea_cons (ev_var rfl) ea_nil) (sv_rounded ⟨dx, ha⟩ g)) (by rw [eq])) fun H1 e1 => ?_
  have ha1 := e1 a _ ha
  refine q_asg2 (a := nv (q / 10 ^ f.most)) (b := nv (q % 10 ^ f.most)) ?_ fun H2 e2 => ?_
  · exact fun H2 e Q qq => (ev_c1 (ea_cons (ev_fld (ev_var rfl) ha1 T.cl T.nMost rfl) ea_nil) (sv_tens (k := f.most) (by omega)) : Ev _ _ _ _) |> fun hh => ⟨_, rfl, hh H2 e _ fun H3 e3 => ⟨_, _, rfl, ⟨by omega, by omega⟩, fun p hp => qq p _ (fresh_back e3 hp) (e3.trans (Ex.new hp)) (by rw [upd_same]; simp)⟩⟩
  have ha2 := e2 a _ ha1
  refine q_asgL (xs := nl (grouped f.group (nInt f n))) (el_methL (ev_var rfl) ha2 rfl (er_l (el_c1 (ea_cons (ev_var rfl) (ea_cons (ev_fld (ev_var rfl) ha2 T.cl T.nAhead rfl) ea_nil)) (sl_digitsOf hw19 (by omega)))) fun p H3 e3 h3 => ?_) fun l H3 hl3 e3 h3 => ?_
  · have en : padded f.lead (digits (q / 10 ^ f.most)) = nInt f n := by unfold nInt; rw [eq]
    rw [en] at h3
    exact sl_grouped ⟨dx, e3 a _ ha2⟩ g h3 (by omega)
  have ha3 := e3 a _ ha2
  refine q_asgL (xs := nl (nFrac f n)) (el_is (el_meth (ev_var rfl) ha3 rfl (ea_cons (ev_var rfl) ea_nil) (sl_fraction ⟨dx, ha3⟩ g (Nat.mod_lt _ ht))) (by rw [eq]; rfl)) fun l2 H4 hl4 e4 h4 => ?_
  have ha4 := e4 a _ ha3
  have h34 := e4 l _ h3
  have eH : Ex H H4 := ((e1.trans e2).trans e3).trans e4
  -- behind the first if: slot 6 holds the digits and the fraction
  have fin : ∀ (l3 : Addr) (H5 : Hp), Ex H4 H5 → H l3 = none → H5 l3 = some (.lst (nl (grouped f.group (nInt f n) ++ nRest f n))) →
      tSeq (tIfS (tAnd (tB (tVar 1)) (tTest (tOp rNe (tVar 3) (tC (V.int 0))))) (tAsg (tOp rCat (tLst (tCons (tFld K (tVar 0) "minus") tNil)) (tVar 6)) (gName 6)) tNext) (tRet (tVar 6)) { nx := fun x H' => Q V.non H', rt := Q } [some (.ref a), some (.bl b), some (nv n), some (nv q), some (nv (q / 10 ^ f.most)), some (nv (q % 10 ^ f.most)), some (.ref l3), some (.ref l2)] H5 := fun l3 H5 e5 hn3 h5 => by
    have ha5 := e5 a _ ha4
    have hlen : (grouped f.group (nInt f n) ++ nRest f n).length ≤ 60 := by
      rw [List.length_append]
      unfold nRest
      split <;> simp <;> omega
    refine q_when (b := b && decide (q ≠ 0)) (et_and (et_B (ev_var rfl)) fun _ => et_test (ev_neI (ev_var rfl) ev_c (decide_eq_decide.mpr (by omega)))) (fun hb H6 e6 => ?_) (fun hb H6 e6 => ?_)
    · have hb : b = true ∧ ¬ q = 0 := by simpa using hb
      refine s_asgL (xs := nl ([f.minus] ++ (grouped f.group (nInt f n) ++ nRest f n))) (el_is (el_cat (xs := nl [f.minus]) (er_l (el_lst (ea_cons (ev_fld (ev_var rfl) (e6 a _ ha5) T.cl T.nMinus rfl) ea_nil) (by show 1 ≤ 100000; decide))) (er_v (ev_var rfl) (e6 l3 _ h5)) (by rw [nl_len, nl_len]; simp only [List.length_singleton]; omega)) (nl_app _ _).symm) fun l4 H7 hl7 e7 h7 => ?_
      refine s_ret (ev_var rfl) fun H8 e8 => k l4 H8 (fresh_back ((eH.trans e5).trans e6) hl7) ((((eH.trans e5).trans e6).trans e7).trans e8) ?_
      rw [numText_parts, e8 l4 _ h7]
      have : nPre f b n = [f.minus] := by
        unfold nPre
        rw [if_pos ⟨hb.1, by rw [← eq]; exact hb.2⟩]
      rw [this]
    · refine s_ret (ev_var rfl) fun H8 e8 => k l3 H8 hn3 (((eH.trans e5).trans e6).trans e8) ?_
      rw [numText_parts, e8 l3 _ (e6 l3 _ h5)]
      have : nPre f b n = [] := by
        unfold nPre
        rw [if_neg]
        rintro ⟨z1, z2⟩
        rw [z1, decide_eq_true (show q ≠ 0 by rw [eq]; exact z2)] at hb
        cases hb
      rw [this]
      rfl
  refine q_when (b := decide (nFrac f n ≠ [])) (et_test (ev_neL (ns := nFrac f n) (ms := []) (er_v (ev_var rfl) h4) (er_l (el_lst ea_nil (by decide))) rfl)) (fun hb H5 e5 => ?_) (fun hb H5 e5 => ?_)
  · have hb : nFrac f n ≠ [] := of_decide_eq_true hb
    refine s_asgL (xs := nl (grouped f.group (nInt f n) ++ nRest f n)) (el_is (el_cat (er_l (el_cat (ys := nl [f.point]) (er_v (ev_var rfl) (e5 l _ h34)) (er_l (el_lst (ea_cons (ev_fld (ev_var rfl) (e5 a _ ha4) T.cl T.nPoint rfl) ea_nil) (by show 1 ≤ 100000; decide))) (by rw [nl_len, nl_len]; simp only [List.length_singleton]; omega))) (er_v (ev_var rfl) (e5 l2 _ h4)) (by rw [List.length_append, nl_len, nl_len, nl_len]; simp only [List.length_singleton]; omega)) ?_) fun l3 H6 hl6' e6 h6 => ?_
    · unfold nRest
      rw [if_neg hb, nl_app, List.append_assoc]
      rfl
    · exact fin l3 H6 (e5.trans e6) (fresh_back (eH.trans e5) hl6') h6
  · have hb : nFrac f n = [] := by simpa using hb
    refine fin l H5 e5 (fresh_back (e1.trans e2) hl3) ?_
    have : nRest f n = [] := by unfold nRest; rw [if_pos hb]
    rw [this, List.append_nil]
    exact e5 l _ h34
end
end Wd
namespace Wd
open PySem PySem.Spec PyProof.Rows L2 Evl
open Ut08 (Num isDigit digits padded valueOf rounded grouped trimmed numText numRead)
section
variable {P : Program} {w : World} {K : PySem.W.Frag} {mg : Str → Option Value} {base : Heap} {C : Addr}
theorem ok_aread {f : Addr} {fd : FuncData} (F : Fun K "read" "AmountPattern.read" sARead f fd) (G : Gs K mg) (T : AmtC K C) (c1 : Cal P w K mg base CX0 1 "tens" spTens) (c2 : Cal P w K mg base CX0 1 "is_digit" spIsDigit) (c3 : Cal P w K mg base CX0 1 "value_of" spValueOf)
    (m1 : Met P w K mg base CX0 3 C "written" (spAWritten C)) : FnOk P w K mg base CX0 4 f fd ["self", "row"] (spARead C) := by
  refine F.ok scARead (fun vs H Q E h => by obtain ⟨a, n, b, c, rfl, _⟩ := h; rfl) (fun cdv A outer s H vs Q E hr h => ?_)
  refine ⟨_, (pss_cons (ps_set (i := 2) scARead.nd rfl (.inl rfl) (pe_cmpR (op_eqD hr.units) (pe_slice sl_list (pv 1) po_none (po_some pe_int)) (pe_lst (pa_cons (pe_fld (pv 0) rfl) pa_nil)) (nomark _)))
      (pss_cons (ps_set (i := 3) scARead.nd rfl (.inl rfl) (pe_slice sl_list (pv 1) (po_some (pe_callTy (call_int1) (by rfl) G.bInt (by decide +kernel) (pa_cons (pv 2) pa_nil))) po_none))
      (Evl.pss_cut (ps_if (pt_cmpR op_in_seq (pe_fld (pv 0) rfl) (pv 3) (by rfl)) (pss_one (ps_set (i := 4) scARead.nd rfl (.inl rfl) (pe_bm PySem.F.plainAttrs_list PySem.F.slot_list_index PySem.F.type_list_index mt_index (pv 3) (pa_cons (pe_fld (pv 0) rfl) pa_nil)))) (pss_one (ps_set (i := 4) scARead.nd rfl (.inl rfl) (pe_callB call_len_seq (by rfl) G.bLen PySem.boot_len (pa_cons (pv 3) pa_nil)))))
      (pss_cons (ps_setLc (i := 5) (own := [("byte", 8)]) (g := gName 8) (tt := tTest (tOp rNe (tVar 8) (tFld K (tVar 0) "threes"))) rfl scARead.nd rfl rfl (sw_true rfl rfl rfl (by decide +kernel)) (pi_list (pe_slice sl_list (pv 3) po_none (po_some (pv 4))))
      (blkOk_by (own := [("byte", 8)]) (N := ["self", "row", "is_below", "rest", "place", "ahead", "fraction", "millionths", "byte"]) (sc := defScope sARead) (by decide +kernel))
      (fun _ _ _ _ _ => pg_name (i := 8) scARead.nd rfl (Or.inl rfl)) (fun _ _ _ _ _ => pts_one (pt_cmpR op_ne (pv 8) (pe_fld (pv 0) rfl) (nomark _))) (fun _ _ _ _ _ => pv 8))
      (pss_cons (ps_set (i := 6) scARead.nd rfl (.inl rfl) (pe_slice sl_list (pv 3) (po_some (pe_op op_add (pv 4) pe_int)) po_none))
      (pss_cons (ps_if (PW.pt (pw_or (pt_not (pt_val (pe_callB (cr_all rfl) (by rfl) G.bAll (by decide +kernel) (pa_cons (pe_lc (own := [("byte", 8)]) (g := gName 8) (tt := tYes) rfl scARead.nd (pi_list (pe_op op_cat (pv 5) (pv 6))) (blkOk_by (own := [("byte", 8)]) (N := ["self", "row", "is_below", "rest", "place", "ahead", "fraction", "millionths", "byte"]) (sc := defScope sARead) (by decide +kernel))
          (fun _ _ _ _ _ => pg_name (i := 8) scARead.nd rfl (Or.inl rfl)) (fun _ _ _ _ _ => pts_nil) (fun _ _ _ _ _ => pe_c c2 hr (by decide) pass0 rfl (pa_cons (pv 8) pa_nil))) pa_nil))))
      (pw_or1 (pt_cmpR op_gt (pe_callB call_len_seq (by rfl) G.bLen PySem.boot_len (pa_cons (pv 6) pa_nil)) (pe_fld (pv 0) rfl) (nomark _))))) (pss_one (ps_ret pe_non)) pss_nil)
      (pss_cons (ps_if (pt_cmpR op_ge (pe_c c3 hr (by decide) pass0 rfl (pa_cons (pv 5) pa_nil)) (pgi G.cTooGreat) (nomark _)) (pss_one (ps_ret pe_non)) pss_nil)
      (pss_cons (ps_set (i := 7) scARead.nd rfl (.inl rfl) (pe_op op_add (pe_op op_mul (pe_c c3 hr (by decide) pass0 rfl (pa_cons (pv 5) pa_nil)) (pgi G.cMillion)) (pe_op op_mul (pe_c c3 hr (by decide) pass0 rfl (pa_cons (pv 6) pa_nil)) (pe_c c1 hr (by decide) pass0 rfl (pa_cons (pe_op op_sub (pgi G.cMostFraction) (pe_callB call_len_seq (by rfl) G.bLen PySem.boot_len (pa_cons (pv 6) pa_nil))) pa_nil)))))
      (pss_cons (ps_if (pt_cmpR (op_neD hr.units) (pe_mt m1 hr (by decide) pass0 (pv 0) (pa_cons (pv 2) (pa_cons (pv 7) pa_nil))) (pv 1) (nomark _)) (pss_one (ps_ret pe_non)) pss_nil)
      (pss_one (ps_ret (pe_tup (pa_cons (pv 2) (pa_cons (pv 7) pa_nil)))))))))))))), ?_⟩
  obtain ⟨a, p, f, ns, rfl, ⟨dx, ha⟩, g, hp, hl, kN, kS⟩ := h
  rw [← readM_eq g] at kN
  have kS' : ∀ b n, readM f ns = some (b, n) → RetU [.bl b, nv n] H Q := fun b n h => kS b n (by rw [← readM_eq g]; exact h)
  have hm := g.m6
  obtain ⟨neg, hneg⟩ : ∃ neg, neg = (ns.head? == some f.minus) := ⟨_, rfl⟩
  obtain ⟨r, hr'⟩ : ∃ r, r = cutRow f ns := ⟨_, rfl⟩
  obtain ⟨pl, hpl⟩ : ∃ pl, pl = (r.takeWhile fun c => c != f.point).length := ⟨_, rfl⟩
  have er : r = ns.drop (if neg then 1 else 0) := by rw [hr', hneg]; rfl
  have hrl : r.length ≤ 100 := by rw [er, List.length_drop]; omega
  have hple : pl ≤ r.length := by rw [hpl]; exact (List.takeWhile_prefix (fun c => c != f.point) (l := r)).length_le
  have hal : (aheadOf f ns).length ≤ 100 := by
    unfold aheadOf
    have h1 := List.length_filter_le (fun c => c != thr f.group) ((cutRow f ns).takeWhile fun c => c != f.point)
    have h2 := (List.takeWhile_prefix (fun c => c != f.point) (l := cutRow f ns)).length_le
    rw [hr'] at hrl
    omega
  have hfl : (fracOf f ns).length ≤ 100 := by
    unfold fracOf
    rw [List.length_drop, ← hr']
    omega
  have efr : fracOf f ns = r.drop (pl + 1) := by unfold fracOf; rw [hpl, hr']
  have eah : aheadOf f ns = (r.take pl).filter fun c => c != thr f.group := by unfold aheadOf; rw [hpl, take_takeWhile, hr']
  refine q_asg (v := .bl neg) (ev_eqL (ns := ns.take 1) (ms := [f.minus]) (er_l (el_is (er_slice (er_v (ev_var rfl) hp) eo_none (eo_some (i := ((1 : Nat) : Int)) ev_c)) (cut_hi ns 1))) (er_l (el_lst (vs := nl [f.minus]) (ea_cons (ev_fld (ev_var rfl) ha T.cl T.nMinus rfl) ea_nil) (by show 1 ≤ 100000; decide))) (by rw [head_take, hneg])) fun H1 e1 => ?_
  refine q_asgL (xs := nl r) (el_is (er_slice (er_v (ev_var rfl) (e1 p _ hp)) (eo_some (i := ((if neg then 1 else 0 : Nat) : Int)) (ev_is (ev_intB (ev_var rfl)) (by cases neg <;> rfl))) eo_none) (by rw [cut_lo, ← er])) fun pr H2 hr2 e2 h2 => ?_
  have ha2 := e2 a _ (e1 a _ ha)
  refine q_cut (M := fun σ H' => Ex H2 H' ∧ σ = [some (.ref a), some (.ref p), some (.bl neg), some (.ref pr), some (nv pl), none, none, none, none]) (s_if (b := decide (f.point ∈ r)) (et_test (ev_inL (ev_fld (ev_var rfl) ha2 T.cl T.nPoint rfl) (ev_var rfl) h2 rfl)) (fun hb H3 e3 => ?_) (fun hb H3 e3 => ?_)) (fun σ H3 ⟨e3, hσ⟩ => ?_)
  · have hb : f.point ∈ r := of_decide_eq_true hb
    obtain ⟨i1, i2⟩ := place_in hb
    rw [← hpl] at i1 i2
    refine s_asg (v := nv pl) (fun H4 e4 Q' q => ⟨_, rfl, .inl ⟨rfl, _, sq_of (e4 pr _ (e3 pr _ h2))⟩, ?_⟩) fun H4 e4 => ⟨e3.trans e4, rfl⟩
    refine ev_fld (ev_var rfl) (e3 a _ ha2) T.cl T.nPoint rfl H4 e4 _ fun H5 e5 => ⟨pr, nl r, nv f.point, pl, nv f.point, rfl, rfl, sq_of (e5 pr _ (e4 pr _ (e3 pr _ h2))), rfl, flat_nl r, nl_at i1, by show ((f.point : Int) == (f.point : Int)) = true; simp, fun m z hm hz => ?_, q H5 e5⟩
    obtain ⟨c, hc, rfl⟩ := nl_get hz
    have := i2 m c hm hc
    show ((c : Int) == (f.point : Int)) = false
    exact beq_eq_false_iff_ne.mpr (by omega)
  · have hb : ¬ f.point ∈ r := of_decide_eq_false hb
    refine s_asg (v := nv pl) (ev_is (ev_lenN (er_v (ev_var rfl) (e3 pr _ h2))) (by rw [hpl, takeWhile_self (p := fun c => c != f.point) fun c hc => bne_iff_ne.mpr fun z => hb (by rw [← z]; exact hc)])) fun H4 e4 => ⟨e3.trans e4, rfl⟩
  subst hσ
  have ha3 := e3 a _ ha2
  refine q_asgL (xs := nl (aheadOf f ns)) (el_is (el_lcR (ns := r.take pl) (fun c => c != thr f.group) nv (er_l (el_is (er_slice (er_v (ev_var rfl) (e3 pr _ h2)) eo_none (eo_some (ev_var rfl))) (cut_hi r pl))) (by rw [List.length_take]; omega) (fun i c H4 e4 hc => et_test (ev_neI (ev_var rfl) (ev_fld (ev_var rfl) (e4 a _ ha3) T.cl T.nThrees rfl) ?_)) (fun i c H4 e4 hc _ => ev_var rfl)) (by rw [eah]; rfl)) fun pa H4 ha4 e4 h4 => ?_
  · rw [Bool.eq_iff_iff, decide_eq_true_eq]
    simp
    omega
  refine q_asgL (xs := nl (fracOf f ns)) (el_is (er_slice (er_v (ev_var rfl) (e4 pr _ (e3 pr _ h2))) (eo_some (i := ((pl + 1 : Nat) : Int)) (ev_add (ev_var rfl) ev_c rfl)) eo_none) (by rw [cut_lo, efr])) fun pf H5 hf5 e5 h5 => ?_
  have e05 : Ex H H5 := (((e1.trans e2).trans e3).trans e4).trans e5
  have ha5 := e5 a _ (e4 a _ ha3)
  have h45 := e5 pa _ h4
  refine q_when (b := !((aheadOf f ns ++ fracOf f ns).all isDigit) || decide (f.most < (fracOf f ns).length)) (et_or (et_not (et_B (ev_is (ev_allL (bs := (aheadOf f ns ++ fracOf f ns).map isDigit) ?_) (by rw [List.all_map]; rfl)))) fun _ => et_test (ev_cI (ev_lenN (er_v (ev_var rfl) h5)) (ev_fld (ev_var rfl) ha5 T.cl T.nMost rfl) (decide_eq_decide.mpr (by omega)))) (fun hb H6 e6 => ?_) (fun hb H6 e6 => ?_)
  · refine el_is (el_lcR (ns := aheadOf f ns ++ fracOf f ns) (fun _ => true) (fun c => .bl (isDigit c)) (er_l (el_is (el_cat (er_v (ev_var rfl) h45) (er_v (ev_var rfl) h5) (by rw [nl_len, nl_len]; omega)) (nl_app _ _).symm)) (by rw [List.length_append]; omega) (fun i c H4 e4 hc => et_yes) (fun i c H4 e4 hc _ => ev_c1 (ea_cons (ev_var rfl) ea_nil) sv_isDigit)) ?_
    rw [List.filter_eq_self.mpr (fun _ _ => rfl), List.map_map]
    rfl
  · have hn : readM f ns = none := by
      unfold readM
      rw [if_pos]
      rw [Bool.or_eq_true] at hb
      rcases hb with z | z
      · exact .inl ((Bool.not_eq_true' _).mp z)
      · exact .inr (of_decide_eq_true z)
    exact s_ret ev_c fun H7 e7 => kN hn H7 ((e05.trans e6).trans e7)
  rw [Bool.or_eq_false_iff] at hb
  have hall : (aheadOf f ns ++ fracOf f ns).all isDigit = true := by simpa using hb.1
  have hmost : ¬ f.most < (fracOf f ns).length := of_decide_eq_false hb.2
  have hall2 : (aheadOf f ns).all isDigit = true ∧ (fracOf f ns).all isDigit = true := by rwa [List.all_append, Bool.and_eq_true] at hall
  have e1' : ¬ ((aheadOf f ns ++ fracOf f ns).all isDigit = false ∨ f.most < (fracOf f ns).length) := fun z => z.elim (fun z => by rw [hall] at z; cases z) hmost
  have h46 := e6 pa _ h45
  have h56 := e6 pf _ h5
  refine q_when (b := decide (10 ^ 12 ≤ valueOf (aheadOf f ns))) (et_test (ev_cI (ev_c1 (ea_cons (ev_var rfl) ea_nil) (sv_valueOf h46 hall2.1)) ev_c (decide_eq_decide.mpr (by omega)))) (fun hc H7 e7 => ?_) (fun hc H7 e7 => ?_)
  · have hc : 10 ^ 12 ≤ valueOf (aheadOf f ns) := of_decide_eq_true hc
    have hn : readM f ns = none := by unfold readM; rw [if_neg e1', if_pos hc]
    exact s_ret ev_c fun H8 e8 => kN hn H8 (((e05.trans e6).trans e7).trans e8)
  have hc : ¬ 10 ^ 12 ≤ valueOf (aheadOf f ns) := of_decide_eq_false hc
  have hfb : valueOf (fracOf f ns) < 10 ^ 6 := Nat.lt_of_lt_of_le (valueOf_lt hall2.2) (Nat.pow_le_pow_right (by decide) (by omega))
  have hpb : 10 ^ (6 - (fracOf f ns).length) ≤ 10 ^ 6 := Nat.pow_le_pow_right (by decide) (by omega)
  obtain ⟨tp, htp⟩ : ∃ tp, tp = 10 ^ (6 - (fracOf f ns).length) := ⟨_, rfl⟩
  have hprod : valueOf (fracOf f ns) * 10 ^ (6 - (fracOf f ns).length) ≤ 10 ^ 6 * 10 ^ 6 := Nat.mul_le_mul (by omega) hpb
  have hmb : millOf f ns < 2 * 10 ^ 18 := by
    unfold millOf
    omega
  refine q_asg (v := nv (millOf f ns)) (ev_add (ev_mulR (ev_c1 (ea_cons (ev_var rfl) ea_nil) (sv_valueOf (e7 pa _ h46) hall2.1)) ev_c (by decide) rfl) (ev_mulR (j := ((10 ^ (6 - (fracOf f ns).length) : Nat) : Int)) (ev_c1 (ea_cons (ev_var rfl) ea_nil) (sv_valueOf (e7 pf _ h56) hall2.2)) (ev_c1 (ea_cons (ev_is (ev_sub ev_c (ev_lenN (er_v (ev_var rfl) (e7 pf _ h56))) rfl) (congrArg V.int (show (6 : Int) - ((fracOf f ns).length : Int) = ((6 - (fracOf f ns).length : Nat) : Int) by omega))) ea_nil) (sv_tens (by omega))) (by rw [← htp] at hpb ⊢; omega) rfl) (by unfold millOf; simp)) fun H8 e8 => ?_
  have e08 : Ex H H8 := ((e05.trans e6).trans e7).trans e8
  refine q_when (b := decide (numText f neg (millOf f ns) ≠ ns)) (et_test (ev_neL (er_l (el_meth (ev_var rfl) (e08 a _ ha) rfl (ea_cons (ev_var rfl) (ea_cons (ev_var rfl) ea_nil)) (sl_awritten ⟨dx, e08 a _ ha⟩ g hmb))) (er_v (ev_var rfl) (e08 p _ hp)) rfl)) (fun hd H9 e9 => ?_) (fun hd H9 e9 => ?_)
  · have hd : numText f neg (millOf f ns) ≠ ns := of_decide_eq_true hd
    have hn : readM f ns = none := by
      unfold readM
      rw [if_neg e1', if_neg hc, if_neg (by rw [← hneg]; exact hd)]
    exact s_ret ev_c fun H10 e10 => kN hn H10 ((e08.trans e9).trans e10)
  · have hd : numText f neg (millOf f ns) = ns := by simpa using hd
    have hs : readM f ns = some (neg, millOf f ns) := by
      unfold readM
      rw [if_neg e1', if_neg hc, if_pos (by rw [← hneg]; exact hd), ← hneg]
    exact s_retU (eu_tup (ea_cons (ev_var rfl) (ea_cons (ev_var rfl) ea_nil)) (by show 2 ≤ 100000; decide)) fun q H10 hq e10 h10 => kS' _ _ hs q H10 (fresh_back (e08.trans e9) hq) ((e08.trans e9).trans e10) h10
end
end Wd
namespace Wd
open PySem PySem.Spec PyProof.Rows L2 Evl
open Ut08 (Day Part Tongue Num isDigit digits padded valueOf weekday dayOk part dayText)

/-! the objects -/
def rowO (w : List Nat) : HO := .lst (nl w)
def RowsAt (H : Hp) (p : Addr) (rows : List (List Nat)) : Prop := ∃ as : List Addr, H p = some (.lst (as.map V.ref)) ∧ ObjsAt H rowO as rows
theorem RowsAt.mono {H H' : Hp} {p : Addr} {rows : List (List Nat)} (e : Ex H H') (h : RowsAt H p rows) : RowsAt H' p rows := by
  obtain ⟨as, h1, h2⟩ := h
  exact ⟨as, e p _ h1, h2.mono e⟩
def tonF (t : Tongue) (pm pw : Addr) : List (Str × V) := [("first", nv t.from_), ("months", .ref pm), ("weekdays", .ref pw)]
def TonAt (C : Addr) (H : Hp) (a : Addr) (t : Tongue) : Prop := ∃ dx pm pw, H a = some (.ins C dx (tonF t pm pw)) ∧ RowsAt H pm t.months ∧ RowsAt H pw t.weeks
theorem TonAt.mono {C a : Addr} {H H' : Hp} {t : Tongue} (e : Ex H H') (h : TonAt C H a t) : TonAt C H' a t := by
  obtain ⟨dx, pm, pw, h1, h2, h3⟩ := h
  exact ⟨dx, pm, pw, e a _ h1, h2.mono e, h3.mono e⟩
structure TonC (K : PySem.W.Frag) (C : Addr) : Prop where
  cl : Cls K C
  nFirst : NoAttr K C "first"
  nMonths : NoAttr K C "months"
  nWeekdays : NoAttr K C "weekdays"
def PartAt (H : Hp) (a : Addr) (p : Part) : Prop := ∃ o, H a = some (.tup [nv (code p), .ref o]) ∧ H o = some (.lst (nl (ownB p)))
theorem PartAt.mono {H H' : Hp} {a : Addr} {p : Part} (e : Ex H H') (h : PartAt H a p) : PartAt H' a p := by
  obtain ⟨o, h1, h2⟩ := h
  exact ⟨o, e a _ h1, e o _ h2⟩
def PartsAt (H : Hp) : List Addr → List Part → Prop
  | [], [] => True
  | a :: as, p :: ps => PartAt H a p ∧ PartsAt H as ps
  | _, _ => False
theorem PartsAt.mono {H H' : Hp} (e : Ex H H') : ∀ {as : List Addr} {ps : List Part}, PartsAt H as ps → PartsAt H' as ps
  | [], [], _ => trivial
  | _ :: _, _ :: _, h => ⟨h.1.mono e, PartsAt.mono e h.2⟩
  | [], _ :: _, h => h.elim
  | _ :: _, [], h => h.elim
theorem PartsAt.len {H : Hp} : ∀ {as : List Addr} {ps : List Part}, PartsAt H as ps → as.length = ps.length
  | [], [], _ => rfl
  | _ :: _, _ :: _, h => congrArg (· + 1) (PartsAt.len h.2)
  | [], _ :: _, h => h.elim
  | _ :: _, [], h => h.elim
theorem PartsAt.get {H : Hp} : ∀ {as : List Addr} {ps : List Part} {i : Nat} {x : V}, PartsAt H as ps → (as.map V.ref)[i]? = some x → ∃ a p, x = .ref a ∧ ps[i]? = some p ∧ PartAt H a p
  | [], [], _, _, _, e => by simp at e
  | a :: _, b :: _, 0, c, h, e => ⟨a, b, by simpa using e.symm, rfl, h.1⟩
  | _ :: as, _ :: bs, i + 1, c, h, e => PartsAt.get (as := as) (ps := bs) (i := i) h.2 (by simpa using e)
  | [], _ :: _, _, _, h, _ => h.elim
  | _ :: _, [], _, _, h, _ => h.elim
def PatAt (H : Hp) (p : Addr) (ps : List Part) : Prop := ∃ as : List Addr, H p = some (.lst (as.map V.ref)) ∧ PartsAt H as ps
theorem PatAt.mono {H H' : Hp} {p : Addr} {ps : List Part} (e : Ex H H') (h : PatAt H p ps) : PatAt H' p ps := by
  obtain ⟨as, h1, h2⟩ := h
  exact ⟨as, e p _ h1, h2.mono e⟩
def RetR (xs : List V) (H : Hp) (Q : VK) : Prop := ∀ p H2, Ex H H2 → H2 p = some (.lst xs) → Q (.ref p) H2
def SpR (sp : Sp) (vs : List V) (H : Hp) (xs : List V) : Prop := ∀ H1, Ex H H1 → ∀ Q : VK, RetR xs H1 Q → ∀ E : XK, sp vs H1 Q E
section
variable {K : PySem.W.Frag} {σ : L2.St} {H H' : Hp} {ta tb tc te tx : TE} {t u : TT} {x y z v : V} {D : Ends}
theorem er_meth {a C dx : Addr} {fs : List (Str × V)} {m : Str} {sp : Sp} {E : XK} {tr : TA} {vs xs : List V} (ha : Ev ta σ H (.ref a)) (h : H a = some (.ins C dx fs)) (l : fs.lookup m = none) (hr : EvA tr σ H vs) (hs : SpR sp (.ref a :: vs) H xs) :
    EvR (tMeth C m sp [] E ta tr) σ H xs := fun H1 e Q q =>
  ha H1 e _ fun H2 e2 => ⟨a, dx, fs, rfl, e2 a _ (e a _ h), l, hr H2 (e.trans e2) _ fun H3 e3 => by
    rw [List.append_nil]
    exact hs H3 ((e.trans e2).trans e3) Q (fun p H4 e4 h4 => q p H4 ((e2.trans e3).trans e4) h4) E⟩
theorem s_retR {xs : List V} (h : EvR te σ H xs) (k : ∀ p H1, Ex H H1 → H1 p = some (.lst xs) → D.rt (.ref p) H1) : tRet te D σ H := h H (Ex.refl H) _ k
/-- a, b = name, the name a tuple -/
theorem q_asgT2 {i j : Nat} {a : Addr} {p q : V} {tz : TS} (h : Ev te σ H (.ref a)) (hx : H a = some (.tup [p, q])) (k : ∀ H1, Ex H H1 → tz D ((σ.set i (some p)).set j (some q)) H1) : tSeq (tAsg te (gTup K 2 (gCons (gName i) (gCons (gName j) gNil)))) tz D σ H := h H (Ex.refl H) _ fun H1 e =>
  ⟨a, [p, q], rfl, st_of (e a _ hx), rfl, p, [q], rfl, q, [], rfl, rfl, k H1 e⟩
/-- [1, 2][int(a == b)] -/
theorem ev_pick {i j : Int} {b : Bool} (ha : Ev ta σ H (.int i)) (hb : Ev tb σ H (.int j)) (e : decide (i = j) = b) : Ev (tOp (rIxL K) (tLst (tCons (tC (.int 1)) (tCons (tC (.int 2)) tNil))) (tCB (fun xs H Q => (∃ i, xs = [.int i] ∧ Q (.int i) H) ∨ ∃ k, xs = [.bl k] ∧ Q (.int (if k then 1 else 0)) H) (tCons (tOp rEq ta tb) tNil))) σ H (nv (if b then 2 else 1)) := by
  refine ev_ixR (ns := [1, 2]) (j := if b then 1 else 0) (er_l (el_lst (ea_cons ev_c (ea_cons ev_c ea_nil)) (by show 2 ≤ 100000; decide))) (ev_intB (ev_eqI ha hb e)) (by cases b <;> rfl) (by cases b <;> rfl)
end

def spTonInit (C : Addr) : Sp := fun vs H Q _ => ∃ (y : Nat) (pm pw : Addr), spInit C [nv y, .ref pm, .ref pw] [("first", nv y), ("months", .ref pm), ("weekdays", .ref pw)] vs H Q
def spMeant (C : Addr) : Sp := fun vs H Q _ => ∃ (a : Addr) (t : Tongue) (n : Nat), vs = [.ref a, nv n] ∧ TonAt C H a t ∧ RetV (nv (meantY t n)) H Q
def spMonthWritten (C : Addr) : Sp := fun vs H Q _ => ∃ (a : Addr) (t : Tongue) (p : Part) (m : Nat), vs = [.ref a, nv (code p), nv m] ∧ TonAt C H a t ∧ TonGood t ∧ 1 ≤ m ∧ m ≤ 12 ∧ (code p = 3 ∨ code p = 4 ∨ code p = 5) ∧ RetR (nl (fixP t m 0 0 p)) H Q
def spFixed (C : Addr) : Sp := fun vs H Q _ => ∃ (a b : Addr) (t : Tongue) (p : Part) (m d w : Nat), vs = [.ref a, .ref b, nv m, nv d, nv w] ∧ TonAt C H a t ∧ TonGood t ∧ PartAt H b p ∧ 1 ≤ m ∧ m ≤ 12 ∧ d ≤ 31 ∧ w < 7 ∧ (code p ≠ 1 ∧ code p ≠ 2) ∧ RetR (nl (fixP t m d w p)) H Q
def spTWritten (C : Addr) : Sp := fun vs H Q _ => ∃ (a b : Addr) (t : Tongue) (ps : List Part) (x : Day), vs = [.ref a, .ref b, nv x.y, nv x.m, nv x.d] ∧ TonAt C H a t ∧ TonGood t ∧ PatAt H b ps ∧ PatGood ps ∧ dayOk x = true ∧ RetL (nl (dayText t ps x)) H Q
def spHasSome (K : PySem.W.Frag) : Sp := fun vs H Q _ => ∃ (a b : Addr) (ks ss : List Nat), vs = [.ref a, .ref b] ∧ H a = some (.lst (nl ks)) ∧ TupK K b ss ∧ ss.length ≤ 100 ∧ RetV (.bl (ss.any fun s => decide (s ∈ ks))) H Q
theorem sv_meant {C a : Addr} {H : Hp} {t : Tongue} {n : Nat} (h : TonAt C H a t) : SpV (spMeant C) [.ref a, nv n] H (nv (meantY t n)) := fun H1 e Q q _ => ⟨a, t, n, rfl, h.mono e, q⟩
theorem sr_monthWritten {C a : Addr} {H : Hp} {t : Tongue} {p : Part} {m : Nat} (h : TonAt C H a t) (g : TonGood t) (h1 : 1 ≤ m) (h2 : m ≤ 12) (hp : code p = 3 ∨ code p = 4 ∨ code p = 5) : SpR (spMonthWritten C) [.ref a, nv (code p), nv m] H (nl (fixP t m 0 0 p)) := fun H1 e Q q _ => ⟨a, t, p, m, rfl, h.mono e, g, h1, h2, hp, q⟩
theorem sr_fixed {C a b : Addr} {H : Hp} {t : Tongue} {p : Part} {m d w : Nat} (h : TonAt C H a t) (g : TonGood t) (hb : PartAt H b p) (h1 : 1 ≤ m) (h2 : m ≤ 12) (hd : d ≤ 31) (hw : w < 7) (hp : code p ≠ 1 ∧ code p ≠ 2) : SpR (spFixed C) [.ref a, .ref b, nv m, nv d, nv w] H (nl (fixP t m d w p)) := fun H1 e Q q _ => ⟨a, b, t, p, m, d, w, rfl, h.mono e, g, hb.mono e, h1, h2, hd, hw, hp, q⟩
theorem sl_twritten {C a b : Addr} {H : Hp} {t : Tongue} {ps : List Part} {x : Day} (h : TonAt C H a t) (g : TonGood t) (hb : PatAt H b ps) (gp : PatGood ps) (hx : dayOk x = true) : SpL (spTWritten C) [.ref a, .ref b, nv x.y, nv x.m, nv x.d] H (nl (dayText t ps x)) := fun H1 e Q q _ => ⟨a, b, t, ps, x, rfl, h.mono e, g, hb.mono e, gp, hx, q⟩
theorem sv_hasSome {K : PySem.W.Frag} {a b : Addr} {H : Hp} {ks ss : List Nat} (h : H a = some (.lst (nl ks))) (hb : TupK K b ss) (hl : ss.length ≤ 100) : SpV (spHasSome K) [.ref a, .ref b] H (.bl (ss.any fun s => decide (s ∈ ks))) := fun H1 e Q q _ => ⟨a, b, ks, ss, rfl, e a _ h, hb, hl, q⟩

abbrev sTonInit : Stmt := inClass (topS 43) 0
abbrev sMeant : Stmt := inClass (topS 43) 1
abbrev sMonthWritten : Stmt := inClass (topS 43) 2
abbrev sFixed : Stmt := inClass (topS 43) 3
abbrev sTWritten : Stmt := inClass (topS 43) 4
abbrev sHasSome : Stmt := topS 44
theorem scTonInit : FnScope ["self", "first", "months", "weekdays"] ["self", "first", "months", "weekdays"] (defScope sTonInit) := ⟨rfl, rfl, rfl, by decide +kernel, rfl, by decide +kernel, by decide +kernel⟩
theorem scMeant : FnScope ["self", "digits"] ["self", "digits"] (defScope sMeant) := ⟨rfl, rfl, rfl, by decide +kernel, rfl, by decide +kernel, by decide +kernel⟩
theorem scMonthWritten : FnScope ["self", "which", "month"] ["self", "which", "month"] (defScope sMonthWritten) := ⟨rfl, rfl, rfl, by decide +kernel, rfl, by decide +kernel, by decide +kernel⟩
theorem scFixed : FnScope ["self", "part", "month", "day", "weekday", "which", "own"] ["self", "part", "month", "day", "weekday"] (defScope sFixed) := ⟨rfl, rfl, rfl, by decide +kernel, rfl, by decide +kernel, by decide +kernel⟩
theorem scTWritten : FnScope ["self", "pattern", "year", "month", "day", "weekday", "found", "part"] ["self", "pattern", "year", "month", "day"] (defScope sTWritten) := ⟨rfl, rfl, rfl, by decide +kernel, rfl, by decide +kernel, by decide +kernel⟩
theorem scHasSome : FnScope ["kinds", "some", "which"] ["kinds", "some"] (defScope sHasSome) := ⟨rfl, rfl, rfl, by decide +kernel, rfl, by decide +kernel, by decide +kernel⟩
section
variable {P : Program} {w : World} {K : PySem.W.Frag} {mg : Str → Option Value} {base : Heap} {C : Addr}
theorem ok_tonInit {f : Addr} {fd : FuncData} (F : Fun K "__init__" "Tongue.__init__" sTonInit f fd) (T : TonC K C) : FnOk P w K mg base CX0 1 f fd ["self", "first", "months", "weekdays"] (spTonInit C) := by
  refine F.ok scTonInit (fun vs H Q E h => by obtain ⟨n, pm, pw, p, dx, rfl, _⟩ := h; rfl) (fun cdv A outer s H vs Q E hr h => ?_)
  refine ⟨_, (pss_cons (ps_fld (pv 0) (pv 1) rfl)
      (pss_cons (ps_fld (pv 0) (pv 2) rfl)
      (pss_one (ps_fld (pv 0) (pv 3) rfl)))), ?_⟩
  obtain ⟨y, pm, pw, p, dx, rfl, hp, q⟩ := h
  rw [← upd_self hp] at q ⊢
  rw [upd_upd] at q
  exact q_fldv rfl rfl T.cl T.nFirst (by decide) (q_fldv rfl rfl T.cl T.nMonths (by show 1 < 1000; decide) (s_fldv rfl rfl T.cl T.nWeekdays (by show 2 < 1000; decide) q))
theorem ok_meant {f : Addr} {fd : FuncData} (F : Fun K "meant" "Tongue.meant" sMeant f fd) (G : Gs K mg) (T : TonC K C) : FnOk P w K mg base CX0 1 f fd ["self", "digits"] (spMeant C) := by
  refine F.ok scMeant (fun vs H Q E h => by obtain ⟨a, t, n, rfl, _⟩ := h; rfl) (fun cdv A outer s H vs Q E hr h => ?_)
  refine ⟨_, (pss_one (ps_ret (pe_op op_add (pe_fld (pv 0) rfl) (pe_op op_mod (pe_op op_sub (pv 1) (pe_fld (pv 0) rfl)) (pgi G.cHundred))))), ?_⟩
  obtain ⟨a, t, n, rfl, ⟨dx, pm, pw, ha, _⟩, k⟩ := h
  exact s_ret (v := nv (meantY t n)) (ev_add (ev_fld (ev_var rfl) ha T.cl T.nFirst rfl) (ev_mod (ev_sub (ev_var rfl) (ev_fld (ev_var rfl) ha T.cl T.nFirst rfl) rfl) ev_c (by decide) rfl) (meantY_int t n).symm) k
theorem ok_monthWritten {f : Addr} {fd : FuncData} (F : Fun K "month_written" "Tongue.month_written" sMonthWritten f fd) (G : Gs K mg) (T : TonC K C) (c1 : Cal P w K mg base CX0 1 "digits_of" spDigitsOf) : FnOk P w K mg base CX0 2 f fd ["self", "which", "month"] (spMonthWritten C) := by
  refine F.ok scMonthWritten (fun vs H Q E h => by obtain ⟨a, t, p, m, rfl, _⟩ := h; rfl) (fun cdv A outer s H vs Q E hr h => ?_)
  refine ⟨_, (pss_cons (ps_if (pt_cmpR op_eq (pv 1) (pgi G.cMonthName) (nomark _)) (pss_one (ps_ret (pe_ix ix_list (pe_fld (pv 0) rfl) (pe_op op_sub (pv 2) pe_int) (fun _ _ => rfl)))) pss_nil)
      (pss_one (ps_ret (pe_c c1 hr (by decide) pass0 rfl (pa_cons (pv 2) (pa_cons (pe_ix ix_list (pe_lst (pa_cons (pe_int) (pa_cons (pe_int) pa_nil))) (pe_callTy (call_int1) (by rfl) G.bInt (by decide +kernel) (pa_cons (pe_cmpR op_eq (pv 1) (pgi G.cMonth) (nomark _)) pa_nil)) (fun _ _ => rfl)) pa_nil)))))), ?_⟩
  obtain ⟨a, t, p, m, rfl, ⟨dx, pm, pw, ha, ⟨as, hm1, hm2⟩, hw⟩, g, h1, h2, hp, k⟩ := h
  refine q_when (b := decide (code p = 5)) (et_test (ev_eqI (ev_var rfl) ev_c (decide_eq_decide.mpr (by omega)))) (fun hb H1 e1 => ?_) (fun hb H1 e1 => ?_)
  · have hb : code p = 5 := of_decide_eq_true hb
    obtain ⟨b, hb1, hb2⟩ := hm2.get' (month_at g h1 h2)
    have ep : p = .monthName := by cases p <;> simp [code] at hb <;> rfl
    subst ep
    exact s_retR (xs := nl (fixP t m 0 0 .monthName)) (er_v (p := b) (ev_ixL (j := m - 1) (ev_fld (ev_var rfl) (e1 a _ ha) T.cl T.nMonths rfl) (ev_sub (ev_var rfl) ev_c rfl) (sq_of (e1 pm _ hm1)) (by omega) (by rw [List.getElem?_map, hb1]; rfl)) (e1 b _ hb2)) fun q H2 e2 h2 => k q H2 (e1.trans e2) h2
  · have hb : ¬ code p = 5 := of_decide_eq_false hb
    have hm19 : m < 10 ^ 19 := Nat.lt_of_le_of_lt h2 (by decide)
    refine s_retR (xs := nl (fixP t m 0 0 p)) (er_l (el_is (el_c1 (ea_cons (ev_var rfl) (ea_cons (ev_pick (b := decide (code p = 3)) (ev_var rfl) ev_c (decide_eq_decide.mpr (by omega))) ea_nil)) (sl_digitsOf hm19 (by split <;> omega))) ?_)) fun q H2 e2 h2 => k q H2 (e1.trans e2) h2
    rcases hp with z | z | z
    · have ep : p = .month2 := by cases p <;> simp [code] at z <;> rfl
      subst ep
      rfl
    · have ep : p = .month1 := by cases p <;> simp [code] at z <;> rfl
      subst ep
      show nl (padded 1 (digits m)) = nl (digits m)
      rw [padded_one]
    · exact absurd z hb
theorem ok_fixed {f : Addr} {fd : FuncData} (F : Fun K "fixed" "Tongue.fixed" sFixed f fd) (G : Gs K mg) (T : TonC K C) (c1 : Cal P w K mg base CX0 1 "digits_of" spDigitsOf) (m1 : Met P w K mg base CX0 2 C "month_written" (spMonthWritten C)) : FnOk P w K mg base CX0 3 f fd ["self", "part", "month", "day", "weekday"] (spFixed C) := by
  obtain ⟨aM, mM, tM⟩ := G.cMonthParts
  refine F.ok scFixed (fun vs H Q E h => by obtain ⟨a, b, t, p, m, d, w, rfl, _⟩ := h; rfl) (fun cdv A outer s H vs Q E hr h => ?_)
  refine ⟨_, (pss_cons (ps_asg (pv 1) (pg_tup (by rfl) (pgs_cons (pg_name (i := 5) scFixed.nd rfl (.inl rfl)) (pgs_cons (pg_name (i := 6) scFixed.nd rfl (.inl rfl)) pgs_nil))))
      (pss_cons (ps_if (pt_cmpR op_eq (pv 5) (pgi G.cAsTheyAre) (nomark _)) (pss_one (ps_ret (pv 6))) pss_nil)
      (pss_cons (ps_if (pt_cmpR op_in_seq (pv 5) (pgr mM) (by rfl)) (pss_one (ps_ret (pe_mt m1 hr (by decide) pass0 (pv 0) (pa_cons (pv 5) (pa_cons (pv 2) pa_nil))))) pss_nil)
      (pss_cons (ps_if (pt_cmpR op_eq (pv 5) (pgi G.cWeekdayName) (nomark _)) (pss_one (ps_ret (pe_ix ix_list (pe_fld (pv 0) rfl) (pv 4) (fun _ _ => rfl)))) pss_nil)
      (pss_one (ps_ret (pe_c c1 hr (by decide) pass0 rfl (pa_cons (pv 3) (pa_cons (pe_ix ix_list (pe_lst (pa_cons (pe_int) (pa_cons (pe_int) pa_nil))) (pe_callTy (call_int1) (by rfl) G.bInt (by decide +kernel) (pa_cons (pe_cmpR op_eq (pv 5) (pgi G.cDay) (nomark _)) pa_nil)) (fun _ _ => rfl)) pa_nil))))))))), ?_⟩
  obtain ⟨a, b, t, p, m, d, wd, rfl, hT, g, ⟨o, ho1, ho2⟩, h1, h2, hd, hw, hp, k⟩ := h
  obtain ⟨dx, pm, pw, ha, hm, ⟨as, hw1, hw2⟩⟩ := id hT
  refine q_asgT2 (ev_var rfl) ho1 fun H1 e1 => ?_
  refine q_when (b := decide (code p = 0)) (et_test (ev_eqI (ev_var rfl) ev_c (decide_eq_decide.mpr (by omega)))) (fun hb H2 e2 => ?_) (fun hb H2 e2 => ?_)
  · have hb : code p = 0 := of_decide_eq_true hb
    have ep : fixP t m d wd p = ownB p := by cases p <;> simp [code] at hb <;> rfl
    rw [ep] at k
    exact s_retR (er_v (ev_var rfl) (e2 o _ (e1 o _ ho2))) fun q H3 e3 h3 => k q H3 ((e1.trans e2).trans e3) h3
  have hb0 : ¬ code p = 0 := of_decide_eq_false hb
  refine q_when (b := decide (code p ∈ [3, 4, 5])) (et_test (ev_inT (ev_var rfl) ev_c tM rfl)) (fun hb H3 e3 => ?_) (fun hb H3 e3 => ?_)
  · have hb : code p ∈ [3, 4, 5] := of_decide_eq_true hb
    have hb : code p = 3 ∨ code p = 4 ∨ code p = 5 := by simpa using hb
    have ep : fixP t m d wd p = fixP t m 0 0 p := by cases p <;> simp [code] at hb <;> rfl
    rw [ep] at k
    have e13 := (e1.trans e2).trans e3
    exact s_retR (er_meth (ev_var rfl) (e13 a _ ha) rfl (ea_cons (ev_var rfl) (ea_cons (ev_var rfl) ea_nil)) (sr_monthWritten (hT.mono e13) g h1 h2 hb)) fun q H4 e4 h4 => k q H4 (e13.trans e4) h4
  have hb1 : ¬ (code p = 3 ∨ code p = 4 ∨ code p = 5) := by simpa using hb
  have e13 := (e1.trans e2).trans e3
  refine q_when (b := decide (code p = 8)) (et_test (ev_eqI (ev_var rfl) ev_c (decide_eq_decide.mpr (by omega)))) (fun hb H4 e4 => ?_) (fun hb H4 e4 => ?_)
  · have hb : code p = 8 := of_decide_eq_true hb
    have ep : p = .weekName := by cases p <;> simp [code] at hb <;> rfl
    subst ep
    obtain ⟨c, hc1, hc2⟩ := hw2.get' (week_at g hw)
    have e14 := e13.trans e4
    exact s_retR (xs := nl (fixP t m d wd .weekName)) (er_v (p := c) (ev_ixL (j := wd) (ev_fld (ev_var rfl) (e14 a _ ha) T.cl T.nWeekdays rfl) (ev_var rfl) (sq_of (e14 pw _ hw1)) rfl (by rw [List.getElem?_map, hc1]; rfl)) (e14 c _ hc2)) fun q H5 e5 h5 => k q H5 (e14.trans e5) h5
  · have hb : ¬ code p = 8 := of_decide_eq_false hb
    have e14 := e13.trans e4
    have hd19 : d < 10 ^ 19 := Nat.lt_of_le_of_lt hd (by decide)
    refine s_retR (xs := nl (fixP t m d wd p)) (er_l (el_is (el_c1 (ea_cons (ev_var rfl) (ea_cons (ev_pick (b := decide (code p = 6)) (ev_var rfl) ev_c (decide_eq_decide.mpr (by omega))) ea_nil)) (sl_digitsOf hd19 (by split <;> omega))) ?_)) fun q H5 e5 h5 => k q H5 (e14.trans e5) h5
    cases p with
    | day2 => rfl
    | day1 =>
      show nl (padded 1 (digits d)) = nl (digits d)
      rw [padded_one]
    | text u => exact absurd rfl hb0
    | year4 => exact absurd rfl hp.1
    | year2 => exact absurd rfl hp.2
    | month2 => exact absurd (.inl rfl) hb1
    | month1 => exact absurd (.inr (.inl rfl)) hb1
    | monthName => exact absurd (.inr (.inr rfl)) hb1
    | weekName => exact absurd rfl hb
theorem ok_twritten {f : Addr} {fd : FuncData} (F : Fun K "written" "Tongue.written" sTWritten f fd) (G : Gs K mg) (T : TonC K C) (c1 : Cal P w K mg base CX0 1 "digits_of" spDigitsOf) (c2 : Cal P w K mg base CX0 4 "weekday_of" spWeekdayOf) (m1 : Met P w K mg base CX0 3 C "fixed" (spFixed C)) : FnOk P w K mg base CX0 5 f fd ["self", "pattern", "year", "month", "day"] (spTWritten C) := by
  refine F.ok scTWritten (fun vs H Q E h => by obtain ⟨a, b, t, p, x, rfl, _⟩ := h; rfl) (fun cdv A outer s H vs Q E hr h => ?_)
  refine ⟨_, (pss_cons (ps_set (i := 5) scTWritten.nd rfl (.inl rfl) (pe_c c2 hr (by decide) pass0 rfl (pa_cons (pv 2) (pa_cons (pv 3) (pa_cons (pv 4) pa_nil)))))
      (pss_cons (ps_set (i := 6) scTWritten.nd rfl (.inl rfl) (pe_lst pa_nil))
      (pss_cons (ps_for PassesOwn.never rfl (pi_list (pv 1)) (pg_name (i := 7) scTWritten.nd rfl (.inl rfl)) (pss_one (ps_if (pt_cmpR op_eq (pe_ix ix_tup (pv 7) pe_int (fun _ _ => rfl)) (pgi G.cYear) (nomark _)) (pss_one (ps_set (i := 6) scTWritten.nd rfl (.inl rfl) (pe_op op_cat (pv 6) (pe_c c1 hr (by decide) pass0 rfl (pa_cons (pv 2) (pa_cons (pe_int) pa_nil))))))
        (pss_one (ps_if (pt_cmpR op_eq (pe_ix ix_tup (pv 7) pe_int (fun _ _ => rfl)) (pgi G.cShortYear) (nomark _)) (pss_one (ps_set (i := 6) scTWritten.nd rfl (.inl rfl) (pe_op op_cat (pv 6) (pe_c c1 hr (by decide) pass0 rfl (pa_cons (pe_op op_mod (pv 2) (pgi G.cHundred)) (pa_cons (pe_int) pa_nil))))))
          (pss_one (ps_set (i := 6) scTWritten.nd rfl (.inl rfl) (pe_op op_cat (pv 6) (pe_mt m1 hr (by decide) pass0 (pv 0) (pa_cons (pv 7) (pa_cons (pv 3) (pa_cons (pv 4) (pa_cons (pv 5) pa_nil)))))))))))))
      (pss_one (ps_ret (pv 6)))))), ?_⟩
  obtain ⟨a, b, t, ps, x, rfl, hT, g, ⟨as, hb1, hb2⟩, gp, hx, k⟩ := h
  obtain ⟨x1, x2, x3, x4, x5, x6⟩ := dayOk_iff.mp hx
  have x7 := day_le hx
  have hw := weekday_lt x
  refine q_asg (v := nv (weekday x)) (ev_c1 (ea_cons (ev_var rfl) (ea_cons (ev_var rfl) (ea_cons (ev_var rfl) ea_nil))) (sv_weekdayOf ⟨x1, x3, x4, x5⟩)) fun H1 e1 => ?_
  refine q_asgL (el_lst (vs := []) ea_nil (by decide)) fun l H2 hl2 e2 h2 => ?_
  refine q_forLn (a := b) (xs := as.map V.ref) (ev_var rfl) (sq_of (e2 b _ (e1 b _ hb1))) (fun i σ H' => Ex H H' ∧ ∃ (q : Addr) (o : Option V), σ = [some (.ref a), some (.ref b), some (nv x.y), some (nv x.m), some (nv x.d), some (nv (weekday x)), some (.ref q), o] ∧ H q = none ∧ H' q = some (.lst (nl (textTo t ps x i))))
    (fun H3 e3 => ⟨(e1.trans e2).trans e3, l, none, rfl, fresh_back e1 hl2, e3 l _ h2⟩) (fun i σ H' _ ⟨e, _⟩ => sq_of (e b _ hb1)) (fun i v σ H' hv ⟨e, q, o, hσ, hq, hl⟩ => ?_) (fun σ H' ⟨e, q, o, hσ, hq, hl⟩ => ?_)
  · subst hσ
    obtain ⟨c, p, rfl, hp, hc⟩ := hb2.get hv
    obtain ⟨ob, hc1, hc2⟩ := id (hc.mono e)
    have hi : i < ps.length := (List.getElem?_eq_some_iff.mp hp).1
    have hlen := textTo_len g gp (x := x) x2 ⟨x3, x4⟩ x7 i
    have hpl := part_len g (x := x) x2 ⟨x3, x4⟩ x7 (gp.2 p (List.mem_of_getElem? hp))
    have h8 := gp.1
    have fin : ∀ {te : TE} {H3 : Hp}, Ex H' H3 → EvR te [some (.ref a), some (.ref b), some (nv x.y), some (nv x.m), some (nv x.d), some (nv (weekday x)), some (.ref q), some (.ref c)] H3 (nl (part t x p)) →
        tAsg (tOp rCat (tVar 6) te) (gName 6) { nx := fun σ H' => Ex H H' ∧ ∃ (q : Addr) (o : Option V), σ = [some (.ref a), some (.ref b), some (nv x.y), some (nv x.m), some (nv x.d), some (nv (weekday x)), some (.ref q), o] ∧ H q = none ∧ H' q = some (.lst (nl (textTo t ps x (i + 1)))), rt := Q, bk := tRet (tVar 6) { nx := fun x H' => Q .non H', rt := Q }, ct := fun σ H' => Ex H H' ∧ ∃ (q : Addr) (o : Option V), σ = [some (.ref a), some (.ref b), some (nv x.y), some (nv x.m), some (nv x.d), some (nv (weekday x)), some (.ref q), o] ∧ H q = none ∧ H' q = some (.lst (nl (textTo t ps x (i + 1)))) }
          [some (.ref a), some (.ref b), some (nv x.y), some (nv x.m), some (nv x.d), some (nv (weekday x)), some (.ref q), some (.ref c)] H3 := fun {te H3} e3 hte =>
      s_asgL (el_cat (er_v (ev_var rfl) (e3 q _ hl)) hte (by rw [nl_len, nl_len]; omega)) fun q2 H4 hq2 e4 h4 => ⟨(e.trans e3).trans e4, q2, _, rfl, fresh_back (e.trans e3) hq2, by rw [textTo_succ hp, nl_app]; exact h4⟩
    refine s_if (b := decide (code p = 1)) (et_test (ev_eqI (ev_ixT (j := 0) (ev_var rfl) ev_c (st_of hc1) rfl rfl) ev_c (decide_eq_decide.mpr (by omega)))) (fun hb H3 e3 => ?_) (fun hb H3 e3 => ?_)
    · have hb : code p = 1 := of_decide_eq_true hb
      have ep : p = .year4 := by cases p <;> simp [code] at hb <;> rfl
      subst ep
      exact fin e3 (er_l (el_c1 (ea_cons (ev_var rfl) (ea_cons ev_c ea_nil)) (sl_digitsOf (n := x.y) (k := 4) (Nat.lt_of_le_of_lt x2 (by decide)) (by decide))))
    · have hb : ¬ code p = 1 := of_decide_eq_false hb
      refine s_if (b := decide (code p = 2)) (et_test (ev_eqI (ev_ixT (j := 0) (ev_var rfl) ev_c (st_of (e3 c _ hc1)) rfl rfl) ev_c (decide_eq_decide.mpr (by omega)))) (fun hb2' H4 e4 => ?_) (fun hb2' H4 e4 => ?_)
      · have hb2' : code p = 2 := of_decide_eq_true hb2'
        have ep : p = .year2 := by cases p <;> simp [code] at hb2' <;> rfl
        subst ep
        exact fin (e3.trans e4) (er_l (el_c1 (ea_cons (ev_mod (m := ((x.y % 100 : Nat) : Int)) (ev_var rfl) ev_c (by decide) (by omega)) (ea_cons ev_c ea_nil)) (sl_digitsOf (n := x.y % 100) (k := 2) (Nat.lt_of_lt_of_le (Nat.mod_lt _ (by decide)) (by decide)) (by decide))))
      · have hb2' : ¬ code p = 2 := of_decide_eq_false hb2'
        have e34 := e3.trans e4
        obtain ⟨dx, pm, pw, ha, hr3⟩ := hT
        refine fin e34 ?_
        rw [part_fix ⟨hb, hb2'⟩]
        exact er_meth (ev_var rfl) (e34 a _ (e a _ ha)) rfl (ea_cons (ev_var rfl) (ea_cons (ev_var rfl) (ea_cons (ev_var rfl) (ea_cons (ev_var rfl) ea_nil)))) (sr_fixed (TonAt.mono (e.trans e34) ⟨dx, pm, pw, ha, hr3⟩) g (hc.mono (e.trans e34)) x3 x4 x7 hw ⟨hb, hb2'⟩)
  · subst hσ
    have hl8 : (as.map V.ref).length = ps.length := by rw [List.length_map, hb2.len]
    rw [hl8, textTo_all] at hl
    exact s_ret (ev_var rfl) fun H3 e3 => k q H3 hq (e.trans e3) (e3 q _ hl)
theorem ok_hasSome {f : Addr} {fd : FuncData} (F : Fun K "has_some" "has_some" sHasSome f fd) (G : Gs K mg) : FnOk P w K mg base CX0 1 f fd ["kinds", "some"] (spHasSome K) := by
  refine F.ok scHasSome (fun vs H Q E h => by obtain ⟨a, b, t, p, rfl, _⟩ := h; rfl) (fun cdv A outer s H vs Q E hr h => ?_)
  refine ⟨_, (pss_one (ps_ret (pe_callB (cr_any rfl) (by rfl) G.bAny (by decide +kernel) (pa_cons (pe_lc (own := [("which", 2)]) (g := gName 2) (tt := tYes) (te := tOp (rIn K false) (tVar 2) (tVar 0)) rfl scHasSome.nd (pi_tup (pv 1)) (blkOk_by (own := [("which", 2)]) (N := ["kinds", "some", "which"]) (sc := defScope sHasSome) (by decide +kernel))
          (fun _ _ _ _ _ => pg_name (i := 2) scHasSome.nd rfl (Or.inl rfl)) (fun _ _ _ _ _ => pts_nil) (fun _ _ _ _ _ => pe_cmpR op_in_seq (pv 2) (pv 0) (by rfl))) pa_nil)))), ?_⟩
  obtain ⟨a, b, ks, ss, rfl, ha, hb, hl, k⟩ := h
  have gi : ∀ i, i < ss.length → ss[i]? = some (ss.getD i 0) := fun i hi => by rw [List.getD_eq_getElem?_getD, List.getElem?_eq_getElem hi]; rfl
  refine s_ret (ev_is (ev_anyL (bs := ss.map fun s => decide (s ∈ ks)) ?_) (by rw [List.any_map]; rfl)) k
  refine el_is (el_lcW (it := fun i => nv (ss.getD i 0)) (walk_tup (K := K) (a := b) (xs := nl ss)) (fun i H x H' hi y => ?_) (fun H' e => hb.sq) (fun _ => true) (fun i => .bl (decide (ss.getD i 0 ∈ ks))) (ei_tup (ev_var rfl) hb.sq) (by rw [nl_len]; omega) (fun i H1 e1 hi => et_yes) (fun i H1 e1 hi _ => ?_)) ?_
  · rw [nl_len] at hi
    obtain ⟨rfl, hx⟩ := y
    rw [nl_at (gi i hi)] at hx
    exact ⟨rfl, (Option.some.inj hx).symm⟩
  · exact ev_inL (ev_var rfl) (ev_var rfl) (e1 a _ ha) rfl
  · rw [given_all, nl_len, ← List.length_map (as := ss) (f := fun s => V.bl (decide (s ∈ ks)))]
    rw [List.map_map]
    refine range_map fun i v hv => ?_
    rw [List.getElem?_map] at hv
    cases e : ss[i]? with
    | none => rw [e] at hv; cases hv
    | some c =>
      rw [e] at hv
      rw [List.getD_eq_getElem?_getD, e]
      exact Option.some.inj hv
end
end Wd
namespace Wd
open PySem PySem.Spec PyProof.Rows L2 Evl
open Ut08 (Day Part Tongue Num isDigit digits padded valueOf weekday dayOk part dayText)

structure ToldArgs (C : Addr) (H : Hp) (a b r : Addr) (t : Tongue) (ps : List Part) (row : List Nat) (m d w : Nat) : Prop where
  ton : TonAt C H a t
  tg : TonGood t
  pat : PatAt H b ps
  pg : PatGood ps
  hrow : H r = some (.lst (nl row))
  rl : row.length ≤ 100
  m1 : 1 ≤ m
  m2 : m ≤ 12
  d2 : d ≤ 31
  w7 : w < 7
theorem ToldArgs.mono {C : Addr} {H H' : Hp} {a b r : Addr} {t : Tongue} {ps : List Part} {row : List Nat} {m d w : Nat} (e : Ex H H') (h : ToldArgs C H a b r t ps row m d w) : ToldArgs C H' a b r t ps row m d w :=
  ⟨h.ton.mono e, h.tg, h.pat.mono e, h.pg, e r _ h.hrow, h.rl, h.m1, h.m2, h.d2, h.w7⟩
def spYearTold (C : Addr) : Sp := fun vs H Q _ => ∃ (a b r : Addr) (t : Tongue) (ps : List Part) (row : List Nat) (m d w : Nat), vs = [.ref a, .ref b, .ref r, nv m, nv d, nv w] ∧ ToldArgs C H a b r t ps row m d w ∧
  (yearTold t ps row m d w = none → RetV .non H Q) ∧ (∀ c v, yearTold t ps row m d w = some (c, v) → RetU [nv c, nv v] H Q)
def optV : Option Nat → V
  | none => .non
  | some n => nv n
def spYearMeant (C : Addr) : Sp := fun vs H Q _ => ∃ (a b r : Addr) (t : Tongue) (ps : List Part) (row : List Nat) (m d w y : Nat), vs = [.ref a, .ref b, .ref r, nv m, nv d, nv w, nv y] ∧ ToldArgs C H a b r t ps row m d w ∧ RetV (optV (yearMeant t ps row m d w y)) H Q
theorem sv_yearMeant {C a b r : Addr} {H : Hp} {t : Tongue} {ps : List Part} {row : List Nat} {m d w y : Nat} (h : ToldArgs C H a b r t ps row m d w) : SpV (spYearMeant C) [.ref a, .ref b, .ref r, nv m, nv d, nv w, nv y] H (optV (yearMeant t ps row m d w y)) := fun H1 e Q q _ => ⟨a, b, r, t, ps, row, m, d, w, y, rfl, h.mono e, q⟩
abbrev sYearTold : Stmt := inClass (topS 43) 5
abbrev sYearMeant : Stmt := inClass (topS 43) 6
theorem scYearTold : FnScope ["self", "pattern", "row", "month", "day", "weekday", "found", "at", "part", "own", "which", "byte"] ["self", "pattern", "row", "month", "day", "weekday"] (defScope sYearTold) := ⟨rfl, rfl, rfl, by decide +kernel, rfl, by decide +kernel, by decide +kernel⟩
theorem scYearMeant : FnScope ["self", "pattern", "row", "month", "day", "weekday", "year", "told"] ["self", "pattern", "row", "month", "day", "weekday", "year"] (defScope sYearMeant) := ⟨rfl, rfl, rfl, by decide +kernel, rfl, by decide +kernel, by decide +kernel⟩
section
variable {K : PySem.W.Frag} {σ : L2.St} {H H' : Hp} {ta tb tc te tx : TE} {t u : TT} {x y z v : V} {D : Ends}
/-- [4, 2][i - 1] -/
theorem ev_four {i : Int} {c n : Nat} (ha : Ev ta σ H (.int i)) (hc : i = (c : Int)) (h : c = 1 ∨ c = 2) (hn : n = if c = 1 then 4 else 2) : Ev (tOp (rIxL K) (tLst (tCons (tC (.int 4)) (tCons (tC (.int 2)) tNil))) (tOp (rI0 fun i j => .int (i - j)) ta (tC (.int 1)))) σ H (nv n) := by
  subst hn
  refine ev_ixR (ns := [4, 2]) (j := c - 1) (er_l (el_lst (ea_cons ev_c (ea_cons ev_c ea_nil)) (by show 2 ≤ 100000; decide))) (ev_sub ha ev_c rfl) (by omega) ?_
  rcases h with z | z <;> subst z <;> rfl
theorem q_asgR {i : Nat} {xs : List V} {tz : TS} (h : EvR te σ H xs) (k : ∀ p H1, Ex H H1 → H1 p = some (.lst xs) → tz D (σ.set i (some (.ref p))) H1) : tSeq (tAsg te (gName i)) tz D σ H := h H (Ex.refl H) _ fun p H1 e h1 => k p H1 e h1
theorem put_len {κ : Type} [DecidableEq κ] (c : List (κ × V)) (k : κ) (x : V) : (putK c k x).length ≤ c.length + 1 := by
  unfold putK
  split
  · rw [List.length_map]
    omega
  · rw [List.length_append]
    exact Nat.le_refl _
theorem s_dput {td ty tv : TE} {d : Addr} {kvs : List (Key × V)} {c : Int} (hd : H d = some (.dK kvs)) (hv : Ev tv σ H v) (ho : Ev td σ H (.ref d)) (hi : Ev ty σ H (.int c)) (hl : kvs.length ≤ 1000) (k : ∀ H1, Ex H H1 → D.nx σ (upd H1 d (.dK (putK kvs (Sum.inl c) v)))) : sDPut td ty tv D σ H :=
  hv H (Ex.refl H) _ fun H1 e1 => ho H1 e1 _ fun H2 e2 => hi H2 (e1.trans e2) _ fun H3 e3 => ⟨d, _, rfl, DPut.k (k := Sum.inl c) (((e1.trans e2).trans e3) d _ hd) (Nat.lt_of_le_of_lt hl (by decide)), k H3 ((e1.trans e2).trans e3)⟩
theorem et_din {td ty : TE} {d : Addr} {kvs : List (Key × V)} {c : Int} {b : Bool} (hd : H d = some (.dK kvs)) (hi : Ev ty σ H (.int c)) (ho : Ev td σ H (.ref d)) (e : (valV kvs (Sum.inl c)).isSome = b) : EvT (tB (tDIn ty td)) σ H b := fun H1 e1 Q q =>
  hi H1 e1 _ fun H2 e2 => ho H2 (e1.trans e2) _ fun H3 e3 => ⟨d, _, rfl, DGet.k (k := Sum.inl c) (e3 d _ (e2 d _ (e1 d _ hd))), b, congrArg V.bl e, q H3 (e2.trans e3)⟩
theorem ev_dget {td ty : TE} {d : Addr} {kvs : List (Key × V)} {c : Int} (hd : H d = some (.dK kvs)) (ho : Ev td σ H (.ref d)) (hi : Ev ty σ H (.int c)) (e : valV kvs (Sum.inl c) = some v) : Ev (tDGet td ty) σ H v := fun H1 e1 Q q =>
  ho H1 e1 _ fun H2 e2 => hi H2 (e1.trans e2) _ fun H3 e3 => ⟨d, v, rfl, e ▸ DGet.k (k := Sum.inl c) (e3 d _ (e2 d _ (e1 d _ hd))), q H3 (e2.trans e3)⟩
theorem ev_none {b : Bool} (ha : Ev te σ H x) (e : decide (x = V.non) = b) : EvT (tTest (tOp (fun x y H Q => y = .non ∧ Q (.bl (decide (x = .non))) H) te (tC .non))) σ H b :=
  et_test (ev_op ha ev_c fun H1 _ Q q => ⟨rfl, by rw [e]; exact q H1 (Ex.refl H1)⟩)
end
section
variable {P : Program} {w : World} {K : PySem.W.Frag} {mg : Str → Option Value} {base : Heap} {C : Addr}
theorem toldGo_year {t : Tongue} {m d w : Nat} {row : List Nat} {p : Part} {ps : List Part} {pos n : Nat} {a b : Option Nat} (hc : code p = 1 ∨ code p = 2) (hn : n = if code p = 1 then 4 else 2) :
    toldGo t m d w row (p :: ps) pos a b = if ((row.drop pos).take n).length = n ∧ ((row.drop pos).take n).all isDigit = true then toldGo t m d w row ps (pos + n) (if code p = 1 then some (valueOf ((row.drop pos).take n)) else a) (if code p = 1 then b else some (valueOf ((row.drop pos).take n))) else none := by
  rw [toldGo]
  rcases hc with z | z
  · rw [if_pos z] at hn ⊢
    subst hn
    simp only [z, if_true]
  · rw [if_neg (by omega)] at hn
    subst hn
    rw [if_neg (by omega), if_pos z]
    simp only [z, show ¬ (2 = 1) by decide, if_false]
theorem toldGo_fix {t : Tongue} {m d w : Nat} {row : List Nat} {p : Part} {ps : List Part} {pos : Nat} {a b : Option Nat} (hc : ¬ (code p = 1 ∨ code p = 2)) :
    toldGo t m d w row (p :: ps) pos a b = if (row.drop pos).take (fixP t m d w p).length = fixP t m d w p then toldGo t m d w row ps (pos + (fixP t m d w p).length) a b else none := by
  rw [toldGo, if_neg (fun z => hc (.inl z)), if_neg (fun z => hc (.inr z))]
theorem ok_yearTold {f : Addr} {fd : FuncData} (F : Fun K "year_told" "Tongue.year_told" sYearTold f fd) (G : Gs K mg) (T : TonC K C) (c1 : Cal P w K mg base CX0 1 "is_digit" spIsDigit) (c2 : Cal P w K mg base CX0 1 "value_of" spValueOf) (m1 : Met P w K mg base CX0 3 C "fixed" (spFixed C)) : FnOk P w K mg base CX0 4 f fd ["self", "pattern", "row", "month", "day", "weekday"] (spYearTold C) := by
  obtain ⟨aY, mY, tY⟩ := G.cYearParts
  refine F.ok scYearTold (fun vs H Q E h => by obtain ⟨a, b, r, t, p, row, m, d, w, rfl, _⟩ := h; rfl) (fun cdv A outer s H vs Q E hr h => ?_)
  have hu := hu_of hr
  refine ⟨_, (pss_cons (ps_set (i := 6) scYearTold.nd rfl (.inl rfl) pe_dnewK)
      (pss_cons (ps_set (i := 7) scYearTold.nd rfl (.inl rfl) pe_int)
      (pss_cons (ps_for PassesOwn.never rfl (pi_list (pv 1)) (pg_name (i := 8) scYearTold.nd rfl (.inl rfl)) (Evl.pss_cut (ps_if (pt_cmpR op_in_seq (pe_ix ix_tup (pv 8) pe_int (fun _ _ => rfl)) (pgr mY) (by rfl)) (pss_cons (ps_set (i := 9) scYearTold.nd rfl (.inl rfl) (pe_slice sl_list (pv 2) (po_some (pv 7)) (po_some (pe_op op_add (pv 7) (pe_ix ix_list (pe_lst (pa_cons (pe_int) (pa_cons (pe_int) pa_nil))) (pe_op op_sub (pe_ix ix_tup (pv 8) pe_int (fun _ _ => rfl)) pe_int) (fun _ _ => rfl))))))
      (pss_cons (ps_if (PW.pt (pw_or (pt_cmpR op_ne (pe_callB call_len_seq (by rfl) G.bLen PySem.boot_len (pa_cons (pv 9) pa_nil)) (pe_ix ix_list (pe_lst (pa_cons (pe_int) (pa_cons (pe_int) pa_nil))) (pe_op op_sub (pe_ix ix_tup (pv 8) pe_int (fun _ _ => rfl)) pe_int) (fun _ _ => rfl)) (nomark _)) (pw_or1 (pt_not (pt_val (pe_callB (cr_all rfl) (by rfl) G.bAll (by decide +kernel) (pa_cons (pe_lc (own := [("byte", 11)]) (g := gName 11) (tt := tYes) rfl scYearTold.nd (pi_list (pv 9)) (blkOk_by (own := [("byte", 11)]) (N := ["self", "pattern", "row", "month", "day", "weekday", "found", "at", "part", "own", "which", "byte"]) (sc := defScope sYearTold) (by decide +kernel))
              (fun _ _ _ _ _ => pg_name (i := 11) scYearTold.nd rfl (Or.inl rfl)) (fun _ _ _ _ _ => pts_nil) (fun _ _ _ _ _ => pe_c c1 hr (by decide) pass0 rfl (pa_cons (pv 11) pa_nil))) pa_nil))))))) (pss_one (ps_ret pe_non)) pss_nil)
      (pss_one (ps_dput hu (pv 6) (pe_ix ix_tup (pv 8) pe_int (fun _ _ => rfl)) (pe_c c2 hr (by decide) pass0 rfl (pa_cons (pv 9) pa_nil)) rfl))))
        (pss_cons (ps_set (i := 9) scYearTold.nd rfl (.inl rfl) (pe_mt m1 hr (by decide) pass0 (pv 0) (pa_cons (pv 8) (pa_cons (pv 3) (pa_cons (pv 4) (pa_cons (pv 5) pa_nil))))))
      (pss_one (ps_if (pt_cmpR (op_neD hr.units) (pe_slice sl_list (pv 2) (po_some (pv 7)) (po_some (pe_op op_add (pv 7) (pe_callB call_len_seq (by rfl) G.bLen PySem.boot_len (pa_cons (pv 9) pa_nil))))) (pv 9) (nomark _)) (pss_one (ps_ret pe_non)) pss_nil))))
      (pss_one (ps_set (i := 7) scYearTold.nd rfl (.inl rfl) (pe_op op_add (pv 7) (pe_callB call_len_seq (by rfl) G.bLen PySem.boot_len (pa_cons (pv 9) pa_nil)))))))
      (pss_cons (ps_if (pt_cmpR op_ne (pv 7) (pe_callB call_len_seq (by rfl) G.bLen PySem.boot_len (pa_cons (pv 2) pa_nil)) (nomark _)) (pss_one (ps_ret pe_non)) pss_nil)
      (pss_cons (ps_for PassesOwn.never rfl (pi_tup (pgr mY)) (pg_name (i := 10) scYearTold.nd rfl (.inl rfl)) (pss_one (ps_if (pt_cmp (pc_din hu (pv 10) (pv 6))) (pss_one (ps_ret (pe_tup (pa_cons (pv 10) (pa_cons (pe_dget hu (pv 6) (pv 10) (fun _ _ => rfl)) pa_nil))))) pss_nil)))
      (pss_one (ps_ret (pe_tup (pa_cons (pe_int) (pa_cons (pe_int) pa_nil)))))))))), ?_⟩
  obtain ⟨a, b, r, t, ps, row, m, d, wd, rfl, hA, kN, kS⟩ := h
  obtain ⟨as, hb1, hb2⟩ := id hA.pat
  obtain ⟨dx, pm, pw, ha, hrows⟩ := id hA.ton
  have h8 := hA.pg.1
  have hrl := hA.rl
  intro l hl
  have ed : Ex H (upd H l (.dK [])) := Ex.new hl
  have hlen8 : (as.map V.ref).length = ps.length := by rw [List.length_map, hb2.len]
  show tSeq (tAsg (tC (V.int 0)) (gName 7)) _ _ _ _
  refine q_asg ev_c fun H1 e1 => ?_
  refine q_forLn (a := b) (xs := as.map V.ref) (ev_var rfl) (sq_of (e1 b _ (ed b _ hb1))) (fun i σ H' => Ex H H' ∧ ∃ (pos : Nat) (y k : Option Nat) (kvs : List (Key × V)) (o1 o2 : Option V), σ = [some (.ref a), some (.ref b), some (.ref r), some (nv m), some (nv d), some (nv wd), some (.ref l), some (nv pos), o1, o2, none, none] ∧
      H' l = some (.dK kvs) ∧ valV kvs (Sum.inl 1) = y.map nv ∧ valV kvs (Sum.inl 2) = k.map nv ∧ kvs.length ≤ i ∧ pos ≤ 6 * i ∧ toldGo t m d wd row ps 0 none none = toldGo t m d wd row (ps.drop i) pos y k)
    (fun H2 e2 => ⟨(ed.trans e1).trans e2, 0, none, none, [], none, none, rfl, e2 l _ (e1 l _ upd_same), rfl, rfl, Nat.le_refl _, Nat.le_refl _, rfl⟩) (fun i σ H' _ ⟨e, _⟩ => sq_of (e b _ hb1))
    (fun i v σ H' hv ⟨e, pos, y, k, kvs, o1, o2, hσ, hd, hy, hk, hkl, hpos, htg⟩ => ?_) (fun σ H' ⟨e, pos, y, k, kvs, o1, o2, hσ, hd, hy, hk, hkl, hpos, htg⟩ => ?_)
  · subst hσ
    obtain ⟨c, p, rfl, hp, hc⟩ := hb2.get hv
    obtain ⟨ob, hc1, hc2⟩ := id (hc.mono e)
    have hi : i < ps.length := (List.getElem?_eq_some_iff.mp hp).1
    have edrop : ps.drop i = p :: ps.drop (i + 1) := by
      rw [List.drop_eq_getElem_cons hi]
      congr 1
      exact (List.getElem?_eq_some_iff.mp hp).2
    rw [edrop] at htg
    have hr' := e r _ hA.hrow
    refine q_cut (M := fun σ H2 => Ex H H2 ∧ ∃ (y' k' : Option Nat) (kvs' : List (Key × V)) (own : List Nat) (po : Addr), σ = [some (.ref a), some (.ref b), some (.ref r), some (nv m), some (nv d), some (nv wd), some (.ref l), some (nv pos), some (.ref c), some (.ref po), none, none] ∧
        H2 po = some (.lst (nl own)) ∧ own.length ≤ 6 ∧ H2 l = some (.dK kvs') ∧ valV kvs' (Sum.inl 1) = y'.map nv ∧ valV kvs' (Sum.inl 2) = k'.map nv ∧ kvs'.length ≤ i + 1 ∧ toldGo t m d wd row ps 0 none none = toldGo t m d wd row (ps.drop (i + 1)) (pos + own.length) y' k') ?_ (fun σ H2 ⟨e2, y', k', kvs', own, po, hσ, hpo, hol, hd', hy', hk', hkl', htg'⟩ => ?_)
    · refine s_if (b := decide (code p ∈ [1, 2])) (et_test (ev_inT (ev_ixT (j := 0) (ev_var rfl) ev_c (st_of hc1) rfl rfl) ev_c tY rfl)) (fun hcd H2 e2 => ?_) (fun hcd H2 e2 => ?_)
      · have hcd : code p ∈ [1, 2] := of_decide_eq_true hcd
        have hcd : code p = 1 ∨ code p = 2 := by simpa using hcd
        obtain ⟨n, hn⟩ : ∃ n, n = if code p = 1 then 4 else 2 := ⟨_, rfl⟩
        have hn4 : n ≤ 4 := by rw [hn]; split <;> decide
        obtain ⟨own, hown⟩ : ∃ own, own = (row.drop pos).take n := ⟨_, rfl⟩
        have hol : own.length ≤ 4 := by rw [hown, List.length_take]; omega
        rw [toldGo_year hcd hn, ← hown] at htg
        refine q_asgL (xs := nl own) (el_is (er_slice (er_v (ev_var rfl) (e2 r _ hr')) (eo_some (ev_var rfl)) (eo_some (i := ((pos + n : Nat) : Int)) (ev_add (ev_var rfl) (ev_four (ev_ixT (j := 0) (ev_var rfl) ev_c (st_of (e2 c _ hc1)) rfl rfl) rfl hcd hn) rfl))) (by rw [cut_both, hown, show pos + n - pos = n by omega])) fun po H3 hpo3 e3 h3 => ?_
        refine q_when (b := decide (own.length ≠ n) || !(own.all isDigit)) (et_or (et_test (ev_neI (ev_lenN (er_v (ev_var rfl) h3)) (ev_four (ev_ixT (j := 0) (ev_var rfl) ev_c (st_of (e3 c _ (e2 c _ hc1))) rfl rfl) rfl hcd hn) (decide_eq_decide.mpr (by omega)))) fun _ => et_not (et_B (ev_is (ev_allL (bs := own.map isDigit) (el_is (el_lcNs (fun _ => true) (fun c => .bl (isDigit c)) (ev_var rfl) h3 (by omega) (fun i c H4 e4 hc => et_yes) (fun i c H4 e4 hc _ => ev_c1 (ea_cons (ev_var rfl) ea_nil) sv_isDigit)) (by rw [List.filter_eq_self.mpr (fun _ _ => rfl), List.map_map]; rfl))) (by rw [List.all_map]; rfl)))) (fun hb H4 e4 => ?_) (fun hb H4 e4 => ?_)
        · have hn0 : yearTold t ps row m d wd = none := by
            unfold yearTold
            rw [htg, if_neg]
            rintro ⟨z1, z2⟩
            rw [z1, z2] at hb
            simp at hb
          exact s_ret ev_c fun H5 e5 => kN hn0 H5 ((((e.trans e2).trans e3).trans e4).trans e5)
        · rw [Bool.or_eq_false_iff] at hb
          have h1 : own.length = n := by simpa using hb.1
          have h2 : own.all isDigit = true := by simpa using hb.2
          rw [if_pos ⟨h1, h2⟩] at htg
          have e24 := (e2.trans e3).trans e4
          have hpol : po ≠ l := fun z => by
            have h4 := e24 l _ hd
            rw [← z, e4 po _ h3] at h4
            cases h4
          have e04 := e.trans e24
          refine s_dput (e24 l _ hd) (ev_c1 (ea_cons (ev_var rfl) ea_nil) (sv_valueOf (e4 po _ h3) h2)) (ev_var rfl) (ev_ixT (j := 0) (ev_var rfl) ev_c (st_of (e24 c _ hc1)) rfl rfl) (by omega) fun H5 e5 => ?_
          refine ⟨(e04.trans e5).mut hl, _, _, putK kvs (Sum.inl (code p : Int)) (nv (valueOf own)), own, po, rfl, by rw [upd_ne hpol]; exact e5 po _ (e4 po _ h3), by omega, upd_same, ?_, ?_, Nat.le_trans (put_len kvs _ _) (by omega), by rw [h1]; exact htg⟩
          · rw [valV_put, hy]
            rcases hcd with z | z
            · rw [z]
              rfl
            · rw [z]
              rfl
          · rw [valV_put, hk]
            rcases hcd with z | z
            · rw [z]
              rfl
            · rw [z]
              rfl
      · have hcd : ¬ (code p = 1 ∨ code p = 2) := by simpa using hcd
        have hcd' : code p ≠ 1 ∧ code p ≠ 2 := ⟨fun z => hcd (.inl z), fun z => hcd (.inr z)⟩
        rw [toldGo_fix hcd] at htg
        have hol := fix_len hA.tg ⟨hA.m1, hA.m2⟩ hA.d2 hA.w7 (hA.pg.2 p (List.mem_of_getElem? hp))
        obtain ⟨own, hown⟩ : ∃ own, own = fixP t m d wd p := ⟨_, rfl⟩
        rw [← hown] at htg hol
        have e02 := e.trans e2
        refine q_asgR (er_meth (xs := nl own) (ev_var rfl) (e02 a _ ha) rfl (ea_cons (ev_var rfl) (ea_cons (ev_var rfl) (ea_cons (ev_var rfl) (ea_cons (ev_var rfl) ea_nil)))) (by rw [hown]; exact sr_fixed (hA.ton.mono e02) hA.tg (hc.mono e02) hA.m1 hA.m2 hA.d2 hA.w7 hcd')) fun po H3 e3 h3 => ?_
        refine s_when (b := decide ((row.drop pos).take own.length ≠ own)) (et_test (ev_neL (er_l (el_is (er_slice (er_v (ev_var rfl) (e3 r _ (e2 r _ hr'))) (eo_some (ev_var rfl)) (eo_some (i := ((pos + own.length : Nat) : Int)) (ev_add (ev_var rfl) (ev_lenN (er_v (ev_var rfl) h3)) rfl))) (by rw [cut_both, show pos + own.length - pos = own.length by omega]))) (er_v (ev_var rfl) h3) rfl)) (fun hb H4 e4 => ?_) (fun hb H4 e4 => ?_)
        · have hb : (row.drop pos).take own.length ≠ own := of_decide_eq_true hb
          have hn0 : yearTold t ps row m d wd = none := by
            unfold yearTold
            rw [htg, if_neg hb]
          exact s_ret ev_c fun H5 e5 => kN hn0 H5 (((e02.trans e3).trans e4).trans e5)
        · have hb : (row.drop pos).take own.length = own := by simpa using hb
          rw [if_pos hb] at htg
          exact ⟨(e02.trans e3).trans e4, y, k, kvs, own, po, rfl, e4 po _ h3, hol, e4 l _ (e3 l _ (e2 l _ hd)), hy, hk, by omega, htg⟩
    · subst hσ
      exact s_asg (v := nv (pos + own.length)) (ev_add (ev_var rfl) (ev_lenN (er_v (ev_var rfl) hpo)) rfl) fun H3 e3 => ⟨e2.trans e3, pos + own.length, y', k', kvs', _, _, rfl, e3 l _ hd', hy', hk', hkl', by omega, htg'⟩
  · subst hσ
    rw [hlen8, List.drop_length] at htg
    rw [toldGo] at htg
    have hr' := e r _ hA.hrow
    refine q_when (b := decide (pos ≠ row.length)) (et_test (ev_neI (ev_var rfl) (ev_lenN (er_v (ev_var rfl) hr')) (decide_eq_decide.mpr (by omega)))) (fun hb H2 e2 => ?_) (fun hb H2 e2 => ?_)
    · have hb : pos ≠ row.length := of_decide_eq_true hb
      have hn0 : yearTold t ps row m d wd = none := by
        unfold yearTold
        rw [htg]
        simp only []
        rw [if_pos hb]
      exact s_ret ev_c fun H5 e5 => kN hn0 H5 ((e.trans e2).trans e5)
    have hb : ¬ pos ≠ row.length := of_decide_eq_false hb
    have hyt := yearTold_of htg hb
    refine q_forT (a := aY) (xs := nl [1, 2]) ev_c tY.sq (fun i σ H' => Ex H2 H' ∧ ∃ o : Option V, σ = [some (.ref a), some (.ref b), some (.ref r), some (nv m), some (nv d), some (nv wd), some (.ref l), some (nv pos), o1, o2, o, none] ∧ (1 ≤ i → y = none) ∧ (2 ≤ i → k = none)) (fun H3 e3 => ⟨e3, none, rfl, fun z => by omega, fun z => by omega⟩) (fun _ _ _ _ _ => tY.sq)
      (fun i v σ H' hv ⟨e3, o, hσ, i1, i2⟩ => ?_) (fun σ H' ⟨e3, o, hσ, i1, i2⟩ => ?_)
    · subst hσ
      obtain ⟨c, hc, rfl⟩ := nl_get hv
      have hic : c = i + 1 ∧ (i = 0 ∨ i = 1) := by
        match i, hc with
        | 0, hc => exact ⟨by simpa using hc.symm, .inl rfl⟩
        | 1, hc => exact ⟨by simpa using hc.symm, .inr rfl⟩
        | i + 2, hc => simp at hc
      have hd3 := e3 l _ (e2 l _ hd)
      show tIfS _ _ _ _ _ _
      rcases hic with ⟨hc1, z | z⟩
      · subst z hc1
        refine s_when (b := y.isSome) (et_din hd3 (ev_var rfl) (ev_var rfl) (by show (valV kvs (Sum.inl 1)).isSome = _; rw [hy]; cases y <;> rfl)) (fun hb H4 e4 => ?_) (fun hb H4 e4 => ?_)
        · cases y with
          | none => cases hb
          | some yy =>
            exact s_retU (eu_tup (ea_cons (ev_var rfl) (ea_cons (ev_dget (v := nv yy) (e4 l _ hd3) (ev_var rfl) (ev_var rfl) hy) ea_nil)) (by show 2 ≤ 100000; decide)) fun q H5 hq e5 h5 => kS 1 yy hyt q H5 (fresh_back (((e.trans e2).trans e3).trans e4) hq) ((((e.trans e2).trans e3).trans e4).trans e5) h5
        · cases y with
          | some yy => cases hb
          | none => exact ⟨e3.trans e4, _, rfl, fun _ => rfl, fun z => by omega⟩
      · subst z hc1
        refine s_when (b := k.isSome) (et_din hd3 (ev_var rfl) (ev_var rfl) (by show (valV kvs (Sum.inl 2)).isSome = _; rw [hk]; cases k <;> rfl)) (fun hb H4 e4 => ?_) (fun hb H4 e4 => ?_)
        · have hy0 := i1 (Nat.le_refl _)
          cases k with
          | none => cases hb
          | some kk =>
            rw [hy0] at hyt
            exact s_retU (eu_tup (ea_cons (ev_var rfl) (ea_cons (ev_dget (v := nv kk) (e4 l _ hd3) (ev_var rfl) (ev_var rfl) hk) ea_nil)) (by show 2 ≤ 100000; decide)) fun q H5 hq e5 h5 => kS 2 kk hyt q H5 (fresh_back (((e.trans e2).trans e3).trans e4) hq) ((((e.trans e2).trans e3).trans e4).trans e5) h5
        · cases k with
          | some kk => cases hb
          | none => exact ⟨e3.trans e4, _, rfl, fun _ => i1 (Nat.le_refl _), fun _ => rfl⟩
    · subst hσ
      rw [i1 (by decide), i2 (by decide)] at hyt
      exact s_retU (eu_tup (vs := [nv 0, nv 0]) (ea_cons ev_c (ea_cons ev_c ea_nil)) (by show 2 ≤ 100000; decide)) fun q H5 hq e5 h5 => kS 0 0 hyt q H5 (fresh_back ((e.trans e2).trans e3) hq) (((e.trans e2).trans e3).trans e5) h5
theorem ok_yearMeant {f : Addr} {fd : FuncData} (F : Fun K "year_meant" "Tongue.year_meant" sYearMeant f fd) (G : Gs K mg) (T : TonC K C) (m1 : Met P w K mg base CX0 4 C "year_told" (spYearTold C)) (m2 : Met P w K mg base CX0 1 C "meant" (spMeant C)) : FnOk P w K mg base CX0 5 f fd ["self", "pattern", "row", "month", "day", "weekday", "year"] (spYearMeant C) := by
  refine F.ok scYearMeant (fun vs H Q E h => by obtain ⟨a, b, r, t, p, row, m, d, w, y, rfl, _⟩ := h; rfl) (fun cdv A outer s H vs Q E hr h => ?_)
  refine ⟨_, (pss_cons (ps_set (i := 7) scYearMeant.nd rfl (.inl rfl) (pe_mt m1 hr (by decide) pass0 (pv 0) (pa_cons (pv 1) (pa_cons (pv 2) (pa_cons (pv 3) (pa_cons (pv 4) (pa_cons (pv 5) pa_nil)))))))
      (pss_cons (ps_if (pt_cmpR op_isN (pv 7) pe_non (nomark _)) (pss_one (ps_ret pe_non)) pss_nil)
      (pss_cons (ps_if (pt_cmpR op_eq (pe_ix ix_tup (pv 7) pe_int (fun _ _ => rfl)) (pgi G.cYear) (nomark _)) (pss_one (ps_ret (pe_ix ix_tup (pv 7) pe_int (fun _ _ => rfl)))) pss_nil)
      (pss_cons (ps_if (pt_cmpR op_eq (pe_ix ix_tup (pv 7) pe_int (fun _ _ => rfl)) (pgi G.cShortYear) (nomark _)) (pss_one (ps_ret (pe_mt m2 hr (by decide) pass0 (pv 0) (pa_cons (pe_ix ix_tup (pv 7) pe_int (fun _ _ => rfl)) pa_nil)))) pss_nil)
      (pss_one (ps_ret (pv 6))))))), ?_⟩
  obtain ⟨a, b, r, t, ps, row, m, d, wd, y, rfl, hA, k⟩ := h
  obtain ⟨dx, pm, pw, ha, hrows⟩ := id hA.ton
  refine ⟨_, rfl, a, dx, _, rfl, ha, rfl, _, rfl, _, rfl, _, rfl, _, rfl, _, rfl, a, b, r, t, ps, row, m, d, wd, rfl, hA, fun hn H1 e1 => ?_, fun c v hs q H1 hq e1 h1 => ?_⟩
  · show tSeq _ _ _ _ _
    refine q_when (b := true) (ev_none (ev_var (v := V.non) rfl) rfl) (fun _ H2 e2 => ?_) (fun hb => by cases hb)
    refine s_ret ev_c fun H3 e3 => ?_
    have := k H3 ((e1.trans e2).trans e3)
    unfold yearMeant at this
    rw [hn] at this
    exact this
  · show tSeq _ _ _ _ _
    refine q_when (b := false) (ev_none (ev_var (v := V.ref q) rfl) rfl) (fun hb => by cases hb) (fun _ H2 e2 => ?_)
    have hy : yearMeant t ps row m d wd y = if c = 1 then some v else if c = 2 then some (meantY t v) else some y := by
      unfold yearMeant
      rw [hs]
    rw [hy] at k
    refine q_when (b := decide (c = 1)) (et_test (ev_eqI (ev_ixT (j := 0) (ev_var rfl) ev_c (st_of (e2 q _ h1)) rfl rfl) ev_c (decide_eq_decide.mpr (by omega)))) (fun hb H3 e3 => ?_) (fun hb H3 e3 => ?_)
    · have hb : c = 1 := of_decide_eq_true hb
      rw [if_pos hb] at k
      exact s_ret (v := nv v) (ev_ixT (j := 1) (ev_var rfl) ev_c (st_of (e3 q _ (e2 q _ h1))) rfl rfl) fun H4 e4 => k H4 (((e1.trans e2).trans e3).trans e4)
    have hb : ¬ c = 1 := of_decide_eq_false hb
    rw [if_neg hb] at k
    have h3 := e3 q _ (e2 q _ h1)
    refine q_when (b := decide (c = 2)) (et_test (ev_eqI (ev_ixT (j := 0) (ev_var rfl) ev_c (st_of h3) rfl rfl) ev_c (decide_eq_decide.mpr (by omega)))) (fun hb H4 e4 => ?_) (fun hb H4 e4 => ?_)
    · have hb : c = 2 := of_decide_eq_true hb
      rw [if_pos hb] at k
      have e14 := ((e1.trans e2).trans e3).trans e4
      exact s_ret (v := nv (meantY t v)) (ev_meth (ev_var rfl) (e14 a _ ha) rfl (ea_cons (ev_ixT (j := 1) (ev_var rfl) ev_c (st_of (e4 q _ h3)) rfl rfl) ea_nil) (sv_meant (hA.ton.mono e14))) fun H5 e5 => k H5 (e14.trans e5)
    · have hb : ¬ c = 2 := of_decide_eq_false hb
      rw [if_neg hb] at k
      exact s_ret (v := nv y) (ev_var rfl) fun H5 e5 => k H5 ((((e1.trans e2).trans e3).trans e4).trans e5)
end
end Wd
namespace Wd
open PySem PySem.Spec PyProof.Rows L2 Evl
/-! set(xs) of a long list of tuples that holds few different ones -/
def Few (ks : List (Addr × List Int)) : Prop := ∀ L : List (Addr × List Int), (∀ p ∈ L, p ∈ ks) → (L.map (·.2)).Nodup → L.length < 63
abbrev nSet (w : World) : Obj := { cls := .type "set", dict := none, data := .set #[] 0 (.fresh 0 0 (!w.params.followText "set-order")) }
section
variable {P : Program} {w : World} {A : Around} {E : Value → Shared → Prop} {s : Shared}
theorem few_loop {it S : Addr} {fp wr : List Addr} {Gn : Array GenState → Array GenState → Prop} {n : Nat} {Pv : Nat → Value → Prop} {St : Nat → Shared → Prop} {R : Result → Shared → Prop} (W : WalksS P w A.in1 it fp wr Gn n Pv St)
    (hout : S ∉ fp) (ks : List (Addr × List Int)) (few : Few ks) (val : ∀ j u, Pv j u → ∃ q, ks[j]? = some q ∧ u = .ref q.1) (hb : Heap) (tups : ∀ q ∈ ks, IsT P w hb q.2 q.1) (hnone : hb.get? S = none) (wnone : ∀ c ∈ wr, hb.get? c = none) (room : A.in1.units < cLine) :
    ∀ (m j : Nat) (z : Shared), n - j = m → j ≤ n → St j z → (∀ c o, hb.get? c = some o → z.heap.get? c = some o) → (∃ L es ep tb, SetTR P w z.heap S L es ep tb ∧ Got ks j L) →
      (∀ z' L es ep tb, Moved (S :: wr) Gn z z' → SetTR P w z'.heap S L es ep tb → Got ks n L → (∀ c o, hb.get? c = some o → z'.heap.get? c = some o) → R (.ok (.ret .none)) z') → codeAny (model P w) A (.builtin "set.update.loop" ⟨[.ref S, .ref it], []⟩) R z := by
  have hnw : S ∉ wr := fun q => hout (W.sub _ q)
  have inc : ∀ c ∈ wr, c ∈ S :: wr := fun c q => List.mem_cons_of_mem _ q
  have stay : ∀ {u v : Shared}, Moved wr Gn u v → (∀ c o, hb.get? c = some o → u.heap.get? c = some o) → ∀ c o, hb.get? c = some o → v.heap.get? c = some o := fun mv kp c o e => mv.heap c o (fun q => by rw [wnone c q] at e; cases e) (kp c o e)
  intro m
  induction m with
  | zero =>
    intro j z hm hj hst kp ⟨L, es, ep, tb, hS, got⟩ hR
    obtain rfl : j = n := by omega
    refine codeAny_builtin PyProof.Rows.F.entry_set_update_loop ?_
    rw [Around.under_plainId PyProof.Rows.F.plain_set_update_loop _]
    show wpAny _ A.in1 (pyNext (.ref it) >>= _) _ _ z
    refine wpAny_bind (W.done z _ _ hst fun z' mv => ?_)
    show wpAny _ A.in1 (ret Value.none) _ _ z'
    have kp' := stay mv kp
    exact wpAny_pure (hR z' L es ep tb (mv.mono inc) (hS.keep (fun o e => mv.heap S o hnw e) fun q hq => isT_keep (tups q (List.mem_of_mem_take (got.sub q hq))) kp') got kp')
  | succ m ih =>
    intro j z hm hj hst kp ⟨L, es, ep, tb, hS, got⟩ hR
    have hjn : j < n := by omega
    refine codeAny_builtin PyProof.Rows.F.entry_set_update_loop ?_
    rw [Around.under_plainId PyProof.Rows.F.plain_set_update_loop _]
    show wpAny _ A.in1 (pyNext (.ref it) >>= _) _ _ z
    refine wpAny_bind (W.item j z _ _ hjn hst fun u z' hPu hst' mv => ?_)
    obtain ⟨q, hq, rfl⟩ := val j u hPu
    have kp' := stay mv kp
    have inks : ∀ r ∈ L, r ∈ ks := fun r hr => List.mem_of_mem_take (got.sub r hr)
    have hS' : SetTR P w z'.heap S L es ep tb := hS.keep (fun o e => mv.heap S o hnw e) fun r hr => isT_keep (tups r (inks r hr)) kp'
    have hT : IsT P w z'.heap q.2 q.1 := isT_keep (tups q (List.mem_of_getElem? hq)) kp'
    show wpAny _ A.in1 (holding [Value.ref q.1] (setAdd S (.ref q.1)) >>= _) _ _ z'
    refine wpAny_bind (wpAny_holding ?_)
    unfold setAdd
    refine wpAny_holding (wpAny_bind (wpAny_pyHash_tuple room hT ?_))
    refine add_at (s := { z' with toks := z'.toks + (q.2.length + 1) }) hS' hT room (by have := few L inks hS'.nd; omega) fun b h' L' es' ep' tb' same hS2 d1 d2 => ?_
    have got' : Got ks (j + 1) L' := by
      by_cases d : q.2 ∈ L.map (·.2)
      · rw [d1 d]
        exact got.same hq d
      · exact got.more hq (d2 d)
    have kp2 : ∀ c o, hb.get? c = some o → h'.get? c = some o := fun c o e => (same.2 c (fun y => by rw [y, hnone] at e; cases e)).trans (kp' c o e)
    refine wpAny_pure ⟨plainId_quiet PyProof.Rows.F.plain_set_update_loop _, ih (j + 1) _ (by omega) hjn (W.frame _ z' _ _ hst' (Nat.le_add_right _ _) fun c hc o e => ?_) kp2 ⟨L', es', ep', tb', hS2, got'⟩ fun z2 L2 es2 ep2 tb2 mv2 hS3 got2 kp3 => ?_⟩
    · rw [same.2 c (fun y : c = S => hout (y ▸ hc))]
      exact e
    · refine hR z2 L2 es2 ep2 tb2 (Moved.trans W.gtrans ((mv.mono inc).then_heap (Nat.le_add_right _ _) fun c o hc e => ?_) mv2) hS3 got2 kp3
      rw [same.2 c (fun y : c = S => hc (by rw [y]; exact List.mem_cons_self))]
      exact e
theorem few_call {lst : Addr} {vals : Array Value} (ks : List (Addr × List Int)) {Q : Value → Shared → Prop} (nohand : A.handled = none) (isl : s.heap.IsList lst vals) (same : vals.toList = ks.map fun q => Value.ref q.1) (tups : ∀ q ∈ ks, IsT P w s.heap q.2 q.1) (few : Few ks) (room : A.units + 3 < cLine)
    (fin : ∀ (hq : Heap) (tk : Nat) L es ep tb, SetTR P w hq s.heap.objs.size L es ep tb → Got ks ks.length L → (∀ c o, s.heap.get? c = some o → hq.get? c = some o) → Q (.ref s.heap.objs.size) { s with heap := hq, toks := tk }) : wpAny (model P w) A (call (.type "set") [.ref lst]) Q E s := by
  have hsz : vals.size = ks.length := by
    have y := congrArg List.length same
    rwa [Array.length_toList, List.length_map] at y
  obtain ⟨c0, tl0, mro0⟩ := PySem.F.called_set.mro
  have made0 := PySem.F.called_set.made
  have sub0 := PySem.F.called_set.sub
  refine wpAny_call (codeAny_of_tree ?_)
  show wpAny _ _ (callAny (.type "set") _) _ _ _
  refine wpAny_pure ⟨Code.quiet_builtin _ (by decide +kernel), codeAny_builtin PySem.F.entry_type_call ?_⟩
  rw [Around.under_plain (weight_type_call_type "set" [.ref lst] []) rfl]
  have nt0 := PySem.F.called_set.notType
  have cc0 := PySem.F.called_set.canCreate
  have tc0 := PySem.F.typeCall_set_1 (.ref lst)
  repeat any_goals first | assumption | wp_step
  refine codeAny_mono (code_set_led1 (.ref lst) (E := E) (Q₁ := fun ob z => ob = .ref s.heap.objs.size ∧ z = { s with heap := s.heap.push (nSet w) }) ⟨rfl, rfl⟩) fun r z hr => ?_
  cases r with
  | error e => exact hr
  | ok fl =>
    cases fl with
    | ret ob =>
      obtain ⟨rfl, rfl⟩ := hr
      have getS : (s.heap.push (nSet w)).get? s.heap.objs.size = some (nSet w) := Heap.get?_push_size _ rfl
      have tyS : Shared.TypeIs { s with heap := s.heap.push (nSet w) } (.ref s.heap.objs.size) "set" := ⟨_, getS, rfl⟩
      have li0 := PySem.F.called_set.init.lookup
      have bi0 := PySem.F.called_set.init.bind (.ref s.heap.objs.size)
      repeat any_goals first | assumption | wp_step
      refine codeAny_mono (codeAny_call_builtin (R := wants (fun r z2 => r = .none ∧ ∃ hq tk L es ep tb, z2 = { s with heap := hq, toks := tk } ∧ SetTR P w hq s.heap.objs.size L es ep tb ∧ Got ks ks.length L ∧ (∀ c o, s.heap.get? c = some o → hq.get? c = some o)) E)
        PySem.F.called_set.init.plain PySem.F.entry_set_init (check_set_init_1 tyS ?_)) fun r2 z2 hr2 => ?_
      · obtain ⟨ol, getL, clL, nL, daL⟩ := isl
        obtain ⟨oc, od, oda, osl⟩ := ol
        simp only at clL daL
        subst clL
        subst daL
        have getL' : (s.heap.push (nSet w)).get? lst = some { cls := .type "list", dict := od, data := .seq vals nL, slots := osl } := Heap.get?_push_of_some _ getL
        have sl1 := PySem.F.sub_list_set
        have sl2 := PySem.F.sub_list_frozenset
        have nd1 : (Value.type "list" == Value.type "dict") = false := by decide
        have isl1 : (s.heap.push (nSet w)).IsList lst vals := ⟨_, getL', rfl, nL, rfl⟩
        unfold Builtin.«set.__init__» noKeywords Builtin.Frozenset.updateFrom
        generalize hPy : pyIter = Py
        wp_walk
        subst hPy
        refine wpAny_pyIter_list isl1 (wpAny_bind (wpAny_runValue ?_))
        have lltS : lst < s.heap.objs.size := Heap.lt_size getL
        have nohand3 : A.in1.in1.in1.handled = none := by simp [nohand]
        have neI : lst ≠ (s.heap.push (nSet w)).objs.size := by
          rw [Heap.size_push]
          exact Nat.ne_of_lt (Nat.lt_succ_of_lt lltS)
        have outS : s.heap.objs.size ∉ [(s.heap.push (nSet w)).objs.size, lst] := by
          rw [Heap.size_push]
          simp only [List.mem_cons, List.not_mem_nil, or_false, not_or]
          exact ⟨Nat.ne_of_lt (Nat.lt_succ_self _), Nat.ne_of_gt lltS⟩
        have valS : ∀ (j : Nat) (u : Value), vals[j]? = some u → ∃ q, ks[j]? = some q ∧ u = .ref q.1 := fun j u hu => by
          have y : vals.toList[j]? = some u := by
            rw [Array.getElem?_toList]
            exact hu
          rw [same, List.getElem?_map] at y
          cases e : ks[j]? with
          | none => rw [e] at y; cases y
          | some q =>
            rw [e] at y
            exact ⟨q, rfl, (Option.some.inj y).symm⟩
        have beyond : ∀ c, s.heap.objs.size ≤ c → s.heap.get? c = none := fun c hc => by
          cases e : s.heap.get? c with
          | none => rfl
          | some o => exact absurd (Nat.lt_of_lt_of_le (Heap.lt_size e) hc) (Nat.lt_irrefl _)
        refine few_loop ((Walks.list nohand3 _ lst neI vals).toS) outS ks few valS s.heap tups (beyond _ (Nat.le_refl _)) (fun c hc => beyond c (by rw [List.mem_singleton.mp hc, Heap.size_push]; exact Nat.le_succ _)) room (vals.size - 0) 0 _ (by omega) (Nat.zero_le _)
          ⟨⟨_, Heap.get?_push_size _ rfl, rfl, rfl⟩, (isl1.push _)⟩ (fun c o e => Heap.get?_push_of_some _ (Heap.get?_push_of_some _ e)) ?beg ?rest
        case beg =>
          have y : ((s.heap.push (nSet w)).push { cls := .type "list_iterator", data := .fields #[.ref lst, .int 0 0] }).get? s.heap.objs.size = some (nSet w) := Heap.get?_push_of_some _ getS
          exact ⟨[], #[], 0, _, setTR_fresh y, Got.zero ks⟩
        case rest =>
          intro z' L es ep tb mv hS' got' kp
          obtain ⟨hq, gq, dq, tq, oq⟩ := z'
          have y1 : gq = s.gens := mv.gens
          have y2 : dq = s.drawn := mv.drawn
          have y3 : oq = s.os := mv.os
          subst y1
          subst y2
          subst y3
          show wpAny _ _ _ _ _ _
          refine wpAny_pure ?_
          show wpAny _ _ (ret Value.none) _ _ _
          rw [hsz] at got'
          exact wpAny_pure ⟨rfl, hq, tq, L, es, ep, tb, rfl, hS', got', kp⟩
      · cases r2 with
        | error e => exact hr2
        | ok f2 =>
          cases f2 with
          | ret r =>
            obtain ⟨rfl, hq, tk, L, es, ep, tb, rfl, hS', got', kp⟩ := hr2
            repeat any_goals first | assumption | wp_step
            exact fin _ _ _ _ _ _ hS' got' kp
          | _ => exact hr2.elim
    | _ => exact hr.elim
end
/-- set(xs), xs a list of tuples of ints, however long, that holds few different ones -/
def rSetFew (K : PySem.W.Frag) (P : Program) (w : World) : List V → Hp → VK → Prop := fun xs H Q => ∃ (l : Addr) (ks : List (Addr × List Int)), xs = [V.ref l] ∧ SqL K H l (ks.map fun p => V.ref p.1) ∧ (∀ p ∈ ks, SqT K H p.1 (p.2.map V.int)) ∧
  (∀ L : List (Addr × List Int), (∀ p ∈ L, p ∈ ks) → (L.map (·.2)).Nodup → L.length < 63) ∧
  ∀ a L, H a = none → (∀ p ∈ L, p ∈ ks) → (∀ p ∈ ks, p.2 ∈ L.map (·.2)) → Q (.ref a) (upd H a (SetTO P w a L))
theorem cr_setFew {X : Cx} (hc : X.calm = true) (hu : X.A.units + 64 < cLine) : CallR X (.type "set") (rSetFew X.K X.prog X.w) := by
  intro pins s σ H xs us Q I rel want
  obtain ⟨l, ks, rfl, isq, htup, few, cont⟩ := want
  rw [Vals.ref1 rel]
  obtain ⟨its, rv, pl, _⟩ := I.list isq
  refine few_call (P := X.prog) (w := X.w) ks (I.ok.hd hc) pl.isList (by simpa using refs_of_vals rv) (fun q hq => I.isT (htup q hq)) few (by omega) fun h' tk L es ep tb R got kp => ?_
  exact ⟨.ref s.heap.objs.size, _, I.laid (t' := tk) kp (Nat.le_refl _) (setTO_new R.t0), rfl, cont _ L (I.hok.fresh (Nat.le_refl _)) (fun q hq => List.mem_of_mem_take (got.sub q hq)) fun q hq => got.all q (by rw [List.take_length]; exact hq)⟩
end Wd
namespace Wd
open PySem PySem.Spec PyProof.Rows L2 Evl
open Ut08 (Day Part Tongue Num isDigit digits padded valueOf weekday dayOk part dayText dayRead numberOf)

structure MeansArgs (C : Addr) (H : Hp) (a b r : Addr) (t : Tongue) (ps : List Part) (row : List Nat) : Prop where
  ton : TonAt C H a t
  tg : TonGood t
  pat : PatAt H b ps
  pg : PatGood ps
  hrow : H r = some (.lst (nl row))
  rl : row.length ≤ 100
theorem MeansArgs.mono {C : Addr} {H H' : Hp} {a b r : Addr} {t : Tongue} {ps : List Part} {row : List Nat} (e : Ex H H') (h : MeansArgs C H a b r t ps row) : MeansArgs C H' a b r t ps row :=
  ⟨h.ton.mono e, h.tg, h.pat.mono e, h.pg, e r _ h.hrow, h.rl⟩
theorem MeansArgs.told {C : Addr} {H : Hp} {a b r : Addr} {t : Tongue} {ps : List Part} {row : List Nat} (h : MeansArgs C H a b r t ps row) {m d w : Nat} (h1 : 1 ≤ m) (h2 : m ≤ 12) (h3 : d ≤ 31) (h4 : w < 7) : ToldArgs C H a b r t ps row m d w :=
  ⟨h.ton, h.tg, h.pat, h.pg, h.hrow, h.rl, h1, h2, h3, h4⟩
def spMeans (C : Addr) : Sp := fun vs H Q _ => ∃ (a b r : Addr) (t : Tongue) (ps : List Part) (row : List Nat) (y : Nat), vs = [.ref a, .ref b, .ref r, nv y] ∧ MeansArgs C H a b r t ps row ∧
  ∀ (p : Addr) (as : List Addr) (H2 : Hp), Ex H H2 → H2 p = some (.lst (as.map V.ref)) → ObjsAt H2 dayV as (dayRead t ps y row) → (dayRead t ps y row).length ≤ 24 → Q (.ref p) H2
abbrev sMeans : Stmt := inClass (topS 43) 7
theorem scMeans : FnScope ["self", "pattern", "row", "year", "kinds", "weekdays", "found", "month", "day", "weekday", "own", "which"] ["self", "pattern", "row", "year"] (defScope sMeans) := ⟨rfl, rfl, rfl, by decide +kernel, rfl, by decide +kernel, by decide +kernel⟩
section
variable {K : PySem.W.Frag} {σ : L2.St} {H H' : Hp} {ta tb tc te tx : TE} {t u : TT} {x y z v : V} {D : Ends}
/-- a comprehension over the parts, each taken apart -/
theorem el_lcP {b : Addr} {as : List Addr} {ps : List Part} {i j : Nat} {vs : List Nat} (g : Part → V) (h : Ev te σ H (.ref b)) (hb : H b = some (.lst (as.map V.ref))) (hp : PartsAt H as ps) (hn : ps.length ≤ 40000)
    (he : ∀ (p : Part) (o : Addr) H1, Ex H H1 → p ∈ ps → H1 o = some (.lst (nl (ownB p))) → Ev tx (((wipe σ vs).set i (some (nv (code p)))).set j (some (.ref o))) H1 (g p))
    (hw : ∀ x y, wipe (((wipe σ vs).set i (some x)).set j (some y)) vs = wipe σ vs := by intro _ _; rfl) :
    EvL (tLc (iList K te) (gTup K 2 (gCons (gName i) (gCons (gName j) gNil))) tYes tx vs) σ H (ps.map g) := fun H0 e Q q => h H0 e _ fun H1 e1 => ⟨b, rfl, ⟨_, sq_of (e1 b _ (e b _ hb))⟩, fun Dl hD => by
  have hl : (as.map V.ref).length = ps.length := by rw [List.length_map, hp.len]
  refine lc_it (walk_list (K := K) (a := b) (xs := as.map V.ref)) (fun k H' => Ex H1 H' ∧ H' Dl = some (.lst ((ps.take k).map g))) ⟨Ex.new hD, upd_same⟩ (fun k H' _ p => sq_of (p.1 b _ (e1 b _ (e b _ hb)))) (fun k x H2 H2' hk p y => ?_) (fun H' p => ?_)
  · obtain ⟨rfl, hx⟩ := y
    obtain ⟨a, pt, rfl, hpt, hpa⟩ := hp.get hx
    have e02 := (e.trans e1).trans p.1
    obtain ⟨o, ho1, ho2⟩ := hpa.mono e02
    refine ⟨a, _, rfl, st_of ho1, rfl, _, _, rfl, _, _, rfl, rfl, hw _ _, ?_⟩
    show tx _ H2' _
    refine he pt o H2' e02 (List.mem_of_getElem? hpt) ho2 H2' (Ex.refl _) _ fun H3 e3 => ⟨_, e3 Dl _ p.2, ?_, (p.1.trans e3).mut hD, ?_⟩
    · rw [List.length_map, List.length_take]
      exact Nat.lt_of_le_of_lt (show min k ps.length ≤ 40000 by omega) (by decide)
    · rw [upd_same, List.take_add_one, hpt, List.map_append]
      rfl
  · rw [hl, List.take_length] at p
    exact q Dl H' (fresh_back e1 hD) (e1.trans p.1) p.2⟩
theorem el_listRg {n : Int} (h : Ev te σ H (.int n)) (hn : 0 ≤ n ∧ n ≤ 1000) : EvL (tLstRg (tRg1 te)) σ H (nl (List.range n.toNat)) := fun H1 e Q q => h H1 e _ fun H2 e2 => ⟨n, rfl, RgOk.of_le (by omega) (by omega) (by omega) (by omega), fun p hp => q p _ (fresh_back e2 hp) (e2.trans (Ex.new hp)) (by
  rw [upd_same]
  unfold rgV nl
  rw [show (n - 0).toNat = n.toNat by omega]
  congr 2
  refine List.map_congr_left fun i _ => congrArg V.int (by omega))⟩
theorem el_if {b : Bool} {xs : List V} (h : EvT t σ H b) (h1 : b = true → EvL ta σ H xs) (h2 : b = false → EvL tb σ H xs) : EvL (tIf t ta tb) σ H xs := fun H1 e Q q => h H1 e _ fun H2 e2 => by
  cases b with
  | true => exact h1 rfl H2 (e.trans e2) Q fun p H3 hp e3 h3 => q p H3 (fresh_back e2 hp) (e2.trans e3) h3
  | false => exact h2 rfl H2 (e.trans e2) Q fun p H3 hp e3 h3 => q p H3 (fresh_back e2 hp) (e2.trans e3) h3
theorem et_notN {b : Bool} (ha : Ev te σ H x) (e : (!decide (x = V.non)) = b) : EvT (tTest (tOp (fun x y H Q => y = .non ∧ Q (.bl (!decide (x = .non))) H) te (tC .non))) σ H b :=
  et_test (ev_op ha ev_c fun H1 _ Q q => ⟨rfl, by rw [e]; exact q H1 (Ex.refl H1)⟩)
end
/-- a day as a tuple's numbers -/
def dk (x : Day) : List Int := [(x.y : Int), (x.m : Int), (x.d : Int)]
theorem dk_inj {x y : Day} (h : dk x = dk y) : x = y := by
  unfold dk at h
  simp only [List.cons.injEq, and_true] at h
  cases x
  cases y
  simp only [Day.mk.injEq]
  exact ⟨by exact_mod_cast h.1, by exact_mod_cast h.2.1, by exact_mod_cast h.2.2⟩
theorem code3 {B a b c : Int} : TS.code B [a, b, c] = a * B ^ 2 + (b * B ^ 1 + (c * B ^ 0 + 0)) := rfl
theorem lex_of_code {x y : Day} (hx : dayOk x = true) (hy : dayOk y = true) (h : TS.code 10000 (dk x) ≤ TS.code 10000 (dk y)) (ne : dk x ≠ dk y) : numberOf x < numberOf y := by
  obtain ⟨a1, a2, a3, a4, a5, a6⟩ := dayOk_iff.mp hx
  obtain ⟨b1, b2, b3, b4, b5, b6⟩ := dayOk_iff.mp hy
  have a7 := day_le hx
  have b7 := day_le hy
  refine numberOf_lt hx hy ?_
  rcases lex_total (a := x) (b := y) (fun e => ne (by rw [e])) with q | q
  · exact q
  · exfalso
    unfold dk at h
    rw [code3, code3] at h
    have e2 : (10000 : Int) ^ 2 = 100000000 := by decide
    have e1 : (10000 : Int) ^ 1 = 10000 := by decide
    have e0 : (10000 : Int) ^ 0 = 1 := by decide
    rw [e2, e1, e0] at h
    unfold lexLt at q
    omega
def dks (as : List Addr) (xs : List Day) : List (Addr × List Int) := List.zipWith (fun a x => (a, dk x)) as xs
theorem dks_refs {H : Hp} : ∀ {as : List Addr} {xs : List Day}, ObjsAt H dayV as xs → (dks as xs).map (fun p => V.ref p.1) = as.map V.ref
  | [], [], _ => rfl
  | a :: as, x :: xs, h => congrArg (V.ref a :: ·) (dks_refs h.2)
  | [], _ :: _, h => h.elim
  | _ :: _, [], h => h.elim
theorem dks_mem {H : Hp} : ∀ {as : List Addr} {xs : List Day} {p : Addr × List Int}, ObjsAt H dayV as xs → p ∈ dks as xs → ∃ x ∈ xs, p.2 = dk x ∧ H p.1 = some (dayV x)
  | [], [], _, _, h => by simp [dks] at h
  | a :: as, x :: xs, p, h, hp => by
    rcases List.mem_cons.mp (show p ∈ (a, dk x) :: dks as xs from hp) with e | e
    · rw [e]; exact ⟨x, List.mem_cons_self, rfl, h.1⟩
    · obtain ⟨y, h1, h2⟩ := dks_mem h.2 e
      exact ⟨y, List.mem_cons_of_mem _ h1, h2⟩
  | [], _ :: _, _, h, _ => h.elim
  | _ :: _, [], _, h, _ => h.elim
theorem dks_of {H : Hp} : ∀ {as : List Addr} {xs : List Day} {x : Day}, ObjsAt H dayV as xs → x ∈ xs → ∃ p ∈ dks as xs, p.2 = dk x
  | [], [], _, _, h => by simp at h
  | a :: as, y :: xs, x, h, hx => by
    rcases List.mem_cons.mp hx with e | e
    · exact ⟨(a, dk y), List.mem_cons_self, by rw [e]⟩
    · obtain ⟨p, h1, h2⟩ := dks_of h.2 e
      exact ⟨p, List.mem_cons_of_mem _ h1, h2⟩
  | [], _ :: _, _, h, _ => h.elim
  | _ :: _, [], _, h, _ => h.elim
/-- rows of numbers that are days, as days -/
theorem days_of_keys {H : Hp} {R : Day → Prop} : ∀ (L : List (Addr × List Int)), (∀ p ∈ L, ∃ x, R x ∧ p.2 = dk x ∧ H p.1 = some (dayV x)) → ∃ xs : List Day, L.map (·.2) = xs.map dk ∧ ObjsAt H dayV (L.map (·.1)) xs ∧ (∀ x ∈ xs, R x) ∧ L.length = xs.length
  | [], _ => ⟨[], rfl, trivial, fun x h => by simp at h, rfl⟩
  | p :: L, h => by
    obtain ⟨xs, h1, h2, h3, h4⟩ := days_of_keys L fun q hq => h q (List.mem_cons_of_mem _ hq)
    obtain ⟨x, r, e, hx⟩ := h p List.mem_cons_self
    exact ⟨x :: xs, by rw [List.map_cons, List.map_cons, h1, e], ⟨hx, h2⟩, fun y hy => (List.mem_cons.mp hy).elim (fun z => z ▸ r) (h3 y), by rw [List.length_cons, List.length_cons, h4]⟩
theorem nodup_keys {xs : List Day} (h : (xs.map dk).Nodup) : xs.Nodup := L2.nodup_of_map h
section
variable {P : Program} {w : World} {K : PySem.W.Frag} {mg : Str → Option Value} {base : Heap} {C : Addr}
theorem any_month {ps : List Part} : ([3, 4, 5].any fun s => decide (s ∈ ps.map code)) = true ↔ ∃ p ∈ ps, isMonthP p := by
  rw [List.any_eq_true]
  unfold isMonthP
  constructor
  · rintro ⟨s, hs, h⟩
    obtain ⟨p, hp, rfl⟩ := List.mem_map.mp (of_decide_eq_true h)
    exact ⟨p, hp, by simpa using hs⟩
  · rintro ⟨p, hp, h⟩
    exact ⟨code p, by simpa using h, decide_eq_true (List.mem_map.mpr ⟨p, hp, rfl⟩)⟩
theorem any_day {ps : List Part} : ([6, 7].any fun s => decide (s ∈ ps.map code)) = true ↔ ∃ p ∈ ps, isDayP p := by
  rw [List.any_eq_true]
  unfold isDayP
  constructor
  · rintro ⟨s, hs, h⟩
    obtain ⟨p, hp, rfl⟩ := List.mem_map.mp (of_decide_eq_true h)
    exact ⟨p, hp, by simpa using hs⟩
  · rintro ⟨p, hp, h⟩
    exact ⟨code p, by simpa using h, decide_eq_true (List.mem_map.mpr ⟨p, hp, rfl⟩)⟩
theorem week_kind {ps : List Part} : 8 ∈ ps.map code ↔ Part.weekName ∈ ps := by
  rw [List.mem_map]
  constructor
  · rintro ⟨p, hp, h⟩
    have ep : p = .weekName := by cases p <;> simp [code] at h <;> rfl
    exact ep ▸ hp
  · intro h
    exact ⟨_, h, rfl⟩
theorem read_nil {t : Tongue} (g : TonGood t) {ps : List Part} {y : Nat} {row : List Nat} (h : ¬ ((∃ p ∈ ps, isMonthP p) ∧ ∃ p ∈ ps, isDayP p)) : dayRead t ps y row = [] := by
  cases e : dayRead t ps y row with
  | nil => rfl
  | cons x l =>
    have := ((dayRead_spec g (ps := ps) (now := y) (row := row)).2 x).mp (by rw [e]; exact List.mem_cons_self)
    exact absurd ⟨this.mon, this.day⟩ h
theorem ok_means {f : Addr} {fd : FuncData} (F : Fun K "means" "Tongue.means" sMeans f fd) (G : Gs K mg) (T : TonC K C) (c1 : Cal P w K mg base CX0 1 "has_some" (spHasSome K)) (c2 : Cal P w K mg base CX0 3 "is_day" spIsDay)
    (m1 : Met P w K mg base CX0 5 C "year_meant" (spYearMeant C)) (m2 : Met P w K mg base CX0 5 C "written" (spTWritten C)) : FnOk P w K mg base CX0 6 f fd ["self", "pattern", "row", "year"] (spMeans C) := by
  obtain ⟨aM, mM, tM⟩ := G.cMonthParts
  obtain ⟨aD, mD, tD⟩ := G.cDayParts
  obtain ⟨aL, mL, tL⟩ := G.cLengths
  refine F.ok scMeans (fun vs H Q E h => by obtain ⟨a, b, r, t, p, row, y, rfl, _⟩ := h; rfl) (fun cdv A outer s H vs Q E hr h => ?_)
  have hu := hu_of hr
  refine ⟨_, (pss_cons (ps_setLc (i := 4) (own := [("which", 11), ("own", 10)]) (g := gTup K 2 (gCons (gName 11) (gCons (gName 10) gNil))) (tt := tYes) rfl scMeans.nd rfl rfl (sw_true rfl rfl rfl (by decide +kernel)) (pi_list (pv 1))
      (blkOk_by (own := [("which", 11), ("own", 10)]) (N := ["self", "pattern", "row", "year", "kinds", "weekdays", "found", "month", "day", "weekday", "own", "which"]) (sc := defScope sMeans) (by decide +kernel))
      (fun _ _ _ _ _ => pg_tup (by rfl) (pgs_cons (pg_name (i := 11) scMeans.nd rfl (Or.inl rfl)) (pgs_cons (pg_name (i := 10) scMeans.nd rfl (Or.inl rfl)) pgs_nil))) (fun _ _ _ _ _ => pts_nil) (fun _ _ _ _ _ => pv 11))
      (pss_cons (ps_if (PW.pt (pw_or (pt_not (pt_val (pe_c c1 hr (by decide) pass0 rfl (pa_cons (pv 4) (pa_cons (pgr mM) pa_nil))))) (pw_or1 (pt_not (pt_val (pe_c c1 hr (by decide) pass0 rfl (pa_cons (pv 4) (pa_cons (pgr mD) pa_nil)))))))) (pss_one (ps_ret (pe_lst pa_nil))) pss_nil)
      (pss_cons (ps_set (i := 5) scMeans.nd rfl (.inl rfl) (pe_ifExp (pt_cmpR op_in_seq (pgi G.cWeekdayName) (pv 4) (by rfl)) (pe_listRg rfl (by rfl) G.bList (prg_1 (by rfl) G.bRange (pgi G.cWeek))) (pe_lst (pa_cons (pe_int) pa_nil))))
      (pss_cons (ps_set (i := 6) scMeans.nd rfl (.inl rfl) (pe_lst pa_nil))
      (pss_cons (ps_for PassesOwn.never rfl (pi_range2 rfl G.bRange (pa_cons (pe_int) (pa_cons (pe_op op_add (pe_callB call_len_seq (by rfl) G.bLen PySem.boot_len (pa_cons (pgr mL) pa_nil)) pe_int) pa_nil))) (pg_name (i := 7) scMeans.nd rfl (.inl rfl)) (pss_one (ps_for PassesOwn.never rfl (pi_range2 rfl G.bRange (pa_cons (pe_int) (pa_cons (pe_op op_add (pgi G.cMostDay) pe_int) pa_nil))) (pg_name (i := 8) scMeans.nd rfl (.inl rfl)) (pss_one (ps_for PassesOwn.never rfl (pi_list (pv 5)) (pg_name (i := 9) scMeans.nd rfl (.inl rfl)) (pss_cons (ps_set (i := 10) scMeans.nd rfl (.inl rfl) (pe_mt m1 hr (by decide) pass0 (pv 0) (pa_cons (pv 1) (pa_cons (pv 2) (pa_cons (pv 7) (pa_cons (pv 8) (pa_cons (pv 9) (pa_cons (pv 3) pa_nil))))))))
      (pss_one (ps_if (PW.pt (pw_and (pt_cmpR op_notN (pv 10) pe_non (nomark _)) (pw_and (pt_val (pe_c c2 hr (by decide) pass0 rfl (pa_cons (pv 10) (pa_cons (pv 7) (pa_cons (pv 8) pa_nil))))) (pw_and1 (pt_cmpR (op_eqD hr.units) (pe_mt m2 hr (by decide) pass0 (pv 0) (pa_cons (pv 1) (pa_cons (pv 10) (pa_cons (pv 7) (pa_cons (pv 8) pa_nil))))) (pv 2) (nomark _))))))
            (pss_one (ps_expr (pe_bm PySem.F.plainAttrs_list PySem.F.slot_list_append PySem.F.type_list_append mt_append (pv 6) (pa_cons (pe_tup (pa_cons (pv 10) (pa_cons (pv 7) (pa_cons (pv 8) pa_nil)))) pa_nil)))) pss_nil))))))))
      (pss_one (ps_ret (pe_callB (cr_sortedT rfl) (by rfl) G.bSorted (by decide +kernel) (pa_cons (pe_callTy (cr_setFew rfl hr.units) (by rfl) G.bSet (by decide +kernel) (pa_cons (pv 6) pa_nil)) pa_nil))))))))), ?_⟩
  obtain ⟨a, b, r, t, ps, row, y, rfl, hA, k⟩ := h
  obtain ⟨as, hb1, hb2⟩ := id hA.pat
  obtain ⟨dx, pm, pw, ha, hrows⟩ := id hA.ton
  have h8 := hA.pg.1
  refine q_asgL (xs := nl (ps.map code)) (el_is (el_lcP (ps := ps) (fun p => nv (code p)) (ev_var rfl) hb1 hb2 (by omega) (fun p o H1 e1 hp ho => ev_var rfl)) (by unfold nl; rw [List.map_map]; rfl)) fun lk H1 hlk e1 h1 => ?_
  refine q_when (b := !([3, 4, 5].any fun s => decide (s ∈ ps.map code)) || !([6, 7].any fun s => decide (s ∈ ps.map code))) (et_or (et_not (et_B (ev_c1 (ea_cons (ev_var rfl) (ea_cons ev_c ea_nil)) (sv_hasSome h1 tM (by decide))))) fun _ => et_not (et_B (ev_c1 (ea_cons (ev_var rfl) (ea_cons ev_c ea_nil)) (sv_hasSome h1 tD (by decide))))) (fun hb H2 e2 => ?_) (fun hb H2 e2 => ?_)
  · have hz : dayRead t ps y row = [] := read_nil hA.tg fun ⟨z1, z2⟩ => by
      rw [any_month.mpr z1, any_day.mpr z2] at hb
      cases hb
    rw [hz] at k
    exact s_retL (el_lst (vs := []) ea_nil (by decide)) fun q H3 hq e3 h3 => k q [] H3 ((e1.trans e2).trans e3) h3 trivial (Nat.zero_le _)
  rw [Bool.or_eq_false_iff, Bool.not_eq_false', Bool.not_eq_false', any_month, any_day] at hb
  refine q_asgL (xs := nl (weeksOf ps)) (el_if (b := decide (8 ∈ ps.map code)) (et_test (ev_inL (ev_is ev_c rfl) (ev_var rfl) (e2 lk _ h1) rfl)) (fun hc => ?_) (fun hc => ?_)) fun lw H3 hlw e3 h3 => ?_
  · have hc : 8 ∈ ps.map code := of_decide_eq_true hc
    refine el_is (el_listRg ev_c (by decide)) ?_
    unfold weeksOf
    rw [if_pos (week_kind.mp hc)]
    rfl
  · have hc : ¬ 8 ∈ ps.map code := of_decide_eq_false hc
    refine el_is (el_lst (vs := [nv 0]) (ea_cons ev_c ea_nil) (by decide)) ?_
    unfold weeksOf
    rw [if_neg fun z => hc (week_kind.mpr z)]
    rfl
  refine q_asgL (el_lst (vs := []) ea_nil (by decide)) fun l H4 hl4 e4 h4 => ?_
  have hl : H l = none := fresh_back ((e1.trans e2).trans e3) hl4
  have hw7 : ∀ v ∈ weeksOf ps, v < 7 := fun v hv => by
    unfold weeksOf at hv
    split at hv
    · exact List.mem_range.mp hv
    · have : v = 0 := by simpa using hv
      omega
  have hwl : (weeksOf ps).length ≤ 7 := by
    unfold weeksOf
    split
    · rw [List.length_range]; exact Nat.le_refl _
    · decide
  have e14 := ((e1.trans e2).trans e3).trans e4
  have hlwl : lw ≠ l := fun z => by rw [z] at h3; rw [h3] at hl4; cases hl4
  -- the state of the loops: what is found so far
  let St := fun (acc : List Day) (H' : Hp) => Ex H H' ∧ H' lw = some (.lst (nl (weeksOf ps))) ∧ ∃ qs : List Addr, H' l = some (.lst (qs.map V.ref)) ∧ ObjsAt H' dayV qs acc ∧ (∀ q ∈ qs, q ≠ l)
  let Sl := fun (o1 o2 o3 o4 : Option V) => ([some (.ref a), some (.ref b), some (.ref r), some (nv y), some (.ref lk), some (.ref lw), some (.ref l), o1, o2, o3, o4, none] : L2.St)
  have stEx : ∀ {acc : List Day} {H5 H6 : Hp}, Ex H5 H6 → St acc H5 → St acc H6 := fun {acc H5 H6} e ⟨s1, s2, qs, s3, s4, s5⟩ => ⟨s1.trans e, e lw _ s2, qs, e l _ s3, s4.mono e, s5⟩
  have accl : ∀ (m d i : Nat), ((List.range m).flatMap (fun m => (List.range 31).flatMap fun d => (weeksOf ps).flatMap fun w => hit t ps row y (m + 1) (d + 1) w)).length ≤ 217 * m ∧ ((List.range d).flatMap fun d => (weeksOf ps).flatMap fun w => hit t ps row y (m + 1) (d + 1) w).length ≤ 7 * d ∧ (((weeksOf ps).take i).flatMap fun w => hit t ps row y (m + 1) (d + 1) w).length ≤ 7 := fun m d i => by
    have bnd : ∀ {α : Type} (l : List α) (f : α → List Day) (c : Nat), (∀ a ∈ l, (f a).length ≤ c) → (l.flatMap f).length ≤ c * l.length := fun l f c h => by
      induction l with
      | nil => exact Nat.zero_le _
      | cons a l ih =>
        rw [List.flatMap_cons, List.length_append, List.length_cons, Nat.mul_succ]
        have h1 := h a List.mem_cons_self
        have h2 := ih fun b hb => h b (List.mem_cons_of_mem _ hb)
        omega
    have w1 : ∀ (m d : Nat) (l : List Nat), (l.flatMap fun w => hit t ps row y (m + 1) (d + 1) w).length ≤ 1 * l.length := fun m d l => bnd l _ 1 fun w _ => hit_len ..
    have w2 : ∀ m d, ((List.range d).flatMap fun d => (weeksOf ps).flatMap fun w => hit t ps row y (m + 1) (d + 1) w).length ≤ 7 * d := fun m d => by
      have := bnd (List.range d) (fun d => (weeksOf ps).flatMap fun w => hit t ps row y (m + 1) (d + 1) w) 7 fun d' _ => by have := w1 m d' (weeksOf ps); omega
      rwa [List.length_range] at this
    refine ⟨?_, w2 m d, ?_⟩
    · have := bnd (List.range m) (fun m => (List.range 31).flatMap fun d => (weeksOf ps).flatMap fun w => hit t ps row y (m + 1) (d + 1) w) 217 fun m' _ => w2 m' 31
      rwa [List.length_range] at this
    · have := w1 m d ((weeksOf ps).take i)
      rw [List.length_take] at this
      omega
  refine q_forR2 (lo := 1) (n := 13) (ea_cons ev_c (ea_cons (ev_add (ev_len ev_c (.inr tL.sq)) ev_c rfl) ea_nil)) (by decide)
    (fun i σ H' => St ((List.range i).flatMap fun m => (List.range 31).flatMap fun d => (weeksOf ps).flatMap fun w => hit t ps row y (m + 1) (d + 1) w) H' ∧ ∃ o1 o2 o3 o4 : Option V, σ = Sl o1 o2 o3 o4) (fun H5 e5 => ⟨⟨e14.trans e5, e5 lw _ (e4 lw _ h3), [], e5 l _ h4, trivial, fun q hq => by simp at hq⟩, none, none, none, none, rfl⟩)
    (fun i σ H' hi ⟨hst, o1, o2, o3, o4, hσ⟩ => ?_) (fun σ H' ⟨hst, o1, o2, o3, o4, hσ⟩ => ?_)
  · subst hσ
    have hi12 : i < 12 := by omega
    have em : (1 : Int) + (i : Int) = ((i + 1 : Nat) : Int) := by omega
    rw [em]
    refine s_forR2 (lo := 1) (n := 32) (ea_cons ev_c (ea_cons (ev_add ev_c ev_c rfl) ea_nil)) (by decide)
      (fun j σ H' => St (((List.range i).flatMap fun m => (List.range 31).flatMap fun d => (weeksOf ps).flatMap fun w => hit t ps row y (m + 1) (d + 1) w) ++ (List.range j).flatMap fun d => (weeksOf ps).flatMap fun w => hit t ps row y (i + 1) (d + 1) w) H' ∧ ∃ o2 o3 o4 : Option V, σ = Sl (some (nv (i + 1))) o2 o3 o4)
      (fun H5 e5 => ⟨by rw [List.range_zero, List.flatMap_nil, List.append_nil]; exact stEx e5 hst, o2, o3, o4, rfl⟩) (fun j σ H' hj ⟨hst, o2, o3, o4, hσ⟩ => ?_) (fun σ H' ⟨hst, o2, o3, o4, hσ⟩ => ?_)
    · subst hσ
      have hj31 : j < 31 := by omega
      have ej : (1 : Int) + (j : Int) = ((j + 1 : Nat) : Int) := by omega
      rw [ej]
      refine s_forLn (a := lw) (xs := nl (weeksOf ps)) (ev_var rfl) (sq_of hst.2.1)
        (fun n σ H' => St (((List.range i).flatMap fun m => (List.range 31).flatMap fun d => (weeksOf ps).flatMap fun w => hit t ps row y (m + 1) (d + 1) w) ++ ((List.range j).flatMap fun d => (weeksOf ps).flatMap fun w => hit t ps row y (i + 1) (d + 1) w) ++ ((weeksOf ps).take n).flatMap fun w => hit t ps row y (i + 1) (j + 1) w) H' ∧ ∃ o3 o4 : Option V, σ = Sl (some (nv (i + 1))) (some (nv (j + 1))) o3 o4)
        (fun H5 e5 => ⟨by rw [List.take_zero, List.flatMap_nil, List.append_nil]; exact stEx e5 hst, o3, o4, rfl⟩) (fun n σ H' _ ⟨hst, _⟩ => sq_of hst.2.1) (fun n v σ H' hv ⟨hst, o3, o4, hσ⟩ => ?_) (fun σ H' ⟨hst, o3, o4, hσ⟩ => ?_)
      · subst hσ
        obtain ⟨wd, hwd, rfl⟩ := nl_get hv
        have hwd7 := hw7 wd (List.mem_of_getElem? hwd)
        have e05 := hst.1
        have hA5 := hA.mono e05
        refine q_asg (ev_meth (ev_var rfl) (e05 a _ ha) rfl (ea_cons (ev_var rfl) (ea_cons (ev_var rfl) (ea_cons (ev_var rfl) (ea_cons (ev_var rfl) (ea_cons (ev_var rfl) (ea_cons (ev_var rfl) ea_nil)))))) (sv_yearMeant (hA5.told (m := i + 1) (d := j + 1) (w := wd) (by omega) (by omega) (by omega) hwd7))) fun H6 e6 => ?_
        have hst6 := stEx e6 hst
        have htake : ∀ h : List Day, hit t ps row y (i + 1) (j + 1) wd = h → ((weeksOf ps).take (n + 1)).flatMap (fun w => hit t ps row y (i + 1) (j + 1) w) = ((weeksOf ps).take n).flatMap (fun w => hit t ps row y (i + 1) (j + 1) w) ++ h := fun h eh => by
          rw [List.take_add_one, hwd, List.flatMap_append]
          simp [eh]
        cases eY : yearMeant t ps row (i + 1) (j + 1) wd y with
        | none =>
          have eh : hit t ps row y (i + 1) (j + 1) wd = [] := by unfold hit; rw [eY]
          refine s_when (b := false) (et_is (et_and (a := false) (b := false) (et_notN (ev_var (v := V.non) rfl) rfl) fun z => (by cases z)) rfl) (fun hb => (by cases hb)) (fun _ H7 e7 => ⟨?_, some (nv wd), some .non, rfl⟩)
          rw [htake [] eh, List.append_nil]
          exact stEx e7 hst6
        | some yy =>
          refine s_when (b := true && (dayOk ⟨yy, i + 1, j + 1⟩ && decide (dayText t ps ⟨yy, i + 1, j + 1⟩ = row))) (et_and (et_notN (ev_var (v := nv yy) rfl) rfl) fun _ => et_and (et_B (ev_c1 (ea_cons (ev_var rfl) (ea_cons (ev_var rfl) (ea_cons (ev_var rfl) ea_nil))) sv_isDay)) fun hok => et_test (ev_eqL (er_l (el_meth (ev_var rfl) (e6 a _ (e05 a _ ha)) rfl (ea_cons (ev_var rfl) (ea_cons (ev_var rfl) (ea_cons (ev_var rfl) (ea_cons (ev_var rfl) ea_nil)))) (sl_twritten (x := ⟨yy, i + 1, j + 1⟩) (hA5.ton.mono e6) hA.tg (hA5.pat.mono e6) hA.pg hok))) (er_v (ev_var rfl) (hA5.mono e6).hrow) rfl)) (fun hb H7 e7 => ?_) (fun hb H7 e7 => ⟨?_, some (nv wd), some (nv yy), rfl⟩)
          · have hb : dayOk ⟨yy, i + 1, j + 1⟩ = true ∧ dayText t ps ⟨yy, i + 1, j + 1⟩ = row := by simpa using hb
            have eh : hit t ps row y (i + 1) (j + 1) wd = [⟨yy, i + 1, j + 1⟩] := by unfold hit; rw [eY]; simp only []; rw [if_pos hb]
            obtain ⟨s1, s2, qs, s3, s4, s5⟩ := stEx e7 hst6
            have hql := s4.len
            have ac := accl i j n
            have ac2 := (accl i j n).2.1
            rw [List.length_append, List.length_append] at hql
            refine s_appU (xs := qs.map V.ref) (ys := [nv yy, nv (i + 1), nv (j + 1)]) s3 (ev_var rfl) (eu_tup (ea_cons (ev_var rfl) (ea_cons (ev_var rfl) (ea_cons (ev_var rfl) ea_nil))) (by show 3 ≤ 100000; decide)) (by rw [List.length_map]; omega) fun q H8 hq e8 h8' => ⟨?_, some (nv wd), some (nv yy), rfl⟩
            have hqn : q ≠ l := fun z => by rw [z, s3] at hq; cases hq
            have sr := stEx e8 ⟨s1, s2, qs, s3, s4, s5⟩
            rw [htake _ eh, ← List.append_assoc]
            refine ⟨sr.1.mut hl, by rw [upd_ne hlwl]; exact sr.2.1, qs ++ [q], by rw [List.map_append]; exact upd_same, ?_, fun q' hq' => (List.mem_append.mp hq').elim (s5 q') fun z => (List.mem_singleton.mp z) ▸ hqn⟩
            have mv : ∀ {bs : List Addr} {ds : List Day}, (∀ q ∈ bs, q ≠ l) → ObjsAt H8 dayV bs ds → ObjsAt (upd H8 l (.lst (qs.map V.ref ++ [V.ref q]))) dayV bs ds := fun {bs ds} hn h => ObjsAt.of h.len fun j a d h1 h2 => by
              rw [upd_ne (hn a (List.mem_of_getElem? h1))]
              obtain ⟨b, hb, hh⟩ := h.get h1
              rw [h2] at hb
              cases hb
              exact hh
            exact (mv s5 (s4.mono e8)).app (mv (bs := [q]) (fun q' hq' => (List.mem_singleton.mp hq') ▸ hqn) ⟨h8', trivial⟩)
          · have hb : ¬ (dayOk ⟨yy, i + 1, j + 1⟩ = true ∧ dayText t ps ⟨yy, i + 1, j + 1⟩ = row) := fun ⟨z1, z2⟩ => by
              rw [z1, decide_eq_true z2] at hb
              cases hb
            have eh : hit t ps row y (i + 1) (j + 1) wd = [] := by unfold hit; rw [eY]; simp only []; rw [if_neg hb]
            rw [htake [] eh, List.append_nil]
            exact stEx e7 hst6
      · subst hσ
        rw [nl_len, List.take_length, List.append_assoc] at hst
        exact ⟨by rw [List.range_succ (n := j), List.flatMap_append, List.flatMap_singleton]; exact hst, some (nv (j + 1)), o3, o4, rfl⟩
    · subst hσ
      exact ⟨by rw [List.range_succ (n := i), List.flatMap_append, List.flatMap_singleton]; exact hst, some (nv (i + 1)), o2, o3, o4, rfl⟩
  · subst hσ
    obtain ⟨s1, s2, qs, s3, s4, s5⟩ := hst
    have ef : ((List.range (13 - 1 : Int).toNat).flatMap fun m => (List.range 31).flatMap fun d => (weeksOf ps).flatMap fun w => hit t ps row y (m + 1) (d + 1) w) = foundAll t ps row y := rfl
    rw [ef] at s4
    have hmean : ∀ x ∈ foundAll t ps row y, Mean t ps y row x := fun x hx => by
      obtain ⟨m1, m2, m3⟩ := mem_found.mp hx
      exact ⟨m1, m2, hb.1, hb.2, m3⟩
    refine ⟨_, rfl, l, dks qs (foundAll t ps row y), rfl, sq_of (by rw [dks_refs s4]; exact s3), fun p hp => ?_, fun L hL hn => ?_, fun sa L hsa hL1 hL2 => ?_⟩
    · obtain ⟨x, _, e2, e3⟩ := dks_mem s4 hp
      rw [e2]
      exact st_of e3
    · obtain ⟨xs, x1, x2, x3, x4⟩ := days_of_keys (H := H') (R := fun x => Mean t ps y row x) L fun p hp => by
        obtain ⟨x, hx, e2, e3⟩ := dks_mem s4 (hL p hp)
        exact ⟨x, hmean x hx, e2, e3⟩
      rw [x1] at hn
      have := few_days xs (nodup_keys hn) x3
      omega
    · have hsal : ∀ a o, H' a = some o → a ≠ sa := fun a o h z => by rw [z, hsa] at h; cases h
      have ex : Ex H' (upd H' sa (SetTO P w sa L)) := Ex.new hsa
      refine ⟨sa, L, 3, 10000, rfl, upd_same, fun p hp => ?_, by decide, fun p hp => ?_, fun L' q pm nd few pw hq => ?_⟩
      · obtain ⟨x, _, e2, e3⟩ := dks_mem s4 (hL1 p hp)
        rw [e2]
        exact st_of (ex _ _ e3)
      · obtain ⟨x, hx, e2, e3⟩ := dks_mem s4 (hL1 p hp)
        rw [e2]
        obtain ⟨a1, a2, a3, a4, a5, a6⟩ := dayOk_iff.mp (hmean x hx).ok
        have a7 := day_le (hmean x hx).ok
        refine ⟨rfl, ?_⟩
        intro z hz
        unfold dk at hz
        simp only [List.mem_cons, List.not_mem_nil, or_false] at hz
        omega
      · obtain ⟨xs, x1, x2, x3, x4⟩ := days_of_keys (H := upd H' sa (SetTO P w sa L)) (R := fun x => Mean t ps y row x) L' fun p hp => by
          obtain ⟨x, hx, e2, e3⟩ := dks_mem s4 (hL1 p (pm.mem_iff.mp hp))
          exact ⟨x, hmean x hx, e2, ex _ _ e3⟩
        have hrise : Rising xs := by
          rw [x1] at nd
          have pw2 : (xs.map dk).Pairwise fun u v => TS.code 10000 u ≤ TS.code 10000 v := by
            rw [← x1]
            exact List.pairwise_map.mpr pw
          rw [List.pairwise_map] at pw2
          have nd2 := List.pairwise_map.mp nd
          have both := pw2.and nd2
          refine List.Pairwise.imp_of_mem (fun {u v} hu hv h => lex_of_code (x3 u hu).ok (x3 v hv).ok h.1 h.2) both
        obtain ⟨r1, r2⟩ := dayRead_spec hA.tg (ps := ps) (now := y) (row := row)
        have exs : xs = dayRead t ps y row := rising_eq hrise r1 fun x => by
          rw [r2 x]
          constructor
          · exact x3 x
          · intro hx
            have hf : x ∈ foundAll t ps row y := mem_found.mpr ⟨hx.ok, hx.txt, hx.yr⟩
            obtain ⟨p, hp, e2⟩ := dks_of s4 hf
            have : p.2 ∈ L'.map (·.2) := (pm.map (·.2)).mem_iff.mpr (hL2 p hp)
            rw [x1, e2] at this
            obtain ⟨z, hz, e3⟩ := List.mem_map.mp this
            rw [← dk_inj e3]
            exact hz
        have em : L'.map (fun q => V.ref q.1) = (L'.map (·.1)).map V.ref := by rw [List.map_map]; rfl
        have hlen : (dayRead t ps y row).length ≤ 24 := by
          rw [← exs]
          exact few_days xs (rising_nodup hrise) x3
        rw [em]
        rw [exs] at x2
        exact k q (L'.map (·.1)) _ ((s1.trans ex).trans (Ex.new hq)) upd_same (x2.mono (Ex.new hq)) hlen
end
end Wd
namespace Wd
open PySem PySem.Spec PyProof.Rows L2 Evl
open Ut08 (Day Part Tongue Num isDigit nameOk signOk)

/-! refusals -/
structure RefC (K : PySem.W.Frag) (mg : Str → Option Value) (C : Addr) : Prop where
  ox : OexC K C
  xf : XfC K C
  gC : mg "Refused" = some (.ref C)
  noN : PySem.W.findIn K (.ref C) "number" = some none
  te : PySem.W.exmOne K (.ref C) (.ref C) = some true
  vV : PySem.W.findCls K (.type "ValueError") (.type "type") "__init__" = some (.val (.builtin "ValueError.__init__"))
structure RefI (P : Program) (w : World) (K : PySem.W.Frag) (mg : Str → Option Value) (base : Heap) (C : Addr) (sp : Sp) : Prop where
  ex : ∃ (f : Addr) (fd : FuncData) (ps : List Str), PySem.W.findIn K (.ref C) "__init__" = some (some (.ref f)) ∧ PySem.W.typeIn K (.ref f) = some (.type "function") ∧ FnOk P w K mg base CX0 1 f fd ps sp ∧ Binds K fd ps []
def spRefInit (C : Addr) : Sp := fun vs H Q _ => ∃ (a : Addr) (n : Int), vs = [.ref a, .int n] ∧ H a = some (exo a C none) ∧ ∀ dx, H dx = none → dx ≠ a → Q .non (upd (upd H dx (exd dx [("number", .int n)])) a (exo a C (some dx)))
/-- what is wanted where a call is refused with a number -/
def RefX (C : Addr) (n : Int) (H : Hp) (E : XK) : Prop := ∀ (d : Addr) (H' : Hp), Ex H H' → H' d = some (.xd [("number", .int n)]) → E (.ref C) (some d) H'
theorem RefX.mono {C : Addr} {n : Int} {H H' : Hp} {E : XK} (e : Ex H H') (h : RefX C n H E) : RefX C n H' E := fun d H2 e2 h2 => h d H2 (e.trans e2) h2
def spRefuse (C : Addr) : Sp := fun vs H Q E => ∃ (b : Bool) (n : Int), vs = [.bl b, .int n] ∧ (b = true → RefX C n H E) ∧ (b = false → Q .non H)
def spAreBytes : Sp := fun vs H Q _ => ∃ (p : Addr) (ns : List Nat) (k : Nat), vs = [.ref p, nv k] ∧ H p = some (.lst (nl ns)) ∧ ns.length ≤ 1000 ∧ RetV (.bl (decide (ns.length ≤ k) && ns.all fun c => decide (c ≤ 255))) H Q
def spIsSign : Sp := fun vs H Q _ => ∃ n : Nat, vs = [nv n] ∧ RetV (.bl (signOk n)) H Q
def spCounted : Sp := fun vs H Q _ => ∃ (p : Addr) (ns : List Nat), vs = [.ref p] ∧ H p = some (.lst (nl ns)) ∧ ns.length ≤ 1000 ∧ RetL (nl (ns.length :: ns)) H Q
theorem sv_areBytes {p : Addr} {ns : List Nat} {k : Nat} {H : Hp} (h : H p = some (.lst (nl ns))) (hl : ns.length ≤ 1000) : SpV spAreBytes [.ref p, nv k] H (.bl (decide (ns.length ≤ k) && ns.all fun c => decide (c ≤ 255))) := fun H1 e Q q _ => ⟨p, ns, k, rfl, e p _ h, hl, q⟩
theorem sv_isSign {n : Nat} {H : Hp} : SpV spIsSign [nv n] H (.bl (signOk n)) := fun H1 _ Q q _ => ⟨n, rfl, q⟩
theorem sl_counted {p : Addr} {ns : List Nat} {H : Hp} (h : H p = some (.lst (nl ns))) (hl : ns.length ≤ 1000) : SpL spCounted [.ref p] H (nl (ns.length :: ns)) := fun H1 e Q q _ => ⟨p, ns, rfl, e p _ h, hl, q⟩

abbrev sRefInit : Stmt := inClass (topS 59) 0
abbrev sRefuse : Stmt := topS 60
abbrev sAreBytes : Stmt := topS 61
abbrev sIsSign : Stmt := topS 62
abbrev sPartsIn : Stmt := topS 63
abbrev sCounted : Stmt := topS 64
theorem scRefInit : FnScope ["self", "number"] ["self", "number"] (defScope sRefInit) := ⟨rfl, rfl, rfl, by decide +kernel, rfl, by decide +kernel, by decide +kernel⟩
theorem scRefuse : FnScope ["bad", "number"] ["bad", "number"] (defScope sRefuse) := ⟨rfl, rfl, rfl, by decide +kernel, rfl, by decide +kernel, by decide +kernel⟩
theorem scAreBytes : FnScope ["row", "most", "byte"] ["row", "most"] (defScope sAreBytes) := ⟨rfl, rfl, rfl, by decide +kernel, rfl, by decide +kernel, by decide +kernel⟩
theorem scIsSign : FnScope ["byte"] ["byte"] (defScope sIsSign) := ⟨rfl, rfl, rfl, by decide +kernel, rfl, by decide +kernel, by decide +kernel⟩
theorem scCounted : FnScope ["row"] ["row"] (defScope sCounted) := ⟨rfl, rfl, rfl, by decide +kernel, rfl, by decide +kernel, by decide +kernel⟩
section
variable {K : PySem.W.Frag} {σ : L2.St} {H H' : Hp} {ta tb tc te tx tn : TE} {t u : TT} {x y z v : V} {D : Ends} {tz : TS} {E : XK} {C : Addr}
/-- refuse(.., ..) -/
theorem q_refuse {b : Bool} {n : Int} (hb : Ev tb σ H (.bl b)) (hn : Ev tn σ H (.int n)) (hE : b = true → RefX C n H E) (k : b = false → ∀ H1, Ex H H1 → tz D σ H1) : tSeq (tDrop (tCall (spRefuse C) [] E (tCons tb (tCons tn tNil)))) tz D σ H :=
  hb H (Ex.refl H) _ fun H1 e1 => hn H1 e1 _ fun H2 e2 => ⟨b, n, rfl, fun z => (hE z).mono (e1.trans e2), fun z => k z H2 (e1.trans e2)⟩
end
section
variable {P : Program} {w : World} {K : PySem.W.Frag} {mg : Str → Option Value} {base : Heap} {C : Addr}
theorem ok_refInit {f : Addr} {fd : FuncData} (F : Fun K "__init__" "Refused.__init__" sRefInit f fd) (G : Gs K mg) (T : RefC K mg C) : FnOk P w K mg base CX0 1 f fd ["self", "number"] (spRefInit C) := by
  refine F.ok scRefInit (fun vs H Q E h => by obtain ⟨a, n, rfl, _⟩ := h; rfl) (fun cdv A outer s H vs Q E hr h => ?_)
  refine ⟨_, (pss_cons (ps_expr (pe_veinit (by rfl) G.bValueerror T.vV (pa_cons (pv 0) (pa_cons (pe_str) pa_nil))))
      (pss_one (ps_ost (pv 0) (pv 1)))), ?_⟩
  obtain ⟨a, n, rfl, ha, k⟩ := h
  exact ⟨_, rfl, a, C, _, rfl, by show 1 ≤ 1000; decide, T.ox, ha, _, rfl, _, rfl, a, C, rfl, T.ox, T.noN, .inl ⟨ha, k⟩⟩
theorem ok_refuse {f : Addr} {fd : FuncData} (F : Fun K "refuse" "refuse" sRefuse f fd) (T : RefC K mg C) (I : RefI P w K mg base C (spRefInit C)) : FnOk P w K mg base (L2.CX P w) 3 f fd ["bad", "number"] (spRefuse C) := by
  obtain ⟨fi, fdi, psi, i1, i2, i3, i4⟩ := I.ex
  refine F.okX scRefuse (fun vs H Q E h => by obtain ⟨a, n, rfl, _⟩ := h; rfl) (fun cdv A outer s H vs Q E hr h => ?_)
  refine ⟨_, (pss_one (ps_if (pt_val (pv 0)) (pss_one (ps_raise rfl (takes_of rfl rfl rfl rfl) (pmk_oex T.ox i1 i2 i3 hr i4 .nil pass0 (by rfl) T.gC (by exact (pa_cons (pv 1) pa_nil))))) pss_nil)), ?_⟩
  obtain ⟨b, n, rfl, k1, k2⟩ := h
  cases b with
  | false => exact ⟨_, rfl, false, rfl, k2 rfl⟩
  | true =>
    refine ⟨_, rfl, true, rfl, iteT ?_⟩
    refine ⟨_, rfl, by show 1 ≤ 1000; decide, fun a ha => ⟨a, n, rfl, upd_same, fun dx hdx hne => ⟨rfl, dx, _, upd_same, by rw [upd_ne hne]; exact upd_same, ?_, ?_⟩⟩⟩
    · rw [upd_ne hne] at hdx
      exact hdx
    · rw [upd_ne hne] at hdx
      refine k1 rfl dx _ (fun c o hc => ?_) upd_same
      have n1 : c ≠ a := ne_of_none hc ha
      have n2 : c ≠ dx := ne_of_none hc hdx
      rw [upd_ne n2, del_ne n1, upd_ne n1, upd_ne n2, upd_ne n1]
      exact hc
theorem ok_areBytes {f : Addr} {fd : FuncData} (F : Fun K "are_bytes" "are_bytes" sAreBytes f fd) (G : Gs K mg) : FnOk P w K mg base CX0 1 f fd ["row", "most"] spAreBytes := by
  refine F.ok scAreBytes (fun vs H Q E h => by obtain ⟨a, n, k, rfl, _⟩ := h; rfl) (fun cdv A outer s H vs Q E hr h => ?_)
  refine ⟨_, (pss_one (ps_ret (pe_and (pe_cmpR op_le (pe_callB call_len_seq (by rfl) G.bLen PySem.boot_len (pa_cons (pv 0) pa_nil)) (pv 1) (nomark _)) (pe_one (pe_callB (cr_all rfl) (by rfl) G.bAll (by decide +kernel) (pa_cons (pe_lc (own := [("byte", 2)]) (g := gName 2) (tt := tYes) rfl scAreBytes.nd (pi_list (pv 0)) (blkOk_by (own := [("byte", 2)]) (N := ["row", "most", "byte"]) (sc := defScope sAreBytes) (by decide +kernel))
          (fun _ _ _ _ _ => pg_name (i := 2) scAreBytes.nd rfl (Or.inl rfl)) (fun _ _ _ _ _ => pts_nil) (fun _ _ _ _ _ => pe_cmpR op_le (pv 2) (pgi G.cMostByte) (nomark _))) pa_nil)))))), ?_⟩
  obtain ⟨p, ns, n, rfl, hp, hl, k⟩ := h
  refine s_ret (ev_andV (ev_cI (ev_lenN (er_v (ev_var rfl) hp)) (ev_var rfl) (decide_eq_decide.mpr (by omega))) fun _ => ev_is (ev_allL (bs := ns.map fun c => decide (c ≤ 255)) (el_is (el_lcNs (fun _ => true) (fun c => .bl (decide (c ≤ 255))) (ev_var rfl) hp (by omega) (fun i c H4 e4 hc => et_yes) (fun i c H4 e4 hc _ => ev_cI (ev_var rfl) ev_c (decide_eq_decide.mpr (by omega)))) ?_)) ?_) k
  · rw [List.filter_eq_self.mpr (fun _ _ => rfl), List.map_map]
    rfl
  · rw [List.all_map]
    rfl
theorem ok_isSign {f : Addr} {fd : FuncData} (F : Fun K "is_sign" "is_sign" sIsSign f fd) (G : Gs K mg) (c1 : Cal P w K mg base CX0 1 "is_digit" spIsDigit) : FnOk P w K mg base CX0 2 f fd ["byte"] spIsSign := by
  refine F.ok scIsSign (fun vs H Q E h => by obtain ⟨n, rfl, _⟩ := h; rfl) (fun cdv A outer s H vs Q E hr h => ?_)
  refine ⟨_, (pss_one (ps_ret (pe_and (pe_cmpR op_le (pv 0) (pgi G.cMostByte) (nomark _)) (pe_one (pe_not (pe_c c1 hr (by decide) pass0 rfl (pa_cons (pv 0) pa_nil))))))), ?_⟩
  obtain ⟨n, rfl, k⟩ := h
  exact s_ret (v := .bl (signOk n)) (ev_andV (a := decide (n ≤ 255)) (b := !isDigit n) (ev_cI (ev_var rfl) ev_c (decide_eq_decide.mpr (by omega))) fun _ => ev_notV (ev_c1 (ea_cons (ev_var rfl) ea_nil) sv_isDigit)) k
theorem ok_counted {f : Addr} {fd : FuncData} (F : Fun K "counted" "counted" sCounted f fd) (G : Gs K mg) : FnOk P w K mg base CX0 1 f fd ["row"] spCounted := by
  refine F.ok scCounted (fun vs H Q E h => by obtain ⟨p, n, rfl, _⟩ := h; rfl) (fun cdv A outer s H vs Q E hr h => ?_)
  refine ⟨_, (pss_one (ps_ret (pe_op op_cat (pe_lst (pa_cons (pe_callB call_len_seq (by rfl) G.bLen PySem.boot_len (pa_cons (pv 0) pa_nil)) pa_nil)) (pv 0)))), ?_⟩
  obtain ⟨p, ns, rfl, hp, hl, k⟩ := h
  exact s_retL (el_cat (xs := nl [ns.length]) (er_l (el_lst (ea_cons (ev_lenN (er_v (ev_var rfl) hp)) ea_nil) (by show 1 ≤ 100000; decide))) (er_v (ev_var rfl) hp) (by rw [nl_len, nl_len]; simp only [List.length_singleton]; omega)) k
/-- len(set(xs)), xs a list of numbers -/
def tLenSet (K : PySem.W.Frag) (ta : TE) : TE := fun σ H Q => ta σ H fun x H1 => ∃ (l : Addr) (ns : List Int), x = V.ref l ∧ SqL K H1 l (ns.map V.int) ∧ ns.length < 64 ∧ Q (.int ((firstMet (fun i => ns.getD i 0) ns.length).length : Nat)) H1
theorem pe_lenSet {X : Cx} {a : Expr} {ta : TE} {p p2 q pos : Pos} (hc : X.calm = true) (hm : X.mg "len" = none) (hm2 : X.mg "set" = none) (ha : PE X a ta) (hg : Gl X "len" := by rfl) (hg2 : Gl X "set" := by rfl)
    (na : starEach [a] X.env = (false, eval a X.env) :: starEach [] X.env := by rfl) : PE X (.Call (.Name "len" p) [.Call (.Name "set" p2) [a] [] q] [] pos) (tLenSet X.K ta) := by
  constructor
  intro pins s σ H Q I h
  refine Call_ (ld_blt I hg hm PySem.boot_len (PyProof.Rows.callWith_builtin1 (PyProof.Rows.args_cons (Call_ (ld_blt I hg2 hm2 PyProof.Rows.boot_set (PyProof.Rows.callWith_type1 (PyProof.Rows.args_cons (thn (ha.run pins s σ H _ I h) ?_) na) na rfl))) rfl) rfl rfl))
  rintro v s1 ⟨x, H1, I1, r1, l, ns, rfl, hq, hlt, want⟩
  apply PyProof.Rows.args_nil
  cases r1
  obtain ⟨its, rel, isl, _⟩ := I1.list hq
  have sz : its.toArray.size = ns.length := by rw [List.size_toArray, ← rel.length, List.length_map]
  apply call_set_list (I1.ok.hd hc) isl.isList (ns := ns) (by simpa using rel.ints) (by unfold scanBound; omega)
  intro h' tk made kept
  apply PyProof.Rows.args_nil
  obtain ⟨o, es, ep, tb, get, exact_, dat, _, _, _, fits, cnt⟩ := made
  have I2 : Inv X pins σ H1 { s1 with heap := h', toks := tk } := I1.kept fun b o e => kept b o (Heap.lt_size e) e
  rw [sz] at cnt
  have fl := firstMet_length_le (fun i => ns.getD i 0) ns.length
  exact call_len_set get exact_ dat fits (by rw [cnt]; omega) ⟨.int ((firstMet (fun i => ns.getD i 0) ns.length).length : Nat), H1, I2.tok _, ⟨_, by rw [cnt]⟩, want⟩
end
end Wd
namespace Wd
open PySem PySem.Spec PyProof.Rows L2 Evl
open Ut08 (Day Part Tongue Num isDigit nameOk signOk House)
open Ut08Neutral (partsIn)

/-! the heap without one object -/
theorem ex_del {H : Hp} (l : Addr) : Ex (del H l) H := fun a o h => by
  by_cases c : a = l
  · rw [c, del_same] at h; cases h
  · rwa [del_ne c] at h
theorem del_mono {H H' : Hp} (e : Ex H H') (l : Addr) : Ex (del H l) (del H' l) := fun a o h => by
  by_cases c : a = l
  · rw [c, del_same] at h; cases h
  · rw [del_ne c] at h ⊢
    exact e a o h
theorem del_upd {H : Hp} {l : Addr} {o : HO} : del (upd H l o) l = del H l := by
  funext b
  by_cases c : b = l
  · rw [c, del_same, del_same]
  · rw [del_ne c, del_ne c, upd_ne c]
theorem PartsAt.snoc {H : Hp} : ∀ {as : List Addr} {ps : List Part} {a : Addr} {p : Part}, PartsAt H as ps → PartAt H a p → PartsAt H (as ++ [a]) (ps ++ [p])
  | [], [], _, _, _, h => ⟨h, trivial⟩
  | _ :: _, _ :: _, _, _, h, h' => ⟨h.1, PartsAt.snoc h.2 h'⟩
  | [], _ :: _, _, _, h, _ => h.elim
  | _ :: _, [], _, _, h, _ => h.elim
theorem del_upd2 {H : Hp} {l x : Addr} {o : HO} : del (del (upd H l o) x) l = del (del H x) l := by
  funext b
  by_cases c : b = l
  · rw [c, del_same, del_same]
  · rw [del_ne c, del_ne c]
    by_cases d : b = x
    · rw [d, del_same, del_same]
    · rw [del_ne d, del_ne d, upd_ne c]
theorem del_upd_ne {H : Hp} {l a : Addr} {o : HO} (h : a ≠ l) : del (upd H a o) l = upd (del H l) a o := by
  funext b
  by_cases c : b = l
  · rw [c, del_same, upd_ne (Ne.symm h), del_same]
  · rw [del_ne c]
    by_cases d : b = a
    · rw [d, upd_same, upd_same]
    · rw [upd_ne d, upd_ne d, del_ne c]
/-- the parts are new: none is the thing at x -/
def spPartsIn : Sp := fun vs H Q _ => ∃ (p x : Addr) (ns : List Nat) (ps : List Part), vs = [.ref p] ∧ H p = some (.lst (nl ns)) ∧ ns.length ≤ 1000 ∧ (∃ f, partsIn f ns = some ps) ∧ (∃ o, H x = some o) ∧ ∀ (q : Addr) (H2 : Hp), Ex H H2 → PatAt (del H2 x) q ps → ps.length ≤ ns.length → Q (.ref q) H2
theorem scPartsIn : FnScope ["row", "found", "at", "end", "own"] ["row"] (defScope sPartsIn) := ⟨rfl, rfl, rfl, by decide +kernel, rfl, by decide +kernel, by decide +kernel⟩
section
variable {P : Program} {w : World} {K : PySem.W.Frag} {mg : Str → Option Value} {base : Heap} {C : Addr}
theorem ok_partsIn {f : Addr} {fd : FuncData} (F : Fun K "parts_in" "parts_in" sPartsIn f fd) (G : Gs K mg) : FnOk P w K mg base CX0 1 f fd ["row"] spPartsIn := by
  refine F.ok scPartsIn (fun vs H Q E h => by obtain ⟨p, x, n, ps, rfl, _⟩ := h; rfl) (fun cdv A outer s H vs Q E hr h => ?_)
  refine ⟨_, (pss_cons (ps_set (i := 1) scPartsIn.nd rfl (.inl rfl) (pe_lst pa_nil))
      (pss_cons (ps_set (i := 2) scPartsIn.nd rfl (.inl rfl) pe_int)
      (pss_cons (ps_while PassesOwn.never (pt_cmpR op_lt (pv 2) (pe_callB call_len_seq (by rfl) G.bLen PySem.boot_len (pa_cons (pv 0) pa_nil)) (nomark _)) (pss_cons (ps_set (i := 3) scPartsIn.nd rfl (.inl rfl) (pe_op op_add (pv 2) pe_int))
      (pss_cons (ps_set (i := 4) scPartsIn.nd rfl (.inl rfl) (pe_lst pa_nil))
      (Evl.pss_cut (ps_if (pt_cmpR op_eq (pe_ix ix_list (pv 0) (pv 2) (fun _ _ => rfl)) (pgi G.cAsTheyAre) (nomark _)) (pss_cons (ps_set (i := 3) scPartsIn.nd rfl (.inl rfl) (pe_op op_add (pe_op op_add (pv 2) pe_int) (pe_ix ix_list (pv 0) (pe_op op_add (pv 2) pe_int) (fun _ _ => rfl))))
      (pss_one (ps_set (i := 4) scPartsIn.nd rfl (.inl rfl) (pe_slice sl_list (pv 0) (po_some (pe_op op_add (pv 2) pe_int)) (po_some (pv 3)))))) pss_nil)
      (pss_cons (ps_expr (pe_bm PySem.F.plainAttrs_list PySem.F.slot_list_append PySem.F.type_list_append mt_append (pv 1) (pa_cons (pe_tup (pa_cons (pe_ix ix_list (pv 0) (pv 2) (fun _ _ => rfl)) (pa_cons (pv 4) pa_nil))) pa_nil)))
      (pss_one (ps_set (i := 2) scPartsIn.nd rfl (.inl rfl) (pv 3))))))))
      (pss_one (ps_ret (pv 1)))))), ?_⟩
  obtain ⟨p, x, ns, ps, rfl, hp, hl, ⟨f0, hf0⟩, ⟨ox, hox⟩, k⟩ := h
  refine q_asgL (el_lst (vs := []) ea_nil (by decide)) fun l H1 hl1 e1 h1 => ?_
  refine q_asg ev_c fun H2 e2 => ?_
  refine q_while (fun m σ H' => Ex H H' ∧ ∃ (pos : Nat) (o1 o2 : Option V) (as : List Addr) (ds qs : List Part) (f : Nat), σ = [some (.ref p), some (.ref l), some (nv pos), o1, o2] ∧ m = ns.length - pos ∧ pos ≤ ns.length ∧ H' l = some (.lst (as.map V.ref)) ∧ PartsAt (del (del H' x) l) as ds ∧ partsIn f (ns.drop pos) = some qs ∧ ps = ds ++ qs ∧ ds.length ≤ pos) ns.length
    ⟨e1.trans e2, 0, none, none, [], [], ps, f0, rfl, rfl, Nat.zero_le _, e2 l _ h1, trivial, hf0, rfl, Nat.le_refl _⟩ fun m σ H' ⟨e, pos, o1, o2, as, ds, qs, f, hσ, hm, hpos, hl', hps, hf, hq, hdl⟩ => ?_
  subst hσ
  have hpl : p ≠ l := ne_of_none hp hl1
  refine ⟨decide (pos < ns.length), et_test (ev_cI (ev_var rfl) (ev_lenN (er_v (ev_var rfl) (e p _ hp))) (decide_eq_decide.mpr (by omega))), fun hb H3 e3 => ?_, fun hb H3 e3 => ?_⟩
  · have hlt : pos < ns.length := of_decide_eq_true hb
    obtain ⟨c, hc⟩ : ∃ c, ns[pos]? = some c := ⟨_, List.getElem?_eq_getElem hlt⟩
    have ed : ns.drop pos = c :: ns.drop (pos + 1) := by
      rw [List.drop_eq_getElem_cons hlt]
      congr 1
      exact (List.getElem?_eq_some_iff.mp hc).2
    rw [ed] at hf
    obtain ⟨g, rfl, hcase⟩ := partsIn_cons hf
    refine ⟨fun σ2 H2 => ∃ m', m' < m ∧ Ex H H2 ∧ ∃ (pos : Nat) (o1 o2 : Option V) (as : List Addr) (ds qs : List Part) (f : Nat), σ2 = [some (.ref p), some (.ref l), some (nv pos), o1, o2] ∧ m' = ns.length - pos ∧ pos ≤ ns.length ∧ H2 l = some (.lst (as.map V.ref)) ∧ PartsAt (del (del H2 x) l) as ds ∧ partsIn f (ns.drop pos) = some qs ∧ ps = ds ++ qs ∧ ds.length ≤ pos, fun _ _ h => h, ?_⟩
    have e03 := e.trans e3
    refine q_asg (v := nv (pos + 1)) (ev_add (ev_var rfl) ev_c rfl) fun H4 e4 => ?_
    refine q_asgL (el_lst (vs := []) ea_nil (by decide)) fun lo H5 hlo e5 h5 => ?_
    have e35 := e4.trans e5
    have hlox : lo ≠ x := fun z => by rw [z, e4 x _ (e03 x _ hox)] at hlo; cases hlo
    have hlol : lo ≠ l := fun z => by rw [z, e4 l _ (e3 l _ hl')] at hlo; cases hlo
    -- behind the if: the part, where it ends
    refine q_cut (M := fun σ H6 => Ex H5 H6 ∧ ∃ (en : Nat) (po : Addr) (pt : Part) (qs' : List Part), σ = [some (.ref p), some (.ref l), some (nv pos), some (nv en), some (.ref po)] ∧ H6 po = some (.lst (nl (ownB pt))) ∧ po ≠ l ∧ po ≠ x ∧ code pt = c ∧ pos < en ∧ en ≤ ns.length ∧ partsIn g (ns.drop en) = some qs' ∧ qs = pt :: qs') (s_when (b := decide (c = 0)) (et_test (ev_eqI (ev_ixNL (ev_var rfl) (ev_var rfl) (e35 p _ (e03 p _ hp)) rfl hc) ev_c (decide_eq_decide.mpr (by omega)))) (fun hb H6 e6 => ?_) (fun hb H6 e6 => ?_)) (fun σ H6 ⟨e6, en, po, pt, qs', hσ, hpo, hpol, hpox, hcd, hen, hen2, hin, hqs⟩ => ?_)
    · have hc0 : c = 0 := of_decide_eq_true hb
      rcases hcase with ⟨_, n, l', qs', hl2, hnl, hin, hqs⟩ | ⟨z, _⟩
      · have hc1 : ns[pos + 1]? = some n := by
          have : (ns.drop (pos + 1))[0]? = some n := by rw [hl2]; rfl
          rwa [List.getElem?_drop, Nat.add_zero] at this
        have hd2 : ns.drop (pos + 2) = l' := by
          have : (ns.drop (pos + 1)).drop 1 = l' := by rw [hl2]; rfl
          rwa [List.drop_drop] at this
        have hp6 := e6 p _ (e35 p _ (e03 p _ hp))
        have hlen : l'.length = ns.length - (pos + 2) := by rw [← hd2, List.length_drop]
        have hp1 : pos + 1 < ns.length := (List.getElem?_eq_some_iff.mp hc1).1
        refine q_asg (v := nv (pos + 2 + n)) (ev_add (ev_add (ev_var rfl) ev_c rfl) (ev_ixNL (j := pos + 1) (ev_var rfl) (ev_add (ev_var rfl) ev_c rfl) hp6 rfl hc1) rfl) fun H7 e7 => ?_
        refine s_asgL (xs := nl (l'.take n)) (el_is (er_slice (er_v (ev_var rfl) (e7 p _ hp6)) (eo_some (i := ((pos + 2 : Nat) : Int)) (ev_add (ev_var rfl) ev_c rfl)) (eo_some (ev_var rfl))) ?_) fun po H8 hpo e8 h8 => ⟨(e6.trans e7).trans e8, pos + 2 + n, po, .text (l'.take n), qs', rfl, h8, fun z => ?_, fun z => ?_, by rw [hc0]; rfl, by omega, by omega, ?_, hqs⟩
        · rw [cut_both, hd2, show pos + 2 + n - (pos + 2) = n by omega]
        · have := e7 l _ (e6 l _ (e35 l _ (e3 l _ hl')))
          rw [z, this] at hpo
          cases hpo
        · have := e7 x _ (e6 x _ (e35 x _ (e03 x _ hox)))
          rw [z, this] at hpo
          cases hpo
        · rw [← List.drop_drop, hd2]
          exact hin
      · exact absurd hc0 z
    · have hc0 : ¬ c = 0 := of_decide_eq_false hb
      rcases hcase with ⟨z, _⟩ | ⟨_, pt, qs', hcd, how, hin, hqs⟩
      · exact absurd z hc0
      · exact ⟨e6, pos + 1, lo, pt, qs', rfl, by rw [how]; exact e6 lo _ h5, hlol, hlox, hcd, by omega, by omega, hin, hqs⟩
    · subst hσ
      have e36 := e35.trans e6
      have hl6 := e36 l _ (e3 l _ hl')
      have hal : as.length ≤ 1000 := by rw [hps.len]; omega
      refine q_appU (xs := as.map V.ref) (ys := [nv c, .ref po]) hl6 (ev_var rfl) (eu_tup (ea_cons (ev_ixNL (ev_var rfl) (ev_var rfl) (e36 p _ (e03 p _ hp)) rfl hc) (ea_cons (ev_var rfl) ea_nil)) (by show 2 ≤ 100000; decide)) (by rw [List.length_map]; omega) fun q H7 hq7 e7 h7 => ?_
      have hqx : q ≠ x := fun z => by rw [z, e36 x _ (e03 x _ hox)] at hq7; cases hq7
      have hql : q ≠ l := fun z => by rw [z, hl6] at hq7; cases hq7
      refine s_asg (ev_var rfl) fun H8 e8 => ⟨ns.length - en, by omega, (((e03.trans e36).trans e7).mut hl1).trans e8, en, _, _, as ++ [q], ds ++ [pt], qs', g, rfl, rfl, hen2, ?_, ?_, hin, ?_, ?_⟩
      · rw [List.map_append]
        exact e8 l _ upd_same
      · have em : Ex (del (del H' x) l) (del (del H7 x) l) := del_mono (del_mono ((e3.trans e36).trans e7) x) l
        have pn : PartAt (del (del H7 x) l) q pt := ⟨po, by rw [del_ne hql, del_ne hqx, h7, hcd], by rw [del_ne hpol, del_ne hpox]; exact e7 po _ hpo⟩
        have := (hps.mono em).snoc pn
        have e8' := del_mono (del_mono e8 x) l
        rw [del_upd2] at e8'
        exact this.mono e8'
      · rw [hq, hqs, List.append_assoc]
        rfl
      · rw [List.length_append]
        simp only [List.length_singleton]
        omega
  · have hge : ¬ pos < ns.length := of_decide_eq_false hb
    have he : pos = ns.length := by omega
    rw [he, List.drop_length, partsIn_nil] at hf
    have hqn : qs = [] := (Option.some.inj hf).symm
    rw [hqn, List.append_nil] at hq
    rw [← hq] at hps hdl
    exact s_ret (ev_var rfl) fun H4 e4 => k l H4 ((e.trans e3).trans e4) ⟨as, by rw [del_ne (fun z => by rw [z, hox] at hl1; cases hl1)]; exact e4 l _ (e3 l _ hl'), (hps.mono (ex_del l)).mono (del_mono (e3.trans e4) x)⟩ (by omega)
end
/-! the desk -/
structure Cs where
  d : Addr
  t : Addr
  a : Addr
  r : Addr
structure DeskC (K : PySem.W.Frag) (C : Addr) : Prop where
  cl : Cls K C
  nTongue : NoAttr K C "tongue"
  nAmounts : NoAttr K C "amounts"
  nPattern : NoAttr K C "pattern"
def deskF (pt pa pp : Addr) : List (Str × V) := [("tongue", .ref pt), ("amounts", .ref pa), ("pattern", .ref pp)]
structure DeskGood (s : House) : Prop where
  ton : TonGood s.tongue
  num : NumGood s.num
  pat : PatGood s.pat
def DeskAt (c : Cs) (H : Hp) (a : Addr) (s : House) : Prop := DeskGood s ∧ ∃ dx pt pa pp, H a = some (.ins c.d dx (deskF pt pa pp)) ∧ TonAt c.t H pt s.tongue ∧ AmtAt c.a H pa s.num ∧ PatAt H pp s.pat
theorem DeskAt.mono {c : Cs} {a : Addr} {H H' : Hp} {s : House} (e : Ex H H') (h : DeskAt c H a s) : DeskAt c H' a s := by
  obtain ⟨g, dx, pt, pa, pp, h1, h2, h3, h4⟩ := h
  exact ⟨g, dx, pt, pa, pp, e a _ h1, h2.mono e, h3.mono e, h4.mono e⟩
/-- all but the desk stays -/
def ExB (a : Addr) (H H' : Hp) : Prop := ∀ b o, H b = some o → b ≠ a → H' b = some o
theorem ExB.of {a : Addr} {H H' : Hp} (e : Ex H H') : ExB a H H' := fun b o h _ => e b o h
theorem ExB.ex {a : Addr} {H H1 H2 : Hp} (b : ExB a H H1) (e : Ex H1 H2) : ExB a H H2 := fun c o h n => e c o (b c o h n)
/-- the desk, and a thing that is none of it -/
structure DeskL (c : Cs) (l : Addr) (H : Hp) (a : Addr) (s : House) : Prop where
  there : ∃ o, H l = some o
  own : DeskAt c (del H l) a s
section
variable {c : Cs} {l a : Addr} {H H' : Hp} {s : House}
theorem DeskL.all (h : DeskL c l H a s) : DeskAt c H a s := h.own.mono (ex_del l)
theorem DeskL.mono (e : Ex H H') (h : DeskL c l H a s) : DeskL c l H' a s := ⟨h.there.imp fun o ho => e l o ho, h.own.mono (del_mono e l)⟩
theorem DeskL.ne (h : DeskL c l H a s) : a ≠ l := fun z => by
  obtain ⟨_, dx, pt, pa, pp, ha, _⟩ := h.own
  rw [z, del_same] at ha
  cases ha
theorem DeskL.new (h : DeskL c l H a s) {p : Addr} (hp : H p = none) : p ≠ l := fun z => by
  obtain ⟨o, ho⟩ := h.there
  rw [z, ho] at hp
  cases hp
end
/-- how a call on the desk may end: by a new list of numbers, or by a refusal -/
def Out (c : Cs) (l a : Addr) (H : Hp) (s : House) (r : House × List Int) (Q : VK) (E : XK) : Prop :=
  (∀ (p : Addr) (H' : Hp), ExB a H H' → DeskAt c (del H' l) a r.1 → (del H' l) p = some (.lst (r.2.map V.int)) → Q (.ref p) H') ∧ (∀ n : Int, r = (s, [n]) → RefX c.r n H E)
theorem Out.one {c : Cs} {l a : Addr} {H : Hp} {s : House} {is : List Int} {Q : VK} {E : XK} (h : Out c l a H s (s, is) Q E) (hd : DeskL c l H a s) {p : Addr} {H' : Hp} (hn : H p = none) (e : Ex H H') (hp : H' p = some (.lst (is.map V.int))) : Q (.ref p) H' :=
  h.1 p H' (.of e) (hd.mono e).own (by rw [del_ne (hd.new hn)]; exact hp)
theorem Out.same {c : Cs} {l a : Addr} {H : Hp} {s : House} {ns : List Nat} {Q : VK} {E : XK} (h : Out c l a H s (s, Ut08.ints ns) Q E) (hd : DeskL c l H a s) {p : Addr} {H' : Hp} (hn : H p = none) (e : Ex H H') (hp : H' p = some (.lst (nl ns))) : Q (.ref p) H' :=
  h.one hd hn e (by
    rw [hp]
    show _ = some (HO.lst ((ns.map fun (n : Nat) => (n : Int)).map V.int))
    rw [List.map_map]
    rfl)
theorem pass_X {P : Program} {w : World} {X : Cx} {W : WX} {E : XK} (tk : Takes X W) (hp : X.prog = P) (hw : X.w = w) (hW : ∀ cls d σ H, E cls d H → W cls d σ H) : Passes (L2.CX P w) X E := by
  subst hp hw
  exact passes_call tk hW
end Wd
namespace Wd
open PySem PySem.Spec PyProof.Rows L2 Evl
open Ut08 (Day Part Tongue Num isDigit nameOk signOk House partOk numOk)

/-! what else stands where the desk is changed -/
theorem ex_over {H : Hp} {p : Addr} {o : HO} : Ex (del H p) (upd H p o) := fun a u h => by
  by_cases c : a = p
  · rw [c, del_same] at h; cases h
  · rw [del_ne c] at h
    rw [upd_ne c]
    exact h
theorem objs_del {H : Hp} {p C dx : Addr} {fs : List (Str × V)} (hp : H p = some (.ins C dx fs)) : ∀ {as : List Addr} {rows : List (List Nat)}, ObjsAt H rowO as rows → ObjsAt (del H p) rowO as rows
  | [], [], _ => trivial
  | a :: _, _ :: _, h => ⟨by rw [del_ne (ne_of h.1 hp (by intro z; cases z))]; exact h.1, objs_del hp h.2⟩
  | [], _ :: _, h => h.elim
  | _ :: _, [], h => h.elim
theorem rows_del {H : Hp} {p C dx q : Addr} {fs : List (Str × V)} {rows : List (List Nat)} (hp : H p = some (.ins C dx fs)) (h : RowsAt H q rows) : RowsAt (del H p) q rows := by
  obtain ⟨as, h1, h2⟩ := h
  exact ⟨as, by rw [del_ne (ne_of h1 hp (by intro z; cases z))]; exact h1, objs_del hp h2⟩
theorem parts_del {H : Hp} {p C dx : Addr} {fs : List (Str × V)} (hp : H p = some (.ins C dx fs)) : ∀ {as : List Addr} {ps : List Part}, PartsAt H as ps → PartsAt (del H p) as ps
  | [], [], _ => trivial
  | a :: _, _ :: _, h => ⟨by
      obtain ⟨o, h1, h2⟩ := h.1
      exact ⟨o, by rw [del_ne (ne_of h1 hp (by intro z; cases z))]; exact h1, by rw [del_ne (ne_of h2 hp (by intro z; cases z))]; exact h2⟩, parts_del hp h.2⟩
  | [], _ :: _, h => h.elim
  | _ :: _, [], h => h.elim
theorem pat_del {H : Hp} {p C dx q : Addr} {fs : List (Str × V)} {ps : List Part} (hp : H p = some (.ins C dx fs)) (h : PatAt H q ps) : PatAt (del H p) q ps := by
  obtain ⟨as, h1, h2⟩ := h
  exact ⟨as, by rw [del_ne (ne_of h1 hp (by intro z; cases z))]; exact h1, parts_del hp h2⟩
theorem ton_del {H : Hp} {p C dx q CT : Addr} {fs : List (Str × V)} {t : Tongue} (hp : H p = some (.ins C dx fs)) (hne : q ≠ p) (h : TonAt CT H q t) : TonAt CT (del H p) q t := by
  obtain ⟨d, pm, pw, h1, h2, h3⟩ := h
  exact ⟨d, pm, pw, by rw [del_ne hne]; exact h1, rows_del hp h2, rows_del hp h3⟩
theorem amt_del {H : Hp} {p q CA : Addr} {f : Num} (hne : q ≠ p) (h : AmtAt CA H q f) : AmtAt CA (del H p) q f := by
  obtain ⟨d, h1⟩ := h
  exact ⟨d, by rw [del_ne hne]; exact h1⟩
theorem fs_ne {C C' dx dx' : Addr} {k k' : Str} {v v' : V} {r r' : List (Str × V)} (h : k ≠ k') : HO.ins C dx ((k, v) :: r) ≠ HO.ins C' dx' ((k', v') :: r') := fun z => by
  injection z with _ _ z
  injection z with z _
  injection z with z _
  exact h z
theorem ton_ne {H : Hp} {p q CT C dx pt pa pp : Addr} {t : Tongue} (hp : H p = some (.ins C dx (deskF pt pa pp))) (h : TonAt CT H q t) : q ≠ p := by
  obtain ⟨d, pm, pw, h1, _⟩ := h
  exact ne_of h1 hp (fs_ne (by decide +kernel))
theorem amt_ne {H : Hp} {p q CA C dx pt pa pp : Addr} {f : Num} (hp : H p = some (.ins C dx (deskF pt pa pp))) (h : AmtAt CA H q f) : q ≠ p := by
  obtain ⟨d, h1⟩ := h
  exact ne_of h1 hp (fs_ne (by decide +kernel))
/-- a new Tongue, behind its arguments -/
theorem mk_ton {C pm pw : Addr} {y : Nat} {H1 : Hp} {Q : VK} {E : XK} (k : ∀ x dx H2, H1 x = none → Ex H1 H2 → H2 x = some (.ins C dx [("first", nv y), ("months", .ref pm), ("weekdays", .ref pw)]) → Q (.ref x) H2) :
    ∀ x dx, H1 x = none → H1 dx = none → dx ≠ x → spTonInit C (.ref x :: ([nv y, .ref pm, .ref pw] ++ [])) (upd (upd H1 dx (.own x)) x (.ins C dx [])) (fun v H2 => v = .non ∧ Q (.ref x) H2) E := fun x dx nx nd ne =>
  ⟨y, pm, pw, x, dx, rfl, upd_same, rfl, by
    rw [upd_upd]
    exact k x dx _ nx ((Ex.new nd).mut nx) upd_same⟩
theorem mk_amt {C : Addr} {f : Num} {H1 : Hp} {Q : VK} {E : XK} (k : ∀ x dx H2, H1 x = none → Ex H1 H2 → H2 x = some (.ins C dx (amtF f)) → Q (.ref x) H2) :
    ∀ x dx, H1 x = none → H1 dx = none → dx ≠ x → spAmtInit C (.ref x :: ([nv (thr f.group), nv f.point, nv f.least, nv f.most, nv f.lead, nv f.minus] ++ [])) (upd (upd H1 dx (.own x)) x (.ins C dx [])) (fun v H2 => v = .non ∧ Q (.ref x) H2) E := fun x dx nx nd ne =>
  ⟨f, x, dx, rfl, upd_same, rfl, by
    rw [upd_upd]
    exact k x dx _ nx ((Ex.new nd).mut nx) upd_same⟩

abbrev sDeskInit : Stmt := inClass (topS 65) 0
abbrev sPutTongue : Stmt := inClass (topS 65) 1
abbrev sPutPattern : Stmt := inClass (topS 65) 3
theorem scDeskInit : FnScope ["self", "months", "k"] ["self"] (defScope sDeskInit) := ⟨rfl, rfl, rfl, by decide +kernel, rfl, by decide +kernel, by decide +kernel⟩
theorem scPutTongue : FnScope ["self", "year", "names", "name"] ["self", "year", "names"] (defScope sPutTongue) := ⟨rfl, rfl, rfl, by decide +kernel, rfl, by decide +kernel, by decide +kernel⟩
theorem scPutPattern : FnScope ["self", "row", "parts", "which", "own"] ["self", "row"] (defScope sPutPattern) := ⟨rfl, rfl, rfl, by decide +kernel, rfl, by decide +kernel, by decide +kernel⟩
def spDeskInit (c : Cs) : Sp := fun vs H Q _ => ∃ p dx, vs = [.ref p] ∧ H p = some (.ins c.d dx []) ∧ ∀ H', (∀ b o, H b = some o → b ≠ p → H' b = some o) → DeskAt c H' p Ut08.init → Q .non H'
def spPutTongue (c : Cs) : Sp := fun vs H Q E => ∃ (fo a pr : Addr) (s : House) (y : Nat) (rows : List (List Nat)), vs = [.ref a, nv y, .ref pr] ∧ DeskL c fo H a s ∧ RowsAt (del H fo) pr rows ∧ rows.length = 19 ∧ (∀ r ∈ rows, r.length ≤ 1000) ∧ Out c fo a H s (Ut08.step s (.tongue (rows.take 12) (rows.drop 12) y)) Q E
def spPutPattern (c : Cs) : Sp := fun vs H Q E => ∃ (fo a pr : Addr) (s : House) (ns : List Nat) (ps : List Part), vs = [.ref a, .ref pr] ∧ DeskL c fo H a s ∧ H pr = some (.lst (nl ns)) ∧ ns.length ≤ 1000 ∧ (∃ f, Ut08Neutral.partsIn f ns = some ps) ∧ (∀ p ∈ ps, (ownB p).length ≤ 1000) ∧ Out c fo a H s (Ut08.step s (.pat ps)) Q E
section
variable {K : PySem.W.Frag} {σ : L2.St} {H H' : Hp} {ta tb tc te tx tn : TE} {t u : TT} {x y z v : V} {D : Ends} {tz : TS} {E : XK} {C : Addr}
theorem q_asgNs {i n : Nat} {o : Nat → HO} (h : EvNs te σ H n o) (k : ∀ (p : Addr) (ps : List Addr) (H1 : Hp), H p = none → Ex H H1 → H1 p = some (.lst (ps.map V.ref)) → ps.length = n → (∀ (i : Nat) (a : Addr), ps[i]? = some a → H1 a = some (o i)) → tz D (σ.set i (some (.ref p))) H1) : tSeq (tAsg te (gName i)) tz D σ H := h H (Ex.refl H) _ k
/-- self.f = e: e makes new things -/
theorem q_fldn {a C dx : Addr} {fs : List (Str × V)} {f : Str} {i : Nat} {P : Addr → Hp → Prop} (hi : σ[i]? = some (some (.ref a))) (ha : H a = some (.ins C dx fs)) (c : Cls K C) (n : NoAttr K C f) (hl : fs.length < 1000)
    (hv : ∀ Q : VK, (∀ p H1, Ex H H1 → P p H1 → Q (.ref p) H1) → te σ H Q) (k : ∀ p H1, Ex H H1 → P p H1 → tz D σ (upd H1 a (.ins C dx (putF f (.ref p) fs)))) : tSeq (sFld K (tVar i) te f) tz D σ H :=
  hv _ fun p H1 e1 hp => ⟨_, hi, a, C, dx, fs, rfl, e1 a _ ha, c, n, hl, k p H1 e1 hp⟩
/-- a comprehension over rows -/
theorem el_lcRows {vs : List Nat} {j : Nat} {p : Addr} {rows : List (List Nat)} (g : List Nat → Bool) (h : Ev te σ H (.ref p)) (hr : RowsAt H p rows) (hn : rows.length ≤ 40000)
    (he : ∀ (r : List Nat) (a : Addr) H1, Ex H H1 → r ∈ rows → H1 a = some (.lst (nl r)) → Ev tx ((wipe σ vs).set j (some (.ref a))) H1 (.bl (g r)))
    (hw : ∀ x, wipe ((wipe σ vs).set j (some x)) vs = wipe σ vs := by intro _; rfl) : EvL (tLc (iList K te) (gName j) tYes tx vs) σ H ((rows.map g).map V.bl) := by
  obtain ⟨as, h1, h2⟩ := hr
  have hl : (as.map V.ref).length = rows.length := by rw [List.length_map, h2.len]
  refine el_is (el_lcW (it := fun i => .ref (as.getD i 0)) (walk_list (K := K) (a := p) (xs := as.map V.ref)) (fun i H x H' hi y => ?_) (fun H' e => sq_of (e p _ h1)) (fun _ => true) (fun i => .bl (g (rows.getD i []))) (ei_list h (sq_of h1)) (by omega) (fun i H1 e1 hi => et_yes) (fun i H1 e1 hi _ => ?_) hw) ?_
  · obtain ⟨rfl, hx⟩ := y
    rw [List.getElem?_map] at hx
    cases e : as[i]? with
    | none => rw [e] at hx; cases hx
    | some a =>
      rw [e] at hx
      refine ⟨rfl, ?_⟩
      show x = V.ref (as.getD i 0)
      rw [List.getD_eq_getElem?_getD, e]
      exact (Option.some.inj hx).symm
  · have hi2 : i < as.length := by rw [List.length_map] at hi; exact hi
    have ea : as[i]? = some (as.getD i 0) := by rw [List.getD_eq_getElem?_getD, List.getElem?_eq_getElem hi2]; rfl
    obtain ⟨b, hb, hh⟩ := h2.get ea
    have eb : rows.getD i [] = b := by rw [List.getD_eq_getElem?_getD, hb]; rfl
    rw [eb]
    exact he b _ H1 e1 (List.mem_of_getElem? hb) (e1 _ _ hh)
  · rw [given_all, hl, List.map_map, ← List.length_map (as := rows) (f := V.bl ∘ g)]
    refine range_map fun i v hv => ?_
    rw [List.getElem?_map] at hv
    cases e : rows[i]? with
    | none => rw [e] at hv; cases hv
    | some c =>
      rw [e] at hv
      rw [List.getD_eq_getElem?_getD, e]
      exact Option.some.inj hv
end
theorem ObjsAt.take {H : Hp} {o : List Nat → HO} : ∀ {as : List Addr} {bs : List (List Nat)} (n : Nat), ObjsAt H o as bs → ObjsAt H o (as.take n) (bs.take n)
  | [], [], n, _ => by simp; trivial
  | _ :: _, _ :: _, 0, _ => trivial
  | _ :: _, _ :: _, n + 1, h => ⟨h.1, ObjsAt.take n h.2⟩
  | [], _ :: _, _, h => h.elim
  | _ :: _, [], _, h => h.elim
theorem ObjsAt.drop {H : Hp} {o : List Nat → HO} : ∀ {as : List Addr} {bs : List (List Nat)} (n : Nat), ObjsAt H o as bs → ObjsAt H o (as.drop n) (bs.drop n)
  | [], [], n, _ => by simp; trivial
  | _ :: _, _ :: _, 0, h => h
  | _ :: _, _ :: _, n + 1, h => ObjsAt.drop n h.2
  | [], _ :: _, _, h => h.elim
  | _ :: _, [], _, h => h.elim
theorem cutR_hi (as : List Addr) (k : Nat) (h : k ≤ as.length) : cutV (as.map V.ref) none (some (k : Int)) = (as.take k).map V.ref := by
  unfold cutV
  rw [HT.sIx_nat, HT.sIx_none, List.length_map, List.drop_zero, ← List.map_take, Nat.sub_zero, Nat.min_eq_left h]
theorem cutR_lo (as : List Addr) (k : Nat) (h : k ≤ as.length) : cutV (as.map V.ref) (some (k : Int)) none = (as.drop k).map V.ref := by
  unfold cutV
  rw [HT.sIx_nat, HT.sIx_none, List.length_map, ← List.map_drop, ← List.map_take, Nat.min_eq_left h, List.take_of_length_le (by rw [List.length_drop]; exact Nat.le_refl _)]
section
variable {P : Program} {w : World} {K : PySem.W.Frag} {mg : Str → Option Value} {base : Heap} {c : Cs}
theorem init_good : DeskGood Ut08.init := by
  refine ⟨⟨rfl, rfl, ?_, ?_, by decide, by decide⟩, numGood_init, ⟨by decide, fun p hp => by cases hp⟩⟩
  · intro u hu
    obtain ⟨i, _, rfl⟩ := List.mem_map.mp hu
    exact ⟨by show 1 ≤ 6; decide, by simp⟩
  · intro u hu
    obtain ⟨i, _, rfl⟩ := List.mem_map.mp hu
    exact ⟨by show 1 ≤ 6; decide, by simp⟩
theorem rows_new {H : Hp} {p : Addr} {as : List Addr} {n k : Nat} (h : H p = some (.lst (as.map V.ref))) (hl : as.length = n) (ho : ∀ (i : Nat) a, as[i]? = some a → H a = some (.lst (nl [k + i]))) : RowsAt H p ((List.range n).map fun i => [k + i]) := by
  refine ⟨as, h, ObjsAt.of (by rw [List.length_map, List.length_range, hl]) fun i a b h1 h2 => ?_⟩
  rw [List.getElem?_map] at h2
  have hi : i < n := by rw [← hl]; exact (List.getElem?_eq_some_iff.mp h1).1
  rw [List.getElem?_range hi] at h2
  cases h2
  exact ho i a h1
theorem ok_deskInit {f : Addr} {fd : FuncData} (F : Fun K "__init__" "Desk.__init__" sDeskInit f fd) (G : Gs K mg) (T : DeskC K c.d) (k1 : Mak P w K mg base 1 "Tongue" c.t (spTonInit c.t)) (k2 : Mak P w K mg base 1 "AmountPattern" c.a (spAmtInit c.a)) : FnOk P w K mg base CX0 3 f fd ["self"] (spDeskInit c) := by
  refine F.ok scDeskInit (fun vs H Q E h => by obtain ⟨p, dx, rfl, _⟩ := h; rfl) (fun cdv A outer s H vs Q E hr h => ?_)
  refine ⟨_, (pss_cons (ps_setLc (i := 1) (own := [("k", 2)]) (g := gName 2) (tt := tYes) rfl scDeskInit.nd rfl rfl (sw_true rfl rfl rfl (by decide +kernel)) (pi_range1 rfl G.bRange (pa_cons (pe_int) pa_nil))
      (blkOk_by (own := [("k", 2)]) (N := ["self", "months", "k"]) (sc := defScope sDeskInit) (by decide +kernel))
      (fun _ _ _ _ _ => pg_name (i := 2) scDeskInit.nd rfl (Or.inl rfl)) (fun _ _ _ _ _ => pts_nil) (fun _ _ _ _ _ => pe_lst (pa_cons (pe_op op_add (pgi G.cFirstMonth) (pv 2)) pa_nil)))
      (pss_cons (ps_fld (pv 0) (pe_mk k1 hr (by decide) (by rfl) (pa_cons (pgi G.cFirstMeant) (pa_cons (pv 1) (pa_cons (pe_lc (own := [("k", 2)]) (g := gName 2) (tt := tYes) rfl scDeskInit.nd (pi_range1 rfl G.bRange (pa_cons (pe_int) pa_nil)) (blkOk_by (own := [("k", 2)]) (N := ["self", "months", "k"]) (sc := defScope sDeskInit) (by decide +kernel))
          (fun _ _ _ _ _ => pg_name (i := 2) scDeskInit.nd rfl (Or.inl rfl)) (fun _ _ _ _ _ => pts_nil) (fun _ _ _ _ _ => pe_lst (pa_cons (pe_op op_add (pgi G.cFirstWeekday) (pv 2)) pa_nil))) pa_nil)))) rfl)
      (pss_cons (ps_fld (pv 0) (pe_mk k2 hr (by decide) (by rfl) (pa_cons (pgi G.cNoSign) (pa_cons (pe_int) (pa_cons (pe_int) (pa_cons (pe_int) (pa_cons (pe_int) (pa_cons (pe_int) pa_nil))))))) rfl)
      (pss_one (ps_fld (pv 0) (pe_lst pa_nil) rfl))))), ?_⟩
  obtain ⟨p, dx, rfl, hp, k⟩ := h
  have lc : ∀ {σ : L2.St} {H : Hp} {b : Int} {n k : Nat}, (∀ x, wipe ((wipe σ [2]).set 2 (some x)) [2] = wipe σ [2]) → (∀ i : Nat, ((wipe σ [2]).set 2 (some (nv i)))[2]? = some (some (nv i))) → b = (n : Int) → n ≤ 100 → EvNs (tLc (iRng1 (tCons (tC (.int b)) tNil)) (gName 2) tYes (tLst (tCons (tOp (rI0 fun i j => .int (i + j)) (tC (.int (k : Int))) (tVar 2)) tNil)) [2]) σ H n (fun i => .lst (nl [k + i])) := fun {σ H b n k} hw hv hb hn => by
    subst hb
    refine en_is (el_lcN (it := fun i => nv i) walk_range (fun i H x H' hi y => ?_) (fun _ _ => trivial) _ (ei_rng1 (ea_cons ev_c ea_nil) (by omega)) (by omega) (fun i H1 e hi => ?_) hw) (by omega)
    · obtain ⟨rfl, rfl⟩ := y
      exact ⟨rfl, congrArg V.int (by omega)⟩
    · exact el_lst (vs := nl [k + i]) (ea_cons (ev_add ev_c (ev_var (hv i)) (by omega)) ea_nil) (by show 1 ≤ 100000; decide)
  refine q_asgNs (lc (σ := [some (.ref p), none, none]) (n := 12) (k := 97) (by intro _; rfl) (by intro _; rfl) rfl (by decide)) fun pm am H1 hpm e1 h1 hl1 ho1 => ?_
  have hR1 := rows_new h1 hl1 ho1
  have hp1 := e1 p _ hp
  refine q_fldn (P := fun x H3 => TonAt c.t H3 x Ut08.init.tongue ∧ x ≠ p) rfl hp1 T.cl T.nTongue (by decide) (fun Q q => ?_) fun x H3 e3 ⟨hT, hxp⟩ => ?_
  · refine ⟨_, rfl, ?_⟩
    refine lc (σ := [some (.ref p), some (.ref pm), none]) (n := 7) (k := 65) (by intro _; rfl) (by intro _; rfl) rfl (by decide) H1 (Ex.refl H1) _ fun pw aw H2 hpw e2 h2 hl2 ho2 => ?_
    refine mk_ton fun x dx' H3 hx e3 h3 => q x H3 (e2.trans e3) ⟨⟨dx', pm, pw, h3, (hR1.mono e2).mono e3, (rows_new h2 hl2 ho2).mono e3⟩, fun z => ?_⟩
    rw [z, e2 p _ hp1] at hx
    cases hx
  have hp3 := e3 p _ hp1
  have hT4 : TonAt c.t (upd H3 p (.ins c.d dx (putF "tongue" (.ref x) []))) x Ut08.init.tongue := (ton_del hp3 hxp hT).mono ex_over
  refine q_fldn (P := fun y H4 => AmtAt c.a H4 y Ut08.init.num ∧ y ≠ p) rfl upd_same T.cl T.nAmounts (by show 1 < 1000; decide) (fun Q q => ?_) fun y H5 e5 ⟨hA, hyp⟩ => ?_
  · refine mk_amt (f := Ut08.init.num) fun y dy H5 hy e5 h5 => q y H5 e5 ⟨⟨dy, h5⟩, fun z => ?_⟩
    rw [z, upd_same] at hy
    cases hy
  have hp5 := e5 p _ upd_same
  have hxp5 := hxp
  have hT6 : TonAt c.t (upd H5 p (.ins c.d dx (putF "amounts" (.ref y) (putF "tongue" (.ref x) [])))) x Ut08.init.tongue := (ton_del hp5 hxp (hT4.mono e5)).mono ex_over
  have hA6 : AmtAt c.a (upd H5 p (.ins c.d dx (putF "amounts" (.ref y) (putF "tongue" (.ref x) [])))) y Ut08.init.num := (amt_del hyp hA).mono ex_over
  refine ⟨by show 0 ≤ _; decide, fun pp hpp => ⟨_, rfl, p, c.d, dx, _, rfl, (Ex.new hpp) p _ upd_same, T.cl, T.nPattern, by show 2 < 1000; decide, ?_⟩⟩
  have hppp : pp ≠ p := fun z => by rw [z, upd_same] at hpp; cases hpp
  have exn : Ex (upd H5 p (.ins c.d dx (putF "amounts" (.ref y) (putF "tongue" (.ref x) [])))) (upd (upd H5 p (.ins c.d dx (putF "amounts" (.ref y) (putF "tongue" (.ref x) [])))) pp (.lst [])) := Ex.new hpp
  refine k _ (fun b o hb hbp => ?_) ⟨init_good, dx, x, y, pp, upd_same, ?_, ?_, ?_⟩
  · rw [upd_ne hbp]
    refine exn b o ?_
    rw [upd_ne hbp]
    refine e5 b o ?_
    rw [upd_ne hbp]
    exact e3 b o (e1 b o hb)
  · exact (ton_del (exn p _ upd_same) hxp (hT6.mono exn)).mono ex_over
  · exact (amt_del hyp (hA6.mono exn)).mono ex_over
  · exact ⟨[], by rw [upd_ne hppp]; exact upd_same, trivial⟩
end
end Wd
namespace Wd
open PySem PySem.Spec PyProof.Rows L2 Evl
open Ut08 (Day Part Tongue Num isDigit nameOk signOk House partOk numOk)
section
variable {K : PySem.W.Frag} {σ : L2.St} {H H' : Hp} {ta tb tc te tx tn : TE} {t u : TT} {x y z v : V} {D : Ends} {tz : TS} {E : XK} {C : Addr}
theorem s_retR1 {xs : List V} (h : EvL te σ H xs) (k : ∀ p H1, H p = none → Ex H H1 → H1 p = some (.lst xs) → D.rt (.ref p) H1) : tRet te D σ H := h H (Ex.refl H) _ k
end
/-- what a name must be -/
theorem bad_name (w : List Nat) : (decide (w = []) || !(decide (w.length ≤ 6) && w.all fun c => decide (c ≤ 255))) = !(nameOk w && w != []) := by
  unfold nameOk
  by_cases e : w = []
  · subst e
    rfl
  · have : (w != []) = true := by simpa using e
    rw [this, Bool.and_true, decide_eq_false e, Bool.false_or]
theorem bad_rows (rows : List (List Nat)) : ((rows.map fun w => !(nameOk w && w != [])).any id) = !(((rows.take 12).all fun w => nameOk w && w != []) && ((rows.drop 12).all fun w => nameOk w && w != [])) := by
  have e : (rows.map fun w => !(nameOk w && w != [])).any id = !(rows.all fun w => nameOk w && w != []) := by
    rw [List.any_map]
    induction rows with
    | nil => rfl
    | cons a l ih =>
      rw [List.any_cons, List.all_cons, ih, Bool.not_and]
      rfl
  rw [e]
  conv => lhs; rw [← List.take_append_drop 12 rows, List.all_append]
theorem nameGood {w : List Nat} (h : (nameOk w && w != []) = true) : w.length ≤ 6 ∧ w ≠ [] := by
  unfold nameOk at h
  simp only [Bool.and_eq_true, decide_eq_true_eq, bne_iff_ne] at h
  exact ⟨h.1.1, h.2⟩
section
variable {P : Program} {w : World} {K : PySem.W.Frag} {mg : Str → Option Value} {base : Heap} {c : Cs}
theorem ok_putTongue {f : Addr} {fd : FuncData} (F : Fun K "put_tongue" "Desk.put_tongue" sPutTongue f fd) (G : Gs K mg) (T : DeskC K c.d) (k1 : Mak P w K mg base 1 "Tongue" c.t (spTonInit c.t)) (c1 : Cal P w K mg base (L2.CX P w) 3 "refuse" (spRefuse c.r)) (c2 : Cal P w K mg base CX0 1 "are_bytes" spAreBytes) :
    FnOk P w K mg base (L2.CX P w) 4 f fd ["self", "year", "names"] (spPutTongue c) := by
  refine F.okX scPutTongue (fun vs H Q E h => by obtain ⟨fo, a, pr, s, y, rows, rfl, _⟩ := h; rfl) (fun cdv A outer s H vs Q E hr h => ?_)
  refine ⟨_, (pss_cons (ps_expr (pe_c c1 hr (by decide) (passes_call (takes_of rfl rfl rfl rfl) (fun _ _ _ _ h => h)) rfl (by exact (pa_cons (pe_callB (cr_any rfl) (by rfl) G.bAny (by decide +kernel) (pa_cons (pe_lc (own := [("name", 3)]) (g := gName 3) (tt := tYes) (te := tOrV (tOp (rEqD K) (tVar 3) (tLst tNil)) (tNotV (tCall spAreBytes [] E0 (tCons (tVar 3) (tCons (tC (.int 6)) tNil))))) rfl scPutTongue.nd (pi_list (pv 2)) (blkOk_by (own := [("name", 3)]) (N := ["self", "year", "names", "name"]) (sc := defScope sPutTongue) (by decide +kernel))
          (fun _ _ _ _ _ => pg_name (i := 3) scPutTongue.nd rfl (Or.inl rfl)) (fun _ _ _ _ _ => pts_nil) (fun _ _ _ _ _ => pe_or (pe_cmpR (op_eqD hr.units) (pv 3) (pe_lst pa_nil) (nomark _)) (pe_one (pe_not (pe_c c2 hr (by decide) pass0 rfl (pa_cons (pv 3) (pa_cons (pgi G.cMostName) pa_nil))))))) pa_nil)) (pa_cons (pgi G.cNotAsTold) pa_nil)))))
      (pss_cons (ps_expr (pe_c c1 hr (by decide) (passes_call (takes_of rfl rfl rfl rfl) (fun _ _ _ _ h => h)) rfl (by exact (pa_cons (pe_not (pe_chain op_le op_le pe_int (pv 1) (pgi G.cMostFirst))) (pa_cons (pgi G.cNotAsTold) pa_nil)))))
      (pss_cons (ps_fld (pv 0) (pe_mk k1 hr (by decide) (by rfl) (by exact (pa_cons (pv 1) (pa_cons (pe_slice sl_list (pv 2) po_none (po_some pe_int)) (pa_cons (pe_slice sl_list (pv 2) (po_some pe_int) po_none) pa_nil))))) rfl)
      (pss_one (ps_ret (pe_lst (pa_cons (pe_int) pa_nil))))))), ?_⟩
  obtain ⟨fo, a, pr, s, y, rows, rfl, hD, hRF, h19, hrl, ho⟩ := h
  obtain ⟨hg, dx, pt, pa, pp, haF, hTF, hAF, hPF⟩ := id hD.own
  have ha := ex_del fo a _ haF
  have hT := hTF.mono (ex_del fo)
  have hA := hAF.mono (ex_del fo)
  have hP := hPF.mono (ex_del fo)
  have hafo := hD.ne
  have hR := hRF.mono (ex_del fo)
  have step_bad : ¬ ((((rows.take 12).all fun w => nameOk w && w != []) = true ∧ ((rows.drop 12).all fun w => nameOk w && w != []) = true) ∧ 1 ≤ y ∧ y ≤ 9900) → Ut08.step s (.tongue (rows.take 12) (rows.drop 12) y) = (s, [-1]) := fun z => by
    show (if _ then _ else _) = _
    rw [if_pos]
    refine Classical.byContradiction fun q => z ?_
    simp only [not_or] at q
    exact ⟨⟨by simpa using q.2.2.1, by simpa using q.2.2.2.1⟩, by omega, by omega⟩
  refine q_refuse (b := !(((rows.take 12).all fun w => nameOk w && w != []) && ((rows.drop 12).all fun w => nameOk w && w != []))) (ev_is (ev_anyL (bs := rows.map fun w => !(nameOk w && w != [])) (el_lcRows (fun w => !(nameOk w && w != [])) (ev_var rfl) hR (by omega) (fun r b H1 e1 hr1 hb => ev_is (ev_orV (ev_eqL (ns := r) (ms := []) (er_v (ev_var rfl) hb) (er_l (el_lst ea_nil (by decide))) rfl) fun _ => ev_notV (ev_c1 (ea_cons (ev_var rfl) (ea_cons ev_c ea_nil)) (sv_areBytes (k := 6) hb (hrl r hr1)))) (congrArg V.bl (bad_name r))))) (congrArg V.bl (bad_rows rows))) ev_c (fun hb => ?_) fun hb H1 e1 => ?_
  · refine ho.2 (-1) (step_bad fun z => ?_)
    rw [z.1.1, z.1.2] at hb
    cases hb
  rw [Bool.not_eq_false', Bool.and_eq_true] at hb
  refine q_refuse (b := !(decide (1 ≤ y) && decide (y ≤ 9900))) (ev_notV (ev_chain ev_c (ev_var rfl) ev_c (congrArg V.bl (decide_eq_decide.mpr (by omega))) (congrArg V.bl (decide_eq_decide.mpr (by omega))))) ev_c (fun hc => ?_) fun hc H2 e2 => ?_
  · refine (ho.2 (-1) (step_bad fun z => ?_)).mono e1
    rw [decide_eq_true z.2.1, decide_eq_true z.2.2] at hc
    cases hc
  rw [Bool.not_eq_false', Bool.and_eq_true, decide_eq_true_eq, decide_eq_true_eq] at hc
  have e12 := e1.trans e2
  have ha2 := e12 a _ ha
  obtain ⟨as, hr1F, hr2⟩ := hRF.mono (del_mono e12 fo)
  have hr1 := ex_del fo pr _ hr1F
  have hal : as.length = 19 := by rw [hr2.len, h19]
  have est : Ut08.step s (.tongue (rows.take 12) (rows.drop 12) y) = ({ s with tongue := ⟨rows.take 12, rows.drop 12, y⟩ }, [0]) := by
    show (if _ then _ else _) = _
    rw [if_neg]
    rintro (q | q | q | q | q | q)
    · exact q (by rw [List.length_take, h19]; rfl)
    · exact q (by rw [List.length_drop, h19])
    · rw [hb.1] at q; cases q
    · rw [hb.2] at q; cases q
    · omega
    · omega
  rw [est] at ho
  refine q_fldn (P := fun x H3 => TonAt c.t (del H3 fo) x ⟨rows.take 12, rows.drop 12, y⟩ ∧ x ≠ a) rfl ha2 T.cl T.nTongue (by show 3 < 1000; decide) (fun Q q => ?_) fun x H3 e3 ⟨hT3, hxa⟩ => ?_
  · refine ⟨_, rfl, ?_⟩
    refine (el_is (el_sl (lo := none) (hi := some ((12 : Nat) : Int)) (ev_var rfl) eo_none (eo_some ev_c) (sq_of hr1)) (cutR_hi as 12 (by omega)) : EvL _ _ _ _) H2 (Ex.refl H2) _ fun pm H3 hpm e3 h3 => ?_
    refine (el_is (el_sl (lo := some ((12 : Nat) : Int)) (hi := none) (ev_var rfl) (eo_some ev_c) eo_none (sq_of (e3 pr _ hr1))) (cutR_lo as 12 (by omega)) : EvL _ _ _ _) H3 (Ex.refl H3) _ fun pw H4 hpw e4 h4 => ?_
    have n1 : pm ≠ fo := (hD.mono e12).new hpm
    have n2 : pw ≠ fo := (hD.mono (e12.trans e3)).new hpw
    refine mk_ton fun x dx' H5 hx e5 h5 => q x H5 ((e3.trans e4).trans e5) ⟨⟨dx', pm, pw, by rw [del_ne ((hD.mono ((e12.trans e3).trans e4)).new hx)]; exact h5, ⟨as.take 12, by rw [del_ne n1]; exact e5 pm _ (e4 pm _ h3), (hr2.take 12).mono (del_mono ((e3.trans e4).trans e5) fo)⟩, ⟨as.drop 12, by rw [del_ne n2]; exact e5 pw _ h4, (hr2.drop 12).mono (del_mono ((e3.trans e4).trans e5) fo)⟩⟩, fun z => ?_⟩
    rw [z, e4 a _ (e3 a _ ha2)] at hx
    cases hx
  have e13 := e12.trans e3
  have ha3 := e13 a _ ha
  have e13F := del_mono e13 fo
  have haF3 := e13F a _ haF
  have hpt : pt ≠ a := ton_ne ha hT
  have hpa : pa ≠ a := amt_ne ha hA
  refine s_retR1 (el_lst (vs := [.int 0]) (ea_cons ev_c ea_nil) (by decide)) fun p H4 hpn e4 h4 => ?_
  have exo : Ex (del (del H3 fo) a) (upd (del H3 fo) a (.ins c.d dx (putF "tongue" (.ref x) (deskF pt pa pp)))) := ex_over
  have e4F := del_mono e4 fo
  rw [del_upd_ne hafo] at e4F
  have hpfo : p ≠ fo := fun z => by
    obtain ⟨o, hof⟩ := hD.there
    rw [z, upd_ne (Ne.symm hafo), e13 fo _ hof] at hpn
    cases hpn
  refine ho.1 p H4 (fun b o hb hba => ?_) ⟨⟨⟨by rw [List.length_take, h19]; rfl, by rw [List.length_drop, h19], fun u hu => nameGood (List.all_eq_true.mp hb.1 u hu), fun u hu => nameGood (List.all_eq_true.mp hb.2 u hu), hc.1, hc.2⟩, hg.num, hg.pat⟩, dx, x, pa, pp, e4F a _ upd_same, ((ton_del haF3 hxa hT3).mono exo).mono e4F, ((amt_del hpa (hAF.mono e13F)).mono exo).mono e4F, ((pat_del haF3 (hPF.mono e13F)).mono exo).mono e4F⟩ (by rw [del_ne hpfo]; exact h4)
  refine e4 b o ?_
  rw [upd_ne hba]
  exact e13 b o hb
theorem pat_all (ps : List Part) : (ps.map fun p => decide ((ownB p).length ≤ 6) && (ownB p).all fun c => decide (c ≤ 255)).all id = ps.all partOk := by
  rw [List.all_map]
  congr 1
  funext p
  cases p <;> rfl
theorem ok_putPattern {f : Addr} {fd : FuncData} (F : Fun K "put_pattern" "Desk.put_pattern" sPutPattern f fd) (G : Gs K mg) (T : DeskC K c.d) (c1 : Cal P w K mg base (L2.CX P w) 3 "refuse" (spRefuse c.r)) (c2 : Cal P w K mg base CX0 1 "are_bytes" spAreBytes) (c3 : Cal P w K mg base CX0 1 "parts_in" spPartsIn) :
    FnOk P w K mg base (L2.CX P w) 4 f fd ["self", "row"] (spPutPattern c) := by
  refine F.okX scPutPattern (fun vs H Q E h => by obtain ⟨fo, a, pr, s, ns, ps, rfl, _⟩ := h; rfl) (fun cdv A outer s H vs Q E hr h => ?_)
  refine ⟨_, (pss_cons (ps_set (i := 2) scPutPattern.nd rfl (.inl rfl) (pe_c c3 hr (by decide) pass0 rfl (by exact (pa_cons (pv 1) pa_nil))))
      (pss_cons (ps_expr (pe_c c1 hr (by decide) (passes_call (takes_of rfl rfl rfl rfl) (fun _ _ _ _ h => h)) rfl (by exact (pa_cons (pe_or (pe_cmpR op_gt (pe_callB call_len_seq (by rfl) G.bLen PySem.boot_len (pa_cons (pv 2) pa_nil)) (pgi G.cMostParts) (nomark _)) (pe_one (pe_not (pe_callB (cr_all rfl) (by rfl) G.bAll (by decide +kernel) (pa_cons (pe_lc (own := [("which", 3), ("own", 4)]) (g := gTup K 2 (gCons (gName 3) (gCons (gName 4) gNil))) (tt := tYes) rfl scPutPattern.nd (pi_list (pv 2)) (blkOk_by (own := [("which", 3), ("own", 4)]) (N := ["self", "row", "parts", "which", "own"]) (sc := defScope sPutPattern) (by decide +kernel))
          (fun _ _ _ _ _ => pg_tup (by rfl) (pgs_cons (pg_name (i := 3) scPutPattern.nd rfl (Or.inl rfl)) (pgs_cons (pg_name (i := 4) scPutPattern.nd rfl (Or.inl rfl)) pgs_nil))) (fun _ _ _ _ _ => pts_nil) (fun _ _ _ _ _ => pe_c c2 hr (by decide) pass0 rfl (pa_cons (pv 4) (pa_cons (pgi G.cMostName) pa_nil)))) pa_nil))))) (pa_cons (pgi G.cNotAsTold) pa_nil)))))
      (pss_cons (ps_fld (pv 0) (pv 2) rfl)
      (pss_one (ps_ret (pe_lst (pa_cons (pe_callB call_len_seq (by rfl) G.bLen PySem.boot_len (pa_cons (pv 2) pa_nil)) pa_nil))))))), ?_⟩
  obtain ⟨fo, a, pr, s, ns, ps, rfl, hD, hR, hnl, hpi, hown, ho⟩ := h
  obtain ⟨hg, dx, pt, pa, pp, haF, hTF, hAF, hPF⟩ := id hD.own
  have ha := ex_del fo a _ haF
  have hT := hTF.mono (ex_del fo)
  have hA := hAF.mono (ex_del fo)
  have hP := hPF.mono (ex_del fo)
  have hafo := hD.ne
  refine ⟨_, rfl, pr, fo, ns, ps, rfl, hR, hnl, hpi, hD.there, fun q H1 e1 hqF hpl => ?_⟩
  have hq := hqF.mono (ex_del fo)
  obtain ⟨as, hq1, hq2⟩ := id hq
  have hal : (as.map V.ref).length = ps.length := by rw [List.length_map, hq2.len]
  show tSeq _ _ _ _ _
  refine q_refuse (b := decide (8 < ps.length) || !(ps.all partOk)) (ev_orV (ev_cI (ev_is (ev_len (K := K) (ev_var rfl) (.inl (sq_of hq1))) rfl) ev_c (decide_eq_decide.mpr (by rw [hal]; omega))) fun _ => ev_notV (ev_is (ev_allL (bs := ps.map fun p => decide ((ownB p).length ≤ 6) && (ownB p).all fun c => decide (c ≤ 255)) (el_is (el_lcP (ps := ps) (fun p => .bl (decide ((ownB p).length ≤ 6) && (ownB p).all fun c => decide (c ≤ 255))) (ev_var rfl) hq1 hq2 (by omega) (fun p o H2 e2 hp hoo => ev_c1 (ea_cons (ev_var rfl) (ea_cons ev_c ea_nil)) (sv_areBytes (k := 6) hoo (hown p hp)))) (by rw [List.map_map]; rfl))) (congrArg V.bl (pat_all ps)))) ev_c (fun hb => ?_) fun hb H2 e2 => ?_
  · refine (ho.2 (-1) ?_).mono e1
    show (if _ then _ else _) = _
    rw [if_pos]
    rw [Bool.or_eq_true] at hb
    rcases hb with z | z
    · exact .inl (of_decide_eq_true z)
    · exact .inr ((Bool.not_eq_true' _).mp z)
  rw [Bool.or_eq_false_iff] at hb
  have h8 : ¬ 8 < ps.length := of_decide_eq_false hb.1
  have hall : ps.all partOk = true := by simpa using hb.2
  have est : Ut08.step s (.pat ps) = ({ s with pat := ps }, Ut08.ints [ps.length]) := by
    show (if _ then _ else _) = _
    rw [if_neg]
    rintro (z | z)
    · exact h8 z
    · rw [hall] at z; cases z
  rw [est] at ho
  have e12 := e1.trans e2
  have ha2 := e12 a _ ha
  have hq2' := hqF.mono (del_mono e2 fo)
  have e12F := del_mono e12 fo
  have haF2 := e12F a _ haF
  refine ⟨_, rfl, _, rfl, a, c.d, dx, _, rfl, ha2, T.cl, T.nPattern, by show 3 < 1000; decide, ?_⟩
  have hpt : pt ≠ a := ton_ne ha hT
  have hpa : pa ≠ a := amt_ne ha hA
  have hqa : q ≠ a := ne_of (e2 q _ hq1) ha2 (by intro z; cases z)
  have exo : Ex (del (del H2 fo) a) (upd (del H2 fo) a (.ins c.d dx (putF "pattern" (.ref q) (deskF pt pa pp)))) := ex_over
  refine s_retR1 (el_lst (vs := [nv ps.length]) (ea_cons (ev_is (ev_len (K := K) (ev_var rfl) (.inl (sq_of (by rw [upd_ne hqa]; exact e2 q _ hq1)))) (congrArg V.int (by rw [hal]))) ea_nil) (by show 1 ≤ 100000; decide)) fun p H4 hpn e4 h4 => ?_
  have e4F := del_mono e4 fo
  rw [del_upd_ne hafo] at e4F
  have hpfo : p ≠ fo := fun z => by
    obtain ⟨o, hof⟩ := hD.there
    rw [z, upd_ne (Ne.symm hafo), e12 fo _ hof] at hpn
    cases hpn
  refine ho.1 p H4 (fun b o hb hba => ?_) ⟨⟨hg.ton, hg.num, ⟨by show ps.length ≤ 8; omega, fun p hp => ?_⟩⟩, dx, pt, pa, q, e4F a _ upd_same, ((ton_del haF2 hpt (hTF.mono e12F)).mono exo).mono e4F, ((amt_del hpa (hAF.mono e12F)).mono exo).mono e4F, ((pat_del haF2 hq2').mono exo).mono e4F⟩ (by rw [del_ne hpfo]; exact h4)
  · refine e4 b o ?_
    rw [upd_ne hba]
    exact e12 b o hb
  · have := List.all_eq_true.mp hall p hp
    cases p with
    | text u =>
      have h' : nameOk u = true := this
      unfold nameOk at h'
      rw [Bool.and_eq_true, decide_eq_true_eq] at h'
      exact h'.1
    | _ => exact Nat.zero_le _
end
end Wd
namespace Wd
open PySem PySem.Spec PyProof.Rows L2 Evl
open Ut08 (Day Part Tongue Num isDigit nameOk signOk House partOk numOk numRead)
abbrev sPutAmounts : Stmt := inClass (topS 65) 2
abbrev sDRead : Stmt := inClass (topS 65) 4
theorem scPutAmounts : FnScope ["self", "row", "threes", "point", "least", "most", "ahead", "minus", "signs", "sign"] ["self", "row"] (defScope sPutAmounts) := ⟨rfl, rfl, rfl, by decide +kernel, rfl, by decide +kernel, by decide +kernel⟩
theorem scDRead : FnScope ["self", "row", "found"] ["self", "row"] (defScope sDRead) := ⟨rfl, rfl, rfl, by decide +kernel, rfl, by decide +kernel, by decide +kernel⟩
def numOf (g p l m h i : Nat) : Num := ⟨if g = 256 then none else some g, p, l, m, h, i⟩
def spPutAmounts (c : Cs) : Sp := fun vs H Q E => ∃ (fo a pr : Addr) (s : House) (g p l m h i : Nat), vs = [.ref a, .ref pr] ∧ DeskL c fo H a s ∧ H pr = some (.lst (nl [g, p, l, m, h, i])) ∧ Out c fo a H s (Ut08.step s (.num (numOf g p l m h i))) Q E
def spDRead (c : Cs) : Sp := fun vs H Q E => ∃ (fo a pr : Addr) (s : House) (ns : List Nat), vs = [.ref a, .ref pr] ∧ DeskL c fo H a s ∧ H pr = some (.lst (nl ns)) ∧ ns.length ≤ 1000 ∧ Out c fo a H s (Ut08.step s (.readNum ns)) Q E
/-! signs -/
theorem thr_of (g p l m h i : Nat) : thr (numOf g p l m h i).group = g := by
  unfold numOf thr
  by_cases c : g = 256
  · simp [c]
  · simp [c]
theorem met_two (a b : Int) : (firstMet (fun i => ([a, b] : List Int).getD i 0) 2).length = if a = b then 1 else 2 := by
  rw [firstMet_succ, firstMet_succ, firstMet_zero]
  unfold step_dedup
  by_cases h : a = b
  · simp [h]
  · have h' : ¬ b = a := fun z => h z.symm
    simp [h, h']
theorem met_three (a b d : Int) : (firstMet (fun i => ([a, b, d] : List Int).getD i 0) 3).length = 3 ↔ a ≠ b ∧ a ≠ d ∧ b ≠ d := by
  rw [firstMet_succ, firstMet_succ, firstMet_succ, firstMet_zero]
  unfold step_dedup
  by_cases h1 : a = b
  · subst h1
    by_cases h2 : a = d
    · simp [h2]
    · have h2' : ¬ d = a := fun z => h2 z.symm
      simp [h2, h2']
  · have h1' : ¬ b = a := fun z => h1 z.symm
    by_cases h2 : a = d
    · subst h2
      simp [h1, h1']
    · have h2' : ¬ d = a := fun z => h2 z.symm
      by_cases h3 : b = d
      · subst h3
        simp [h1, h1']
      · have h3' : ¬ d = b := fun z => h3 z.symm
        simp [h1, h1', h2, h2', h3, h3']
def signsOf (g p i : Nat) : List Nat := [g, p, i].filter fun s => s != 256
theorem num_ok {g p l m h i : Nat} (k1 : ¬ (m < l ∨ 6 < m ∨ ¬ (1 ≤ h ∧ h ≤ 6))) (k2 : ¬ (256 ∈ [p, i])) (k3 : (signsOf g p i).all signOk = true) (k4 : (firstMet (fun j => ((signsOf g p i).map fun (n : Nat) => (n : Int)).getD j 0) (signsOf g p i).length).length = (signsOf g p i).length) : numOk (numOf g p l m h i) = true := by
  have hp : p ≠ 256 := fun z => k2 (by simp [z])
  have hi : i ≠ 256 := fun z => k2 (by simp [z])
  unfold numOk numOf
  by_cases c : g = 256
  · have es : signsOf g p i = [p, i] := by simp [signsOf, c, hp, hi]
    rw [es] at k3 k4
    have k4' : (firstMet (fun j => ([(p : Int), (i : Int)] : List Int).getD j 0) 2).length = 2 := k4
    rw [met_two] at k4'
    have hne : ¬ (p : Int) = (i : Int) := fun z => by rw [if_pos z] at k4'; cases k4'
    have hne' : p ≠ i := by omega
    simp only [List.all_cons, List.all_nil, Bool.and_true, Bool.and_eq_true] at k3
    simp [c, k3.1, k3.2, hne']
    omega
  · have es : signsOf g p i = [g, p, i] := by simp [signsOf, c, hp, hi]
    rw [es] at k3 k4
    have k4' := (met_three g p i).mp k4
    simp only [List.all_cons, List.all_nil, Bool.and_true, Bool.and_eq_true] at k3
    have n1 : g ≠ p := by omega
    have n2 : g ≠ i := by omega
    have n3 : p ≠ i := by omega
    simp [c, k3.1, k3.2.1, k3.2.2, n1, n2, n3]
    omega
theorem num_bad {g p l m h i : Nat} (k : (m < l ∨ 6 < m ∨ ¬ (1 ≤ h ∧ h ≤ 6)) ∨ 256 ∈ [p, i] ∨ (signsOf g p i).all signOk = false ∨ (256 ∉ [p, i] ∧ (firstMet (fun j => ((signsOf g p i).map fun (n : Nat) => (n : Int)).getD j 0) (signsOf g p i).length).length ≠ (signsOf g p i).length)) : numOk (numOf g p l m h i) = false := by
  cases e : numOk (numOf g p l m h i) with
  | false => rfl
  | true =>
    exfalso
    have ng := numGood_of e
    have g1 : l ≤ m := ng.lm
    have g2 : m ≤ 6 := ng.m6
    have g3 : 1 ≤ h := ng.l1
    have g4 : h ≤ 6 := ng.l6
    have g5 : p ≤ 255 := ng.pb
    have g6 : i ≤ 255 := ng.mb
    have s5 : signOk p = true := by unfold signOk; rw [show isDigit p = false from ng.pd]; simpa using g5
    have s6 : signOk i = true := by unfold signOk; rw [show isDigit i = false from ng.md]; simpa using g6
    have hp : p ≠ 256 := by omega
    have hi : i ≠ 256 := by omega
    have hpi : p ≠ i := ng.pm
    rcases k with z | z | z | ⟨_, z⟩
    · omega
    · simp at z
      omega
    · by_cases c : g = 256
      · have es : signsOf g p i = [p, i] := by simp [signsOf, c, hp, hi]
        rw [es] at z
        simp [s5, s6] at z
      · have es : signsOf g p i = [g, p, i] := by simp [signsOf, c, hp, hi]
        have hg : (numOf g p l m h i).group = some g := by simp [numOf, c]
        have sg : signOk g = true := by unfold signOk; rw [ng.gd g hg]; simpa using ng.gb g hg
        rw [es] at z
        simp [s5, s6, sg] at z
    · by_cases c : g = 256
      · have es : signsOf g p i = [p, i] := by simp [signsOf, c, hp, hi]
        rw [es] at z
        refine z ?_
        show (firstMet (fun j => ([(p : Int), (i : Int)] : List Int).getD j 0) 2).length = 2
        rw [met_two, if_neg (by omega)]
      · have es : signsOf g p i = [g, p, i] := by simp [signsOf, c, hp, hi]
        have hg : (numOf g p l m h i).group = some g := by simp [numOf, c]
        have n1 : g ≠ p := ng.gp g hg
        have n2 : g ≠ i := ng.gm g hg
        rw [es] at z
        exact z ((met_three g p i).mpr ⟨by omega, by omega, by omega⟩)
section
variable {K : PySem.W.Frag} {σ : L2.St} {H H' : Hp} {ta tb tc te tx tn : TE} {t u : TT} {x y z v : V} {D : Ends} {tz : TS} {E : XK} {C : Addr}
theorem ev_isN {b : Bool} (ha : Ev te σ H x) (e : decide (x = V.non) = b) : Ev (tOp (fun x y H Q => y = .non ∧ Q (.bl (decide (x = .non))) H) te (tC .non)) σ H (.bl b) :=
  ev_op ha ev_c fun H1 _ Q q => ⟨rfl, by rw [e]; exact q H1 (Ex.refl H1)⟩
theorem ev_lenSet {p : Addr} {ns : List Nat} (ha : Ev ta σ H (.ref p)) (hp : H p = some (.lst (nl ns))) (hl : ns.length < 64) : Ev (tLenSet K ta) σ H (nv (firstMet (fun j => (ns.map fun (n : Nat) => (n : Int)).getD j 0) ns.length).length) := fun H1 e Q q => ha H1 e _ fun H2 e2 =>
  ⟨p, ns.map fun (n : Nat) => (n : Int), rfl, sq_of (by rw [e2 p _ (e p _ hp), List.map_map]; rfl), by rw [List.length_map]; exact hl, by rw [List.length_map]; exact q H2 e2⟩
end
section
variable {P : Program} {w : World} {K : PySem.W.Frag} {mg : Str → Option Value} {base : Heap} {c : Cs}
theorem ok_putAmounts {f : Addr} {fd : FuncData} (F : Fun K "put_amounts" "Desk.put_amounts" sPutAmounts f fd) (G : Gs K mg) (T : DeskC K c.d) (k1 : Mak P w K mg base 1 "AmountPattern" c.a (spAmtInit c.a)) (c1 : Cal P w K mg base (L2.CX P w) 3 "refuse" (spRefuse c.r)) (c2 : Cal P w K mg base CX0 2 "is_sign" spIsSign) :
    FnOk P w K mg base (L2.CX P w) 4 f fd ["self", "row"] (spPutAmounts c) := by
  refine F.okX scPutAmounts (fun vs H Q E h => by obtain ⟨fo, a, pr, s, g, p, l, m, h, i, rfl, _⟩ := h; rfl) (fun cdv A outer s H vs Q E hr h => ?_)
  refine ⟨_, (pss_cons (ps_asg (pv 1) (pg_unl (by rfl) (pgs_cons (pg_name (i := 2) scPutAmounts.nd rfl (.inl rfl)) (pgs_cons (pg_name (i := 3) scPutAmounts.nd rfl (.inl rfl)) (pgs_cons (pg_name (i := 4) scPutAmounts.nd rfl (.inl rfl)) (pgs_cons (pg_name (i := 5) scPutAmounts.nd rfl (.inl rfl)) (pgs_cons (pg_name (i := 6) scPutAmounts.nd rfl (.inl rfl)) (pgs_cons (pg_name (i := 7) scPutAmounts.nd rfl (.inl rfl)) pgs_nil))))))))
      (pss_cons (ps_expr (pe_c c1 hr (by decide) (passes_call (takes_of rfl rfl rfl rfl) (fun _ _ _ _ h => h)) rfl (by exact (pa_cons (pe_or (pe_cmpR op_gt (pv 4) (pv 5) (nomark _)) (pe_or (pe_cmpR op_gt (pv 5) (pgi G.cMostFraction) (nomark _)) (pe_one (pe_not (pe_chain op_le op_le pe_int (pv 6) (pgi G.cMostAhead)))))) (pa_cons (pgi G.cNotAsTold) pa_nil)))))
      (pss_cons (ps_setLc (i := 8) (own := [("sign", 9)]) (g := gName 9) (tt := tTest (tOp rNe (tVar 9) (tC (.int 256)))) rfl scPutAmounts.nd rfl rfl (sw_true rfl rfl rfl (by decide +kernel)) (pi_list (pe_lst (pa_cons (pv 2) (pa_cons (pv 3) (pa_cons (pv 7) pa_nil)))))
      (blkOk_by (own := [("sign", 9)]) (N := ["self", "row", "threes", "point", "least", "most", "ahead", "minus", "signs", "sign"]) (sc := defScope sPutAmounts) (by decide +kernel))
      (fun _ _ _ _ _ => pg_name (i := 9) scPutAmounts.nd rfl (Or.inl rfl)) (fun _ _ _ _ _ => pts_one (pt_cmpR op_ne (pv 9) (pgi G.cNoSign) (nomark _))) (fun _ _ _ _ _ => pv 9))
      (pss_cons (ps_expr (pe_c c1 hr (by decide) (passes_call (takes_of rfl rfl rfl rfl) (fun _ _ _ _ h => h)) rfl (by exact (pa_cons (pe_or (pe_cmpR op_in_seq (pgi G.cNoSign) (pe_lst (pa_cons (pv 3) (pa_cons (pv 7) pa_nil))) (by rfl)) (pe_one (pe_not (pe_callB (cr_all rfl) (by rfl) G.bAll (by decide +kernel) (pa_cons (pe_lc (own := [("sign", 9)]) (g := gName 9) (tt := tYes) rfl scPutAmounts.nd (pi_list (pv 8)) (blkOk_by (own := [("sign", 9)]) (N := ["self", "row", "threes", "point", "least", "most", "ahead", "minus", "signs", "sign"]) (sc := defScope sPutAmounts) (by decide +kernel))
          (fun _ _ _ _ _ => pg_name (i := 9) scPutAmounts.nd rfl (Or.inl rfl)) (fun _ _ _ _ _ => pts_nil) (fun _ _ _ _ _ => pe_c c2 hr (by decide) pass0 rfl (pa_cons (pv 9) pa_nil))) pa_nil))))) (pa_cons (pgi G.cNotAsTold) pa_nil)))))
      (pss_cons (ps_expr (pe_c c1 hr (by decide) (passes_call (takes_of rfl rfl rfl rfl) (fun _ _ _ _ h => h)) rfl (by exact (pa_cons (pe_cmpR op_ne (pe_lenSet rfl G.bLen G.bSet (pv 8)) (pe_callB call_len_seq (by rfl) G.bLen PySem.boot_len (pa_cons (pv 8) pa_nil)) (nomark _)) (pa_cons (pgi G.cNotAsTold) pa_nil)))))
      (pss_cons (ps_fld (pv 0) (pe_mk k1 hr (by decide) (by rfl) (by exact (pa_cons (pv 2) (pa_cons (pv 3) (pa_cons (pv 4) (pa_cons (pv 5) (pa_cons (pv 6) (pa_cons (pv 7) pa_nil)))))))) rfl)
      (pss_one (ps_ret (pe_lst (pa_cons (pe_int) pa_nil)))))))))), ?_⟩
  obtain ⟨fo, a, pr, s, g, p, l, m, h, i, rfl, hD, hR, ho⟩ := h
  obtain ⟨hg, dx, pt, pa, pp, haF, hTF, hAF, hPF⟩ := id hD.own
  have ha := ex_del fo a _ haF
  have hT := hTF.mono (ex_del fo)
  have hA := hAF.mono (ex_del fo)
  have hP := hPF.mono (ex_del fo)
  have hafo := hD.ne
  have bad : numOk (numOf g p l m h i) = false → RefX c.r (-1) H E := fun z => ho.2 (-1) (by
    show (if _ then _ else _) = _
    rw [if_pos z])
  refine ⟨_, rfl, pr, _, rfl, sq_of hR, rfl, _, _, rfl, _, _, rfl, _, _, rfl, _, _, rfl, _, _, rfl, _, _, rfl, rfl, ?_⟩
  show tSeq _ _ _ [some (.ref a), some (.ref pr), some (nv g), some (nv p), some (nv l), some (nv m), some (nv h), some (nv i), none, none] H
  refine q_refuse (b := decide (m < l) || (decide (6 < m) || !(decide (1 ≤ h) && decide (h ≤ 6)))) (ev_orV (ev_cI (ev_var rfl) (ev_var rfl) (decide_eq_decide.mpr (by omega))) fun _ => ev_orV (ev_cI (ev_var rfl) ev_c (decide_eq_decide.mpr (by omega))) fun _ => ev_notV (ev_chain ev_c (ev_var rfl) ev_c (congrArg V.bl (decide_eq_decide.mpr (by omega))) (congrArg V.bl (decide_eq_decide.mpr (by omega))))) ev_c (fun hb => bad (num_bad (.inl ?_))) fun hb H1 e1 => ?_
  · simp only [Bool.or_eq_true, Bool.not_eq_true', Bool.and_eq_false_iff, decide_eq_true_eq, decide_eq_false_iff_not] at hb
    omega
  have k1' : ¬ (m < l ∨ 6 < m ∨ ¬ (1 ≤ h ∧ h ≤ 6)) := by
    simp only [Bool.or_eq_false_iff, Bool.not_eq_false', Bool.and_eq_true, decide_eq_true_eq, decide_eq_false_iff_not] at hb
    omega
  have hsl : (signsOf g p i).length ≤ 3 := by
    unfold signsOf
    exact List.length_filter_le _ _
  refine q_asgL (xs := nl (signsOf g p i)) (el_is (el_lcR (ns := [g, p, i]) (fun s => s != 256) nv (er_l (el_lst (ea_cons (ev_var rfl) (ea_cons (ev_var rfl) (ea_cons (ev_var rfl) ea_nil))) (by show 3 ≤ 100000; decide))) (by show 3 ≤ 40000; decide) (fun j n H4 e4 hn => et_test (ev_neI (ev_var rfl) ev_c ?_)) (fun j n H4 e4 hn _ => ev_var rfl)) rfl) fun ls H2 hls e2 h2 => ?_
  · rw [Bool.eq_iff_iff, decide_eq_true_eq]
    simp
    omega
  refine q_refuse (b := decide (256 ∈ [p, i]) || !((signsOf g p i).all signOk)) (ev_orV (ev_inR (c := 256) (ns := [p, i]) (ev_is ev_c rfl) (er_l (el_lst (ea_cons (ev_var rfl) (ea_cons (ev_var rfl) ea_nil)) (by show 2 ≤ 100000; decide))) rfl) fun _ => ev_notV (ev_is (ev_allL (bs := (signsOf g p i).map signOk) (el_is (el_lcNs (fun _ => true) (fun n => .bl (signOk n)) (ev_var rfl) h2 (by omega) (fun j n H4 e4 hn => et_yes) (fun j n H4 e4 hn _ => ev_c1 (ea_cons (ev_var rfl) ea_nil) sv_isSign)) (by rw [List.filter_eq_self.mpr (fun _ _ => rfl), List.map_map]; rfl))) (by rw [List.all_map]; rfl))) ev_c (fun hc => (bad (num_bad ?_)).mono (e1.trans e2)) fun hc H3 e3 => ?_
  · rw [Bool.or_eq_true] at hc
    rcases hc with z | z
    · exact .inr (.inl (of_decide_eq_true z))
    · exact .inr (.inr (.inl ((Bool.not_eq_true' _).mp z)))
  rw [Bool.or_eq_false_iff] at hc
  have k2' : ¬ 256 ∈ [p, i] := of_decide_eq_false hc.1
  have k3' : (signsOf g p i).all signOk = true := by simpa using hc.2
  refine q_refuse (b := decide ((firstMet (fun j => ((signsOf g p i).map fun (n : Nat) => (n : Int)).getD j 0) (signsOf g p i).length).length ≠ (signsOf g p i).length)) (ev_neI (ev_lenSet (ev_var rfl) (e3 ls _ h2) (by omega)) (ev_lenN (er_v (ev_var rfl) (e3 ls _ h2))) (decide_eq_decide.mpr (by omega))) ev_c (fun hd => (bad (num_bad (.inr (.inr (.inr ⟨k2', of_decide_eq_true hd⟩))))).mono ((e1.trans e2).trans e3)) fun hd H4 e4 => ?_
  have k4' : (firstMet (fun j => ((signsOf g p i).map fun (n : Nat) => (n : Int)).getD j 0) (signsOf g p i).length).length = (signsOf g p i).length := by simpa using hd
  have hok := num_ok k1' k2' k3' k4'
  have est : Ut08.step s (.num (numOf g p l m h i)) = ({ s with num := numOf g p l m h i }, [0]) := by
    show (if _ then _ else _) = _
    rw [if_neg (by rw [hok]; decide)]
  rw [est] at ho
  have e14 := ((e1.trans e2).trans e3).trans e4
  have ha4 := e14 a _ ha
  refine q_fldn (P := fun x H5 => AmtAt c.a (del H5 fo) x (numOf g p l m h i) ∧ x ≠ a) rfl ha4 T.cl T.nAmounts (by show 3 < 1000; decide) (fun Q q => ?_) fun x H5 e5 ⟨hA5, hxa⟩ => ?_
  · refine ⟨_, rfl, _, rfl, _, rfl, _, rfl, _, rfl, _, rfl, ?_⟩
    have mk := mk_amt (C := c.a) (f := numOf g p l m h i) (H1 := H4) (Q := Q) (E := E0) fun x dx' H5 hx e5 h5 => q x H5 e5 ⟨⟨dx', by rw [del_ne ((hD.mono e14).new hx)]; exact h5⟩, fun z => by
      rw [z, ha4] at hx
      cases hx⟩
    rw [thr_of] at mk
    exact mk
  have e15 := e14.trans e5
  have ha5 := e15 a _ ha
  have e15F := del_mono e15 fo
  have haF5 := e15F a _ haF
  have hpt : pt ≠ a := ton_ne ha hT
  refine s_retR1 (el_lst (vs := [.int 0]) (ea_cons ev_c ea_nil) (by decide)) fun q H6 hqn e6 h6 => ?_
  have exo : Ex (del (del H5 fo) a) (upd (del H5 fo) a (.ins c.d dx (putF "amounts" (.ref x) (deskF pt pa pp)))) := ex_over
  have e6F := del_mono e6 fo
  rw [del_upd_ne hafo] at e6F
  have hqfo : q ≠ fo := fun z => by
    obtain ⟨o, hof⟩ := hD.there
    rw [z, upd_ne (Ne.symm hafo), e15 fo _ hof] at hqn
    cases hqn
  refine ho.1 q H6 (fun b o hb hba => ?_) ⟨⟨hg.ton, numGood_of hok, hg.pat⟩, dx, pt, x, pp, e6F a _ upd_same, ((ton_del haF5 hpt (hTF.mono e15F)).mono exo).mono e6F, ((amt_del hxa hA5).mono exo).mono e6F, ((pat_del haF5 (hPF.mono e15F)).mono exo).mono e6F⟩ (by rw [del_ne hqfo]; exact h6)
  refine e6 b o ?_
  rw [upd_ne hba]
  exact e15 b o hb
theorem ok_dread {f : Addr} {fd : FuncData} (F : Fun K "read" "Desk.read" sDRead f fd) (G : Gs K mg) (T : DeskC K c.d) (c1 : Cal P w K mg base (L2.CX P w) 3 "refuse" (spRefuse c.r)) (c2 : Cal P w K mg base CX0 1 "are_bytes" spAreBytes) (m1 : Met P w K mg base CX0 4 c.a "read" (spARead c.a)) :
    FnOk P w K mg base (L2.CX P w) 5 f fd ["self", "row"] (spDRead c) := by
  refine F.okX scDRead (fun vs H Q E h => by obtain ⟨fo, a, pr, s, ns, rfl, _⟩ := h; rfl) (fun cdv A outer s H vs Q E hr h => ?_)
  refine ⟨_, (pss_cons (ps_expr (pe_c c1 hr (by decide) (passes_call (takes_of rfl rfl rfl rfl) (fun _ _ _ _ h => h)) rfl (by exact (pa_cons (pe_not (pe_c c2 hr (by decide) pass0 rfl (pa_cons (pv 1) (pa_cons (pgi G.cMostRead) pa_nil)))) (pa_cons (pgi G.cNotAsTold) pa_nil)))))
      (pss_cons (ps_set (i := 2) scDRead.nd rfl (.inl rfl) (pe_mt m1 hr (by decide) pass0 (pe_fld (pv 0) rfl) (by exact (pa_cons (pv 1) pa_nil))))
      (pss_cons (ps_expr (pe_c c1 hr (by decide) (passes_call (takes_of rfl rfl rfl rfl) (fun _ _ _ _ h => h)) rfl (by exact (pa_cons (pe_cmpR op_isN (pv 2) pe_non (nomark _)) (pa_cons (pgi G.cNoneThere) pa_nil)))))
      (pss_one (ps_ret (pe_lst (pa_cons (pe_callTy (call_int1) (by rfl) G.bInt (by decide +kernel) (pa_cons (pe_ix ix_tup (pv 2) pe_int (fun _ _ => rfl)) pa_nil)) (pa_cons (pe_ix ix_tup (pv 2) pe_int (fun _ _ => rfl)) pa_nil)))))))), ?_⟩
  obtain ⟨fo, a, pr, s, ns, rfl, hD, hR, hnl, ho⟩ := h
  obtain ⟨hg, dx, pt, pa, pp, ha, hT, hA, hP⟩ := id hD.all
  obtain ⟨dxa, hA1⟩ := id hA
  have est : Ut08.step s (.readNum ns) = (s, if 40 < ns.length ∨ (ns.all fun c => decide (c ≤ 255)) = false then [-1] else match numRead s.num ns with | none => [-6] | some (neg, n) => Ut08.ints [if neg = true then 1 else 0, n]) := rfl
  rw [est] at ho
  refine q_refuse (b := !(decide (ns.length ≤ 40) && ns.all fun c => decide (c ≤ 255))) (ev_notV (ev_c1 (ea_cons (ev_var rfl) (ea_cons ev_c ea_nil)) (sv_areBytes (k := 40) hR hnl))) ev_c (fun hb => ho.2 (-1) ?_) fun hb H1 e1 => ?_
  · rw [if_pos]
    rw [Bool.not_eq_true', Bool.and_eq_false_iff, decide_eq_false_iff_not] at hb
    rcases hb with z | z
    · exact .inl (by omega)
    · exact .inr z
  rw [Bool.not_eq_false', Bool.and_eq_true, decide_eq_true_eq] at hb
  rw [if_neg (by
    rintro (z | z)
    · omega
    · rw [hb.2] at z; cases z)] at ho
  have ha1 := e1 a _ ha
  refine ⟨_, rfl, a, c.d, dx, _, _, rfl, ha1, T.cl, T.nAmounts, rfl, pa, dxa, _, rfl, e1 pa _ hA1, rfl, _, rfl, pa, pr, s.num, ns, rfl, hA.mono e1, hg.num, e1 pr _ hR, by omega, fun hn H2 e2 => ?_, fun b n hs q H2 hq e2 h2 => ?_⟩
  · rw [hn] at ho
    show tSeq _ _ _ _ _
    refine q_refuse (b := true) (ev_isN (ev_var (v := V.non) rfl) rfl) ev_c (fun _ => (ho.2 (-6) rfl).mono (e1.trans e2)) (fun hb => by cases hb)
  · rw [hs] at ho
    show tSeq _ _ _ _ _
    refine q_refuse (b := false) (ev_isN (ev_var (v := V.ref q) rfl) rfl) ev_c (fun hb => by cases hb) fun _ H3 e3 => ?_
    refine s_retR1 (xs := nl [if b = true then 1 else 0, n]) (el_lst (ea_cons (ev_is (ev_intB (ev_ixT (j := 0) (ev_var rfl) ev_c (st_of (e3 q _ h2)) rfl rfl)) (by cases b <;> rfl)) (ea_cons (ev_ixT (j := 1) (ev_var rfl) ev_c (st_of (e3 q _ h2)) rfl rfl) ea_nil)) (by show 2 ≤ 100000; decide)) fun r H4 hrn e4 h4 => ?_
    exact ho.same hD (fresh_back ((e1.trans e2).trans e3) hrn) (((e1.trans e2).trans e3).trans e4) h4
end
end Wd
namespace Wd
open PySem PySem.Spec PyProof.Rows L2 Evl
open Ut08 (Day Part Tongue Num isDigit House dayOk dayText dayRead dayRow numberOf weekday daysOf dayAt row)
abbrev sDDay : Stmt := inClass (topS 65) 5
abbrev sDMeans : Stmt := inClass (topS 65) 6
abbrev sDClash : Stmt := inClass (topS 65) 7
abbrev sDWeek : Stmt := inClass (topS 65) 8
abbrev sDOn : Stmt := inClass (topS 65) 9
theorem scDDay : FnScope ["self", "year", "month", "day"] ["self", "year", "month", "day"] (defScope sDDay) := ⟨rfl, rfl, rfl, by decide +kernel, rfl, by decide +kernel, by decide +kernel⟩
theorem scDMeans : FnScope ["self", "year", "row", "days", "found", "one"] ["self", "year", "row"] (defScope sDMeans) := ⟨rfl, rfl, rfl, by decide +kernel, rfl, by decide +kernel, by decide +kernel⟩
theorem scDClash : FnScope ["self", "year", "firsts", "one", "text"] ["self", "year"] (defScope sDClash) := ⟨rfl, rfl, rfl, by decide +kernel, rfl, by decide +kernel, by decide +kernel⟩
theorem scDWeek : FnScope ["self", "year", "month", "day"] ["self", "year", "month", "day"] (defScope sDWeek) := ⟨rfl, rfl, rfl, by decide +kernel, rfl, by decide +kernel, by decide +kernel⟩
theorem scDOn : FnScope ["self", "number"] ["self", "number"] (defScope sDOn) := ⟨rfl, rfl, rfl, by decide +kernel, rfl, by decide +kernel, by decide +kernel⟩
def spDDay (c : Cs) : Sp := fun vs H Q E => ∃ (fo a : Addr) (s : House) (x : Day), vs = [.ref a, nv x.y, nv x.m, nv x.d] ∧ DeskL c fo H a s ∧ Out c fo a H s (Ut08.step s (.writeDay x)) Q E
def spDMeans (c : Cs) : Sp := fun vs H Q E => ∃ (fo a pr : Addr) (s : House) (y : Nat) (ns : List Nat), vs = [.ref a, nv y, .ref pr] ∧ DeskL c fo H a s ∧ H pr = some (.lst (nl ns)) ∧ ns.length ≤ 1000 ∧ Out c fo a H s (Ut08.step s (.readDay y ns)) Q E
def spDClash (c : Cs) : Sp := fun vs H Q E => ∃ (fo a : Addr) (s : House) (y : Nat), vs = [.ref a, nv y] ∧ DeskL c fo H a s ∧ Out c fo a H s (Ut08.step s (.clash y)) Q E
def spDWeek (c : Cs) : Sp := fun vs H Q E => ∃ (fo a : Addr) (s : House) (x : Day), vs = [.ref a, nv x.y, nv x.m, nv x.d] ∧ DeskL c fo H a s ∧ Out c fo a H s (Ut08.step s (.week x)) Q E
def spDOn (c : Cs) : Sp := fun vs H Q E => ∃ (fo a : Addr) (s : House) (n : Nat), vs = [.ref a, nv n] ∧ DeskL c fo H a s ∧ Out c fo a H s (Ut08.step s (.on n)) Q E
section
variable {K : PySem.W.Frag} {σ : L2.St} {H H' : Hp} {ta tb tc te tx tn : TE} {t u : TT} {x y z v : V} {D : Ends} {tz : TS} {E : XK} {C : Addr}
theorem el_cL {sp : Sp} {xs ys : List V} (hr : EvR tb σ H ys) (hs : ∀ p H1, Ex H H1 → H1 p = some (.lst ys) → SpL sp [.ref p] H1 xs) : EvL (tCall sp [] E (tCons tb tNil)) σ H xs := fun H1 e Q q =>
  hr H1 e _ fun p H2 e2 h2 => hs p H2 (e.trans e2) h2 H2 (Ex.refl _) Q (fun p H3 hp e3 h3 => q p H3 (fresh_back e2 hp) (e2.trans e3) h3) E
theorem el_listT {a : Addr} {xs : List V} (h : Ev te σ H (.ref a)) (ha : H a = some (.tup xs)) : EvL (tCB (fun vs H Q => ∃ p ys, vs = [.ref p] ∧ (SqL K H p ys ∨ SqT K H p ys) ∧ ∀ l, H l = none → Q (.ref l) (upd H l (.lst ys))) (tCons te tNil)) σ H xs := fun H1 e Q q =>
  h H1 e _ fun H2 e2 => ⟨a, xs, rfl, .inr (st_of (e2 a _ (e a _ ha))), fun l hl => q l _ (fresh_back e2 hl) (e2.trans (Ex.new hl)) upd_same⟩
theorem el_listU {xs : List V} (h : EvU te σ H xs) : EvL (tCB (fun vs H Q => ∃ p ys, vs = [.ref p] ∧ (SqL K H p ys ∨ SqT K H p ys) ∧ ∀ l, H l = none → Q (.ref l) (upd H l (.lst ys))) (tCons te tNil)) σ H xs := fun H1 e Q q =>
  h H1 e _ fun a H2 ha e2 h2 => ⟨a, xs, rfl, .inr (st_of h2), fun l hl => q l _ (fresh_back e2 hl) (e2.trans (Ex.new hl)) upd_same⟩
theorem eu_tupL {xs : List V} (h : EvL te σ H xs) : EvU (tCB (fun vs H Q => ∃ p ys, vs = [.ref p] ∧ ((SqL K H p ys ∧ ∀ l, H l = none → Q (.ref l) (upd H l (.tup ys))) ∨ (SqT K H p ys ∧ Q (.ref p) H))) (tCons te tNil)) σ H xs := fun H1 e Q q =>
  h H1 e _ fun a H2 ha e2 h2 => ⟨a, xs, rfl, .inl ⟨sq_of h2, fun l hl => q l _ (fresh_back e2 hl) (e2.trans (Ex.new hl)) upd_same⟩⟩
/-- xs.extend(ys), ys a new list -/
theorem s_ext {l : Addr} {xs ys : List V} (hl : H l = some (.lst xs)) (ha : Ev ta σ H (.ref l)) (h : EvL te σ H ys) (hz : xs.length + ys.length ≤ 1000000) (k : ∀ H1, Ex H H1 → D.nx σ (upd H1 l (.lst (xs ++ ys)))) : tDrop (tBM K "list" rExtend ta (tCons te tNil)) D σ H := ha H (Ex.refl H) _ fun H1 e1 =>
  ⟨Or.inl ⟨rfl, xs, sq_of (e1 l _ hl)⟩, h H1 e1 _ fun p H2 hp e2 h2 => ⟨l, p, xs, ys, rfl, rfl, e2 l _ (e1 l _ hl), h2, Nat.le_trans hz (by decide), k H2 (e1.trans e2)⟩⟩
/-- a dict whose keys are tuples of numbers -/
def tk (w : List Nat) : List Key := w.map fun (n : Nat) => Sum.inl (n : Int)
theorem tk_map (w : List Nat) : (tk w).map kV = nl w := by
  unfold tk nl
  rw [List.map_map]
  rfl
theorem tk_inj {v w : List Nat} (h : tk v = tk w) : v = w := by
  have := congrArg (List.map kV) h
  rw [tk_map, tk_map] at this
  unfold nl at this
  exact (List.map_inj_right (f := nv) fun a b hab => by
    have : (a : Int) = (b : Int) := V.int.inj hab
    omega).mp this
end
section
variable {P : Program} {w : World} {K : PySem.W.Frag} {mg : Str → Option Value} {base : Heap} {c : Cs}
theorem ok_dday {f : Addr} {fd : FuncData} (F : Fun K "day" "Desk.day" sDDay f fd) (G : Gs K mg) (T : DeskC K c.d) (c1 : Cal P w K mg base (L2.CX P w) 3 "refuse" (spRefuse c.r)) (c2 : Cal P w K mg base CX0 3 "is_day" spIsDay) (c3 : Cal P w K mg base CX0 1 "counted" spCounted) (m1 : Met P w K mg base CX0 5 c.t "written" (spTWritten c.t)) :
    FnOk P w K mg base (L2.CX P w) 6 f fd ["self", "year", "month", "day"] (spDDay c) := by
  refine F.okX scDDay (fun vs H Q E h => by obtain ⟨fo, a, s, x, rfl, _⟩ := h; rfl) (fun cdv A outer s H vs Q E hr h => ?_)
  refine ⟨_, (pss_cons (ps_expr (pe_c c1 hr (by decide) (passes_call (takes_of rfl rfl rfl rfl) (fun _ _ _ _ h => h)) rfl (by exact (pa_cons (pe_not (pe_c c2 hr (by decide) pass0 rfl (pa_cons (pv 1) (pa_cons (pv 2) (pa_cons (pv 3) pa_nil))))) (pa_cons (pgi G.cNotAsTold) pa_nil)))))
      (pss_one (ps_ret (pe_c c3 hr (by decide) pass0 rfl (by exact (pa_cons (pe_mt m1 hr (by decide) pass0 (pe_fld (pv 0) rfl) (pa_cons (pe_fld (pv 0) rfl) (pa_cons (pv 1) (pa_cons (pv 2) (pa_cons (pv 3) pa_nil))))) pa_nil)))))), ?_⟩
  obtain ⟨fo, a, s, x, rfl, hD, ho⟩ := h
  obtain ⟨hg, dx, pt, pa, pp, ha, hT, hA, hP⟩ := id hD.all
  obtain ⟨dt, pm, pw, hT1, _⟩ := id hT
  have est : Ut08.step s (.writeDay x) = (s, if dayOk x = false then [-1] else Ut08.ints (row (dayText s.tongue s.pat x))) := rfl
  rw [est] at ho
  refine q_refuse (b := !dayOk x) (ev_notV (ev_c1 (ea_cons (ev_var rfl) (ea_cons (ev_var rfl) (ea_cons (ev_var rfl) ea_nil))) sv_isDay)) ev_c (fun hb => ho.2 (-1) (by rw [if_pos ((Bool.not_eq_true' _).mp hb)])) fun hb H1 e1 => ?_
  have hok : dayOk x = true := by simpa using hb
  rw [if_neg (by rw [hok]; decide)] at ho
  obtain ⟨x1, x2, x3, x4, x5, x6⟩ := dayOk_iff.mp hok
  have x7 := day_le hok
  have hlen := dayText_len hg.ton hg.pat (x := x) x2 ⟨x3, x4⟩ x7
  have ha1 := e1 a _ ha
  refine s_retR1 (el_cL (er_l (el_meth (ev_fld (ev_var rfl) ha1 T.cl T.nTongue rfl) (e1 pt _ hT1) rfl (ea_cons (ev_fld (ev_var rfl) ha1 T.cl T.nPattern rfl) (ea_cons (ev_var rfl) (ea_cons (ev_var rfl) (ea_cons (ev_var rfl) ea_nil)))) (sl_twritten (hT.mono e1) hg.ton (hP.mono e1) hg.pat hok))) fun p H2 e2 h2 => sl_counted h2 (by omega)) fun p H2 hpn e2 h2 => ho.same hD (fresh_back e1 hpn) (e1.trans e2) h2
theorem ok_dweek {f : Addr} {fd : FuncData} (F : Fun K "week" "Desk.week" sDWeek f fd) (G : Gs K mg) (c1 : Cal P w K mg base (L2.CX P w) 3 "refuse" (spRefuse c.r)) (c2 : Cal P w K mg base CX0 3 "is_day" spIsDay) (c3 : Cal P w K mg base CX0 3 "number_of" spNumberOf) (c4 : Cal P w K mg base CX0 4 "weekday_of" spWeekdayOf) :
    FnOk P w K mg base (L2.CX P w) 5 f fd ["self", "year", "month", "day"] (spDWeek c) := by
  refine F.okX scDWeek (fun vs H Q E h => by obtain ⟨fo, a, s, x, rfl, _⟩ := h; rfl) (fun cdv A outer s H vs Q E hr h => ?_)
  refine ⟨_, (pss_cons (ps_expr (pe_c c1 hr (by decide) (passes_call (takes_of rfl rfl rfl rfl) (fun _ _ _ _ h => h)) rfl (by exact (pa_cons (pe_not (pe_c c2 hr (by decide) pass0 rfl (pa_cons (pv 1) (pa_cons (pv 2) (pa_cons (pv 3) pa_nil))))) (pa_cons (pgi G.cNotAsTold) pa_nil)))))
      (pss_one (ps_ret (pe_lst (pa_cons (pe_c c3 hr (by decide) pass0 rfl (pa_cons (pv 1) (pa_cons (pv 2) (pa_cons (pv 3) pa_nil)))) (pa_cons (pe_c c4 hr (by decide) pass0 rfl (pa_cons (pv 1) (pa_cons (pv 2) (pa_cons (pv 3) pa_nil)))) pa_nil)))))), ?_⟩
  obtain ⟨fo, a, s, x, rfl, hD, ho⟩ := h
  have est : Ut08.step s (.week x) = (s, if dayOk x = false then [-1] else Ut08.ints [numberOf x, weekday x]) := rfl
  rw [est] at ho
  refine q_refuse (b := !dayOk x) (ev_notV (ev_c1 (ea_cons (ev_var rfl) (ea_cons (ev_var rfl) (ea_cons (ev_var rfl) ea_nil))) sv_isDay)) ev_c (fun hb => ho.2 (-1) (by rw [if_pos ((Bool.not_eq_true' _).mp hb)])) fun hb H1 e1 => ?_
  have hok : dayOk x = true := by simpa using hb
  rw [if_neg (by rw [hok]; decide)] at ho
  obtain ⟨x1, x2, x3, x4, x5, x6⟩ := dayOk_iff.mp hok
  refine s_retR1 (xs := nl [numberOf x, weekday x]) (el_lst (ea_cons (ev_c1 (ea_cons (ev_var rfl) (ea_cons (ev_var rfl) (ea_cons (ev_var rfl) ea_nil))) (sv_numberOf ⟨x1, x3, x4, x5⟩)) (ea_cons (ev_c1 (ea_cons (ev_var rfl) (ea_cons (ev_var rfl) (ea_cons (ev_var rfl) ea_nil))) (sv_weekdayOf ⟨x1, x3, x4, x5⟩)) ea_nil)) (by show 2 ≤ 100000; decide)) fun p H2 hpn e2 h2 => ho.same hD (fresh_back e1 hpn) (e1.trans e2) h2
theorem ok_don {f : Addr} {fd : FuncData} (F : Fun K "on" "Desk.on" sDOn f fd) (G : Gs K mg) (c1 : Cal P w K mg base (L2.CX P w) 3 "refuse" (spRefuse c.r)) (c2 : Cal P w K mg base CX0 3 "day_of" spDayOf) : FnOk P w K mg base (L2.CX P w) 4 f fd ["self", "number"] (spDOn c) := by
  refine F.okX scDOn (fun vs H Q E h => by obtain ⟨fo, a, s, n, rfl, _⟩ := h; rfl) (fun cdv A outer s H vs Q E hr h => ?_)
  refine ⟨_, (pss_cons (ps_expr (pe_c c1 hr (by decide) (passes_call (takes_of rfl rfl rfl rfl) (fun _ _ _ _ h => h)) rfl (by exact (pa_cons (pe_cmpR op_gt (pv 1) (pgi G.cLastDay) (nomark _)) (pa_cons (pgi G.cNotAsTold) pa_nil)))))
      (pss_one (ps_ret (pe_callTy (call_list_of) (by rfl) G.bList (by decide +kernel) (by exact (pa_cons (pe_c c2 hr (by decide) pass0 rfl (pa_cons (pv 1) pa_nil)) pa_nil)))))), ?_⟩
  obtain ⟨fo, a, s, n, rfl, hD, ho⟩ := h
  have est : Ut08.step s (.on n) = (s, if 3652058 < n then [-1] else Ut08.ints (dayRow (dayAt n))) := rfl
  rw [est] at ho
  refine q_refuse (b := decide (3652058 < n)) (ev_cI (ev_var rfl) ev_c (decide_eq_decide.mpr (by omega))) ev_c (fun hb => ho.2 (-1) (by rw [if_pos (of_decide_eq_true hb)])) fun hb H1 e1 => ?_
  have hn : ¬ 3652058 < n := of_decide_eq_false hb
  rw [if_neg hn] at ho
  refine s_retR1 (xs := nl (dayRow (dayAt n))) (el_listU (xs := [nv (dayAt n).y, nv (dayAt n).m, nv (dayAt n).d]) fun H2 e2 Q q => ⟨_, rfl, n, rfl, by omega, q⟩) fun p H2 hpn e2 h2 => ho.same hD (fresh_back e1 hpn) (e1.trans e2) h2
theorem flat_take {α : Type} {l : List Day} {i : Nat} {x : Day} (h : l[i]? = some x) : (l.take (i + 1)).flatMap dayRow = (l.take i).flatMap dayRow ++ dayRow x := by
  rw [List.take_add_one, h, List.flatMap_append]
  simp
theorem flat_rows_len (l : List Day) : (l.flatMap dayRow).length = 3 * l.length := by
  induction l with
  | nil => rfl
  | cons x l ih =>
    rw [List.flatMap_cons, List.length_append, ih, List.length_cons]
    show 3 + _ = _
    omega
theorem ok_dmeans {f : Addr} {fd : FuncData} (F : Fun K "means" "Desk.means" sDMeans f fd) (G : Gs K mg) (T : DeskC K c.d) (c1 : Cal P w K mg base (L2.CX P w) 3 "refuse" (spRefuse c.r)) (c2 : Cal P w K mg base CX0 1 "is_year" spIsYear) (c3 : Cal P w K mg base CX0 1 "are_bytes" spAreBytes) (m1 : Met P w K mg base CX0 6 c.t "means" (spMeans c.t)) :
    FnOk P w K mg base (L2.CX P w) 7 f fd ["self", "year", "row"] (spDMeans c) := by
  refine F.okX scDMeans (fun vs H Q E h => by obtain ⟨fo, a, pr, s, y, ns, rfl, _⟩ := h; rfl) (fun cdv A outer s H vs Q E hr h => ?_)
  refine ⟨_, (pss_cons (ps_expr (pe_c c1 hr (by decide) (passes_call (takes_of rfl rfl rfl rfl) (fun _ _ _ _ h => h)) rfl (by exact (pa_cons (pe_or (pe_not (pe_c c2 hr (by decide) pass0 rfl (pa_cons (pv 1) pa_nil))) (pe_one (pe_not (pe_c c3 hr (by decide) pass0 rfl (pa_cons (pv 2) (pa_cons (pgi G.cMostMeant) pa_nil)))))) (pa_cons (pgi G.cNotAsTold) pa_nil)))))
      (pss_cons (ps_set (i := 3) scDMeans.nd rfl (.inl rfl) (pe_mt m1 hr (by decide) pass0 (pe_fld (pv 0) rfl) (by exact (pa_cons (pe_fld (pv 0) rfl) (pa_cons (pv 2) (pa_cons (pv 1) pa_nil))))))
      (pss_cons (ps_set (i := 4) scDMeans.nd rfl (.inl rfl) (pe_lst (pa_cons (pe_callB call_len_seq (by rfl) G.bLen PySem.boot_len (pa_cons (pv 3) pa_nil)) pa_nil)))
      (pss_cons (ps_for (passes_of rfl) rfl (pi_list (pv 3)) (pg_name (i := 5) scDMeans.nd rfl (.inl rfl)) (pss_one (ps_expr (pe_bm PySem.F.plainAttrs_list PySem.F.slot_list_extend PySem.F.type_list_extend mt_extend (pv 4) (by exact (pa_cons (pe_callTy (call_list_of) (by rfl) G.bList (by decide +kernel) (pa_cons (pv 5) pa_nil)) pa_nil))))))
      (pss_one (ps_ret (pv 4))))))), ?_⟩
  obtain ⟨fo, a, pr, s, y, ns, rfl, hD, hR, hnl, ho⟩ := h
  obtain ⟨hg, dx, pt, pa, pp, ha, hT, hA, hP⟩ := id hD.all
  obtain ⟨dt, pm, pw, hT1, _⟩ := id hT
  have est : Ut08.step s (.readDay y ns) = (s, if y = 0 ∨ 9999 < y ∨ 60 < ns.length ∨ (ns.all fun c => decide (c ≤ 255)) = false then [-1] else Ut08.ints ((dayRead s.tongue s.pat y ns).length :: (dayRead s.tongue s.pat y ns).flatMap dayRow)) := rfl
  rw [est] at ho
  refine q_refuse (b := !(decide (1 ≤ y) && decide (y ≤ 9999)) || !(decide (ns.length ≤ 60) && ns.all fun c => decide (c ≤ 255))) (ev_orV (ev_notV (ev_c1 (ea_cons (ev_var rfl) ea_nil) sv_isYear)) fun _ => ev_notV (ev_c1 (ea_cons (ev_var rfl) (ea_cons ev_c ea_nil)) (sv_areBytes (k := 60) hR hnl))) ev_c (fun hb => ho.2 (-1) ?_) fun hb H1 e1 => ?_
  · rw [if_pos]
    simp only [Bool.or_eq_true, Bool.not_eq_true', Bool.and_eq_false_iff, decide_eq_false_iff_not] at hb
    rcases hb with (z | z) | z | z
    · exact .inl (by omega)
    · exact .inr (.inl (by omega))
    · exact .inr (.inr (.inl (by omega)))
    · exact .inr (.inr (.inr z))
  simp only [Bool.or_eq_false_iff, Bool.not_eq_false', Bool.and_eq_true, decide_eq_true_eq] at hb
  obtain ⟨⟨b1, b2⟩, b3, b4⟩ := hb
  rw [if_neg (by
    rintro (z | z | z | z)
    · omega
    · omega
    · omega
    · rw [b4] at z; cases z)] at ho
  have ha1 := e1 a _ ha
  obtain ⟨l, hl⟩ : ∃ l, l = dayRead s.tongue s.pat y ns := ⟨_, rfl⟩
  rw [← hl] at ho
  refine ⟨_, rfl, a, c.d, dx, _, _, rfl, ha1, T.cl, T.nTongue, rfl, pt, dt, _, rfl, e1 pt _ hT1, rfl, _, rfl, a, c.d, dx, _, _, rfl, ha1, T.cl, T.nPattern, rfl, _, rfl, _, rfl, pt, pp, pr, s.tongue, s.pat, ns, y, rfl, ⟨hT.mono e1, hg.ton, hP.mono e1, hg.pat, e1 pr _ hR, by omega⟩, fun q as H2 e2 h2 hq hq24 => ?_⟩
  rw [← hl] at hq hq24
  have hal : as.length = l.length := hq.len
  show tSeq _ _ _ _ _
  refine q_asgL (xs := nl [l.length]) (el_lst (ea_cons (ev_is (ev_len (K := K) (ev_var rfl) (.inl (sq_of h2))) (congrArg V.int (by rw [List.length_map, hal]))) ea_nil) (by show 1 ≤ 100000; decide)) fun fl H3 hfl e3 h3 => ?_
  have hflH : H fl = none := fresh_back (e1.trans e2) hfl
  refine q_forLn (a := q) (xs := as.map V.ref) (ev_var rfl) (sq_of (e3 q _ h2)) (fun i σ H' => Ex H H' ∧ Ex H2 H' ∧ ∃ o : Option V, σ = [some (.ref a), some (nv y), some (.ref pr), some (.ref q), some (.ref fl), o] ∧ H' fl = some (.lst (nl (l.length :: (l.take i).flatMap dayRow)))) (fun H4 e4 => ⟨((e1.trans e2).trans e3).trans e4, e3.trans e4, none, rfl, e4 fl _ h3⟩) (fun i σ H' _ ⟨_, e, _⟩ => sq_of (e q _ h2))
    (fun i v σ H' hv ⟨e, e', o, hσ, hf⟩ => ?_) (fun σ H' ⟨e, e', o, hσ, hf⟩ => ?_)
  · subst hσ
    rw [List.getElem?_map] at hv
    cases eqa : as[i]? with
    | none => rw [eqa] at hv; cases hv
    | some b =>
      rw [eqa] at hv
      cases hv
      obtain ⟨x, hx, hxd⟩ := hq.get eqa
      have hil : i < l.length := (List.getElem?_eq_some_iff.mp hx).1
      have hfr := flat_rows_len (l.take i)
      rw [List.length_take] at hfr
      refine s_ext (ys := nl (dayRow x)) hf (ev_var rfl) (el_listT (ev_var rfl) (e' b _ hxd)) (by rw [nl_len, nl_len, List.length_cons]; show _ + 3 ≤ _; omega) fun H4 e4 => ⟨(e.trans e4).mut hflH, (e'.trans e4).mut hfl, _, rfl, ?_⟩
      rw [upd_same, flat_take (α := Nat) hx, ← nl_app]
      rfl
  · subst hσ
    rw [List.length_map, hal, List.take_length] at hf
    exact s_ret (ev_var rfl) fun H4 e4 => ho.same hD hflH (e.trans e4) (e4 fl _ hf)
end
end Wd
namespace Wd
open PySem PySem.Spec PyProof.Rows L2 Evl
open Ut08 (Day Part Tongue Num isDigit House dayOk dayText dayRead dayRow numberOf weekday daysOf dayAt row Bytes)
/-- the dict of the texts met -/
def ent : List Addr → List (Day × Bytes) → List (List Key × V)
  | a :: as, z :: zs => (tk z.2, .ref a) :: ent as zs
  | _, _ => []
theorem ent_snoc : ∀ {as : List Addr} {zs : List (Day × Bytes)} {a : Addr} {z : Day × Bytes}, as.length = zs.length → ent (as ++ [a]) (zs ++ [z]) = ent as zs ++ [(tk z.2, .ref a)]
  | [], [], _, _, _ => rfl
  | _ :: _, _ :: _, _, _, h => congrArg (_ :: ·) (ent_snoc (Nat.succ.inj h))
  | [], _ :: _, _, _, h => by cases h
  | _ :: _, [], _, _, h => by cases h
theorem ent_len : ∀ (as : List Addr) (zs : List (Day × Bytes)), (ent as zs).length ≤ as.length
  | _ :: as, _ :: zs => Nat.succ_le_succ (ent_len as zs)
  | [], _ => Nat.zero_le _
  | _ :: _, [] => Nat.zero_le _
theorem ent_find {H : Hp} {w : Bytes} : ∀ {as : List Addr} {zs : List (Day × Bytes)}, ObjsAt H (fun z : Day × Bytes => dayV z.1) as zs →
    (valV (ent as zs) (tk w) = none ∧ (zs.any fun z => z.2 == w) = false) ∨ ∃ a z, valV (ent as zs) (tk w) = some (.ref a) ∧ zs.find? (fun z => z.2 == w) = some z ∧ H a = some (dayV z.1)
  | [], [], _ => .inl ⟨rfl, rfl⟩
  | a :: as, z :: zs, h => by
    by_cases e : z.2 = w
    · exact .inr ⟨a, z, valV_pos (congrArg tk e), by rw [List.find?_cons_of_pos (by simpa using e)], h.1⟩
    · have e' : ¬ tk z.2 = tk w := fun q => e (tk_inj q)
      have eb : (z.2 == w) = false := by simpa using e
      rcases ent_find (w := w) h.2 with ⟨h1, h2⟩ | ⟨b, y, h1, h2, h3⟩
      · exact .inl ⟨by rw [ent, valV_neg e']; exact h1, by rw [List.any_cons, h2, eb]; rfl⟩
      · exact .inr ⟨b, y, by rw [ent, valV_neg e']; exact h1, by rw [List.find?_cons_of_neg (by simpa using e)]; exact h2, h3⟩
  | [], _ :: _, h => h.elim
  | _ :: _, [], h => h.elim
theorem objs_texts {H : Hp} {t : Tongue} {ps : List Part} : ∀ {as : List Addr} {ds : List Day}, ObjsAt H dayV as ds → ObjsAt H (fun z : Day × Bytes => dayV z.1) as (ds.map fun x => (x, dayText t ps x))
  | [], [], _ => trivial
  | _ :: _, _ :: _, h => ⟨h.1, objs_texts h.2⟩
  | [], _ :: _, h => h.elim
  | _ :: _, [], h => h.elim
theorem ObjsAt.takeG {β : Type} {H : Hp} {o : β → HO} : ∀ {as : List Addr} {bs : List β} (i : Nat), ObjsAt H o as bs → ObjsAt H o (as.take i) (bs.take i)
  | _, _, 0, _ => trivial
  | [], [], _ + 1, _ => trivial
  | _ :: _, _ :: _, i + 1, h => ⟨h.1, ObjsAt.takeG i h.2⟩
  | [], _ :: _, _ + 1, h => h.elim
  | _ :: _, [], _ + 1, h => h.elim
section
variable {K : PySem.W.Frag} {σ : L2.St} {H H' : Hp} {ta tb tc te tx tn : TE} {t u : TT} {x y z v : V} {D : Ends} {tz : TS} {E : XK} {C : Addr}
theorem s_dputT {td ty tv : TE} {d b : Addr} {kvs : List (List Key × V)} {k : List Key} (hd : H d = some (.dT kvs)) (hb : H b = some (.tup (k.map kV))) (hv : Ev tv σ H v) (ho : Ev td σ H (.ref d)) (hi : Ev ty σ H (.ref b)) (hl : kvs.length ≤ 1000) (k : ∀ H1, Ex H H1 → D.nx σ (upd H1 d (.dT (putK kvs k v)))) : sDPut td ty tv D σ H :=
  hv H (Ex.refl H) _ fun H1 e1 => ho H1 e1 _ fun H2 e2 => hi H2 (e1.trans e2) _ fun H3 e3 => ⟨d, _, rfl, DPut.t (((e1.trans e2).trans e3) d _ hd) (((e1.trans e2).trans e3) b _ hb) (Nat.lt_of_le_of_lt hl (by decide)), k H3 ((e1.trans e2).trans e3)⟩
theorem et_dinT {td ty : TE} {d c : Addr} {kvs : List (List Key × V)} {k : List Key} {b : Bool} (hd : H d = some (.dT kvs)) (hb : H c = some (.tup (k.map kV))) (hi : Ev ty σ H (.ref c)) (ho : Ev td σ H (.ref d)) (e : (valV kvs k).isSome = b) : EvT (tB (tDIn ty td)) σ H b := fun H1 e1 Q q =>
  hi H1 e1 _ fun H2 e2 => ho H2 (e1.trans e2) _ fun H3 e3 => ⟨d, _, rfl, DGet.t (e3 d _ (e2 d _ (e1 d _ hd))) (e3 c _ (e2 c _ (e1 c _ hb))), b, congrArg V.bl e, q H3 (e2.trans e3)⟩
theorem ev_dgetT {td ty : TE} {d c : Addr} {kvs : List (List Key × V)} {k : List Key} (hd : H d = some (.dT kvs)) (hb : H c = some (.tup (k.map kV))) (ho : Ev td σ H (.ref d)) (hi : Ev ty σ H (.ref c)) (e : valV kvs k = some v) : Ev (tDGet td ty) σ H v := fun H1 e1 Q q =>
  ho H1 e1 _ fun H2 e2 => hi H2 (e1.trans e2) _ fun H3 e3 => ⟨d, v, rfl, e ▸ DGet.t (e3 d _ (e2 d _ (e1 d _ hd))) (e3 c _ (e2 c _ (e1 c _ hb))), q H3 (e2.trans e3)⟩
end
section
variable {P : Program} {w : World} {K : PySem.W.Frag} {mg : Str → Option Value} {base : Heap} {c : Cs}
theorem ok_dclash {f : Addr} {fd : FuncData} (F : Fun K "clash" "Desk.clash" sDClash f fd) (G : Gs K mg) (T : DeskC K c.d) (c1 : Cal P w K mg base (L2.CX P w) 3 "refuse" (spRefuse c.r)) (c2 : Cal P w K mg base CX0 1 "is_year" spIsYear) (c3 : Cal P w K mg base CX0 3 "days_of" spDaysOf) (m1 : Met P w K mg base CX0 5 c.t "written" (spTWritten c.t)) :
    FnOk P w K mg base (L2.CX P w) 6 f fd ["self", "year"] (spDClash c) := by
  refine F.okX scDClash (fun vs H Q E h => by obtain ⟨fo, a, s, x, rfl, _⟩ := h; rfl) (fun cdv A outer s H vs Q E hr h => ?_)
  have hu := hu_of hr
  refine ⟨_, (pss_cons (ps_expr (pe_c c1 hr (by decide) (passes_call (takes_of rfl rfl rfl rfl) (fun _ _ _ _ h => h)) rfl (by exact (pa_cons (pe_not (pe_c c2 hr (by decide) pass0 rfl (pa_cons (pv 1) pa_nil))) (pa_cons (pgi G.cNotAsTold) pa_nil)))))
      (pss_cons (ps_set (i := 2) scDClash.nd rfl (.inl rfl) pe_dnewT)
      (pss_cons (ps_for (passes_of rfl) rfl (pi_list (pe_c c3 hr (by decide) pass0 rfl (by exact (pa_cons (pv 1) pa_nil)))) (pg_name (i := 3) scDClash.nd rfl (.inl rfl)) (pss_cons (ps_set (i := 4) scDClash.nd rfl (.inl rfl) (pe_callTy (call_tuple_of) (by rfl) G.bTuple (by decide +kernel) (by exact (pa_cons (pe_mt m1 hr (by decide) pass0 (pe_fld (pv 0) rfl) (pa_cons (pe_fld (pv 0) rfl) (pa_cons (pe_ix ix_tup (pv 3) pe_int (fun _ _ => rfl)) (pa_cons (pe_ix ix_tup (pv 3) pe_int (fun _ _ => rfl)) (pa_cons (pe_ix ix_tup (pv 3) pe_int (fun _ _ => rfl)) pa_nil))))) pa_nil))))
      (pss_cons (ps_if (pt_cmp (pc_din hu (pv 4) (pv 2))) (pss_one (ps_ret (pe_op op_cat (pe_callTy (call_list_of) (by rfl) G.bList (by decide +kernel) (pa_cons (pe_dget hu (pv 2) (pv 4) (fun _ _ => rfl)) pa_nil)) (pe_callTy (call_list_of) (by rfl) G.bList (by decide +kernel) (pa_cons (pv 3) pa_nil))))) pss_nil)
      (pss_one (ps_dput hu (pv 2) (pv 4) (pv 3) rfl)))))
      (pss_one (ps_ret (pe_lst (pa_cons (pgi G.cNoneThere) pa_nil))))))), ?_⟩
  obtain ⟨fo, a, s, y, rfl, hD, ho⟩ := h
  obtain ⟨hg, dx, pt, pa, pp, ha, hT, hA, hP⟩ := id hD.all
  obtain ⟨dt, pm, pw, hT1, _⟩ := id hT
  have est : Ut08.step s (.clash y) = (s, if y = 0 ∨ 9999 < y then [-1] else match Ut08.clash s.tongue s.pat y with
    | none => [-6]
    | some x => Ut08.ints (dayRow x.1 ++ dayRow x.2)) := rfl
  rw [est] at ho
  refine q_refuse (b := !(decide (1 ≤ y) && decide (y ≤ 9999))) (ev_notV (ev_c1 (ea_cons (ev_var rfl) ea_nil) sv_isYear)) ev_c (fun hb => ho.2 (-1) ?_) fun hb H1 e1 => ?_
  · rw [if_pos]
    simp only [Bool.not_eq_true', Bool.and_eq_false_iff, decide_eq_false_iff_not] at hb
    omega
  simp only [Bool.not_eq_false', Bool.and_eq_true, decide_eq_true_eq] at hb
  rw [if_neg (by omega)] at ho
  intro d hd
  have hdH : H d = none := fresh_back e1 hd
  refine ⟨_, rfl, y, rfl, fun p ps H3 hp e3 h3 hos => ?_⟩
  have hd3 : H3 d = some (.dT []) := e3 d _ upd_same
  have hpd : p ≠ d := fun z => by rw [z, upd_same] at hp; cases hp
  have hexd : Ex H (del H3 d) := fun b o hb => by
    have hbd : b ≠ d := ne_of_none hb hdH
    rw [del_ne hbd]
    exact e3 b o (by rw [upd_ne hbd]; exact e1 b o hb)
  have hos' : ObjsAt (del H3 d) dayV ps (daysOf y) := ObjsAt.of hos.len fun j b x h1 h2 => by
    obtain ⟨x', hx', hb⟩ := hos.get h1
    have : b ≠ d := fun z => by rw [z, hd3] at hb; cases hb
    rw [del_ne this, hb]
    rw [h2] at hx'
    cases hx'
    rfl
  have h3' : (del H3 d) p = some (.lst (ps.map V.ref)) := by rw [del_ne hpd]; exact h3
  obtain ⟨tx, htx⟩ : ∃ tx, tx = texts s.tongue s.pat y := ⟨_, rfl⟩
  have hot : ObjsAt (del H3 d) (fun z : Day × Bytes => dayV z.1) ps tx := by rw [htx]; exact objs_texts hos'
  have hl1 := hot.len
  have hl2 := daysOf_len y
  have hl3 : ps.length ≤ 366 := by rw [hos'.len]; exact hl2
  show tSeq (tFor (iList K (tC (.ref p))) (gName 3) _) _ _ _ H3
  refine q_forLn (a := p) (xs := ps.map V.ref) ev_c (sq_of h3) (fun i σ H' => Ex (del H3 d) H' ∧ ∃ o1 o2 : Option V, σ = [some (.ref a), some (nv y), some (.ref d), o1, o2] ∧ H' d = some (.dT (ent (ps.take i) (tx.take i))) ∧ ∀ (j : Nat) x, j < i → tx[j]? = some x → ((tx.take j).any fun z => z.2 == x.2) = false) (fun H4 e4 => ⟨(ex_del d).trans e4, none, none, rfl, e4 d _ hd3, fun j x hj => by omega⟩) (fun i σ H' _ ⟨e, _⟩ => sq_of (e p _ h3'))
    (fun i v σ H' hv ⟨e, o1, o2, hσ, hdd, hno⟩ => ?_) (fun σ H' ⟨e, o1, o2, hσ, hdd, hno⟩ => ?_)
  · subst hσ
    rw [List.getElem?_map] at hv
    cases eqa : ps[i]? with
    | none => rw [eqa] at hv; cases hv
    | some b =>
      rw [eqa] at hv
      cases hv
      obtain ⟨x, hx, hxd⟩ := hos'.get eqa
      have hxm : x ∈ daysOf y := List.mem_of_getElem? hx
      obtain ⟨x1, x2, x3, x4, x5⟩ := mem_daysOf hxm
      have hok : dayOk x = true := dayOk_iff.mpr ⟨by omega, by omega, x2, x3, x4, by rw [x1]; exact x5⟩
      have x7 := day_le hok
      have hlen := dayText_len hg.ton hg.pat (x := x) (by omega) ⟨x2, x3⟩ x7
      have htxi : tx[i]? = some (x, dayText s.tongue s.pat x) := by
        rw [htx]
        unfold texts
        rw [List.getElem?_map, hx]
        rfl
      have eH := hexd.trans e
      have ha1 := eH a _ ha
      have hbx := e b _ hxd
      refine q_asgU (xs := nl (dayText s.tongue s.pat x)) (eu_tupL (el_meth (ev_fld (ev_var rfl) ha1 T.cl T.nTongue rfl) (eH pt _ hT1) rfl (ea_cons (ev_fld (ev_var rfl) ha1 T.cl T.nPattern rfl) (ea_cons (ev_ixT (j := 0) (ev_var rfl) ev_c (st_of hbx) rfl rfl) (ea_cons (ev_ixT (j := 1) (ev_var rfl) ev_c (st_of hbx) rfl rfl) (ea_cons (ev_ixT (j := 2) (ev_var rfl) ev_c (st_of hbx) rfl rfl) ea_nil)))) (sl_twritten (hT.mono eH) hg.ton (hP.mono eH) hg.pat hok))) fun tt H5 htt e5 h5 => ?_
      rw [← tk_map] at h5
      have hd5 := e5 d _ hdd
      rcases ent_find (H := del H3 d) (w := dayText s.tongue s.pat x) (as := ps.take i) (zs := tx.take i) (hot.takeG i) with ⟨f1, f2⟩ | ⟨b2, z, f1, f2, f3⟩
      · refine q_when (b := false) (et_dinT hd5 h5 (ev_var rfl) (ev_var rfl) (by rw [f1]; rfl)) (fun z => Bool.noConfusion z) fun _ H6 e6 => ?_
        have hle := ent_len (ps.take i) (tx.take i)
        rw [List.length_take] at hle
        have e06 := (e.trans e5).trans e6
        refine s_dputT (e6 d _ hd5) (e6 tt _ h5) (ev_var rfl) (ev_var rfl) (ev_var rfl) (by omega) fun H7 e7 => ⟨(e06.trans e7).mut del_same, _, _, rfl, ?_, fun j u hj hu => ?_⟩
        · rw [upd_same, putK_new _ f1, List.take_add_one, eqa, List.take_add_one, htxi]
          show some (HO.dT _) = some (HO.dT (ent (ps.take i ++ [b]) (tx.take i ++ [(x, dayText s.tongue s.pat x)])))
          rw [ent_snoc (by rw [List.length_take, List.length_take, hl1])]
        · by_cases hji : j < i
          · exact hno j u hji hu
          · have : j = i := by omega
            subst this
            rw [htxi] at hu
            cases hu
            exact f2
      · refine q_when (b := true) (et_dinT hd5 h5 (ev_var rfl) (ev_var rfl) (by rw [f1]; rfl)) (fun _ H6 e6 => ?_) fun z => Bool.noConfusion z
        have e56 := e5.trans e6
        have hc := clash_some (t := s.tongue) (ps := s.pat) (y := y) (i := i) (x := (x, dayText s.tongue s.pat x)) (z := z) (by rw [← htx]; exact htxi) (by rw [← htx]; exact f2) (fun j x hj hx => by rw [← htx] at hx ⊢; exact hno j x hj hx)
        rw [hc] at ho
        refine s_retR1 (xs := nl (dayRow z.1 ++ dayRow x)) (el_is (el_cat (xs := nl (dayRow z.1)) (ys := nl (dayRow x)) (er_l (el_listT (ev_dgetT (e6 d _ hd5) (e6 tt _ h5) (ev_var rfl) (ev_var rfl) f1) (e56 b2 _ (e b2 _ f3)))) (er_l (el_listT (ev_var rfl) (e56 b _ hbx))) (by show 3 + 3 ≤ 1000000; decide)) (nl_app _ _).symm) fun p H7 hpn e7 h7 => ho.same hD (fresh_back (eH.trans e56) hpn) ((eH.trans e56).trans e7) h7
  · subst hσ
    rw [List.length_map] at hno
    have hc := clash_none (t := s.tongue) (ps := s.pat) (y := y) fun i x hx => by
      rw [← htx] at hx ⊢
      refine hno i x ?_ hx
      rw [hl1]
      exact (List.getElem?_eq_some_iff.mp hx).1
    rw [hc] at ho
    refine s_retR1 (xs := [.int (-6)]) (el_lst (ea_cons ev_c ea_nil) (by show 1 ≤ 100000; decide)) fun p H7 hpn e7 h7 => ho.one hD (fresh_back (hexd.trans e) hpn) ((hexd.trans e).trans e7) h7
end
end Wd
namespace Wd
open PySem PySem.Spec PyProof.Rows L2 Evl
open Ut08 (Day Part Tongue Num isDigit House dayOk dayText dayRead dayRow numberOf weekday daysOf dayAt row Bytes numText)
abbrev sDone : Stmt := inClass (topS 65) 10
abbrev sAnswer : Stmt := inClass (topS 65) 11
theorem scDone : FnScope ["self", "call", "numbers", "rows"] ["self", "call", "numbers", "rows"] (defScope sDone) := ⟨rfl, rfl, rfl, by decide +kernel, rfl, by decide +kernel, by decide +kernel⟩
theorem scAnswer : FnScope ["self", "call", "numbers", "rows", "e"] ["self", "call", "numbers", "rows"] (defScope sAnswer) := ⟨rfl, rfl, rfl, by decide +kernel, rfl, by decide +kernel, by decide +kernel⟩
structure DoneIn (c : Cs) (fo : Addr) (H : Hp) (vs : List V) (a : Addr) (s : House) (x : Ut08.Call) (p : Nat) (pn pr : Addr) (ns : List Nat) (rows : List (List Nat)) : Prop where
  vs : vs = [.ref a, nv p, .ref pn, .ref pr]
  desk : DeskL c fo H a s
  nums : H pn = some (.lst (nl ns))
  rws : RowsAt (del H fo) pr rows
  is : CallIs p ns rows x
def spDone (c : Cs) : Sp := fun vs H Q E => ∃ fo a s x p pn pr ns rows, DoneIn c fo H vs a s x p pn pr ns rows ∧ Out c fo a H s (Ut08.step s x) Q E
/-- the answer is given or the number of the refusal -/
def spAnswer (c : Cs) : Sp := fun vs H Q _ => ∃ fo a s x p pn pr ns rows, DoneIn c fo H vs a s x p pn pr ns rows ∧ (∀ (p : Addr) (H' : Hp), ExB a H H' → DeskAt c (del H' fo) a (Ut08.step s x).1 → (del H' fo) p = some (.lst ((Ut08.step s x).2.map V.int)) → Q (.ref p) H')
theorem Out.mono {c : Cs} {fo a : Addr} {H H1 : Hp} {s : House} {r : House × List Int} {Q : VK} {E : XK} (e : Ex H H1) (h : Out c fo a H s r Q E) : Out c fo a H1 s r Q E :=
  ⟨fun p H' eb hd hp => h.1 p H' (fun b o hb hn => eb b o (e b o hb) hn) hd hp, fun n hn => (h.2 n hn).mono e⟩
section
variable {K : PySem.W.Frag} {σ : L2.St} {H H' : Hp} {ta tb tc te tx tn : TE} {t u : TT} {x y z v : V} {D : Ends} {tz tu : TS} {E : XK} {C : Addr}
theorem q_skip {n : Nat} {j : Int} (hs : σ[1]? = some (some (nv n))) (h : ((n : Nat) : Int) ≠ j) (k : tz D σ H) : tSeq (tIfS (tTest (tOp rEq (tVar 1) (tC (.int j)))) tu tNext) tz D σ H :=
  ⟨_, hs, rfl, false, by
    congr 1
    exact decide_eq_false fun z => h (V.int.inj z), k⟩
theorem q_take {n : Nat} {j : Int} (hs : σ[1]? = some (some (nv n))) (h : ((n : Nat) : Int) = j) (k : tu { D with nx := tz D } σ H) : tSeq (tIfS (tTest (tOp rEq (tVar 1) (tC (.int j)))) tu tNext) tz D σ H :=
  ⟨_, hs, rfl, true, by
    congr 1
    exact decide_eq_true (congrArg V.int h), iteT k⟩
/-- return o.m(..) -/
theorem s_retM {a dx : Addr} {fs : List (Str × V)} {m : Str} {sp : Sp} {tr : TA} {vs : List V} (ha : Ev ta σ H (.ref a)) (h : H a = some (.ins C dx fs)) (l : fs.lookup m = none) (hr : EvA tr σ H vs) (k : ∀ H1, Ex H H1 → sp (.ref a :: vs) H1 D.rt E) : tRet (tMeth C m sp [] E ta tr) D σ H :=
  ha H (Ex.refl H) _ fun H1 e1 => ⟨a, dx, fs, rfl, e1 a _ h, l, hr H1 e1 _ fun H2 e2 => by
    rw [List.append_nil]
    exact k H2 (e1.trans e2)⟩
end
section
variable {X : Cx} {CX : CXT} {k j : Nat} {C : Addr} {x m : Str} {sp : Sp} {p pos apos : Pos} {e o : Expr} {es : List Expr} {ta : TE} {t : TA} {E : L2.St → XK}
/-- o.m(e, ..) within a try (the guide's word) -/
def tMethS (C : Addr) (m : Str) (sp : Sp) (E : L2.St → XK) (ta : TE) (t : TA) : TE := fun σ H Q => ta σ H fun x H1 => ∃ a dx fs, x = .ref a ∧ H1 a = some (.ins C dx fs) ∧ fs.lookup m = none ∧ t σ H1 fun vs H2 => sp (x :: vs) H2 Q (E σ)
theorem pe_ms {pl : Sem Bool} (c : Met X.prog X.w X.K X.mg X.base CX k C m sp) (hr : Room j X.A) (hk : k ≤ j) (hx : ∀ σ, PassesAt CX X σ (E σ)) (he : PE X o ta) (ha : PA X (e :: es) t)
    (hst : starEach (e :: es) X.env = (false, eval e X.env) :: starEach es X.env := by rfl) (hpl : (backTo pos (starEach es X.env)).any (·.1) = false := by rfl)
    (ht : eval (.Call (.Attribute o m apos) (e :: es) [] pos) X.env = (do
      let ov ← eval o X.env
      standAt apos.atName
      let (f, first) ← holding [ov] (getMethod ov m pl)
      callWith pos f first (backTo pos (starEach (e :: es) X.env)) (backToKw pos (keywordEach [] X.env))) := by rfl) :
    PE X (.Call (.Attribute o m apos) (e :: es) [] pos) (tMethS C m sp E ta t) := by
  obtain ⟨f, fd, ps, hc, hm, F, hb⟩ := c.ex
  refine ⟨fun pins s σ H Q I h => ?_⟩
  refine PySem.W.methodCall_KW (pl := pl) (thn (he.run pins s σ H _ I h) fun u s1 ⟨x, H1, I1, rx, a, dx, fs, ex, ea, l, q⟩ => ?_) ht
  subst ex
  obtain rfl : u = Value.ref a := rx
  refine getmeth_ok I1 ea hc hm l ?_
  refine PySem.W.callWith_K (first := [.ref a]) (h₀ := X.base) I.ok.mod.kin hm.kp (thn (ha.run pos pins s1 σ H1 _ I1 q) fun us s2 ⟨vs, H2, I2, r, q2⟩ => ⟨I2.kIn, ?_⟩) hst hpl
  exact run_fnS (us := .ref a :: us) (vs := .ref a :: vs) F (hr.mono hk) hb (hx σ) I2 (.cons rfl r) q2
end
section
variable {P : Program} {w : World} {K : PySem.W.Frag} {mg : Str → Option Value} {base : Heap} {c : Cs}
theorem ok_done {f : Addr} {fd : FuncData} (F : Fun K "done" "Desk.done" sDone f fd) (T : DeskC K c.d) (c1 : Cal P w K mg base CX0 1 "counted" spCounted) (mw : Met P w K mg base CX0 3 c.a "written" (spAWritten c.a))
    (m0 : Met P w K mg base (L2.CX P w) 4 c.d "put_tongue" (spPutTongue c)) (m1 : Met P w K mg base (L2.CX P w) 4 c.d "put_amounts" (spPutAmounts c)) (m2 : Met P w K mg base (L2.CX P w) 4 c.d "put_pattern" (spPutPattern c))
    (m4 : Met P w K mg base (L2.CX P w) 5 c.d "read" (spDRead c)) (m5 : Met P w K mg base (L2.CX P w) 6 c.d "day" (spDDay c)) (m6 : Met P w K mg base (L2.CX P w) 7 c.d "means" (spDMeans c))
    (m7 : Met P w K mg base (L2.CX P w) 6 c.d "clash" (spDClash c)) (m8 : Met P w K mg base (L2.CX P w) 5 c.d "week" (spDWeek c)) (m9 : Met P w K mg base (L2.CX P w) 4 c.d "on" (spDOn c)) :
    FnOk P w K mg base (L2.CX P w) 8 f fd ["self", "call", "numbers", "rows"] (spDone c) := by
  refine F.okX scDone (fun vs H Q E h => by obtain ⟨fo, a, s, x, p, pn, pr, ns, rows, ⟨rfl, _, _, _, _⟩, _⟩ := h; rfl) (fun cdv A outer s H vs Q E hr h => ?_)
  refine ⟨_, (pss_cons (ps_if (pt_cmpR op_eq (pv 1) pe_int (nomark _)) (pss_one (ps_ret (pe_mt m0 hr (by decide) (passes_call (takes_of rfl rfl rfl rfl) (fun _ _ _ _ h => h)) (pv 0) (by exact (pa_cons (pe_ix ix_list (pv 2) pe_int (fun _ _ => rfl)) (pa_cons (pv 3) pa_nil)))))) pss_nil)
      (pss_cons (ps_if (pt_cmpR op_eq (pv 1) pe_int (nomark _)) (pss_one (ps_ret (pe_mt m1 hr (by decide) (passes_call (takes_of rfl rfl rfl rfl) (fun _ _ _ _ h => h)) (pv 0) (by exact (pa_cons (pv 2) pa_nil))))) pss_nil)
      (pss_cons (ps_if (pt_cmpR op_eq (pv 1) pe_int (nomark _)) (pss_one (ps_ret (pe_mt m2 hr (by decide) (passes_call (takes_of rfl rfl rfl rfl) (fun _ _ _ _ h => h)) (pv 0) (by exact (pa_cons (pe_ix ix_list (pv 3) pe_int (fun _ _ => rfl)) pa_nil))))) pss_nil)
      (pss_cons (ps_if (pt_cmpR op_eq (pv 1) pe_int (nomark _)) (pss_one (ps_ret (pe_c c1 hr (by decide) pass0 rfl (by exact (pa_cons (pe_mt mw hr (by decide) pass0 (pe_fld (pv 0) rfl) (pa_cons (pe_cmpR op_eq (pe_ix ix_list (pv 2) pe_int (fun _ _ => rfl)) pe_int (nomark _)) (pa_cons (pe_ix ix_list (pv 2) pe_int (fun _ _ => rfl)) pa_nil))) pa_nil))))) pss_nil)
      (pss_cons (ps_if (pt_cmpR op_eq (pv 1) pe_int (nomark _)) (pss_one (ps_ret (pe_mt m4 hr (by decide) (passes_call (takes_of rfl rfl rfl rfl) (fun _ _ _ _ h => h)) (pv 0) (by exact (pa_cons (pe_ix ix_list (pv 3) pe_int (fun _ _ => rfl)) pa_nil))))) pss_nil)
      (pss_cons (ps_if (pt_cmpR op_eq (pv 1) pe_int (nomark _)) (pss_one (ps_ret (pe_mt m5 hr (by decide) (passes_call (takes_of rfl rfl rfl rfl) (fun _ _ _ _ h => h)) (pv 0) (by exact (pa_cons (pe_ix ix_list (pv 2) pe_int (fun _ _ => rfl)) (pa_cons (pe_ix ix_list (pv 2) pe_int (fun _ _ => rfl)) (pa_cons (pe_ix ix_list (pv 2) pe_int (fun _ _ => rfl)) pa_nil))))))) pss_nil)
      (pss_cons (ps_if (pt_cmpR op_eq (pv 1) pe_int (nomark _)) (pss_one (ps_ret (pe_mt m6 hr (by decide) (passes_call (takes_of rfl rfl rfl rfl) (fun _ _ _ _ h => h)) (pv 0) (by exact (pa_cons (pe_ix ix_list (pv 2) pe_int (fun _ _ => rfl)) (pa_cons (pe_ix ix_list (pv 3) pe_int (fun _ _ => rfl)) pa_nil)))))) pss_nil)
      (pss_cons (ps_if (pt_cmpR op_eq (pv 1) pe_int (nomark _)) (pss_one (ps_ret (pe_mt m7 hr (by decide) (passes_call (takes_of rfl rfl rfl rfl) (fun _ _ _ _ h => h)) (pv 0) (by exact (pa_cons (pe_ix ix_list (pv 2) pe_int (fun _ _ => rfl)) pa_nil))))) pss_nil)
      (pss_cons (ps_if (pt_cmpR op_eq (pv 1) pe_int (nomark _)) (pss_one (ps_ret (pe_mt m8 hr (by decide) (passes_call (takes_of rfl rfl rfl rfl) (fun _ _ _ _ h => h)) (pv 0) (by exact (pa_cons (pe_ix ix_list (pv 2) pe_int (fun _ _ => rfl)) (pa_cons (pe_ix ix_list (pv 2) pe_int (fun _ _ => rfl)) (pa_cons (pe_ix ix_list (pv 2) pe_int (fun _ _ => rfl)) pa_nil))))))) pss_nil)
      (pss_one (ps_ret (pe_mt m9 hr (by decide) (passes_call (takes_of rfl rfl rfl rfl) (fun _ _ _ _ h => h)) (pv 0) (by exact (pa_cons (pe_ix ix_list (pv 2) pe_int (fun _ _ => rfl)) pa_nil)))))))))))))), ?_⟩
  obtain ⟨fo, a, s, x, p, pn, pr, ns, rows, ⟨rfl, hD, hN, hR, hC⟩, ho⟩ := h
  obtain ⟨hg, dx, pt, pa, pp, ha, hT, hA, hP⟩ := id hD.all
  have ix : ∀ {σ : L2.St} {i : Nat} {n : Nat} {H' : Hp}, σ[2]? = some (some (.ref pn)) → Ex H H' → ns[i]? = some n → Ev (tOp (rIxL K) (tVar 2) (tC (.int (i : Int)))) σ H' (nv n) := fun hs e hi => ev_ixNL (ev_var hs) ev_c (e pn _ hN) rfl hi
  cases hC with
  | tongue y rows h19 hrl =>
    refine q_take rfl rfl ?_
    exact s_retM (ev_var rfl) ha rfl (ea_cons (ix (i := 0) rfl (Ex.refl H) rfl) (ea_cons (ev_var rfl) ea_nil)) fun H1 e1 => ⟨fo, a, pr, s, y, _, rfl, hD.mono e1, hR.mono (del_mono e1 fo), h19, fun r hr => Nat.le_trans (hrl r hr) (by decide), ho.mono e1⟩
  | num g p l m h i =>
    refine q_skip rfl (by decide) (q_take rfl rfl ?_)
    exact s_retM (ev_var rfl) ha rfl (ea_cons (ev_var rfl) ea_nil) fun H1 e1 => ⟨fo, a, pn, s, g, p, l, m, h, i, rfl, hD.mono e1, e1 pn _ hN, ho.mono e1⟩
  | pat r ps hp hr =>
    obtain ⟨as, hr1, hr2⟩ := hR.mono (ex_del fo)
    match as, hr2 with
    | [q], hr2 =>
    refine q_skip rfl (by decide) (q_skip rfl (by decide) (q_take rfl rfl ?_))
    exact s_retM (ev_var rfl) ha rfl (ea_cons (ev_ixL (j := 0) (ev_var rfl) ev_c (sq_of hr1) rfl rfl) ea_nil) fun H1 e1 => ⟨fo, a, q, s, r, ps, rfl, hD.mono e1, e1 q _ hr2.1, by omega, ⟨_, hp⟩, fun p hpm => by have := partsIn_own hp p hpm; omega, ho.mono e1⟩
  | writeNum b n hn =>
    obtain ⟨da, hA1⟩ := id hA
    refine q_skip rfl (by decide) (q_skip rfl (by decide) (q_skip rfl (by decide) (q_take rfl rfl ?_)))
    have hlen := numText_len hg.num (decide (b = 1)) n
    refine s_retR1 (el_cL (er_l (el_meth (ev_fld (ev_var rfl) ha T.cl T.nAmounts rfl) hA1 rfl (ea_cons (ev_eqI (p := decide (b = 1)) (ix (i := 0) rfl (Ex.refl H) rfl) ev_c (decide_eq_decide.mpr (by omega))) (ea_cons (ix (i := 1) rfl (Ex.refl H) rfl) ea_nil)) (sl_awritten hA hg.num (by omega)))) fun p H2 e2 h2 => sl_counted h2 (by omega)) fun p H2 hpn e2 h2 => ho.same hD hpn e2 h2
  | readNum r hr =>
    obtain ⟨as, hr1, hr2⟩ := hR.mono (ex_del fo)
    match as, hr2 with
    | [q], hr2 =>
    refine q_skip rfl (by decide) (q_skip rfl (by decide) (q_skip rfl (by decide) (q_skip rfl (by decide) (q_take rfl rfl ?_))))
    exact s_retM (ev_var rfl) ha rfl (ea_cons (ev_ixL (j := 0) (ev_var rfl) ev_c (sq_of hr1) rfl rfl) ea_nil) fun H1 e1 => ⟨fo, a, q, s, r, rfl, hD.mono e1, e1 q _ hr2.1, by omega, ho.mono e1⟩
  | writeDay y m d =>
    refine q_skip rfl (by decide) (q_skip rfl (by decide) (q_skip rfl (by decide) (q_skip rfl (by decide) (q_skip rfl (by decide) (q_take rfl rfl ?_)))))
    exact s_retM (ev_var rfl) ha rfl (ea_cons (ix (i := 0) rfl (Ex.refl H) rfl) (ea_cons (ix (i := 1) rfl (Ex.refl H) rfl) (ea_cons (ix (i := 2) rfl (Ex.refl H) rfl) ea_nil))) fun H1 e1 => ⟨fo, a, s, ⟨y, m, d⟩, rfl, hD.mono e1, ho.mono e1⟩
  | readDay y r hr =>
    obtain ⟨as, hr1, hr2⟩ := hR.mono (ex_del fo)
    match as, hr2 with
    | [q], hr2 =>
    refine q_skip rfl (by decide) (q_skip rfl (by decide) (q_skip rfl (by decide) (q_skip rfl (by decide) (q_skip rfl (by decide) (q_skip rfl (by decide) (q_take rfl rfl ?_))))))
    exact s_retM (ev_var rfl) ha rfl (ea_cons (ix (i := 0) rfl (Ex.refl H) rfl) (ea_cons (ev_ixL (j := 0) (ev_var rfl) ev_c (sq_of hr1) rfl rfl) ea_nil)) fun H1 e1 => ⟨fo, a, q, s, y, r, rfl, hD.mono e1, e1 q _ hr2.1, by omega, ho.mono e1⟩
  | clash y =>
    refine q_skip rfl (by decide) (q_skip rfl (by decide) (q_skip rfl (by decide) (q_skip rfl (by decide) (q_skip rfl (by decide) (q_skip rfl (by decide) (q_skip rfl (by decide) (q_take rfl rfl ?_)))))))
    exact s_retM (ev_var rfl) ha rfl (ea_cons (ix (i := 0) rfl (Ex.refl H) rfl) ea_nil) fun H1 e1 => ⟨fo, a, s, y, rfl, hD.mono e1, ho.mono e1⟩
  | week y m d =>
    refine q_skip rfl (by decide) (q_skip rfl (by decide) (q_skip rfl (by decide) (q_skip rfl (by decide) (q_skip rfl (by decide) (q_skip rfl (by decide) (q_skip rfl (by decide) (q_skip rfl (by decide) (q_take rfl rfl ?_))))))))
    exact s_retM (ev_var rfl) ha rfl (ea_cons (ix (i := 0) rfl (Ex.refl H) rfl) (ea_cons (ix (i := 1) rfl (Ex.refl H) rfl) (ea_cons (ix (i := 2) rfl (Ex.refl H) rfl) ea_nil))) fun H1 e1 => ⟨fo, a, s, ⟨y, m, d⟩, rfl, hD.mono e1, ho.mono e1⟩
  | on n =>
    refine q_skip rfl (by decide) (q_skip rfl (by decide) (q_skip rfl (by decide) (q_skip rfl (by decide) (q_skip rfl (by decide) (q_skip rfl (by decide) (q_skip rfl (by decide) (q_skip rfl (by decide) (q_skip rfl (by decide) ?_))))))))
    exact s_retM (ev_var rfl) ha rfl (ea_cons (ix (i := 0) rfl (Ex.refl H) rfl) ea_nil) fun H1 e1 => ⟨fo, a, s, n, rfl, hD.mono e1, ho.mono e1⟩
theorem ok_answer {f : Addr} {fd : FuncData} (F : Fun K "answer" "Desk.answer" sAnswer f fd) (R : RefC K mg c.r) (m1 : Met P w K mg base (L2.CX P w) 8 c.d "done" (spDone c)) :
    FnOk P w K mg base CX0 9 f fd ["self", "call", "numbers", "rows"] (spAnswer c) := by
  refine F.ok scAnswer (fun vs H Q E h => by obtain ⟨fo, a, s, x, p, pn, pr, ns, rows, ⟨rfl, _, _, _, _⟩, _⟩ := h; rfl) (fun cdv A outer s H vs Q E hr h => ?_)
  refine ⟨_, pss_one (ps_try_as (i := 4) (tb := fun W => tRet (tMethS c.d "done" (spDone c) (WE W) (tVar 0) (tCons (tVar 1) (tCons (tVar 2) (tCons (tVar 3) tNil))))) (ts := fun a cls d => tRet (tLst (tCons (tXf a cls d c.r "number" (tVar 4)) tNil))) (Wout := fun _ _ _ _ => False) rfl rfl scAnswer.nd rfl rfl ⟨rfl, by decide, Or.inl R.gC⟩ takes0
    (fun W pn xe tk _ => pss_one (ps_ret (pe_ms m1 hr (by decide) (fun σ => passAt tk σ) (pv 0) (by exact (pa_cons (pv 1) (pa_cons (pv 2) (pa_cons (pv 3) pa_nil)))))))
    (fun a oe cls d pn hz hf => pss_one (ps_ret (pe_lst (by exact (pa_cons (pe_xf R.xf R.noN hz hf (pv 4)) pa_nil)))))), ?_⟩
  obtain ⟨fo, a, s, x, p, pn, pr, ns, rows, ⟨rfl, hD, hN, hR, hC⟩, ho⟩ := h
  obtain ⟨hg, dx, pt, pa, pp, ha, hT, hA, hP⟩ := id hD.all
  refine ⟨_, rfl, a, dx, _, rfl, ha, rfl, _, rfl, _, rfl, _, rfl, fo, a, s, x, p, pn, pr, ns, rows, ⟨rfl, hD, hN, hR, hC⟩, ho, fun n hn d H' e' hd => ?_⟩
  refine ⟨true, R.te, fun _ b hb => ?_, fun q => Bool.noConfusion q⟩
  show tRet (tLst (tCons (tXf b (.ref c.r) (some d) c.r "number" (tVar 4)) tNil)) _ _ H'
  refine s_retR1 (xs := [.int n]) (el_lst (ea_cons (x := .int n) (show Ev (tXf b (.ref c.r) (some d) c.r "number" (tVar 4)) _ H' (.int n) from fun H2 e2 Q q => ⟨_, rfl, rfl, rfl, d, _, .int n, rfl, e2 d _ hd, rfl, q H2 (Ex.refl H2)⟩) ea_nil) (by show 1 ≤ 100000; decide)) fun p H2 hpn e2 h2 => ?_
  refine ho p H2 (.of (e'.trans e2)) ?_ ?_
  · rw [hn]
    exact (hD.mono (e'.trans e2)).own
  · rw [hn, del_ne ((hD.mono e').new hpn)]
    exact h2
end
end Wd
namespace Wd
open PySem PySem.Spec PyProof.Rows L2 Evl
open Ut08 (Day Part Tongue Num House)
open Ut08Neutral (rowsIn)
abbrev sRowsAt : Stmt := topS 69
abbrev sAnswers : Stmt := topS 70
theorem scRowsAt : FnScope ["calls", "at", "many", "found", "k", "end"] ["calls", "at", "many"] (defScope sRowsAt) := ⟨rfl, rfl, rfl, by decide +kernel, rfl, by decide +kernel, by decide +kernel⟩
theorem scAnswers : FnScope ["calls", "desk", "found", "at", "call", "end", "numbers", "rows", "told"] ["calls"] (defScope sAnswers) := ⟨rfl, rfl, rfl, by decide +kernel, rfl, by decide +kernel, by decide +kernel⟩
def spRowsAt (K : PySem.W.Frag) : Sp := fun vs H Q _ => ∃ (p x : Addr) (ns : List Nat) (at' k : Nat) (rows : List (List Nat)) (t : List Nat), vs = [.ref p, nv at', nv k] ∧ SqL K H p (nl ns) ∧ at' ≤ ns.length ∧ k ≤ 100 ∧ rowsIn k (ns.drop at') = some (rows, t) ∧ (∃ o, H x = some o) ∧
  ∀ (q pr : Addr) (en : Nat) (H2 : Hp), Ex H H2 → H2 q = some (.tup [.ref pr, nv en]) → RowsAt (del H2 x) pr rows → ns.drop en = t → at' ≤ en → en ≤ ns.length → Q (.ref q) H2
def spAnswers (K : PySem.W.Frag) : Sp := fun vs H Q _ => ∃ (a : Addr) (l : List Int), vs = [.ref a] ∧ SqL K H a (l.map V.int) ∧ (∀ z ∈ l, 0 ≤ z) ∧ l.length ≤ 8000 ∧ PyUt08.answers_asked l = true ∧
  ∀ (H' : Hp) (p : Addr), H' p = some (.lst ((PyUt08.answers l).map V.int)) → Q (.ref p) H'
theorem ObjsAt.snoc {β : Type} {H : Hp} {o : β → HO} {as : List Addr} {bs : List β} {a : Addr} {b : β} (h : ObjsAt H o as bs) (h' : H a = some (o b)) : ObjsAt H o (as ++ [a]) (bs ++ [b]) := h.app ⟨h', trivial⟩
section
variable {K : PySem.W.Frag} {σ : L2.St} {H H' : Hp} {ta tb tc te tx tn : TE} {t u : TT} {x y z v : V} {D : Ends} {tz tu : TS} {E : XK} {C : Addr}
/-- xs.append(e), up to the model's line -/
theorem q_appZ {l : Addr} {xs : List V} (hl : H l = some (.lst xs)) (ha : Ev ta σ H (.ref l)) (h : Ev te σ H v) (hz : xs.length ≤ 10000000) (k : ∀ H1, Ex H H1 → tz D σ (upd H1 l (.lst (xs ++ [v])))) :
    tSeq (tDrop (tBM K "list" rAppend ta (tCons te tNil))) tz D σ H := ha H (Ex.refl H) _ fun H1 e1 =>
  ⟨Or.inl ⟨rfl, xs, sq_of (e1 l _ hl)⟩, h H1 e1 _ fun H2 e2 => ⟨l, xs, v, rfl, rfl, e2 l _ (e1 l _ hl), Nat.lt_of_le_of_lt hz (by decide), k H2 (e1.trans e2)⟩⟩
/-- xs.extend(ys), ys a list that is there -/
theorem s_extR {l p : Addr} {xs ys : List V} (hl : H l = some (.lst xs)) (hp : H p = some (.lst ys)) (ha : Ev ta σ H (.ref l)) (h : Ev te σ H (.ref p)) (hz : xs.length + ys.length ≤ 10000000) (k : ∀ H1, Ex H H1 → D.nx σ (upd H1 l (.lst (xs ++ ys)))) :
    tDrop (tBM K "list" rExtend ta (tCons te tNil)) D σ H := ha H (Ex.refl H) _ fun H1 e1 =>
  ⟨Or.inl ⟨rfl, xs, sq_of (e1 l _ hl)⟩, h H1 e1 _ fun H2 e2 => ⟨l, p, xs, ys, rfl, rfl, e2 l _ (e1 l _ hl), e2 p _ (e1 p _ hp), Nat.le_trans hz (by decide), k H2 (e1.trans e2)⟩⟩
end
section
variable {P : Program} {w : World} {K : PySem.W.Frag} {mg : Str → Option Value} {base : Heap} {c : Cs}
theorem ok_rowsAt {f : Addr} {fd : FuncData} (F : Fun K "rows_at" "rows_at" sRowsAt f fd) (G : Gs K mg) : FnOk P w K mg base CX0 1 f fd ["calls", "at", "many"] (spRowsAt K) := by
  refine F.ok scRowsAt (fun vs H Q E h => by obtain ⟨p, x, ns, at', k, rows, t, rfl, _⟩ := h; rfl) (fun cdv A outer s H vs Q E hr h => ?_)
  refine ⟨_, (pss_cons (ps_set (i := 3) scRowsAt.nd rfl (.inl rfl) (pe_lst pa_nil))
      (pss_cons (ps_for PassesOwn.never rfl (pi_range1 rfl G.bRange (pa_cons (pv 2) pa_nil)) (pg_name (i := 4) scRowsAt.nd rfl (.inl rfl)) (pss_cons (ps_set (i := 5) scRowsAt.nd rfl (.inl rfl) (pe_op op_add (pe_op op_add (pv 1) pe_int) (pe_ix ix_list (pv 0) (pv 1) (fun _ _ => rfl))))
      (pss_cons (ps_expr (pe_bm PySem.F.plainAttrs_list PySem.F.slot_list_append PySem.F.type_list_append mt_append (pv 3) (pa_cons (pe_slice sl_list (pv 0) (po_some (pe_op op_add (pv 1) pe_int)) (po_some (pv 5))) pa_nil)))
      (pss_one (ps_set (i := 1) scRowsAt.nd rfl (.inl rfl) (pv 5))))))
      (pss_one (ps_ret (pe_tup (pa_cons (pv 3) (pa_cons (pv 1) pa_nil))))))), ?_⟩
  obtain ⟨p, x, ns, at', k, rows, t, rfl, hp, hat, hk, hrows, ⟨ox, hox⟩, ho⟩ := h
  refine q_asgL (el_lst (vs := []) ea_nil (by decide)) fun l H1 hl1 e1 h1 => ?_
  have hlx : l ≠ x := fun z => by rw [z, hox] at hl1; cases hl1
  refine q_forR1 (n := (k : Int)) (ea_cons (ev_var rfl) ea_nil) (by omega) (fun i σ H' => Ex H H' ∧ ∃ (pos : Nat) (o1 o2 : Option V) (as : List Addr) (ds qs : List (List Nat)), σ = [some (.ref p), some (nv pos), some (nv k), some (.ref l), o1, o2] ∧ at' ≤ pos ∧ pos ≤ ns.length ∧ H' l = some (.lst (as.map V.ref)) ∧ ObjsAt (del (del H' x) l) rowO as ds ∧ rowsIn (k - i) (ns.drop pos) = some (qs, t) ∧ rows = ds ++ qs ∧ as.length = i)
    (fun H2 e2 => ⟨e1.trans e2, at', none, none, [], [], rows, rfl, Nat.le_refl _, hat, e2 l _ h1, trivial, hrows, rfl, rfl⟩) (fun i σ H' hi ⟨e, pos, o1, o2, as, ds, qs, hσ, hpos0, hpos, hl', hob, hri, hrw, hal⟩ => ?_) (fun σ H' ⟨e, pos, o1, o2, as, ds, qs, hσ, hpos0, hpos, hl', hob, hri, hrw, hal⟩ => ?_)
  · subst hσ
    have ek : k - i = (k - (i + 1)) + 1 := by omega
    rw [ek] at hri
    obtain ⟨n, l', ys, hd, hn, hqs, hys⟩ := rowsIn_succ hri
    have hc : ns[pos]? = some n := by
      have : (ns.drop pos)[0]? = some n := by rw [hd]; rfl
      rwa [List.getElem?_drop, Nat.add_zero] at this
    have hd1 : ns.drop (pos + 1) = l' := by
      have : (ns.drop pos).drop 1 = l' := by rw [hd]; rfl
      rwa [List.drop_drop] at this
    have hlen : l'.length = ns.length - (pos + 1) := by rw [← hd1, List.length_drop]
    have hp1 : pos < ns.length := (List.getElem?_eq_some_iff.mp hc).1
    refine q_asg (v := nv (pos + 1 + n)) (ev_add (ev_add (ev_var rfl) ev_c rfl) (ev_ixL (j := pos) (ev_var rfl) (ev_var rfl) (ex_l e hp) rfl (nl_at hc)) rfl) fun H2 e2 => ?_
    refine q_appL (xs := as.map V.ref) (ys := nl (l'.take n)) (e2 l _ hl') (ev_var rfl) (el_is (el_sl (lo := some ((pos + 1 : Nat) : Int)) (hi := some ((pos + 1 + n : Nat) : Int)) (ev_var rfl) (eo_some (ev_add (ev_var rfl) ev_c rfl)) (eo_some (ev_var rfl)) (ex_l (e.trans e2) hp)) ?_) (by rw [List.length_map]; omega) fun q H3 hq e3 h3 => ?_
    · rw [cut_both, hd1, show pos + 1 + n - (pos + 1) = n by omega]
    have hql : q ≠ l := fun z => by rw [z, e2 l _ hl'] at hq; cases hq
    have hqx : q ≠ x := fun z => by rw [z, e2 x _ (e x _ hox)] at hq; cases hq
    refine s_asg (ev_var rfl) fun H4 e4 => ⟨(((e.trans e2).trans e3).mut hl1).trans e4, pos + 1 + n, _, _, as ++ [q], ds ++ [l'.take n], ys, rfl, by omega, by omega, ?_, ?_, ?_, ?_, ?_⟩
    · rw [List.map_append]
      exact e4 l _ upd_same
    · have em : Ex (del (del H' x) l) (del (del H3 x) l) := del_mono (del_mono (e2.trans e3) x) l
      have e8' := del_mono (del_mono e4 x) l
      rw [del_upd2] at e8'
      exact ((hob.mono em).snoc (by rw [del_ne hql, del_ne hqx]; exact h3)).mono e8'
    · rw [← List.drop_drop, hd1]
      exact hys
    · rw [hrw, hqs, List.append_assoc]
      rfl
    · rw [List.length_append, hal]
      rfl
  · subst hσ
    rw [Int.toNat_natCast, Nat.sub_self] at hri
    cases hri
    rw [List.append_nil] at hrw
    refine s_retU (xs := [.ref l, nv pos]) (eu_tup (ea_cons (ev_var rfl) (ea_cons (ev_var rfl) ea_nil)) (by show 2 ≤ 100000; decide)) fun q H2 hq e2 h2 => ho q l pos H2 (e.trans e2) h2 ⟨as, by rw [del_ne hlx]; exact e2 l _ hl', by rw [hrw]; exact (hob.mono (ex_del l)).mono (del_mono e2 x)⟩ rfl hpos0 hpos
theorem ints_nat : ∀ {l : List Int}, (∀ z ∈ l, 0 ≤ z) → ∃ ns : List Nat, l = cI ns
  | [], _ => ⟨[], rfl⟩
  | z :: l, h => by
    obtain ⟨ns, rfl⟩ := ints_nat (l := l) fun x hx => h x (List.mem_cons_of_mem _ hx)
    have := h z (List.mem_cons_self ..)
    refine ⟨z.toNat :: ns, ?_⟩
    show z :: cI ns = ((z.toNat : Nat) : Int) :: cI ns
    rw [Int.toNat_of_nonneg this]
theorem many_at {p n k : Nat} (h : PyUt08.shape (p : Int) = some (n, k)) : ([1, 6, 0, 2, 0, 3, 1, 1, 3, 1] : List Nat)[p]? = some n ∧ ([19, 0, 1, 0, 1, 0, 1, 0, 0, 0] : List Nat)[p]? = some k ∧ k ≤ 19 := by
  rcases shape_cases h with ⟨rfl, rfl, rfl⟩ | ⟨rfl, rfl, rfl⟩ | ⟨rfl, rfl, rfl⟩ | ⟨rfl, rfl, rfl⟩ | ⟨rfl, rfl, rfl⟩ | ⟨rfl, rfl, rfl⟩ | ⟨rfl, rfl, rfl⟩ | ⟨rfl, rfl, rfl⟩ | ⟨rfl, rfl, rfl⟩ | ⟨rfl, rfl, rfl⟩ <;> exact ⟨rfl, rfl, by decide⟩
theorem told_cons (s : House) (c : List (List Int)) (cs : List (List (List Int))) (r : House × List Int) (h : stepC s c = r) : PyFlat.told (PyFlat.played stepC s (c :: cs)) = ((r.2.length : Int) :: r.2) ++ PyFlat.told (PyFlat.played stepC r.1 cs) := by
  subst h
  rfl
theorem ok_answers {f : Addr} {fd : FuncData} (F : Fun K "answers" "answers" sAnswers f fd) (G : Gs K mg) (k1 : Mak P w K mg base 3 "Desk" c.d (spDeskInit c)) (c1 : Cal P w K mg base CX0 1 "rows_at" (spRowsAt K)) (m1 : Met P w K mg base CX0 9 c.d "answer" (spAnswer c)) :
    FnOk P w K mg base CX0 10 f fd ["calls"] (spAnswers K) := by
  obtain ⟨aN, mN, tN⟩ := G.cManyNumbers
  obtain ⟨aR, mR, tR⟩ := G.cManyRows
  refine F.ok scAnswers (fun vs H Q E h => by obtain ⟨a, l, rfl, _⟩ := h; rfl) (fun cdv A outer s H vs Q E hr h => ?_)
  refine ⟨_, (pss_cons (ps_set (i := 1) scAnswers.nd rfl (.inl rfl) (pe_mk0 k1 hr (by decide) (by rfl)))
      (pss_cons (ps_set (i := 2) scAnswers.nd rfl (.inl rfl) (pe_lst pa_nil))
      (pss_cons (ps_set (i := 3) scAnswers.nd rfl (.inl rfl) pe_int)
      (pss_cons (ps_while PassesOwn.never (pt_cmpR op_lt (pv 3) (pe_callB call_len_seq (by rfl) G.bLen PySem.boot_len (pa_cons (pv 0) pa_nil)) (nomark _)) (pss_cons (ps_set (i := 4) scAnswers.nd rfl (.inl rfl) (pe_ix ix_list (pv 0) (pv 3) (fun _ _ => rfl)))
      (pss_cons (ps_set (i := 5) scAnswers.nd rfl (.inl rfl) (pe_op op_add (pe_op op_add (pv 3) pe_int) (pe_ix ix_tup (pgr mN) (pv 4) (fun _ _ => rfl))))
      (pss_cons (ps_set (i := 6) scAnswers.nd rfl (.inl rfl) (pe_slice sl_list (pv 0) (po_some (pe_op op_add (pv 3) pe_int)) (po_some (pv 5))))
      (pss_cons (ps_asg (pe_c c1 hr (by decide) pass0 rfl (by exact (pa_cons (pv 0) (pa_cons (pv 5) (pa_cons (pe_ix ix_tup (pgr mR) (pv 4) (fun _ _ => rfl)) pa_nil))))) (pg_tup (by rfl) (pgs_cons (pg_name (i := 7) scAnswers.nd rfl (.inl rfl)) (pgs_cons (pg_name (i := 3) scAnswers.nd rfl (.inl rfl)) pgs_nil))))
      (pss_cons (ps_set (i := 8) scAnswers.nd rfl (.inl rfl) (pe_mt m1 hr (by decide) pass0 (pv 1) (by exact (pa_cons (pv 4) (pa_cons (pv 6) (pa_cons (pv 7) pa_nil))))))
      (pss_cons (ps_expr (pe_bm PySem.F.plainAttrs_list PySem.F.slot_list_append PySem.F.type_list_append mt_append (pv 2) (pa_cons (pe_callB call_len_seq (by rfl) G.bLen PySem.boot_len (pa_cons (pv 8) pa_nil)) pa_nil)))
      (pss_one (ps_expr (pe_bm PySem.F.plainAttrs_list PySem.F.slot_list_extend PySem.F.type_list_extend mt_extend (pv 2) (pa_cons (pv 8) pa_nil)))))))))))
      (pss_one (ps_ret (pv 2))))))), ?_⟩
  obtain ⟨p, li, rfl, hp, hpos, hlen, hask, ho⟩ := h
  obtain ⟨ns, rfl⟩ := ints_nat hpos
  obtain ⟨raw, hraw, hgood, hans, hal⟩ := asked_of hask
  rw [cI_len] at hlen
  have hp' : SqL K H p (nl ns) := by
    have e : (cI ns).map V.int = nl ns := by
      unfold cI nl
      rw [List.map_map]
      rfl
    rwa [e] at hp
  obtain ⟨ans, hAns⟩ : ∃ ans, ans = PyUt08.answers (cI ns) := ⟨_, rfl⟩
  rw [← hAns] at hans hal ho
  intro a dx na nd ne
  refine ⟨a, dx, rfl, upd_same, fun H1 hk hD1 => ⟨rfl, ?_⟩⟩
  have e1 : Ex H H1 := fun b o hb => hk b o (by rw [upd_ne (ne_of_none hb na), upd_ne (ne_of_none hb nd)]; exact hb) (ne_of_none hb na)
  show tSeq _ _ _ [some (.ref p), some (.ref a), none, none, none, none, none, none, none] H1
  refine q_asgL (el_lst (vs := []) ea_nil (by decide)) fun l H2 hl2 e2 h2 => ?_
  have hlH : H l = none := fresh_back e1 hl2
  have hal' : a ≠ l := fun z => by
    obtain ⟨_, dx', _, _, _, ha, _⟩ := hD1
    rw [z, hl2] at ha
    cases ha
  have hx1 : Ex H1 (del H2 l) := fun b o hb => by
    rw [del_ne (ne_of_none hb hl2)]
    exact e2 b o hb
  refine q_asg (v := nv 0) ev_c fun H3 e3 => ?_
  refine q_while (fun m σ H' => Ex H H' ∧ ∃ (pos : Nat) (o4 o5 o6 o7 o8 : Option V) (st : House) (acc : List Int) (g : Nat) (rest : List (List (List Int))), σ = [some (.ref p), some (.ref a), some (.ref l), some (nv pos), o4, o5, o6, o7, o8] ∧ m = ns.length - pos ∧ pos ≤ ns.length ∧ H' l = some (.lst (acc.map V.int)) ∧ DeskL c l H' a st ∧ PyFlat.calls PyUt08.shape g (cI (ns.drop pos)) = some rest ∧ (∀ c ∈ rest, GoodC c) ∧ ans = acc ++ PyFlat.told (PyFlat.played stepC st (rest.map PyUt08.whole))) ns.length
    ⟨(e1.trans e2).trans e3, 0, none, none, none, none, none, Ut08.init, [], (cI ns).length, raw, rfl, rfl, Nat.zero_le _, e3 l _ h2, ⟨⟨_, e3 l _ h2⟩, (hD1.mono hx1).mono (del_mono e3 l)⟩, hraw, hgood, hans⟩ fun m σ H' ⟨e, pos, o4, o5, o6, o7, o8, st, acc, g, rest, hσ, hm, hpl, hl', hD, hcs, hgc, ha⟩ => ?_
  subst hσ
  refine ⟨decide (pos < ns.length), et_test (ev_cI (ev_var rfl) (ev_is (ev_len (K := K) (ev_var rfl) (.inl (ex_l e hp'))) (congrArg V.int (congrArg Int.ofNat (nl_len ns)))) (decide_eq_decide.mpr (by show (pos : Int) < ((ns.length : Nat) : Int) ↔ _; omega))), fun hb H4 e4 => ?_, fun hb H4 e4 => ?_⟩
  · have hlt : pos < ns.length := of_decide_eq_true hb
    have hne : ns.drop pos ≠ [] := fun z => by
      have := congrArg List.length z
      rw [List.length_drop] at this
      simp at this
      omega
    obtain ⟨g', pl, r, n, k, xs, t, cc, rest', x, hd, hsh, hnr, hrows, hrest, hcs', hci, hstep⟩ := calls_cons hne hcs hgc
    obtain ⟨mn, mk, hk19⟩ := many_at hsh
    have hc : ns[pos]? = some pl := by
      have : (ns.drop pos)[0]? = some pl := by rw [hd]; rfl
      rwa [List.getElem?_drop, Nat.add_zero] at this
    have hd1 : ns.drop (pos + 1) = r := by
      have : (ns.drop pos).drop 1 = r := by rw [hd]; rfl
      rwa [List.drop_drop] at this
    have hlen1 : r.length = ns.length - (pos + 1) := by rw [← hd1, List.length_drop]
    refine ⟨fun σ2 H2 => ∃ m', m' < m ∧ Ex H H2 ∧ ∃ (pos : Nat) (o4 o5 o6 o7 o8 : Option V) (st : House) (acc : List Int) (g : Nat) (rest : List (List (List Int))), σ2 = [some (.ref p), some (.ref a), some (.ref l), some (nv pos), o4, o5, o6, o7, o8] ∧ m' = ns.length - pos ∧ pos ≤ ns.length ∧ H2 l = some (.lst (acc.map V.int)) ∧ DeskL c l H2 a st ∧ PyFlat.calls PyUt08.shape g (cI (ns.drop pos)) = some rest ∧ (∀ c ∈ rest, GoodC c) ∧ ans = acc ++ PyFlat.told (PyFlat.played stepC st (rest.map PyUt08.whole)), fun _ _ h => h, ?_⟩
    have e04 := e.trans e4
    refine q_asg (v := nv pl) (ev_ixL (j := pos) (ev_var rfl) (ev_var rfl) (ex_l e04 hp') rfl (nl_at hc)) fun H5 e5 => ?_
    have e05 := e04.trans e5
    refine q_asg (v := nv (pos + 1 + n)) (ev_add (ev_add (ev_var rfl) ev_c rfl) (ev_ixT (j := pl) ev_c (ev_var rfl) tN.sq rfl (nl_at mn)) rfl) fun H6 e6 => ?_
    have e06 := e05.trans e6
    refine q_asgL (xs := nl (r.take n)) (el_is (el_sl (lo := some ((pos + 1 : Nat) : Int)) (hi := some ((pos + 1 + n : Nat) : Int)) (ev_var rfl) (eo_some (ev_add (ev_var rfl) ev_c rfl)) (eo_some (ev_var rfl)) (ex_l e06 hp')) (by rw [cut_both, hd1, show pos + 1 + n - (pos + 1) = n by omega])) fun pn H7 hpn e7 h7 => ?_
    have e07 := e06.trans e7
    have eH7 := ((e4.trans e5).trans e6).trans e7
    have hD7 := hD.mono eH7
    refine (ev_ixT (j := pl) (v := nv k) ev_c (ev_var rfl) tR.sq rfl (nl_at mk) : Ev (tOp (rIxT K) (tC (.ref aR)) (tVar 4)) [some (.ref p), some (.ref a), some (.ref l), some (nv pos), some (nv pl), some (nv (pos + 1 + n)), some (.ref pn), o7, o8] H7 (nv k)) |> fun hix => ?_
    refine ⟨_, rfl, _, rfl, hix H7 (Ex.refl H7) _ fun H8 e8 => ?_⟩
    refine ⟨p, l, ns, pos + 1 + n, k, xs, t, rfl, ex_l (e07.trans e8) hp', by omega, by omega, ?_, (hD7.mono e8).there, fun q pr en H9 e9 hq hR hen hen0 hen2 => ?_⟩
    · rw [← List.drop_drop, hd1]
      exact hrows
    refine ⟨q, [.ref pr, nv en], rfl, st_of hq, rfl, _, _, rfl, _, _, rfl, rfl, ?_⟩
    show tSeq _ _ _ [some (.ref p), some (.ref a), some (.ref l), some (nv en), some (nv pl), some (nv (pos + 1 + n)), some (.ref pn), some (.ref pr), o8] H9
    have e79 := e8.trans e9
    have hD9 := hD7.mono e79
    have e09 := e07.trans e79
    obtain ⟨_, dx9, _, _, _, ha9, _⟩ := hD9.all
    refine ⟨_, rfl, a, dx9, _, rfl, ha9, rfl, _, rfl, _, rfl, _, rfl, l, a, st, x, pl, pn, pr, r.take n, xs, ⟨rfl, hD9, e79 pn _ h7, hR, hci⟩, fun pt H10 eb hD10 hpt => ?_⟩
    show tSeq _ _ _ [some (.ref p), some (.ref a), some (.ref l), some (nv en), some (nv pl), some (nv (pos + 1 + n)), some (.ref pn), some (.ref pr), some (.ref pt)] H10
    have hl9 : H9 l = some (.lst (acc.map V.int)) := e79 l _ (eH7 l _ hl')
    have hl10 : H10 l = some (.lst (acc.map V.int)) := eb l _ hl9 (Ne.symm hal')
    have hptl : pt ≠ l := fun z => by rw [z, del_same] at hpt; cases hpt
    have hpt10 : H10 pt = some (.lst ((Ut08.step st x).2.map V.int)) := ex_del l pt _ hpt
    have e010 : Ex H H10 := fun b o hb => eb b o (e09 b o hb) (ne_of_none hb na)
    have hans2 := ha
    rw [hrest, List.map_cons, told_cons _ _ _ _ (hstep st)] at hans2
    have hsz := congrArg List.length hans2
    rw [List.length_append, List.length_append, List.length_cons] at hsz
    refine q_appZ (v := .int ((Ut08.step st x).2.length : Int)) hl10 (ev_var rfl) (ev_is (ev_len (K := K) (ev_var rfl) (.inl (sq_of hpt10))) (congrArg V.int (congrArg Int.ofNat (List.length_map ..)))) (by rw [List.length_map]; omega) fun H11 e11 => ?_
    refine s_extR (p := pt) (ys := (Ut08.step st x).2.map V.int) upd_same (by rw [upd_ne hptl]; exact e11 pt _ hpt10) (ev_var rfl) (ev_var rfl) (by simp only [List.length_append, List.length_map, List.length_singleton]; omega) fun H12 e12 => ?_
    have edel : Ex (del H10 l) (del (upd H12 l (.lst (acc.map V.int ++ [V.int ((Ut08.step st x).2.length : Int)] ++ (Ut08.step st x).2.map V.int))) l) := by
      rw [del_upd]
      have q1 := del_mono e11 l
      have q2 := del_mono e12 l
      rw [del_upd] at q2
      exact q1.trans q2
    refine ⟨ns.length - en, by omega, (((e010.trans e11).mut hlH).trans e12).mut hlH, en, _, _, _, _, _, (Ut08.step st x).1, acc ++ (((Ut08.step st x).2.length : Int) :: (Ut08.step st x).2), g', rest', rfl, rfl, hen2, ?_, ⟨⟨_, upd_same⟩, hD10.mono edel⟩, ?_, fun c hc => hgc c (by rw [hrest]; exact List.mem_cons_of_mem _ hc), ?_⟩
    · rw [upd_same]
      simp
    · rw [hen]
      exact hcs'
    · rw [hans2, List.append_assoc]
  · have hge : ¬ pos < ns.length := of_decide_eq_false hb
    have hpe : pos = ns.length := by omega
    rw [hpe, List.drop_length] at hcs
    have hr0 : rest = [] := by
      have : PyFlat.calls PyUt08.shape g (cI []) = some [] := by cases g <;> rfl
      rw [this] at hcs
      exact (Option.some.inj hcs).symm
    rw [hr0] at ha
    have hacc : ans = acc := by rw [ha]; show acc ++ [] = acc; exact List.append_nil _
    exact s_ret (ev_var rfl) fun H5 e5 => ho H5 l (by rw [hacc]; exact e5 l _ (e4 l _ hl'))
end
end Wd
namespace Wd
open PySem PySem.Spec PyProof.Rows L2 Evl
/-- a def that the top has written -/
def FnF (K : PySem.W.Frag) (x qual : Str) (st : Stmt) (f : Addr) : Prop := ∃ (oc : Value) (od : Option Addr) (kV doc pm : Value) (an : Option Addr) (cdv ct : Value) (osl : Array (Option Value)),
  K.lookup f = some ⟨oc, od, .func (PySem.W.fnOf x qual (defArgs st) (defBody st) (defScope st) .none kV doc pm an cdv ct), osl⟩ ∧ PySem.W.codeIn K cdv qual = true ∧ PySem.W.keepIn K (.ref f) = true
def NsI (K : PySem.W.Frag) (x : Str) (i : Int) : Prop := ∃ t, PySem.W.nsIn K mainGlobals x = some (some (.int i t))
def NsT (K : PySem.W.Frag) (x : Str) (ns : List Nat) : Prop := ∃ a, PySem.W.nsIn K mainGlobals x = some (some (.ref a)) ∧ TupK K a ns
def ExcF (K : PySem.W.Frag) (C : Addr) : Prop := ∃ nm q N bs sn sub ab col dd k0 k1 k2 k3 k5, K.lookup C = some (excClassObj nm q C N bs [.type "ValueError", .type "Exception", .type "BaseException", .type "object"] true sn sub ab col dd k0 k1 k2 k3 k5 "ValueError.__new__")
theorem FnF.mk {K : PySem.W.Frag} {x qual : Str} {st : Stmt} {f : Addr} {oc : Value} {od : Option Addr} {kV doc pm : Value} {an : Option Addr} {cdv ct : Value} {osl : Array (Option Value)} (l : K.lookup f = some ⟨oc, od, .func (PySem.W.fnOf x qual (defArgs st) (defBody st) (defScope st) .none kV doc pm an cdv ct), osl⟩) (c : PySem.W.codeIn K cdv qual = true) (k : PySem.W.keepIn K (.ref f) = true) : FnF K x qual st f := ⟨oc, od, kV, doc, pm, an, cdv, ct, osl, l, c, k⟩
theorem NsI.mk {K : PySem.W.Frag} {x : Str} {i : Int} {t : Tok} (h : PySem.W.nsIn K mainGlobals x = some (some (.int i t))) : NsI K x i := ⟨t, h⟩
theorem NsT.mk {K : PySem.W.Frag} {x : Str} {ns : List Nat} {a : Addr} {o : Obj} {its : Array Value} {n : Nat} (h : PySem.W.nsIn K mainGlobals x = some (some (.ref a))) (l : K.lookup a = some o) (c : o.cls = .type "tuple") (d : o.data = .seq its n) (s : its.size ≤ sizeLine) (v : Vals (nl ns) its.toList) : NsT K x ns := ⟨a, h, o, its, n, l, c, d, s, v⟩
theorem ExcF.mk {K : PySem.W.Frag} {C : Addr} {nm q : Str} {N : Addr} {bs : List Value} {sn : List Str} {sub : List Value} {ab : Bool} {col : Option Bool} {dd : Option Addr} {k0 k1 k2 k3 k5 : Option Value}
    (h : K.lookup C = some (excClassObj nm q C N bs [.type "ValueError", .type "Exception", .type "BaseException", .type "object"] true sn sub ab col dd k0 k1 k2 k3 k5 "ValueError.__new__")) : ExcF K C := ⟨nm, q, N, bs, sn, sub, ab, col, dd, k0, k1, k2, k3, k5, h⟩
theorem exm_self {K : PySem.W.Frag} {S : Addr} (h1 : PySem.W.subIn K (.ref S) (.type "BaseException") = some true) (h2 : PySem.W.isClsIn K S = true) (h3 : PySem.W.typeIn K (.ref S) = some (.type "type")) (h4 : PySem.W.subIn K (.ref S) (.ref S) = some true) :
    PySem.W.exmOne K (.ref S) (.ref S) = some true := by
  have e1 : (PySem.W.subIn K (.ref S) (.type "BaseException") == some true) = true := by rw [h1] <;> rfl
  have e2 : ((PySem.W.clsIn K S).isSome && PySem.W.typeIn K (.ref S) == some (.type "type")) = true := by
    have h2' : (PySem.W.clsIn K S).isSome = true := h2
    rw [h2', h3] <;> rfl
  show (if (PySem.W.subIn K (.ref S) (.type "BaseException") == some true) = true then (if ((PySem.W.clsIn K S).isSome && PySem.W.typeIn K (.ref S) == some (.type "type")) = true then PySem.W.subIn K (.ref S) (.ref S) else none) else none) = some true
  rw [if_pos e1, if_pos e2]
  exact h4
theorem all_mk {P : Program} {w : World} {K : PySem.W.Frag} {h : Heap} {mg : Str → Option Value} {fa CD CT CA CR f_isDigit f_tens f_valueOf f_digitsOf f_isLeap f_monthLength f_isYear f_isDay f_daysBefore f_numberOf f_weekdayOf f_yearOf f_dayOf f_daysOf f_amtInit f_rounded f_grouped f_fraction f_awritten f_aread f_tonInit f_meant f_monthWritten f_fixed f_twritten f_hasSome f_yearTold f_yearMeant f_means f_refInit f_refuse f_areBytes f_isSign f_counted f_partsIn f_deskInit f_putTongue f_putPattern f_putAmounts f_dread f_dday f_dweek f_don f_dmeans f_dclash f_done f_answer f_rowsAt f_answers : Addr} (X : K.In h) (Gn : h.Ns mainGlobals mg) (hfa : mg "answers" = some (.ref fa))
    (a_CD : PySem.W.nsIn K mainGlobals "Desk" = some (some (.ref CD)))
    (pg_CD : PySem.W.plainGet K CD Str.empty = true)
    (hd_CD : PySem.W.hasDictIn K CD = true)
    (po_CD : PySem.W.plainOver K CD = true)
    (sa_CD : PySem.W.findIn K (.ref CD) "__setattr__" = some (some (.builtin "object.__setattr__")))
    (mk_CD : PySem.W.makesIn K CD = true)
    (kp_CD : PySem.W.keepIn K (.ref CD) = true)
    (n_CD_tongue : PySem.W.findIn K (.ref CD) "tongue" = some none)
    (n_CD_amounts : PySem.W.findIn K (.ref CD) "amounts" = some none)
    (n_CD_pattern : PySem.W.findIn K (.ref CD) "pattern" = some none)
    (a_CT : PySem.W.nsIn K mainGlobals "Tongue" = some (some (.ref CT)))
    (pg_CT : PySem.W.plainGet K CT Str.empty = true)
    (hd_CT : PySem.W.hasDictIn K CT = true)
    (po_CT : PySem.W.plainOver K CT = true)
    (sa_CT : PySem.W.findIn K (.ref CT) "__setattr__" = some (some (.builtin "object.__setattr__")))
    (mk_CT : PySem.W.makesIn K CT = true)
    (kp_CT : PySem.W.keepIn K (.ref CT) = true)
    (n_CT_first : PySem.W.findIn K (.ref CT) "first" = some none)
    (n_CT_months : PySem.W.findIn K (.ref CT) "months" = some none)
    (n_CT_weekdays : PySem.W.findIn K (.ref CT) "weekdays" = some none)
    (a_CA : PySem.W.nsIn K mainGlobals "AmountPattern" = some (some (.ref CA)))
    (pg_CA : PySem.W.plainGet K CA Str.empty = true)
    (hd_CA : PySem.W.hasDictIn K CA = true)
    (po_CA : PySem.W.plainOver K CA = true)
    (sa_CA : PySem.W.findIn K (.ref CA) "__setattr__" = some (some (.builtin "object.__setattr__")))
    (mk_CA : PySem.W.makesIn K CA = true)
    (kp_CA : PySem.W.keepIn K (.ref CA) = true)
    (n_CA_threes : PySem.W.findIn K (.ref CA) "threes" = some none)
    (n_CA_point : PySem.W.findIn K (.ref CA) "point" = some none)
    (n_CA_least : PySem.W.findIn K (.ref CA) "least" = some none)
    (n_CA_most : PySem.W.findIn K (.ref CA) "most" = some none)
    (n_CA_ahead : PySem.W.findIn K (.ref CA) "ahead" = some none)
    (n_CA_minus : PySem.W.findIn K (.ref CA) "minus" = some none)
    (a_CR : PySem.W.nsIn K mainGlobals "Refused" = some (some (.ref CR)))
    (x_CR : ExcF K CR)
    (sa_CR : PySem.W.findIn K (.ref CR) "__setattr__" = some (some (.builtin "object.__setattr__")))
    (ga_CR : PySem.W.findIn K (.ref CR) "__getattribute__" = some (some (.builtin "BaseException.__getattribute__")))
    (gg_CR : PySem.W.findIn K (.ref CR) "__getattr__" = some none)
    (n_CR : PySem.W.findIn K (.ref CR) "number" = some none)
    (kp_CR : PySem.W.keepIn K (.ref CR) = true)
    (e_CR : PySem.W.subIn K (.ref CR) (.type "BaseException") = some true)
    (t_CR : PySem.W.typeIn K (.ref CR) = some (.type "type"))
    (h_CR : PySem.W.hasDictIn K CR = true)
    (i_CR : PySem.W.isClsIn K CR = true)
    (s_CR : PySem.W.subIn K (.ref CR) (.ref CR) = some true)
    (v_CR : PySem.W.findCls K (.type "ValueError") (.type "type") "__init__" = some (.val (.builtin "ValueError.__init__")))
    (i_NOUGHT : NsI K "NOUGHT" 48)
    (i_NINE : NsI K "NINE" 57)
    (i_MOST_FRACTION : NsI K "MOST_FRACTION" 6)
    (i_MILLION : NsI K "MILLION" 1000000)
    (i_TOO_GREAT : NsI K "TOO_GREAT" 1000000000000)
    (i_NO_SIGN : NsI K "NO_SIGN" 256)
    (i_MOST_YEAR : NsI K "MOST_YEAR" 9999)
    (i_WEEK : NsI K "WEEK" 7)
    (i_FEBRUARY : NsI K "FEBRUARY" 2)
    (i_AS_THEY_ARE : NsI K "AS_THEY_ARE" 0)
    (i_YEAR : NsI K "YEAR" 1)
    (i_SHORT_YEAR : NsI K "SHORT_YEAR" 2)
    (i_MONTH : NsI K "MONTH" 3)
    (i_MONTH_NAME : NsI K "MONTH_NAME" 5)
    (i_DAY : NsI K "DAY" 6)
    (i_WEEKDAY_NAME : NsI K "WEEKDAY_NAME" 8)
    (i_HUNDRED : NsI K "HUNDRED" 100)
    (i_MOST_DAY : NsI K "MOST_DAY" 31)
    (i_NOT_AS_TOLD : NsI K "NOT_AS_TOLD" (-1))
    (i_NONE_THERE : NsI K "NONE_THERE" (-6))
    (i_MOST_BYTE : NsI K "MOST_BYTE" 255)
    (i_MOST_NAME : NsI K "MOST_NAME" 6)
    (i_MOST_FIRST : NsI K "MOST_FIRST" 9900)
    (i_MOST_AHEAD : NsI K "MOST_AHEAD" 6)
    (i_MOST_PARTS : NsI K "MOST_PARTS" 8)
    (i_MOST_READ : NsI K "MOST_READ" 40)
    (i_MOST_MEANT : NsI K "MOST_MEANT" 60)
    (i_LAST_DAY : NsI K "LAST_DAY" 3652058)
    (i_FIRST_MEANT : NsI K "FIRST_MEANT" 1950)
    (i_FIRST_MONTH : NsI K "FIRST_MONTH" 97)
    (i_FIRST_WEEKDAY : NsI K "FIRST_WEEKDAY" 65)
    (t_LENGTHS : NsT K "LENGTHS" [31, 28, 31, 30, 31, 30, 31, 31, 30, 31, 30, 31])
    (t_YEAR_PARTS : NsT K "YEAR_PARTS" [1, 2])
    (t_MONTH_PARTS : NsT K "MONTH_PARTS" [3, 4, 5])
    (t_DAY_PARTS : NsT K "DAY_PARTS" [6, 7])
    (t_MANY_NUMBERS : NsT K "MANY_NUMBERS" [1, 6, 0, 2, 0, 3, 1, 1, 3, 1])
    (t_MANY_ROWS : NsT K "MANY_ROWS" [19, 0, 1, 0, 1, 0, 1, 0, 0, 0])
    (z_len : PySem.W.nsIn K mainGlobals "len" = some none)
    (z_int : PySem.W.nsIn K mainGlobals "int" = some none)
    (z_str : PySem.W.nsIn K mainGlobals "str" = some none)
    (z_range : PySem.W.nsIn K mainGlobals "range" = some none)
    (z_divmod : PySem.W.nsIn K mainGlobals "divmod" = some none)
    (z_enumerate : PySem.W.nsIn K mainGlobals "enumerate" = some none)
    (z_all : PySem.W.nsIn K mainGlobals "all" = some none)
    (z_any : PySem.W.nsIn K mainGlobals "any" = some none)
    (z_sum : PySem.W.nsIn K mainGlobals "sum" = some none)
    (z_list : PySem.W.nsIn K mainGlobals "list" = some none)
    (z_tuple : PySem.W.nsIn K mainGlobals "tuple" = some none)
    (z_set : PySem.W.nsIn K mainGlobals "set" = some none)
    (z_sorted : PySem.W.nsIn K mainGlobals "sorted" = some none)
    (z_ValueError : PySem.W.nsIn K mainGlobals "ValueError" = some none)
    (a_isDigit : PySem.W.nsIn K mainGlobals "is_digit" = some (some (.ref f_isDigit)))
    (l_isDigit : FnF K "is_digit" "is_digit" sIsDigit f_isDigit)
    (a_tens : PySem.W.nsIn K mainGlobals "tens" = some (some (.ref f_tens)))
    (l_tens : FnF K "tens" "tens" sTens f_tens)
    (a_valueOf : PySem.W.nsIn K mainGlobals "value_of" = some (some (.ref f_valueOf)))
    (l_valueOf : FnF K "value_of" "value_of" sValueOf f_valueOf)
    (a_digitsOf : PySem.W.nsIn K mainGlobals "digits_of" = some (some (.ref f_digitsOf)))
    (l_digitsOf : FnF K "digits_of" "digits_of" sDigitsOf f_digitsOf)
    (a_isLeap : PySem.W.nsIn K mainGlobals "is_leap" = some (some (.ref f_isLeap)))
    (l_isLeap : FnF K "is_leap" "is_leap" sIsLeap f_isLeap)
    (a_monthLength : PySem.W.nsIn K mainGlobals "month_length" = some (some (.ref f_monthLength)))
    (l_monthLength : FnF K "month_length" "month_length" sMonthLength f_monthLength)
    (a_isYear : PySem.W.nsIn K mainGlobals "is_year" = some (some (.ref f_isYear)))
    (l_isYear : FnF K "is_year" "is_year" sIsYear f_isYear)
    (a_isDay : PySem.W.nsIn K mainGlobals "is_day" = some (some (.ref f_isDay)))
    (l_isDay : FnF K "is_day" "is_day" sIsDay f_isDay)
    (a_daysBefore : PySem.W.nsIn K mainGlobals "days_before" = some (some (.ref f_daysBefore)))
    (l_daysBefore : FnF K "days_before" "days_before" sDaysBefore f_daysBefore)
    (a_numberOf : PySem.W.nsIn K mainGlobals "number_of" = some (some (.ref f_numberOf)))
    (l_numberOf : FnF K "number_of" "number_of" sNumberOf f_numberOf)
    (a_weekdayOf : PySem.W.nsIn K mainGlobals "weekday_of" = some (some (.ref f_weekdayOf)))
    (l_weekdayOf : FnF K "weekday_of" "weekday_of" sWeekdayOf f_weekdayOf)
    (a_yearOf : PySem.W.nsIn K mainGlobals "year_of" = some (some (.ref f_yearOf)))
    (l_yearOf : FnF K "year_of" "year_of" sYearOf f_yearOf)
    (a_dayOf : PySem.W.nsIn K mainGlobals "day_of" = some (some (.ref f_dayOf)))
    (l_dayOf : FnF K "day_of" "day_of" sDayOf f_dayOf)
    (a_daysOf : PySem.W.nsIn K mainGlobals "days_of" = some (some (.ref f_daysOf)))
    (l_daysOf : FnF K "days_of" "days_of" sDaysOf f_daysOf)
    (a_amtInit : PySem.W.findIn K (.ref CA) "__init__" = some (some (.ref f_amtInit)))
    (j_amtInit : PySem.W.isFn K (.ref f_amtInit) = true)
    (l_amtInit : FnF K "__init__" "AmountPattern.__init__" sAmtInit f_amtInit)
    (a_rounded : PySem.W.findIn K (.ref CA) "rounded" = some (some (.ref f_rounded)))
    (j_rounded : PySem.W.isFn K (.ref f_rounded) = true)
    (l_rounded : FnF K "rounded" "AmountPattern.rounded" sRounded f_rounded)
    (a_grouped : PySem.W.findIn K (.ref CA) "grouped" = some (some (.ref f_grouped)))
    (j_grouped : PySem.W.isFn K (.ref f_grouped) = true)
    (l_grouped : FnF K "grouped" "AmountPattern.grouped" sGrouped f_grouped)
    (a_fraction : PySem.W.findIn K (.ref CA) "fraction" = some (some (.ref f_fraction)))
    (j_fraction : PySem.W.isFn K (.ref f_fraction) = true)
    (l_fraction : FnF K "fraction" "AmountPattern.fraction" sFraction f_fraction)
    (a_awritten : PySem.W.findIn K (.ref CA) "written" = some (some (.ref f_awritten)))
    (j_awritten : PySem.W.isFn K (.ref f_awritten) = true)
    (l_awritten : FnF K "written" "AmountPattern.written" sAWritten f_awritten)
    (a_aread : PySem.W.findIn K (.ref CA) "read" = some (some (.ref f_aread)))
    (j_aread : PySem.W.isFn K (.ref f_aread) = true)
    (l_aread : FnF K "read" "AmountPattern.read" sARead f_aread)
    (a_tonInit : PySem.W.findIn K (.ref CT) "__init__" = some (some (.ref f_tonInit)))
    (j_tonInit : PySem.W.isFn K (.ref f_tonInit) = true)
    (l_tonInit : FnF K "__init__" "Tongue.__init__" sTonInit f_tonInit)
    (a_meant : PySem.W.findIn K (.ref CT) "meant" = some (some (.ref f_meant)))
    (j_meant : PySem.W.isFn K (.ref f_meant) = true)
    (l_meant : FnF K "meant" "Tongue.meant" sMeant f_meant)
    (a_monthWritten : PySem.W.findIn K (.ref CT) "month_written" = some (some (.ref f_monthWritten)))
    (j_monthWritten : PySem.W.isFn K (.ref f_monthWritten) = true)
    (l_monthWritten : FnF K "month_written" "Tongue.month_written" sMonthWritten f_monthWritten)
    (a_fixed : PySem.W.findIn K (.ref CT) "fixed" = some (some (.ref f_fixed)))
    (j_fixed : PySem.W.isFn K (.ref f_fixed) = true)
    (l_fixed : FnF K "fixed" "Tongue.fixed" sFixed f_fixed)
    (a_twritten : PySem.W.findIn K (.ref CT) "written" = some (some (.ref f_twritten)))
    (j_twritten : PySem.W.isFn K (.ref f_twritten) = true)
    (l_twritten : FnF K "written" "Tongue.written" sTWritten f_twritten)
    (a_hasSome : PySem.W.nsIn K mainGlobals "has_some" = some (some (.ref f_hasSome)))
    (l_hasSome : FnF K "has_some" "has_some" sHasSome f_hasSome)
    (a_yearTold : PySem.W.findIn K (.ref CT) "year_told" = some (some (.ref f_yearTold)))
    (j_yearTold : PySem.W.isFn K (.ref f_yearTold) = true)
    (l_yearTold : FnF K "year_told" "Tongue.year_told" sYearTold f_yearTold)
    (a_yearMeant : PySem.W.findIn K (.ref CT) "year_meant" = some (some (.ref f_yearMeant)))
    (j_yearMeant : PySem.W.isFn K (.ref f_yearMeant) = true)
    (l_yearMeant : FnF K "year_meant" "Tongue.year_meant" sYearMeant f_yearMeant)
    (a_means : PySem.W.findIn K (.ref CT) "means" = some (some (.ref f_means)))
    (j_means : PySem.W.isFn K (.ref f_means) = true)
    (l_means : FnF K "means" "Tongue.means" sMeans f_means)
    (a_refInit : PySem.W.findIn K (.ref CR) "__init__" = some (some (.ref f_refInit)))
    (j_refInit : PySem.W.typeIn K (.ref f_refInit) = some (.type "function"))
    (l_refInit : FnF K "__init__" "Refused.__init__" sRefInit f_refInit)
    (a_refuse : PySem.W.nsIn K mainGlobals "refuse" = some (some (.ref f_refuse)))
    (l_refuse : FnF K "refuse" "refuse" sRefuse f_refuse)
    (a_areBytes : PySem.W.nsIn K mainGlobals "are_bytes" = some (some (.ref f_areBytes)))
    (l_areBytes : FnF K "are_bytes" "are_bytes" sAreBytes f_areBytes)
    (a_isSign : PySem.W.nsIn K mainGlobals "is_sign" = some (some (.ref f_isSign)))
    (l_isSign : FnF K "is_sign" "is_sign" sIsSign f_isSign)
    (a_counted : PySem.W.nsIn K mainGlobals "counted" = some (some (.ref f_counted)))
    (l_counted : FnF K "counted" "counted" sCounted f_counted)
    (a_partsIn : PySem.W.nsIn K mainGlobals "parts_in" = some (some (.ref f_partsIn)))
    (l_partsIn : FnF K "parts_in" "parts_in" sPartsIn f_partsIn)
    (a_deskInit : PySem.W.findIn K (.ref CD) "__init__" = some (some (.ref f_deskInit)))
    (j_deskInit : PySem.W.isFn K (.ref f_deskInit) = true)
    (l_deskInit : FnF K "__init__" "Desk.__init__" sDeskInit f_deskInit)
    (a_putTongue : PySem.W.findIn K (.ref CD) "put_tongue" = some (some (.ref f_putTongue)))
    (j_putTongue : PySem.W.isFn K (.ref f_putTongue) = true)
    (l_putTongue : FnF K "put_tongue" "Desk.put_tongue" sPutTongue f_putTongue)
    (a_putPattern : PySem.W.findIn K (.ref CD) "put_pattern" = some (some (.ref f_putPattern)))
    (j_putPattern : PySem.W.isFn K (.ref f_putPattern) = true)
    (l_putPattern : FnF K "put_pattern" "Desk.put_pattern" sPutPattern f_putPattern)
    (a_putAmounts : PySem.W.findIn K (.ref CD) "put_amounts" = some (some (.ref f_putAmounts)))
    (j_putAmounts : PySem.W.isFn K (.ref f_putAmounts) = true)
    (l_putAmounts : FnF K "put_amounts" "Desk.put_amounts" sPutAmounts f_putAmounts)
    (a_dread : PySem.W.findIn K (.ref CD) "read" = some (some (.ref f_dread)))
    (j_dread : PySem.W.isFn K (.ref f_dread) = true)
    (l_dread : FnF K "read" "Desk.read" sDRead f_dread)
    (a_dday : PySem.W.findIn K (.ref CD) "day" = some (some (.ref f_dday)))
    (j_dday : PySem.W.isFn K (.ref f_dday) = true)
    (l_dday : FnF K "day" "Desk.day" sDDay f_dday)
    (a_dweek : PySem.W.findIn K (.ref CD) "week" = some (some (.ref f_dweek)))
    (j_dweek : PySem.W.isFn K (.ref f_dweek) = true)
    (l_dweek : FnF K "week" "Desk.week" sDWeek f_dweek)
    (a_don : PySem.W.findIn K (.ref CD) "on" = some (some (.ref f_don)))
    (j_don : PySem.W.isFn K (.ref f_don) = true)
    (l_don : FnF K "on" "Desk.on" sDOn f_don)
    (a_dmeans : PySem.W.findIn K (.ref CD) "means" = some (some (.ref f_dmeans)))
    (j_dmeans : PySem.W.isFn K (.ref f_dmeans) = true)
    (l_dmeans : FnF K "means" "Desk.means" sDMeans f_dmeans)
    (a_dclash : PySem.W.findIn K (.ref CD) "clash" = some (some (.ref f_dclash)))
    (j_dclash : PySem.W.isFn K (.ref f_dclash) = true)
    (l_dclash : FnF K "clash" "Desk.clash" sDClash f_dclash)
    (a_done : PySem.W.findIn K (.ref CD) "done" = some (some (.ref f_done)))
    (j_done : PySem.W.isFn K (.ref f_done) = true)
    (l_done : FnF K "done" "Desk.done" sDone f_done)
    (a_answer : PySem.W.findIn K (.ref CD) "answer" = some (some (.ref f_answer)))
    (j_answer : PySem.W.isFn K (.ref f_answer) = true)
    (l_answer : FnF K "answer" "Desk.answer" sAnswer f_answer)
    (a_rowsAt : PySem.W.nsIn K mainGlobals "rows_at" = some (some (.ref f_rowsAt)))
    (l_rowsAt : FnF K "rows_at" "rows_at" sRowsAt f_rowsAt)
    (a_answers : PySem.W.nsIn K mainGlobals "answers" = some (some (.ref f_answers)))
    (l_answers : FnF K "answers" "answers" sAnswers f_answers)
    : ∃ fd : FuncData, (∀ (s : Shared) (us : List Value), us.length = (["calls"] : List Str).length → BindsTo s fd ⟨us, []⟩ ((["calls"] : List Str).zip us)) ∧ ∀ base : Heap, K.In base → base.Ns mainGlobals mg → FnOk P w K mg base CX0 10 fa fd ["calls"] (spAnswers K) := by
  have e := hfa.symm.trans (PySem.W.mg_of X Gn a_answers)
  cases e
  have nI : ∀ {x : Str} {i : Int}, NsI K x i → MgI mg x i := fun h => h.imp fun _ h => PySem.W.mg_of X Gn h
  have nT : ∀ {x : Str} {ns : List Nat}, NsT K x ns → MgT K mg x ns := fun h => h.imp fun _ h => ⟨PySem.W.mg_of X Gn h.1, h.2⟩
  have G : Gs K mg := ⟨nI i_NOUGHT, nI i_NINE, nI i_MOST_FRACTION, nI i_MILLION, nI i_TOO_GREAT, nI i_NO_SIGN, nI i_MOST_YEAR, nI i_WEEK, nI i_FEBRUARY, nI i_AS_THEY_ARE, nI i_YEAR, nI i_SHORT_YEAR, nI i_MONTH, nI i_MONTH_NAME, nI i_DAY, nI i_WEEKDAY_NAME, nI i_HUNDRED, nI i_MOST_DAY, nI i_NOT_AS_TOLD, nI i_NONE_THERE, nI i_MOST_BYTE, nI i_MOST_NAME, nI i_MOST_FIRST, nI i_MOST_AHEAD, nI i_MOST_PARTS, nI i_MOST_READ, nI i_MOST_MEANT, nI i_LAST_DAY, nI i_FIRST_MEANT, nI i_FIRST_MONTH, nI i_FIRST_WEEKDAY, nT t_LENGTHS, nT t_YEAR_PARTS, nT t_MONTH_PARTS, nT t_DAY_PARTS, nT t_MANY_NUMBERS, nT t_MANY_ROWS, PySem.W.mg_none_of X Gn z_len, PySem.W.mg_none_of X Gn z_int, PySem.W.mg_none_of X Gn z_str, PySem.W.mg_none_of X Gn z_range, PySem.W.mg_none_of X Gn z_divmod, PySem.W.mg_none_of X Gn z_enumerate, PySem.W.mg_none_of X Gn z_all, PySem.W.mg_none_of X Gn z_any, PySem.W.mg_none_of X Gn z_sum, PySem.W.mg_none_of X Gn z_list, PySem.W.mg_none_of X Gn z_tuple, PySem.W.mg_none_of X Gn z_set, PySem.W.mg_none_of X Gn z_sorted, PySem.W.mg_none_of X Gn z_ValueError⟩
  have TD : DeskC K CD := ⟨⟨pg_CD, hd_CD, po_CD, sa_CD⟩, n_CD_tongue, n_CD_amounts, n_CD_pattern⟩
  have TT : TonC K CT := ⟨⟨pg_CT, hd_CT, po_CT, sa_CT⟩, n_CT_first, n_CT_months, n_CT_weekdays⟩
  have TA : AmtC K CA := ⟨⟨pg_CA, hd_CA, po_CA, sa_CA⟩, n_CA_threes, n_CA_point, n_CA_least, n_CA_most, n_CA_ahead, n_CA_minus⟩
  have ox : OexC K CR := by
    obtain ⟨nm, q, N, bs, sn, sub, ab, col, dd, k0, k1, k2, k3, k5, hx⟩ := x_CR
    exact ⟨⟨nm, q, N, bs, _, sn, sub, ab, col, dd, k0, k1, k2, k3, k5, hx, by decide +kernel⟩, sa_CR, e_CR, t_CR, kp_CR⟩
  have TR : RefC K mg CR := ⟨ox, ⟨ga_CR, gg_CR, e_CR, h_CR⟩, PySem.W.mg_of X Gn a_CR, n_CR, exm_self e_CR i_CR t_CR s_CR, v_CR⟩
  obtain ⟨c, hcd, hct, hca, hcr⟩ : ∃ c : Cs, c.d = CD ∧ c.t = CT ∧ c.a = CA ∧ c.r = CR := ⟨⟨CD, CT, CA, CR⟩, rfl, rfl, rfl, rfl⟩
  subst hcd hct hca hcr
  obtain ⟨oc_isDigit, od_isDigit, kV_isDigit, dc_isDigit, pm_isDigit, an_isDigit, cd_isDigit, ct_isDigit, sl_isDigit, lk_isDigit, ck_isDigit, kk_isDigit⟩ := l_isDigit
  have F_isDigit := fun_mk (st := sIsDigit) lk_isDigit ck_isDigit kk_isDigit
  have b_isDigit := F_isDigit.binds (ps := ["byte"]) fun _ _ _ _ _ _ us hl => match us, hl with | [_], _ => rfl
  obtain ⟨oc_tens, od_tens, kV_tens, dc_tens, pm_tens, an_tens, cd_tens, ct_tens, sl_tens, lk_tens, ck_tens, kk_tens⟩ := l_tens
  have F_tens := fun_mk (st := sTens) lk_tens ck_tens kk_tens
  have b_tens := F_tens.binds (ps := ["many"]) fun _ _ _ _ _ _ us hl => match us, hl with | [_], _ => rfl
  obtain ⟨oc_valueOf, od_valueOf, kV_valueOf, dc_valueOf, pm_valueOf, an_valueOf, cd_valueOf, ct_valueOf, sl_valueOf, lk_valueOf, ck_valueOf, kk_valueOf⟩ := l_valueOf
  have F_valueOf := fun_mk (st := sValueOf) lk_valueOf ck_valueOf kk_valueOf
  have b_valueOf := F_valueOf.binds (ps := ["digits"]) fun _ _ _ _ _ _ us hl => match us, hl with | [_], _ => rfl
  obtain ⟨oc_digitsOf, od_digitsOf, kV_digitsOf, dc_digitsOf, pm_digitsOf, an_digitsOf, cd_digitsOf, ct_digitsOf, sl_digitsOf, lk_digitsOf, ck_digitsOf, kk_digitsOf⟩ := l_digitsOf
  have F_digitsOf := fun_mk (st := sDigitsOf) lk_digitsOf ck_digitsOf kk_digitsOf
  have b_digitsOf := F_digitsOf.binds (ps := ["number", "least"]) fun _ _ _ _ _ _ us hl => match us, hl with | [_, _], _ => rfl
  obtain ⟨oc_isLeap, od_isLeap, kV_isLeap, dc_isLeap, pm_isLeap, an_isLeap, cd_isLeap, ct_isLeap, sl_isLeap, lk_isLeap, ck_isLeap, kk_isLeap⟩ := l_isLeap
  have F_isLeap := fun_mk (st := sIsLeap) lk_isLeap ck_isLeap kk_isLeap
  have b_isLeap := F_isLeap.binds (ps := ["year"]) fun _ _ _ _ _ _ us hl => match us, hl with | [_], _ => rfl
  obtain ⟨oc_monthLength, od_monthLength, kV_monthLength, dc_monthLength, pm_monthLength, an_monthLength, cd_monthLength, ct_monthLength, sl_monthLength, lk_monthLength, ck_monthLength, kk_monthLength⟩ := l_monthLength
  have F_monthLength := fun_mk (st := sMonthLength) lk_monthLength ck_monthLength kk_monthLength
  have b_monthLength := F_monthLength.binds (ps := ["year", "month"]) fun _ _ _ _ _ _ us hl => match us, hl with | [_, _], _ => rfl
  obtain ⟨oc_isYear, od_isYear, kV_isYear, dc_isYear, pm_isYear, an_isYear, cd_isYear, ct_isYear, sl_isYear, lk_isYear, ck_isYear, kk_isYear⟩ := l_isYear
  have F_isYear := fun_mk (st := sIsYear) lk_isYear ck_isYear kk_isYear
  have b_isYear := F_isYear.binds (ps := ["year"]) fun _ _ _ _ _ _ us hl => match us, hl with | [_], _ => rfl
  obtain ⟨oc_isDay, od_isDay, kV_isDay, dc_isDay, pm_isDay, an_isDay, cd_isDay, ct_isDay, sl_isDay, lk_isDay, ck_isDay, kk_isDay⟩ := l_isDay
  have F_isDay := fun_mk (st := sIsDay) lk_isDay ck_isDay kk_isDay
  have b_isDay := F_isDay.binds (ps := ["year", "month", "day"]) fun _ _ _ _ _ _ us hl => match us, hl with | [_, _, _], _ => rfl
  obtain ⟨oc_daysBefore, od_daysBefore, kV_daysBefore, dc_daysBefore, pm_daysBefore, an_daysBefore, cd_daysBefore, ct_daysBefore, sl_daysBefore, lk_daysBefore, ck_daysBefore, kk_daysBefore⟩ := l_daysBefore
  have F_daysBefore := fun_mk (st := sDaysBefore) lk_daysBefore ck_daysBefore kk_daysBefore
  have b_daysBefore := F_daysBefore.binds (ps := ["year"]) fun _ _ _ _ _ _ us hl => match us, hl with | [_], _ => rfl
  obtain ⟨oc_numberOf, od_numberOf, kV_numberOf, dc_numberOf, pm_numberOf, an_numberOf, cd_numberOf, ct_numberOf, sl_numberOf, lk_numberOf, ck_numberOf, kk_numberOf⟩ := l_numberOf
  have F_numberOf := fun_mk (st := sNumberOf) lk_numberOf ck_numberOf kk_numberOf
  have b_numberOf := F_numberOf.binds (ps := ["year", "month", "day"]) fun _ _ _ _ _ _ us hl => match us, hl with | [_, _, _], _ => rfl
  obtain ⟨oc_weekdayOf, od_weekdayOf, kV_weekdayOf, dc_weekdayOf, pm_weekdayOf, an_weekdayOf, cd_weekdayOf, ct_weekdayOf, sl_weekdayOf, lk_weekdayOf, ck_weekdayOf, kk_weekdayOf⟩ := l_weekdayOf
  have F_weekdayOf := fun_mk (st := sWeekdayOf) lk_weekdayOf ck_weekdayOf kk_weekdayOf
  have b_weekdayOf := F_weekdayOf.binds (ps := ["year", "month", "day"]) fun _ _ _ _ _ _ us hl => match us, hl with | [_, _, _], _ => rfl
  obtain ⟨oc_yearOf, od_yearOf, kV_yearOf, dc_yearOf, pm_yearOf, an_yearOf, cd_yearOf, ct_yearOf, sl_yearOf, lk_yearOf, ck_yearOf, kk_yearOf⟩ := l_yearOf
  have F_yearOf := fun_mk (st := sYearOf) lk_yearOf ck_yearOf kk_yearOf
  have b_yearOf := F_yearOf.binds (ps := ["number"]) fun _ _ _ _ _ _ us hl => match us, hl with | [_], _ => rfl
  obtain ⟨oc_dayOf, od_dayOf, kV_dayOf, dc_dayOf, pm_dayOf, an_dayOf, cd_dayOf, ct_dayOf, sl_dayOf, lk_dayOf, ck_dayOf, kk_dayOf⟩ := l_dayOf
  have F_dayOf := fun_mk (st := sDayOf) lk_dayOf ck_dayOf kk_dayOf
  have b_dayOf := F_dayOf.binds (ps := ["number"]) fun _ _ _ _ _ _ us hl => match us, hl with | [_], _ => rfl
  obtain ⟨oc_daysOf, od_daysOf, kV_daysOf, dc_daysOf, pm_daysOf, an_daysOf, cd_daysOf, ct_daysOf, sl_daysOf, lk_daysOf, ck_daysOf, kk_daysOf⟩ := l_daysOf
  have F_daysOf := fun_mk (st := sDaysOf) lk_daysOf ck_daysOf kk_daysOf
  have b_daysOf := F_daysOf.binds (ps := ["year"]) fun _ _ _ _ _ _ us hl => match us, hl with | [_], _ => rfl
  obtain ⟨oc_amtInit, od_amtInit, kV_amtInit, dc_amtInit, pm_amtInit, an_amtInit, cd_amtInit, ct_amtInit, sl_amtInit, lk_amtInit, ck_amtInit, kk_amtInit⟩ := l_amtInit
  have F_amtInit := fun_mk (st := sAmtInit) lk_amtInit ck_amtInit kk_amtInit
  have b_amtInit := F_amtInit.binds (ps := ["self", "threes", "point", "least", "most", "ahead", "minus"]) fun _ _ _ _ _ _ us hl => match us, hl with | [_, _, _, _, _, _, _], _ => rfl
  obtain ⟨oc_rounded, od_rounded, kV_rounded, dc_rounded, pm_rounded, an_rounded, cd_rounded, ct_rounded, sl_rounded, lk_rounded, ck_rounded, kk_rounded⟩ := l_rounded
  have F_rounded := fun_mk (st := sRounded) lk_rounded ck_rounded kk_rounded
  have b_rounded := F_rounded.binds (ps := ["self", "millionths"]) fun _ _ _ _ _ _ us hl => match us, hl with | [_, _], _ => rfl
  obtain ⟨oc_grouped, od_grouped, kV_grouped, dc_grouped, pm_grouped, an_grouped, cd_grouped, ct_grouped, sl_grouped, lk_grouped, ck_grouped, kk_grouped⟩ := l_grouped
  have F_grouped := fun_mk (st := sGrouped) lk_grouped ck_grouped kk_grouped
  have b_grouped := F_grouped.binds (ps := ["self", "digits"]) fun _ _ _ _ _ _ us hl => match us, hl with | [_, _], _ => rfl
  obtain ⟨oc_fraction, od_fraction, kV_fraction, dc_fraction, pm_fraction, an_fraction, cd_fraction, ct_fraction, sl_fraction, lk_fraction, ck_fraction, kk_fraction⟩ := l_fraction
  have F_fraction := fun_mk (st := sFraction) lk_fraction ck_fraction kk_fraction
  have b_fraction := F_fraction.binds (ps := ["self", "number"]) fun _ _ _ _ _ _ us hl => match us, hl with | [_, _], _ => rfl
  obtain ⟨oc_awritten, od_awritten, kV_awritten, dc_awritten, pm_awritten, an_awritten, cd_awritten, ct_awritten, sl_awritten, lk_awritten, ck_awritten, kk_awritten⟩ := l_awritten
  have F_awritten := fun_mk (st := sAWritten) lk_awritten ck_awritten kk_awritten
  have b_awritten := F_awritten.binds (ps := ["self", "is_below", "millionths"]) fun _ _ _ _ _ _ us hl => match us, hl with | [_, _, _], _ => rfl
  obtain ⟨oc_aread, od_aread, kV_aread, dc_aread, pm_aread, an_aread, cd_aread, ct_aread, sl_aread, lk_aread, ck_aread, kk_aread⟩ := l_aread
  have F_aread := fun_mk (st := sARead) lk_aread ck_aread kk_aread
  have b_aread := F_aread.binds (ps := ["self", "row"]) fun _ _ _ _ _ _ us hl => match us, hl with | [_, _], _ => rfl
  obtain ⟨oc_tonInit, od_tonInit, kV_tonInit, dc_tonInit, pm_tonInit, an_tonInit, cd_tonInit, ct_tonInit, sl_tonInit, lk_tonInit, ck_tonInit, kk_tonInit⟩ := l_tonInit
  have F_tonInit := fun_mk (st := sTonInit) lk_tonInit ck_tonInit kk_tonInit
  have b_tonInit := F_tonInit.binds (ps := ["self", "first", "months", "weekdays"]) fun _ _ _ _ _ _ us hl => match us, hl with | [_, _, _, _], _ => rfl
  obtain ⟨oc_meant, od_meant, kV_meant, dc_meant, pm_meant, an_meant, cd_meant, ct_meant, sl_meant, lk_meant, ck_meant, kk_meant⟩ := l_meant
  have F_meant := fun_mk (st := sMeant) lk_meant ck_meant kk_meant
  have b_meant := F_meant.binds (ps := ["self", "digits"]) fun _ _ _ _ _ _ us hl => match us, hl with | [_, _], _ => rfl
  obtain ⟨oc_monthWritten, od_monthWritten, kV_monthWritten, dc_monthWritten, pm_monthWritten, an_monthWritten, cd_monthWritten, ct_monthWritten, sl_monthWritten, lk_monthWritten, ck_monthWritten, kk_monthWritten⟩ := l_monthWritten
  have F_monthWritten := fun_mk (st := sMonthWritten) lk_monthWritten ck_monthWritten kk_monthWritten
  have b_monthWritten := F_monthWritten.binds (ps := ["self", "which", "month"]) fun _ _ _ _ _ _ us hl => match us, hl with | [_, _, _], _ => rfl
  obtain ⟨oc_fixed, od_fixed, kV_fixed, dc_fixed, pm_fixed, an_fixed, cd_fixed, ct_fixed, sl_fixed, lk_fixed, ck_fixed, kk_fixed⟩ := l_fixed
  have F_fixed := fun_mk (st := sFixed) lk_fixed ck_fixed kk_fixed
  have b_fixed := F_fixed.binds (ps := ["self", "part", "month", "day", "weekday"]) fun _ _ _ _ _ _ us hl => match us, hl with | [_, _, _, _, _], _ => rfl
  obtain ⟨oc_twritten, od_twritten, kV_twritten, dc_twritten, pm_twritten, an_twritten, cd_twritten, ct_twritten, sl_twritten, lk_twritten, ck_twritten, kk_twritten⟩ := l_twritten
  have F_twritten := fun_mk (st := sTWritten) lk_twritten ck_twritten kk_twritten
  have b_twritten := F_twritten.binds (ps := ["self", "pattern", "year", "month", "day"]) fun _ _ _ _ _ _ us hl => match us, hl with | [_, _, _, _, _], _ => rfl
  obtain ⟨oc_hasSome, od_hasSome, kV_hasSome, dc_hasSome, pm_hasSome, an_hasSome, cd_hasSome, ct_hasSome, sl_hasSome, lk_hasSome, ck_hasSome, kk_hasSome⟩ := l_hasSome
  have F_hasSome := fun_mk (st := sHasSome) lk_hasSome ck_hasSome kk_hasSome
  have b_hasSome := F_hasSome.binds (ps := ["kinds", "some"]) fun _ _ _ _ _ _ us hl => match us, hl with | [_, _], _ => rfl
  obtain ⟨oc_yearTold, od_yearTold, kV_yearTold, dc_yearTold, pm_yearTold, an_yearTold, cd_yearTold, ct_yearTold, sl_yearTold, lk_yearTold, ck_yearTold, kk_yearTold⟩ := l_yearTold
  have F_yearTold := fun_mk (st := sYearTold) lk_yearTold ck_yearTold kk_yearTold
  have b_yearTold := F_yearTold.binds (ps := ["self", "pattern", "row", "month", "day", "weekday"]) fun _ _ _ _ _ _ us hl => match us, hl with | [_, _, _, _, _, _], _ => rfl
  obtain ⟨oc_yearMeant, od_yearMeant, kV_yearMeant, dc_yearMeant, pm_yearMeant, an_yearMeant, cd_yearMeant, ct_yearMeant, sl_yearMeant, lk_yearMeant, ck_yearMeant, kk_yearMeant⟩ := l_yearMeant
  have F_yearMeant := fun_mk (st := sYearMeant) lk_yearMeant ck_yearMeant kk_yearMeant
  have b_yearMeant := F_yearMeant.binds (ps := ["self", "pattern", "row", "month", "day", "weekday", "year"]) fun _ _ _ _ _ _ us hl => match us, hl with | [_, _, _, _, _, _, _], _ => rfl
  obtain ⟨oc_means, od_means, kV_means, dc_means, pm_means, an_means, cd_means, ct_means, sl_means, lk_means, ck_means, kk_means⟩ := l_means
  have F_means := fun_mk (st := sMeans) lk_means ck_means kk_means
  have b_means := F_means.binds (ps := ["self", "pattern", "row", "year"]) fun _ _ _ _ _ _ us hl => match us, hl with | [_, _, _, _], _ => rfl
  obtain ⟨oc_refInit, od_refInit, kV_refInit, dc_refInit, pm_refInit, an_refInit, cd_refInit, ct_refInit, sl_refInit, lk_refInit, ck_refInit, kk_refInit⟩ := l_refInit
  have F_refInit := fun_mk (st := sRefInit) lk_refInit ck_refInit kk_refInit
  have b_refInit := F_refInit.binds (ps := ["self", "number"]) fun _ _ _ _ _ _ us hl => match us, hl with | [_, _], _ => rfl
  obtain ⟨oc_refuse, od_refuse, kV_refuse, dc_refuse, pm_refuse, an_refuse, cd_refuse, ct_refuse, sl_refuse, lk_refuse, ck_refuse, kk_refuse⟩ := l_refuse
  have F_refuse := fun_mk (st := sRefuse) lk_refuse ck_refuse kk_refuse
  have b_refuse := F_refuse.binds (ps := ["bad", "number"]) fun _ _ _ _ _ _ us hl => match us, hl with | [_, _], _ => rfl
  obtain ⟨oc_areBytes, od_areBytes, kV_areBytes, dc_areBytes, pm_areBytes, an_areBytes, cd_areBytes, ct_areBytes, sl_areBytes, lk_areBytes, ck_areBytes, kk_areBytes⟩ := l_areBytes
  have F_areBytes := fun_mk (st := sAreBytes) lk_areBytes ck_areBytes kk_areBytes
  have b_areBytes := F_areBytes.binds (ps := ["row", "most"]) fun _ _ _ _ _ _ us hl => match us, hl with | [_, _], _ => rfl
  obtain ⟨oc_isSign, od_isSign, kV_isSign, dc_isSign, pm_isSign, an_isSign, cd_isSign, ct_isSign, sl_isSign, lk_isSign, ck_isSign, kk_isSign⟩ := l_isSign
  have F_isSign := fun_mk (st := sIsSign) lk_isSign ck_isSign kk_isSign
  have b_isSign := F_isSign.binds (ps := ["byte"]) fun _ _ _ _ _ _ us hl => match us, hl with | [_], _ => rfl
  obtain ⟨oc_counted, od_counted, kV_counted, dc_counted, pm_counted, an_counted, cd_counted, ct_counted, sl_counted, lk_counted, ck_counted, kk_counted⟩ := l_counted
  have F_counted := fun_mk (st := sCounted) lk_counted ck_counted kk_counted
  have b_counted := F_counted.binds (ps := ["row"]) fun _ _ _ _ _ _ us hl => match us, hl with | [_], _ => rfl
  obtain ⟨oc_partsIn, od_partsIn, kV_partsIn, dc_partsIn, pm_partsIn, an_partsIn, cd_partsIn, ct_partsIn, sl_partsIn, lk_partsIn, ck_partsIn, kk_partsIn⟩ := l_partsIn
  have F_partsIn := fun_mk (st := sPartsIn) lk_partsIn ck_partsIn kk_partsIn
  have b_partsIn := F_partsIn.binds (ps := ["row"]) fun _ _ _ _ _ _ us hl => match us, hl with | [_], _ => rfl
  obtain ⟨oc_deskInit, od_deskInit, kV_deskInit, dc_deskInit, pm_deskInit, an_deskInit, cd_deskInit, ct_deskInit, sl_deskInit, lk_deskInit, ck_deskInit, kk_deskInit⟩ := l_deskInit
  have F_deskInit := fun_mk (st := sDeskInit) lk_deskInit ck_deskInit kk_deskInit
  have b_deskInit := F_deskInit.binds (ps := ["self"]) fun _ _ _ _ _ _ us hl => match us, hl with | [_], _ => rfl
  obtain ⟨oc_putTongue, od_putTongue, kV_putTongue, dc_putTongue, pm_putTongue, an_putTongue, cd_putTongue, ct_putTongue, sl_putTongue, lk_putTongue, ck_putTongue, kk_putTongue⟩ := l_putTongue
  have F_putTongue := fun_mk (st := sPutTongue) lk_putTongue ck_putTongue kk_putTongue
  have b_putTongue := F_putTongue.binds (ps := ["self", "year", "names"]) fun _ _ _ _ _ _ us hl => match us, hl with | [_, _, _], _ => rfl
  obtain ⟨oc_putPattern, od_putPattern, kV_putPattern, dc_putPattern, pm_putPattern, an_putPattern, cd_putPattern, ct_putPattern, sl_putPattern, lk_putPattern, ck_putPattern, kk_putPattern⟩ := l_putPattern
  have F_putPattern := fun_mk (st := sPutPattern) lk_putPattern ck_putPattern kk_putPattern
  have b_putPattern := F_putPattern.binds (ps := ["self", "row"]) fun _ _ _ _ _ _ us hl => match us, hl with | [_, _], _ => rfl
  obtain ⟨oc_putAmounts, od_putAmounts, kV_putAmounts, dc_putAmounts, pm_putAmounts, an_putAmounts, cd_putAmounts, ct_putAmounts, sl_putAmounts, lk_putAmounts, ck_putAmounts, kk_putAmounts⟩ := l_putAmounts
  have F_putAmounts := fun_mk (st := sPutAmounts) lk_putAmounts ck_putAmounts kk_putAmounts
  have b_putAmounts := F_putAmounts.binds (ps := ["self", "row"]) fun _ _ _ _ _ _ us hl => match us, hl with | [_, _], _ => rfl
  obtain ⟨oc_dread, od_dread, kV_dread, dc_dread, pm_dread, an_dread, cd_dread, ct_dread, sl_dread, lk_dread, ck_dread, kk_dread⟩ := l_dread
  have F_dread := fun_mk (st := sDRead) lk_dread ck_dread kk_dread
  have b_dread := F_dread.binds (ps := ["self", "row"]) fun _ _ _ _ _ _ us hl => match us, hl with | [_, _], _ => rfl
  obtain ⟨oc_dday, od_dday, kV_dday, dc_dday, pm_dday, an_dday, cd_dday, ct_dday, sl_dday, lk_dday, ck_dday, kk_dday⟩ := l_dday
  have F_dday := fun_mk (st := sDDay) lk_dday ck_dday kk_dday
  have b_dday := F_dday.binds (ps := ["self", "year", "month", "day"]) fun _ _ _ _ _ _ us hl => match us, hl with | [_, _, _, _], _ => rfl
  obtain ⟨oc_dweek, od_dweek, kV_dweek, dc_dweek, pm_dweek, an_dweek, cd_dweek, ct_dweek, sl_dweek, lk_dweek, ck_dweek, kk_dweek⟩ := l_dweek
  have F_dweek := fun_mk (st := sDWeek) lk_dweek ck_dweek kk_dweek
  have b_dweek := F_dweek.binds (ps := ["self", "year", "month", "day"]) fun _ _ _ _ _ _ us hl => match us, hl with | [_, _, _, _], _ => rfl
  obtain ⟨oc_don, od_don, kV_don, dc_don, pm_don, an_don, cd_don, ct_don, sl_don, lk_don, ck_don, kk_don⟩ := l_don
  have F_don := fun_mk (st := sDOn) lk_don ck_don kk_don
  have b_don := F_don.binds (ps := ["self", "number"]) fun _ _ _ _ _ _ us hl => match us, hl with | [_, _], _ => rfl
  obtain ⟨oc_dmeans, od_dmeans, kV_dmeans, dc_dmeans, pm_dmeans, an_dmeans, cd_dmeans, ct_dmeans, sl_dmeans, lk_dmeans, ck_dmeans, kk_dmeans⟩ := l_dmeans
  have F_dmeans := fun_mk (st := sDMeans) lk_dmeans ck_dmeans kk_dmeans
  have b_dmeans := F_dmeans.binds (ps := ["self", "year", "row"]) fun _ _ _ _ _ _ us hl => match us, hl with | [_, _, _], _ => rfl
  obtain ⟨oc_dclash, od_dclash, kV_dclash, dc_dclash, pm_dclash, an_dclash, cd_dclash, ct_dclash, sl_dclash, lk_dclash, ck_dclash, kk_dclash⟩ := l_dclash
  have F_dclash := fun_mk (st := sDClash) lk_dclash ck_dclash kk_dclash
  have b_dclash := F_dclash.binds (ps := ["self", "year"]) fun _ _ _ _ _ _ us hl => match us, hl with | [_, _], _ => rfl
  obtain ⟨oc_done, od_done, kV_done, dc_done, pm_done, an_done, cd_done, ct_done, sl_done, lk_done, ck_done, kk_done⟩ := l_done
  have F_done := fun_mk (st := sDone) lk_done ck_done kk_done
  have b_done := F_done.binds (ps := ["self", "call", "numbers", "rows"]) fun _ _ _ _ _ _ us hl => match us, hl with | [_, _, _, _], _ => rfl
  obtain ⟨oc_answer, od_answer, kV_answer, dc_answer, pm_answer, an_answer, cd_answer, ct_answer, sl_answer, lk_answer, ck_answer, kk_answer⟩ := l_answer
  have F_answer := fun_mk (st := sAnswer) lk_answer ck_answer kk_answer
  have b_answer := F_answer.binds (ps := ["self", "call", "numbers", "rows"]) fun _ _ _ _ _ _ us hl => match us, hl with | [_, _, _, _], _ => rfl
  obtain ⟨oc_rowsAt, od_rowsAt, kV_rowsAt, dc_rowsAt, pm_rowsAt, an_rowsAt, cd_rowsAt, ct_rowsAt, sl_rowsAt, lk_rowsAt, ck_rowsAt, kk_rowsAt⟩ := l_rowsAt
  have F_rowsAt := fun_mk (st := sRowsAt) lk_rowsAt ck_rowsAt kk_rowsAt
  have b_rowsAt := F_rowsAt.binds (ps := ["calls", "at", "many"]) fun _ _ _ _ _ _ us hl => match us, hl with | [_, _, _], _ => rfl
  obtain ⟨oc_answers, od_answers, kV_answers, dc_answers, pm_answers, an_answers, cd_answers, ct_answers, sl_answers, lk_answers, ck_answers, kk_answers⟩ := l_answers
  have F_answers := fun_mk (st := sAnswers) lk_answers ck_answers kk_answers
  refine ⟨PySem.W.fnOf "answers" "answers" (defArgs sAnswers) (defBody sAnswers) (defScope sAnswers) .none kV_answers dc_answers pm_answers an_answers cd_answers ct_answers, fun s us hu => match us, hu with | [_], _ => .of_eq rfl, fun base _ _ => ?_⟩
  have c_isDigit : Cal P w K mg base CX0 1 "is_digit" spIsDigit := ⟨_, _, ["byte"], ok_isDigit F_isDigit G.cNought G.cNine, PySem.W.mg_of X Gn a_isDigit, kk_isDigit, b_isDigit⟩
  have c_tens : Cal P w K mg base CX0 1 "tens" spTens := ⟨_, _, ["many"], ok_tens F_tens G.bRange, PySem.W.mg_of X Gn a_tens, kk_tens, b_tens⟩
  have c_valueOf : Cal P w K mg base CX0 1 "value_of" spValueOf := ⟨_, _, ["digits"], ok_valueOf F_valueOf G.cNought, PySem.W.mg_of X Gn a_valueOf, kk_valueOf, b_valueOf⟩
  have c_digitsOf : Cal P w K mg base CX0 1 "digits_of" spDigitsOf := ⟨_, _, ["number", "least"], ok_digitsOf F_digitsOf G.cNought G.bInt G.bStr G.bLen, PySem.W.mg_of X Gn a_digitsOf, kk_digitsOf, b_digitsOf⟩
  have c_isLeap : Cal P w K mg base CX0 1 "is_leap" spIsLeap := ⟨_, _, ["year"], ok_isLeap F_isLeap, PySem.W.mg_of X Gn a_isLeap, kk_isLeap, b_isLeap⟩
  have c_monthLength : Cal P w K mg base CX0 2 "month_length" spMonthLength := ⟨_, _, ["year", "month"], ok_monthLength F_monthLength G c_isLeap, PySem.W.mg_of X Gn a_monthLength, kk_monthLength, b_monthLength⟩
  have c_isYear : Cal P w K mg base CX0 1 "is_year" spIsYear := ⟨_, _, ["year"], ok_isYear F_isYear G, PySem.W.mg_of X Gn a_isYear, kk_isYear, b_isYear⟩
  have c_isDay : Cal P w K mg base CX0 3 "is_day" spIsDay := ⟨_, _, ["year", "month", "day"], ok_isDay F_isDay G c_isYear c_monthLength, PySem.W.mg_of X Gn a_isDay, kk_isDay, b_isDay⟩
  have c_daysBefore : Cal P w K mg base CX0 1 "days_before" spDaysBefore := ⟨_, _, ["year"], ok_daysBefore F_daysBefore, PySem.W.mg_of X Gn a_daysBefore, kk_daysBefore, b_daysBefore⟩
  have c_numberOf : Cal P w K mg base CX0 3 "number_of" spNumberOf := ⟨_, _, ["year", "month", "day"], ok_numberOf F_numberOf G c_daysBefore c_monthLength, PySem.W.mg_of X Gn a_numberOf, kk_numberOf, b_numberOf⟩
  have c_weekdayOf : Cal P w K mg base CX0 4 "weekday_of" spWeekdayOf := ⟨_, _, ["year", "month", "day"], ok_weekdayOf F_weekdayOf G c_numberOf, PySem.W.mg_of X Gn a_weekdayOf, kk_weekdayOf, b_weekdayOf⟩
  have c_yearOf : Cal P w K mg base CX0 2 "year_of" spYearOf := ⟨_, _, ["number"], ok_yearOf F_yearOf G c_daysBefore, PySem.W.mg_of X Gn a_yearOf, kk_yearOf, b_yearOf⟩
  have c_dayOf : Cal P w K mg base CX0 3 "day_of" spDayOf := ⟨_, _, ["number"], ok_dayOf F_dayOf G c_daysBefore c_monthLength c_yearOf, PySem.W.mg_of X Gn a_dayOf, kk_dayOf, b_dayOf⟩
  have c_daysOf : Cal P w K mg base CX0 3 "days_of" spDaysOf := ⟨_, _, ["year"], ok_daysOf F_daysOf G c_monthLength, PySem.W.mg_of X Gn a_daysOf, kk_daysOf, b_daysOf⟩
  have k_CA : Mak P w K mg base 1 "AmountPattern" c.a (spAmtInit c.a) := ⟨_, _, ["self", "threes", "point", "least", "most", "ahead", "minus"], ⟨mk_CA, a_amtInit, j_amtInit, kp_CA⟩, ok_amtInit F_amtInit TA, PySem.W.mg_of X Gn a_CA, b_amtInit⟩
  have m_rounded : Met P w K mg base CX0 2 c.a "rounded" (spRounded c.a) := ⟨_, _, ["self", "millionths"], TA.cl, ⟨a_rounded, j_rounded, kk_rounded⟩, ok_rounded F_rounded G TA c_tens, b_rounded⟩
  have m_grouped : Met P w K mg base CX0 1 c.a "grouped" (spGrouped c.a) := ⟨_, _, ["self", "digits"], TA.cl, ⟨a_grouped, j_grouped, kk_grouped⟩, ok_grouped F_grouped G TA, b_grouped⟩
  have m_fraction : Met P w K mg base CX0 2 c.a "fraction" (spFraction c.a) := ⟨_, _, ["self", "number"], TA.cl, ⟨a_fraction, j_fraction, kk_fraction⟩, ok_fraction F_fraction G TA c_digitsOf, b_fraction⟩
  have m_awritten : Met P w K mg base CX0 3 c.a "written" (spAWritten c.a) := ⟨_, _, ["self", "is_below", "millionths"], TA.cl, ⟨a_awritten, j_awritten, kk_awritten⟩, ok_awritten F_awritten G TA c_tens c_digitsOf m_rounded m_grouped m_fraction, b_awritten⟩
  have m_aread : Met P w K mg base CX0 4 c.a "read" (spARead c.a) := ⟨_, _, ["self", "row"], TA.cl, ⟨a_aread, j_aread, kk_aread⟩, ok_aread F_aread G TA c_tens c_isDigit c_valueOf m_awritten, b_aread⟩
  have k_CT : Mak P w K mg base 1 "Tongue" c.t (spTonInit c.t) := ⟨_, _, ["self", "first", "months", "weekdays"], ⟨mk_CT, a_tonInit, j_tonInit, kp_CT⟩, ok_tonInit F_tonInit TT, PySem.W.mg_of X Gn a_CT, b_tonInit⟩
  have m_meant : Met P w K mg base CX0 1 c.t "meant" (spMeant c.t) := ⟨_, _, ["self", "digits"], TT.cl, ⟨a_meant, j_meant, kk_meant⟩, ok_meant F_meant G TT, b_meant⟩
  have m_monthWritten : Met P w K mg base CX0 2 c.t "month_written" (spMonthWritten c.t) := ⟨_, _, ["self", "which", "month"], TT.cl, ⟨a_monthWritten, j_monthWritten, kk_monthWritten⟩, ok_monthWritten F_monthWritten G TT c_digitsOf, b_monthWritten⟩
  have m_fixed : Met P w K mg base CX0 3 c.t "fixed" (spFixed c.t) := ⟨_, _, ["self", "part", "month", "day", "weekday"], TT.cl, ⟨a_fixed, j_fixed, kk_fixed⟩, ok_fixed F_fixed G TT c_digitsOf m_monthWritten, b_fixed⟩
  have m_twritten : Met P w K mg base CX0 5 c.t "written" (spTWritten c.t) := ⟨_, _, ["self", "pattern", "year", "month", "day"], TT.cl, ⟨a_twritten, j_twritten, kk_twritten⟩, ok_twritten F_twritten G TT c_digitsOf c_weekdayOf m_fixed, b_twritten⟩
  have c_hasSome : Cal P w K mg base CX0 1 "has_some" (spHasSome K) := ⟨_, _, ["kinds", "some"], ok_hasSome F_hasSome G, PySem.W.mg_of X Gn a_hasSome, kk_hasSome, b_hasSome⟩
  have m_yearTold : Met P w K mg base CX0 4 c.t "year_told" (spYearTold c.t) := ⟨_, _, ["self", "pattern", "row", "month", "day", "weekday"], TT.cl, ⟨a_yearTold, j_yearTold, kk_yearTold⟩, ok_yearTold F_yearTold G TT c_isDigit c_valueOf m_fixed, b_yearTold⟩
  have m_yearMeant : Met P w K mg base CX0 5 c.t "year_meant" (spYearMeant c.t) := ⟨_, _, ["self", "pattern", "row", "month", "day", "weekday", "year"], TT.cl, ⟨a_yearMeant, j_yearMeant, kk_yearMeant⟩, ok_yearMeant F_yearMeant G TT m_yearTold m_meant, b_yearMeant⟩
  have m_means : Met P w K mg base CX0 6 c.t "means" (spMeans c.t) := ⟨_, _, ["self", "pattern", "row", "year"], TT.cl, ⟨a_means, j_means, kk_means⟩, ok_means F_means G TT c_hasSome c_isDay m_yearMeant m_twritten, b_means⟩
  have IR : RefI P w K mg base c.r (spRefInit c.r) := ⟨_, _, ["self", "number"], a_refInit, j_refInit, ok_refInit F_refInit G TR, b_refInit⟩
  have c_refuse : Cal P w K mg base (L2.CX P w) 3 "refuse" (spRefuse c.r) := ⟨_, _, ["bad", "number"], ok_refuse F_refuse TR IR, PySem.W.mg_of X Gn a_refuse, kk_refuse, b_refuse⟩
  have c_areBytes : Cal P w K mg base CX0 1 "are_bytes" spAreBytes := ⟨_, _, ["row", "most"], ok_areBytes F_areBytes G, PySem.W.mg_of X Gn a_areBytes, kk_areBytes, b_areBytes⟩
  have c_isSign : Cal P w K mg base CX0 2 "is_sign" spIsSign := ⟨_, _, ["byte"], ok_isSign F_isSign G c_isDigit, PySem.W.mg_of X Gn a_isSign, kk_isSign, b_isSign⟩
  have c_counted : Cal P w K mg base CX0 1 "counted" spCounted := ⟨_, _, ["row"], ok_counted F_counted G, PySem.W.mg_of X Gn a_counted, kk_counted, b_counted⟩
  have c_partsIn : Cal P w K mg base CX0 1 "parts_in" spPartsIn := ⟨_, _, ["row"], ok_partsIn F_partsIn G, PySem.W.mg_of X Gn a_partsIn, kk_partsIn, b_partsIn⟩
  have k_CD : Mak P w K mg base 3 "Desk" c.d (spDeskInit c) := ⟨_, _, ["self"], ⟨mk_CD, a_deskInit, j_deskInit, kp_CD⟩, ok_deskInit (c := c) F_deskInit G TD k_CT k_CA, PySem.W.mg_of X Gn a_CD, b_deskInit⟩
  have m_putTongue : Met P w K mg base (L2.CX P w) 4 c.d "put_tongue" (spPutTongue c) := ⟨_, _, ["self", "year", "names"], TD.cl, ⟨a_putTongue, j_putTongue, kk_putTongue⟩, ok_putTongue (c := c) F_putTongue G TD k_CT c_refuse c_areBytes, b_putTongue⟩
  have m_putPattern : Met P w K mg base (L2.CX P w) 4 c.d "put_pattern" (spPutPattern c) := ⟨_, _, ["self", "row"], TD.cl, ⟨a_putPattern, j_putPattern, kk_putPattern⟩, ok_putPattern (c := c) F_putPattern G TD c_refuse c_areBytes c_partsIn, b_putPattern⟩
  have m_putAmounts : Met P w K mg base (L2.CX P w) 4 c.d "put_amounts" (spPutAmounts c) := ⟨_, _, ["self", "row"], TD.cl, ⟨a_putAmounts, j_putAmounts, kk_putAmounts⟩, ok_putAmounts (c := c) F_putAmounts G TD k_CA c_refuse c_isSign, b_putAmounts⟩
  have m_dread : Met P w K mg base (L2.CX P w) 5 c.d "read" (spDRead c) := ⟨_, _, ["self", "row"], TD.cl, ⟨a_dread, j_dread, kk_dread⟩, ok_dread (c := c) F_dread G TD c_refuse c_areBytes m_aread, b_dread⟩
  have m_dday : Met P w K mg base (L2.CX P w) 6 c.d "day" (spDDay c) := ⟨_, _, ["self", "year", "month", "day"], TD.cl, ⟨a_dday, j_dday, kk_dday⟩, ok_dday (c := c) F_dday G TD c_refuse c_isDay c_counted m_twritten, b_dday⟩
  have m_dweek : Met P w K mg base (L2.CX P w) 5 c.d "week" (spDWeek c) := ⟨_, _, ["self", "year", "month", "day"], TD.cl, ⟨a_dweek, j_dweek, kk_dweek⟩, ok_dweek (c := c) F_dweek G c_refuse c_isDay c_numberOf c_weekdayOf, b_dweek⟩
  have m_don : Met P w K mg base (L2.CX P w) 4 c.d "on" (spDOn c) := ⟨_, _, ["self", "number"], TD.cl, ⟨a_don, j_don, kk_don⟩, ok_don (c := c) F_don G c_refuse c_dayOf, b_don⟩
  have m_dmeans : Met P w K mg base (L2.CX P w) 7 c.d "means" (spDMeans c) := ⟨_, _, ["self", "year", "row"], TD.cl, ⟨a_dmeans, j_dmeans, kk_dmeans⟩, ok_dmeans (c := c) F_dmeans G TD c_refuse c_isYear c_areBytes m_means, b_dmeans⟩
  have m_dclash : Met P w K mg base (L2.CX P w) 6 c.d "clash" (spDClash c) := ⟨_, _, ["self", "year"], TD.cl, ⟨a_dclash, j_dclash, kk_dclash⟩, ok_dclash (c := c) F_dclash G TD c_refuse c_isYear c_daysOf m_twritten, b_dclash⟩
  have m_done : Met P w K mg base (L2.CX P w) 8 c.d "done" (spDone c) := ⟨_, _, ["self", "call", "numbers", "rows"], TD.cl, ⟨a_done, j_done, kk_done⟩, ok_done (c := c) F_done TD c_counted m_awritten m_putTongue m_putAmounts m_putPattern m_dread m_dday m_dmeans m_dclash m_dweek m_don, b_done⟩
  have m_answer : Met P w K mg base CX0 9 c.d "answer" (spAnswer c) := ⟨_, _, ["self", "call", "numbers", "rows"], TD.cl, ⟨a_answer, j_answer, kk_answer⟩, ok_answer (c := c) F_answer TR m_done, b_answer⟩
  have c_rowsAt : Cal P w K mg base CX0 1 "rows_at" (spRowsAt K) := ⟨_, _, ["calls", "at", "many"], ok_rowsAt F_rowsAt G, PySem.W.mg_of X Gn a_rowsAt, kk_rowsAt, b_rowsAt⟩
  exact ok_answers (c := c) F_answers G k_CD c_rowsAt m_answer
end Wd
open PySem PySem.W PyProof.Rows
set_option maxRecDepth 100000 in
set_option maxHeartbeats 16000000 in
theorem PySem.Challenge.cw_writtendays_s01_answers_holds : PySem.Challenge.rw_writtendays_s01_answers.Holds := by
  w_on; k_headR; (case hw => exact ⟨[.list [.int 9, .int 0]], by decide +kernel, by decide +kernel⟩)
  k_fillS
  refine L2.walk_specK (r := PySem.Challenge.rw_writtendays_s01_answers) (k := 10) (CX := L2.CX0) (ps := ["calls"]) (sp := Wd.spAnswers) (by decide +kernel) rfl rfl ⟨rfl, by decide, by decide⟩ (fun w h Y => PySem.W.kIn_of Y) ?F ?S (fun _ _ _ _ z => z)
  case F =>
    intro w mg fa h Y KX G hmg
    refine' Wd.all_mk KX G hmg ?a_CD ?pg_CD ?hd_CD ?po_CD ?sa_CD ?mk_CD ?kp_CD ?n_CD_tongue ?n_CD_amounts ?n_CD_pattern ?a_CT ?pg_CT ?hd_CT ?po_CT ?sa_CT ?mk_CT ?kp_CT ?n_CT_first ?n_CT_months ?n_CT_weekdays ?a_CA ?pg_CA ?hd_CA ?po_CA ?sa_CA ?mk_CA ?kp_CA ?n_CA_threes ?n_CA_point ?n_CA_least ?n_CA_most ?n_CA_ahead ?n_CA_minus ?a_CR ?x_CR ?sa_CR ?ga_CR ?gg_CR ?n_CR ?kp_CR ?e_CR ?t_CR ?h_CR ?i_CR ?s_CR ?v_CR ?i_NOUGHT ?i_NINE ?i_MOST_FRACTION ?i_MILLION ?i_TOO_GREAT ?i_NO_SIGN ?i_MOST_YEAR ?i_WEEK ?i_FEBRUARY ?i_AS_THEY_ARE ?i_YEAR ?i_SHORT_YEAR ?i_MONTH ?i_MONTH_NAME ?i_DAY ?i_WEEKDAY_NAME ?i_HUNDRED ?i_MOST_DAY ?i_NOT_AS_TOLD ?i_NONE_THERE ?i_MOST_BYTE ?i_MOST_NAME ?i_MOST_FIRST ?i_MOST_AHEAD ?i_MOST_PARTS ?i_MOST_READ ?i_MOST_MEANT ?i_LAST_DAY ?i_FIRST_MEANT ?i_FIRST_MONTH ?i_FIRST_WEEKDAY ?t_LENGTHS ?t_YEAR_PARTS ?t_MONTH_PARTS ?t_DAY_PARTS ?t_MANY_NUMBERS ?t_MANY_ROWS ?z_len ?z_int ?z_str ?z_range ?z_divmod ?z_enumerate ?z_all ?z_any ?z_sum ?z_list ?z_tuple ?z_set ?z_sorted ?z_ValueError ?a_isDigit ?l_isDigit ?a_tens ?l_tens ?a_valueOf ?l_valueOf ?a_digitsOf ?l_digitsOf ?a_isLeap ?l_isLeap ?a_monthLength ?l_monthLength ?a_isYear ?l_isYear ?a_isDay ?l_isDay ?a_daysBefore ?l_daysBefore ?a_numberOf ?l_numberOf ?a_weekdayOf ?l_weekdayOf ?a_yearOf ?l_yearOf ?a_dayOf ?l_dayOf ?a_daysOf ?l_daysOf ?a_amtInit ?j_amtInit ?l_amtInit ?a_rounded ?j_rounded ?l_rounded ?a_grouped ?j_grouped ?l_grouped ?a_fraction ?j_fraction ?l_fraction ?a_awritten ?j_awritten ?l_awritten ?a_aread ?j_aread ?l_aread ?a_tonInit ?j_tonInit ?l_tonInit ?a_meant ?j_meant ?l_meant ?a_monthWritten ?j_monthWritten ?l_monthWritten ?a_fixed ?j_fixed ?l_fixed ?a_twritten ?j_twritten ?l_twritten ?a_hasSome ?l_hasSome ?a_yearTold ?j_yearTold ?l_yearTold ?a_yearMeant ?j_yearMeant ?l_yearMeant ?a_means ?j_means ?l_means ?a_refInit ?j_refInit ?l_refInit ?a_refuse ?l_refuse ?a_areBytes ?l_areBytes ?a_isSign ?l_isSign ?a_counted ?l_counted ?a_partsIn ?l_partsIn ?a_deskInit ?j_deskInit ?l_deskInit ?a_putTongue ?j_putTongue ?l_putTongue ?a_putPattern ?j_putPattern ?l_putPattern ?a_putAmounts ?j_putAmounts ?l_putAmounts ?a_dread ?j_dread ?l_dread ?a_dday ?j_dday ?l_dday ?a_dweek ?j_dweek ?l_dweek ?a_don ?j_don ?l_don ?a_dmeans ?j_dmeans ?l_dmeans ?a_dclash ?j_dclash ?l_dclash ?a_done ?j_done ?l_done ?a_answer ?j_answer ?l_answer ?a_rowsAt ?l_rowsAt ?a_answers ?l_answers
    (case a_CD => k_is)
    (case pg_CD => k_is)
    (case hd_CD => k_is)
    (case po_CD => k_is)
    (case sa_CD => k_is)
    (case mk_CD => k_is)
    (case kp_CD => k_is)
    (case n_CD_tongue => k_is)
    (case n_CD_amounts => k_is)
    (case n_CD_pattern => k_is)
    (case a_CT => k_is)
    (case pg_CT => k_is)
    (case hd_CT => k_is)
    (case po_CT => k_is)
    (case sa_CT => k_is)
    (case mk_CT => k_is)
    (case kp_CT => k_is)
    (case n_CT_first => k_is)
    (case n_CT_months => k_is)
    (case n_CT_weekdays => k_is)
    (case a_CA => k_is)
    (case pg_CA => k_is)
    (case hd_CA => k_is)
    (case po_CA => k_is)
    (case sa_CA => k_is)
    (case mk_CA => k_is)
    (case kp_CA => k_is)
    (case n_CA_threes => k_is)
    (case n_CA_point => k_is)
    (case n_CA_least => k_is)
    (case n_CA_most => k_is)
    (case n_CA_ahead => k_is)
    (case n_CA_minus => k_is)
    (case a_CR => k_is)
    (case x_CR => (refine' Wd.ExcF.mk ?z; (case z => k_is)))
    (case sa_CR => k_is)
    (case ga_CR => k_is)
    (case gg_CR => k_is)
    (case n_CR => k_is)
    (case kp_CR => k_is)
    (case e_CR => k_is)
    (case t_CR => k_is)
    (case h_CR => k_is)
    (case i_CR => k_is)
    (case s_CR => (first | rfl | k_is))
    (case v_CR => k_is)
    (case i_NOUGHT => (refine' Wd.NsI.mk ?z; (case z => k_is)))
    (case i_NINE => (refine' Wd.NsI.mk ?z; (case z => k_is)))
    (case i_MOST_FRACTION => (refine' Wd.NsI.mk ?z; (case z => k_is)))
    (case i_MILLION => (refine' Wd.NsI.mk ?z; (case z => k_is)))
    (case i_TOO_GREAT => (refine' Wd.NsI.mk ?z; (case z => k_is)))
    (case i_NO_SIGN => (refine' Wd.NsI.mk ?z; (case z => k_is)))
    (case i_MOST_YEAR => (refine' Wd.NsI.mk ?z; (case z => k_is)))
    (case i_WEEK => (refine' Wd.NsI.mk ?z; (case z => k_is)))
    (case i_FEBRUARY => (refine' Wd.NsI.mk ?z; (case z => k_is)))
    (case i_AS_THEY_ARE => (refine' Wd.NsI.mk ?z; (case z => k_is)))
    (case i_YEAR => (refine' Wd.NsI.mk ?z; (case z => k_is)))
    (case i_SHORT_YEAR => (refine' Wd.NsI.mk ?z; (case z => k_is)))
    (case i_MONTH => (refine' Wd.NsI.mk ?z; (case z => k_is)))
    (case i_MONTH_NAME => (refine' Wd.NsI.mk ?z; (case z => k_is)))
    (case i_DAY => (refine' Wd.NsI.mk ?z; (case z => k_is)))
    (case i_WEEKDAY_NAME => (refine' Wd.NsI.mk ?z; (case z => k_is)))
    (case i_HUNDRED => (refine' Wd.NsI.mk ?z; (case z => k_is)))
    (case i_MOST_DAY => (refine' Wd.NsI.mk ?z; (case z => k_is)))
    (case i_NOT_AS_TOLD => (refine' Wd.NsI.mk ?z; (case z => k_is)))
    (case i_NONE_THERE => (refine' Wd.NsI.mk ?z; (case z => k_is)))
    (case i_MOST_BYTE => (refine' Wd.NsI.mk ?z; (case z => k_is)))
    (case i_MOST_NAME => (refine' Wd.NsI.mk ?z; (case z => k_is)))
    (case i_MOST_FIRST => (refine' Wd.NsI.mk ?z; (case z => k_is)))
    (case i_MOST_AHEAD => (refine' Wd.NsI.mk ?z; (case z => k_is)))
    (case i_MOST_PARTS => (refine' Wd.NsI.mk ?z; (case z => k_is)))
    (case i_MOST_READ => (refine' Wd.NsI.mk ?z; (case z => k_is)))
    (case i_MOST_MEANT => (refine' Wd.NsI.mk ?z; (case z => k_is)))
    (case i_LAST_DAY => (refine' Wd.NsI.mk ?z; (case z => k_is)))
    (case i_FIRST_MEANT => (refine' Wd.NsI.mk ?z; (case z => k_is)))
    (case i_FIRST_MONTH => (refine' Wd.NsI.mk ?z; (case z => k_is)))
    (case i_FIRST_WEEKDAY => (refine' Wd.NsI.mk ?z; (case z => k_is)))
    (case t_LENGTHS => (refine' Wd.NsT.mk ?z ?l ?c ?d ?s ?v; (case z => k_is); (case l => k_is); (case c => rfl); (case d => rfl); (case s => decide); (case v => exact .cons ⟨_, rfl⟩ (.cons ⟨_, rfl⟩ (.cons ⟨_, rfl⟩ (.cons ⟨_, rfl⟩ (.cons ⟨_, rfl⟩ (.cons ⟨_, rfl⟩ (.cons ⟨_, rfl⟩ (.cons ⟨_, rfl⟩ (.cons ⟨_, rfl⟩ (.cons ⟨_, rfl⟩ (.cons ⟨_, rfl⟩ (.cons ⟨_, rfl⟩ (.nil)))))))))))))))
    (case t_YEAR_PARTS => (refine' Wd.NsT.mk ?z ?l ?c ?d ?s ?v; (case z => k_is); (case l => k_is); (case c => rfl); (case d => rfl); (case s => decide); (case v => exact .cons ⟨_, rfl⟩ (.cons ⟨_, rfl⟩ (.nil)))))
    (case t_MONTH_PARTS => (refine' Wd.NsT.mk ?z ?l ?c ?d ?s ?v; (case z => k_is); (case l => k_is); (case c => rfl); (case d => rfl); (case s => decide); (case v => exact .cons ⟨_, rfl⟩ (.cons ⟨_, rfl⟩ (.cons ⟨_, rfl⟩ (.nil))))))
    (case t_DAY_PARTS => (refine' Wd.NsT.mk ?z ?l ?c ?d ?s ?v; (case z => k_is); (case l => k_is); (case c => rfl); (case d => rfl); (case s => decide); (case v => exact .cons ⟨_, rfl⟩ (.cons ⟨_, rfl⟩ (.nil)))))
    (case t_MANY_NUMBERS => (refine' Wd.NsT.mk ?z ?l ?c ?d ?s ?v; (case z => k_is); (case l => k_is); (case c => rfl); (case d => rfl); (case s => decide); (case v => exact .cons ⟨_, rfl⟩ (.cons ⟨_, rfl⟩ (.cons ⟨_, rfl⟩ (.cons ⟨_, rfl⟩ (.cons ⟨_, rfl⟩ (.cons ⟨_, rfl⟩ (.cons ⟨_, rfl⟩ (.cons ⟨_, rfl⟩ (.cons ⟨_, rfl⟩ (.cons ⟨_, rfl⟩ (.nil)))))))))))))
    (case t_MANY_ROWS => (refine' Wd.NsT.mk ?z ?l ?c ?d ?s ?v; (case z => k_is); (case l => k_is); (case c => rfl); (case d => rfl); (case s => decide); (case v => exact .cons ⟨_, rfl⟩ (.cons ⟨_, rfl⟩ (.cons ⟨_, rfl⟩ (.cons ⟨_, rfl⟩ (.cons ⟨_, rfl⟩ (.cons ⟨_, rfl⟩ (.cons ⟨_, rfl⟩ (.cons ⟨_, rfl⟩ (.cons ⟨_, rfl⟩ (.cons ⟨_, rfl⟩ (.nil)))))))))))))
    (case z_len => k_is)
    (case z_int => k_is)
    (case z_str => k_is)
    (case z_range => k_is)
    (case z_divmod => k_is)
    (case z_enumerate => k_is)
    (case z_all => k_is)
    (case z_any => k_is)
    (case z_sum => k_is)
    (case z_list => k_is)
    (case z_tuple => k_is)
    (case z_set => k_is)
    (case z_sorted => k_is)
    (case z_ValueError => k_is)
    (case a_isDigit => k_is)
    (case l_isDigit => (refine' Wd.FnF.mk ?l ?c ?k; (case l => k_is); (case c => k_is); (case k => k_is)))
    (case a_tens => k_is)
    (case l_tens => (refine' Wd.FnF.mk ?l ?c ?k; (case l => k_is); (case c => k_is); (case k => k_is)))
    (case a_valueOf => k_is)
    (case l_valueOf => (refine' Wd.FnF.mk ?l ?c ?k; (case l => k_is); (case c => k_is); (case k => k_is)))
    (case a_digitsOf => k_is)
    (case l_digitsOf => (refine' Wd.FnF.mk ?l ?c ?k; (case l => k_is); (case c => k_is); (case k => k_is)))
    (case a_isLeap => k_is)
    (case l_isLeap => (refine' Wd.FnF.mk ?l ?c ?k; (case l => k_is); (case c => k_is); (case k => k_is)))
    (case a_monthLength => k_is)
    (case l_monthLength => (refine' Wd.FnF.mk ?l ?c ?k; (case l => k_is); (case c => k_is); (case k => k_is)))
    (case a_isYear => k_is)
    (case l_isYear => (refine' Wd.FnF.mk ?l ?c ?k; (case l => k_is); (case c => k_is); (case k => k_is)))
    (case a_isDay => k_is)
    (case l_isDay => (refine' Wd.FnF.mk ?l ?c ?k; (case l => k_is); (case c => k_is); (case k => k_is)))
    (case a_daysBefore => k_is)
    (case l_daysBefore => (refine' Wd.FnF.mk ?l ?c ?k; (case l => k_is); (case c => k_is); (case k => k_is)))
    (case a_numberOf => k_is)
    (case l_numberOf => (refine' Wd.FnF.mk ?l ?c ?k; (case l => k_is); (case c => k_is); (case k => k_is)))
    (case a_weekdayOf => k_is)
    (case l_weekdayOf => (refine' Wd.FnF.mk ?l ?c ?k; (case l => k_is); (case c => k_is); (case k => k_is)))
    (case a_yearOf => k_is)
    (case l_yearOf => (refine' Wd.FnF.mk ?l ?c ?k; (case l => k_is); (case c => k_is); (case k => k_is)))
    (case a_dayOf => k_is)
    (case l_dayOf => (refine' Wd.FnF.mk ?l ?c ?k; (case l => k_is); (case c => k_is); (case k => k_is)))
    (case a_daysOf => k_is)
    (case l_daysOf => (refine' Wd.FnF.mk ?l ?c ?k; (case l => k_is); (case c => k_is); (case k => k_is)))
    (case a_amtInit => k_is)
    (case j_amtInit => k_is)
    (case l_amtInit => (refine' Wd.FnF.mk ?l ?c ?k; (case l => k_is); (case c => k_is); (case k => k_is)))
    (case a_rounded => k_is)
    (case j_rounded => k_is)
    (case l_rounded => (refine' Wd.FnF.mk ?l ?c ?k; (case l => k_is); (case c => k_is); (case k => k_is)))
    (case a_grouped => k_is)
    (case j_grouped => k_is)
    (case l_grouped => (refine' Wd.FnF.mk ?l ?c ?k; (case l => k_is); (case c => k_is); (case k => k_is)))
    (case a_fraction => k_is)
    (case j_fraction => k_is)
    (case l_fraction => (refine' Wd.FnF.mk ?l ?c ?k; (case l => k_is); (case c => k_is); (case k => k_is)))
    (case a_awritten => k_is)
    (case j_awritten => k_is)
    (case l_awritten => (refine' Wd.FnF.mk ?l ?c ?k; (case l => k_is); (case c => k_is); (case k => k_is)))
    (case a_aread => k_is)
    (case j_aread => k_is)
    (case l_aread => (refine' Wd.FnF.mk ?l ?c ?k; (case l => k_is); (case c => k_is); (case k => k_is)))
    (case a_tonInit => k_is)
    (case j_tonInit => k_is)
    (case l_tonInit => (refine' Wd.FnF.mk ?l ?c ?k; (case l => k_is); (case c => k_is); (case k => k_is)))
    (case a_meant => k_is)
    (case j_meant => k_is)
    (case l_meant => (refine' Wd.FnF.mk ?l ?c ?k; (case l => k_is); (case c => k_is); (case k => k_is)))
    (case a_monthWritten => k_is)
    (case j_monthWritten => k_is)
    (case l_monthWritten => (refine' Wd.FnF.mk ?l ?c ?k; (case l => k_is); (case c => k_is); (case k => k_is)))
    (case a_fixed => k_is)
    (case j_fixed => k_is)
    (case l_fixed => (refine' Wd.FnF.mk ?l ?c ?k; (case l => k_is); (case c => k_is); (case k => k_is)))
    (case a_twritten => k_is)
    (case j_twritten => k_is)
    (case l_twritten => (refine' Wd.FnF.mk ?l ?c ?k; (case l => k_is); (case c => k_is); (case k => k_is)))
    (case a_hasSome => k_is)
    (case l_hasSome => (refine' Wd.FnF.mk ?l ?c ?k; (case l => k_is); (case c => k_is); (case k => k_is)))
    (case a_yearTold => k_is)
    (case j_yearTold => k_is)
    (case l_yearTold => (refine' Wd.FnF.mk ?l ?c ?k; (case l => k_is); (case c => k_is); (case k => k_is)))
    (case a_yearMeant => k_is)
    (case j_yearMeant => k_is)
    (case l_yearMeant => (refine' Wd.FnF.mk ?l ?c ?k; (case l => k_is); (case c => k_is); (case k => k_is)))
    (case a_means => k_is)
    (case j_means => k_is)
    (case l_means => (refine' Wd.FnF.mk ?l ?c ?k; (case l => k_is); (case c => k_is); (case k => k_is)))
    (case a_refInit => k_is)
    (case j_refInit => k_is)
    (case l_refInit => (refine' Wd.FnF.mk ?l ?c ?k; (case l => k_is); (case c => k_is); (case k => k_is)))
    (case a_refuse => k_is)
    (case l_refuse => (refine' Wd.FnF.mk ?l ?c ?k; (case l => k_is); (case c => k_is); (case k => k_is)))
    (case a_areBytes => k_is)
    (case l_areBytes => (refine' Wd.FnF.mk ?l ?c ?k; (case l => k_is); (case c => k_is); (case k => k_is)))
    (case a_isSign => k_is)
    (case l_isSign => (refine' Wd.FnF.mk ?l ?c ?k; (case l => k_is); (case c => k_is); (case k => k_is)))
    (case a_counted => k_is)
    (case l_counted => (refine' Wd.FnF.mk ?l ?c ?k; (case l => k_is); (case c => k_is); (case k => k_is)))
    (case a_partsIn => k_is)
    (case l_partsIn => (refine' Wd.FnF.mk ?l ?c ?k; (case l => k_is); (case c => k_is); (case k => k_is)))
    (case a_deskInit => k_is)
    (case j_deskInit => k_is)
    (case l_deskInit => (refine' Wd.FnF.mk ?l ?c ?k; (case l => k_is); (case c => k_is); (case k => k_is)))
    (case a_putTongue => k_is)
    (case j_putTongue => k_is)
    (case l_putTongue => (refine' Wd.FnF.mk ?l ?c ?k; (case l => k_is); (case c => k_is); (case k => k_is)))
    (case a_putPattern => k_is)
    (case j_putPattern => k_is)
    (case l_putPattern => (refine' Wd.FnF.mk ?l ?c ?k; (case l => k_is); (case c => k_is); (case k => k_is)))
    (case a_putAmounts => k_is)
    (case j_putAmounts => k_is)
    (case l_putAmounts => (refine' Wd.FnF.mk ?l ?c ?k; (case l => k_is); (case c => k_is); (case k => k_is)))
    (case a_dread => k_is)
    (case j_dread => k_is)
    (case l_dread => (refine' Wd.FnF.mk ?l ?c ?k; (case l => k_is); (case c => k_is); (case k => k_is)))
    (case a_dday => k_is)
    (case j_dday => k_is)
    (case l_dday => (refine' Wd.FnF.mk ?l ?c ?k; (case l => k_is); (case c => k_is); (case k => k_is)))
    (case a_dweek => k_is)
    (case j_dweek => k_is)
    (case l_dweek => (refine' Wd.FnF.mk ?l ?c ?k; (case l => k_is); (case c => k_is); (case k => k_is)))
    (case a_don => k_is)
    (case j_don => k_is)
    (case l_don => (refine' Wd.FnF.mk ?l ?c ?k; (case l => k_is); (case c => k_is); (case k => k_is)))
    (case a_dmeans => k_is)
    (case j_dmeans => k_is)
    (case l_dmeans => (refine' Wd.FnF.mk ?l ?c ?k; (case l => k_is); (case c => k_is); (case k => k_is)))
    (case a_dclash => k_is)
    (case j_dclash => k_is)
    (case l_dclash => (refine' Wd.FnF.mk ?l ?c ?k; (case l => k_is); (case c => k_is); (case k => k_is)))
    (case a_done => k_is)
    (case j_done => k_is)
    (case l_done => (refine' Wd.FnF.mk ?l ?c ?k; (case l => k_is); (case c => k_is); (case k => k_is)))
    (case a_answer => k_is)
    (case j_answer => k_is)
    (case l_answer => (refine' Wd.FnF.mk ?l ?c ?k; (case l => k_is); (case c => k_is); (case k => k_is)))
    (case a_rowsAt => k_is)
    (case l_rowsAt => (refine' Wd.FnF.mk ?l ?c ?k; (case l => k_is); (case c => k_is); (case k => k_is)))
    (case a_answers => k_is)
    (case l_answers => (refine' Wd.FnF.mk ?l ?c ?k; (case l => k_is); (case c => k_is); (case k => k_is)))
  case S =>
    intro K H xs a hO hwi hask hx
    cases hx with
    | cons h1 h2 =>
      cases h2
      cases h1 with
      | lst hs ha =>
        have e := L2.ints_dw a.1 _ ha
        subst e
        have q : ((Codec.inLen 0 8000 a.1 && a.1.all (Codec.inInt 0 1000000000000000000)) && true) = true := hwi
        rw [Bool.and_eq_true, Bool.and_eq_true] at q
        refine ⟨_, a.1, rfl, hs, fun z hz => ?_, (Codec.inNat_iff.mp q.1.1).2, hask, fun H' p hp => .lst (L2.SqL.of hp) (L2.dw_ints _)⟩
        have := List.all_eq_true.mp q.1.2 z hz
        unfold Codec.inInt at this
        simp only [Bool.and_eq_true, decide_eq_true_eq] at this
        exact this.1
#print axioms PySem.Challenge.cw_writtendays_s01_answers_holds
